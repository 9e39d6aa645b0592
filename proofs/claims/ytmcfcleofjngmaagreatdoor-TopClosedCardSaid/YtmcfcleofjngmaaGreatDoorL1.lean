
import Derived.WalkKit
import Derived.Lib.Builder
import Derived.Lib.UnsafeStr
import Derived.DeepKeys
abbrev Go.z0:=@Bool.and_eq_true
abbrev Go.z6:=@if_neg
abbrev Go.z7:=@if_pos
abbrev Go.z8:=@List.getElem?_eq_getElem
abbrev Go.z9:=@Nat.le_refl
abbrev Go.zd:=@List.getD_eq_getElem?_getD
abbrev Go.ze:=@Int.toNat_natCast
abbrev Go.zf:=@decide_eq_true_eq
abbrev Go.zg:=@List.all_eq_true
abbrev Go.zh:=@_root_.cond_true
abbrev Go.zi:=@Go.Result.andThen_ok
abbrev Go.zj:=@Option.map_eq_some_iff
abbrev Go.zk:=@List.length_append
abbrev Go.zl:=@List.getElem_mem
abbrev Go.zm:=@Nat.lt_or_ge
abbrev Go.zn:=@Nat.mul_le_mul_right
abbrev Go.zo:=@Go.Sem.run_bind
abbrev Go.zp:=@List.getElem?_eq_some_iff
abbrev Go.zq:=@if_true
abbrev Go.zr:=@Bool.false_eq_true
abbrev Go.zt:=@Bool.or_eq_true
abbrev Go.zu:=@Nat.add_assoc
abbrev Go.zw:=@List.length_cons
abbrev Go.zx:=@Nat.le_of_ble_eq_true
abbrev Go.zy:=@decide_eq_false_iff_not
abbrev Go.zz:=@Option.bind_eq_bind
abbrev Go.zA:=@Int.eq_ofNat_of_zero_le
abbrev Go.zB:=@Nat.blt_eq
abbrev Go.zC:=@List.mem_map
abbrev Go.zE:=@List.getElem?_eq_none
abbrev Go.zF:=@List.mem_cons_self
abbrev Go.zG:=@List.mem_range
abbrev Go.zH:=@List.mem_cons
abbrev Go.zI:=@Nat.add_mul
abbrev Go.zJ:=@List.append_assoc
abbrev Go.zK:=@Nat.eq_of_beq_eq_true
abbrev Go.zL:=@List.take_of_length_le
abbrev Go.zM:=@List.length_map
abbrev Go.zN:=@beq_eq_false_iff_ne
abbrev Go.zO:=@Nat.le_trans
abbrev Go.zP:=@_root_.cond_false
abbrev Go.zQ:=@Nat.zero_add
abbrev Go.zR:=@List.length_eq_one_iff
abbrev Go.zS:=@List.mem_singleton
abbrev Go.zT:=@List.ext_getElem?
abbrev Go.zU:=@beq_iff_eq
abbrev Go.zV:=@Nat.shiftRight_eq_div_pow
abbrev Go.zW:=@List.all_cons
abbrev Go.zX:=@Option.bind_eq_some_iff
abbrev Go.zY:=@List.cons.inj
abbrev Go.zZ:=@List.getElem?_drop
abbrev Go.z_:=@Nat.add_zero
abbrev Go.x3:=@Nat.lt_of_lt_of_le
abbrev Go.x4:=@List.mem_cons_of_mem
abbrev Go.x5:=@List.mem_iff_getElem?
abbrev Go.x6:=@List.mapM_cons
abbrev Go.x7:=@List.append_nil
abbrev Go.x8:=@Option.some.injEq
abbrev Go.x9:=@List.getElem?_append_left
abbrev Go.xc:=@decide_eq_false
abbrev Go.xd:=@List.map_append
abbrev Go.xe:=@decide_eq_true
abbrev Go.xg:=@Option.bind_some
abbrev Go.xh:=@List.mem_of_getElem?
abbrev Go.xi:=@Go.Sem.run_pure
abbrev Go.xj:=@List.mem_append
abbrev Go.xk:=@List.map_congr_left
abbrev Go.xm:=@List.map_cons
abbrev Go.xn:=@List.getElem?_append_right
abbrev Go.xp:=@List.length_eq_zero_iff
abbrev Go.xq:=@Bool.not_eq_false'
abbrev Go.xt:=@List.length_singleton
abbrev Go.xu:=@List.getElem?_map
abbrev Go.xw:=@List.any_eq_false
abbrev Go.xx:=@List.replicate_succ
abbrev Go.xy:=@List.drop_zero
abbrev Go.xA:=@List.nodup_cons
abbrev Go.xB:=@List.nil_append
abbrev Go.xC:=@List.getElem?_take
abbrev Go.xD:=@Nat.one_mul
abbrev Go.xE:=@of_decide_eq_true
abbrev Go.xF:=@List.getElem?_set
abbrev Go.xG:=@Array.getElem?_eq_getElem
abbrev Go.xH:=@List.take_append_drop
abbrev Go.xI:=@List.cons_append
abbrev Go.xJ:=@Nat.mod_lt
abbrev Go.xK:=@List.length_pos_iff
abbrev Go.xL:=@Array.getElem?_eq_some_iff
abbrev Go.xM:=@Bool.and_true
abbrev Go.xN:=@Bool.not_eq_true
abbrev Go.xO:=@Nat.mod_eq_of_lt
abbrev Go.xP:=@List.getElem_map
abbrev Go.xQ:=@of_decide_eq_false
abbrev Go.xR:=@List.mem_filter
abbrev Go.xS:=@List.any_eq_true
abbrev Go.xT:=@List.filter_cons
abbrev Go.xU:=@List.length_set
abbrev Go.xV:=@Bool.or_false
abbrev Go.xW:=@List.mem_append_left
abbrev Go.xX:=@List.drop_eq_getElem_cons
abbrev Go.xY:=@Nat.add_comm
abbrev Go.xZ:=@List.take_succ_cons
abbrev Go.x_:=@Bool.not_true
abbrev Go.w8:=@Nat.lt_of_le_of_lt
abbrev Go.wm:=@Option.map_some
abbrev Go.wo:=@List.foldl_cons
abbrev Go.wq:=@Nat.min_eq_left
abbrev Go.wu:=@List.mem_append_right
abbrev Go.wv:=@List.length_take
abbrev Go.wx:=@Nat.mul_comm
abbrev Go.wy:=@Nat.sub_self
abbrev Go.wz:=@List.length_range
abbrev Go.wA:=@Nat.mul_one
abbrev Go.wB:=@Nat.lt_irrefl
abbrev Go.wC:=@Nat.not_lt
abbrev Go.wD:=@Int.natCast_add
abbrev Go.wE:=@List.drop_succ_cons
abbrev Go.wF:=@List.length_drop
abbrev Go.wG:=@List.map_map
abbrev Go.wH:=@List.take_zero
abbrev Go.wJ:=@and_self
theorem Go.osj.{u} {α:Type u} {a b:α}:some a=some b->a=b:=Option.some.inj
namespace Go.V
open Go
def t64:List Int:=[0,1,56,2,57,49,28,3,61,58,42,50,38,29,17,4,62,47,59,36,45,43,51,22,53,39,33,30,24,18,12,5,63,55,48,27,60,41,37,16,46,35,44,21,52,32,23,11,54,26,40,15,34,20,31,10,25,14,19,9,13,8,7,6]
def Q7e:Nat->Option (List Value)
 |0=>some (t64.map λx=>.int .u8 x)
 |_=>none
structure El where
 sz:Nat
 ty:Nat
 deriving DecidableEq,Inhabited
inductive VObj where
 |map (es:List (Value×Value×Nat)) (clock:Nat)
 |iter (m since:Nat) (seen:List Nat) (last:Nat)
 |lp (env:List Value) (r:Loop) (st:LoopState) (pend:Option Code)
 |siter (s:ByteArray) (pos:Nat)
 deriving Inhabited
inductive Blk where
 |cells (c:List Value) (esz:El) (wr tight:Bool)
 |obj (o:VObj) (wr:Bool)
 deriving Inhabited
def Blk.wr:Blk->Bool
 |.cells _ _ w _=>w
 |.obj _ w=>w
structure Heap where
 get:Nat->Option Blk
 n:Nat
 wf:∀ i,n<=i->get i=none
theorem Heap.lt (U:Heap) {i:Nat}{b:Blk}(h:U.get i=some b):i<U.n:=by
 rcases zm i U.n with h'|h'
 .exact h'
 .rw[U.wf i h'] at h;cases h
def Heap.push (U:Heap) (b:Blk):Heap where
 get i:=if i=U.n then some b else U.get i
 n:=U.n+1
 wf i h:=by rw[z6 (by omega)];exact U.wf i (by omega)
def Heap.upd (U:Heap) (i:Nat) (b:Blk):Heap where
 get j:=if j=i/\i<U.n then some b else U.get j
 n:=U.n
 wf j h:=by rw[z6 (by omega)];exact U.wf j h
def Heap.kill (U:Heap) (i:Nat):Heap where
 get j:=if j=i then none else U.get j
 n:=U.n
 wf j h:=by split;rfl;exact U.wf j h
@[simp] theorem Heap.push_n (U:Heap) (b:Blk):(U.push b).n=U.n+1:=rfl
@[simp] theorem Heap.q2i (U:Heap) (i:Nat) (b:Blk):(U.upd i b).n=U.n:=rfl
@[simp] theorem Heap.kill_n (U:Heap) (i:Nat):(U.kill i).n=U.n:=rfl
theorem Heap.q0a (U:Heap) (b:Blk):(U.push b).get U.n=some b:=by simp[Heap.push]
theorem Heap.q0e (U:Heap) (b:Blk) {i:Nat}(h:i≠U.n):(U.push b).get i=U.get i:=by simp[Heap.push,h]
theorem Heap.q0h (U:Heap) (b:Blk) {i:Nat}(h:i<U.n):(U.push b).get i=U.get i:=U.q0e b (Nat.ne_of_lt h)
theorem Heap.q0d (U:Heap) (b:Blk) {i:Nat}(h:i<U.n):(U.upd i b).get i=some b:=by simp[Heap.upd,h]
theorem Heap.q0b (U:Heap) (b:Blk) {i j:Nat}(h:j≠i):(U.upd i b).get j=U.get j:=by simp[Heap.upd,h]
theorem Heap.q0g (U:Heap) (i:Nat):(U.kill i).get i=none:=by simp[Heap.kill]
theorem Heap.q0c (U:Heap) {i j:Nat}(h:j≠i):(U.kill i).get j=U.get j:=by simp[Heap.kill,h]
structure Pl where
 blk:Nat
 shift:Nat
 ext:Nat
 esz:El
 tight:Bool
abbrev Plc:=Nat->Option Pl
def poison:Value:=.chan none
inductive VRel (ρ:Plc) (n:Nat):Value->Value->Prop
 |poison (c:Value):VRel ρ n poison c
 |bool (b:Bool):VRel ρ n (.bool b) (.bool b)
 |int (k:IntKind) (x:Int):VRel ρ n (.int k x) (.int k x)
 |string (s:ByteArray):VRel ρ n (.string s) (.string s)
 |nilPtr:VRel ρ n (.pointer none) (.pointer none)
 |nilSl:VRel ρ n (.slice none 0 0) (.slice none 0 0)
 |nilMap:VRel ρ n (.map none) (.map none)
 |nilFunc:VRel ρ n .nilFunc .nilFunc
 |nilIface:VRel ρ n .nilIface .nilIface
 |glob (g o s:Nat):VRel ρ n (.pointer (some ⟨g,o,some s⟩)) (.pointer (some ⟨g,o,none⟩))
 |ptr (i o:Nat) (a:Addr) (hi:i<n) (h:∀ p,ρ i=some p->a=⟨p.blk,p.shift+o,none⟩):VRel ρ n (.pointer (some ⟨i,o,none⟩)) (.pointer (some a))
 |sl (i o len cap:Nat) (a:Addr) (av:Nat) (hi:i<n)
   (h:∀ p,ρ i=some p->cap<=av/\(p.tight=true->av=cap)/\(av=0/\len=0\/∃ o',a=⟨p.blk,p.shift+o',none⟩/\o'+av*p.esz.sz<=p.ext/\(o'=o\/(len=0/\cap=0)))) :
   VRel ρ n (.slice (some ⟨i,o,none⟩) len cap) (.slice (some a) len av)
 |slx (i o len cap:Nat) (a:Addr) (hi:i<n) (h:∀ p,ρ i=some p->a=⟨p.blk,p.shift+o,none⟩/\o+cap*p.esz.sz<=p.ext) :
   VRel ρ n (.slice (some ⟨i,o,some 0⟩) len cap) (.slice (some a) len cap)
 |map (i r:Nat) (hi:i<n) (h:∀ p,ρ i=some p->r=p.blk):VRel ρ n (.map (some i)) (.map (some r))
 |yield (i r:Nat) (hi:i<n) (h:∀ p,ρ i=some p->r=p.blk):VRel ρ n (.func (.yield i) #[] #[]) (.func (.yield r) #[] #[])
 |iface (t:TypeId) (v c:Value) (h:VRel ρ n v c):VRel ρ n (.iface t v) (.iface t c)
 |func (fn:FuncId) (fs gs cs ds:Array Value) (hf:fs.size=gs.size) (hc:cs.size=ds.size)
   (h1:∀ i (h1:i<fs.size) (h2:i<gs.size),VRel ρ n fs[i] gs[i]) (h2:∀ i (h1:i<cs.size) (h2:i<ds.size),VRel ρ n cs[i] ds[i]):VRel ρ n (.func (.func fn) fs cs) (.func (.func fn) gs ds)
 |agg (cs ds:Array Value) (hc:cs.size=ds.size) (h:∀ i (h1:i<cs.size) (h2:i<ds.size),VRel ρ n cs[i] ds[i]):VRel ρ n (.agg cs) (.agg ds)
 |tuple (cs ds:Array Value) (hc:cs.size=ds.size) (h:∀ i (h1:i<cs.size) (h2:i<ds.size),VRel ρ n cs[i] ds[i]):VRel ρ n (.tuple cs) (.tuple ds)
theorem VRel.mono {ρ ρ':Plc}{n n':Nat}(hn:n<=n') (hρ:∀ i,i<n->∀ p,ρ' i=some p->ρ i=some p) {v c:Value}(h:VRel ρ n v c):VRel ρ' n' v c:=by
 induction h with
 |poison c=>exact .poison c
 |bool b=>exact .bool b
 |int k x=>exact .int k x
 |string s=>exact .string s
 |nilPtr=>exact .nilPtr
 |nilSl=>exact .nilSl
 |nilMap=>exact .nilMap
 |nilFunc=>exact .nilFunc
 |nilIface=>exact .nilIface
 |glob g o s=>exact .glob g o s
 |ptr i o a hi h=>exact .ptr i o a (by omega) λp hp=>h p (hρ i hi p hp)
 |sl i o len cap a av hi h=>exact .sl i o len cap a av (by omega) λp hp=>h p (hρ i hi p hp)
 |slx i o len cap a hi h=>exact .slx i o len cap a (by omega) λp hp=>h p (hρ i hi p hp)
 |map i r hi h=>exact .map i r (by omega) λp hp=>h p (hρ i hi p hp)
 |yield i r hi h=>exact .yield i r (by omega) λp hp=>h p (hρ i hi p hp)
 |iface t v c _ ih=>exact .iface t v c ih
 |func fn fs gs cs ds hf hc _ _ lH lJ=>exact .func fn fs gs cs ds hf hc lH lJ
 |agg cs ds hc _ ih=>exact .agg cs ds hc ih
 |tuple cs ds hc _ ih=>exact .tuple cs ds hc ih
def LRel (ρ:Plc) (n:Nat) (vs cs:List Value):Prop:=vs.length=cs.length/\∀ (i:Nat) (v c:Value),vs[i]?=some v->cs[i]?=some c->VRel ρ n v c
theorem LRel.mono {ρ ρ':Plc}{n n':Nat}(hn:n<=n') (hρ:∀ i,i<n->∀ p,ρ' i=some p->ρ i=some p) {v c:List Value}(h:LRel ρ n v c):LRel ρ' n' v c :=
 ⟨h.1,λi v c hv hc=>(h.2 i v c hv hc).mono hn hρ⟩
theorem LRel.nil (ρ:Plc) (n:Nat):LRel ρ n [] []:=⟨rfl,λi v c h _=>by simp at h⟩
theorem LRel.cons {ρ:Plc}{n:Nat}{v c:Value}{vs cs:List Value}(h:VRel ρ n v c) (hs:LRel ρ n vs cs):LRel ρ n (v::vs) (c::cs):=by
 refine⟨by simp[hs.1],λi v' c' hv hc=>?_⟩;cases i with
 |zero=>simp at hv hc;subst hv;subst hc;exact h
 |succ i=>simp at hv hc;exact hs.2 i v' c' hv hc
theorem LRel.get {ρ:Plc}{n:Nat}{vs cs:List Value}(h:LRel ρ n vs cs) {i:Nat}{v:Value}(hv:vs[i]?=some v):∃ c,cs[i]?=some c/\VRel ρ n v c:=by
 have ao:i<vs.length:=(zp.1 hv).1;have cM:i<cs.length:=by have:=h.1;omega
 exact⟨cs[i],z8 cM,h.2 i v _ hv (z8 cM)⟩
theorem LRel.set {ρ:Plc}{n:Nat}{vs cs:List Value}(h:LRel ρ n vs cs) (i:Nat) {v c:Value}(hv:VRel ρ n v c):LRel ρ n (vs.set i v) (cs.set i c):=by
 refine⟨by simp[h.1],λj v' c' h1 h2=>?_⟩;rw[xF] at h1 h2;by_cases cy:i=j
 .simp_all
 .simp only[cy,if_false] at h1 h2;exact h.2 j v' c' h1 h2
theorem LRel.append {ρ:Plc}{n:Nat}{vs cs cE cs':List Value}(h:LRel ρ n vs cs) (h':LRel ρ n cE cs'):LRel ρ n (vs++cE) (cs++cs'):=by
 refine⟨by simp[h.1,h'.1],λi v c hv hc=>?_⟩;have e:=h.1;rw[List.getElem?_append] at hv hc;split at hv<;>split at hc<;>try omega
 .exact h.2 i v c hv hc
 .rw[e] at hv;exact h'.2 _ v c hv hc
theorem VRel.q1m {ρ:Plc}{n:Nat}{cs ds:List Value}(h:LRel ρ n cs ds):VRel ρ n (.agg cs.toArray) (.agg ds.toArray) :=
 .agg _ _ (by simpa using h.1) λi h1 h2=>h.2 i _ _ (by simp) (by simp)
theorem VRel.q0j {ρ:Plc}{n:Nat}{cs ds:List Value}(h:LRel ρ n cs ds):VRel ρ n (.tuple cs.toArray) (.tuple ds.toArray) :=
 .tuple _ _ (by simpa using h.1) λi h1 h2=>h.2 i _ _ (by simp) (by simp)
theorem LRel.of_array {ρ:Plc}{n:Nat}{cs ds:Array Value}(hc:cs.size=ds.size) (h:∀ i (h1:i<cs.size) (h2:i<ds.size),VRel ρ n cs[i] ds[i]):LRel ρ n cs.toList ds.toList:=by
 refine⟨by simpa using hc,λi v c hv cX=>?_⟩
 grind
def ORel (ρ:Plc) (n:Nat):VObj->Obj->Prop
 |.map es clock,o=>∃ entries,o=.map entries clock/\entries.size=es.length /\
   ∀ (k:Nat) (kv:Value×Value×Nat),es[k]?=some kv->∃ e:MapEntry,entries[k]?=some e/\e.key=kv.1/\e.born=kv.2.2/\VRel ρ n kv.2.1 e.val
 |.iter m since seen last,o=>∃ rm,o=.mapIter (some rm) since seen.toArray last/\VRel ρ n (.map (some m)) (.map (some rm))
 |.lp env r st pend,o=>o=.loop {r with state:=st,pending:=pend}/\LRel ρ n env r.tmps.toList
 |.siter s pos,o=>o=.stringIter s pos
def BRel (ρ:Plc) (n:Nat) (p:Pl) (w:World):Blk->Prop
 |.cells c esz wr tight=>p.esz=esz/\p.tight=tight/\c.length<=p.ext /\
   (∃ C e f,w.heap[p.blk]?=some (.cells C e f)/\p.shift+p.ext<=C.size/\e=esz.ty) /\
   (∀ (k:Nat) (v:Value),c[k]?=some v->∃ u,w.cell? ⟨p.blk,p.shift+k,none⟩=some u/\VRel ρ n v u) /\
   (wr=true->(tight=true->p.shift=0)/\∀ k,k<p.ext->w.frozen? ⟨p.blk,p.shift+k,none⟩=false)
 |.obj o _=>(p.ext=1/\p.shift=0)/\∃ O,w.heap[p.blk]?=some O/\ORel ρ n o O
structure HRel0 (ρ:Plc) (U:Heap) (w:World):Prop where
 live:∀ i b,U.get i=some b->∃ p,ρ i=some p/\BRel ρ U.n p w b
 dead:∀ i,U.get i=none->ρ i=none
 lt:∀ i p,ρ i=some p->p.blk<w.heap.size
 sep:∀ i j p q b,i≠j->ρ i=some p->ρ j=some q->U.get i=some b->b.wr=true->0<q.ext->p.blk≠q.blk
theorem HRel0.idlt {ρ:Plc}{U:Heap}{w:World}(h:HRel0 ρ U w) {i:Nat}{p:Pl}(hp:ρ i=some p):i<U.n:=by
 cases hb:U.get i with
 |none=>rw[h.dead i hb] at hp;cases hp
 |some b=>exact U.lt hb
def Wr (ρ:Plc) (U:Heap) (B:Nat):Prop:=∃ i p b,ρ i=some p/\U.get i=some b/\b.wr=true/\p.blk=B
structure Ext (ρ:Plc) (U:Heap) (w:World) (ρ':Plc) (U':Heap) (w':World):Prop where
 os:w'.os=w.os
 tape:w'.tape=w.tape
 output:w'.output=w.output
 size:w.heap.size<=w'.heap.size
 keep:∀ B,B<w.heap.size->¬ Wr ρ U B->w'.heap[B]?=w.heap[B]?
 wr:∀ B,B<w.heap.size->Wr ρ' U' B->Wr ρ U B
 n:U.n<=U'.n
 pl:∀ i,i<U.n->∀ p,ρ' i=some p->ρ i=some p
theorem Ext.refl (ρ:Plc) (U:Heap) (w:World):Ext ρ U w ρ U w :=
 ⟨rfl,rfl,rfl,z9 _,λ_ _ _=>rfl,λ_ _ h=>h,z9 _,λ_ _ _ h=>h⟩
theorem Ext.trans {ρ ρ' eC:Plc}{U U' aL:Heap}{w w' oo:World}(h:Ext ρ U w ρ' U' w') (k:Ext ρ' U' w' eC aL oo):Ext ρ U w eC aL oo where
 os:=k.os.trans h.os
 tape:=k.tape.trans h.tape
 output:=k.output.trans h.output
 size:=zO h.size k.size
 keep B hB hW:=(k.keep B (x3 hB h.size) (λhw=>hW (h.wr B hB hw))).trans (h.keep B hB hW)
 wr B hB hW:=h.wr B hB (k.wr B (x3 hB h.size) hW)
 n:=zO h.n k.n
 pl i hi p hp:=h.pl i hi p (k.pl i (x3 hi h.n) p hp)
theorem Ext.lrel {ρ ρ':Plc}{U U':Heap}{w w':World}(h:Ext ρ U w ρ' U' w') {v c:List Value}(hv:LRel ρ U.n v c):LRel ρ' U'.n v c:=hv.mono h.n h.pl
theorem ORel.mono {ρ ρ':Plc}{n n':Nat}(hn:n<=n') (hρ:∀ i,i<n->∀ p,ρ' i=some p->ρ i=some p) {o:VObj}{O:Obj}(h:ORel ρ n o O):ORel ρ' n' o O:=by
 cases o with
 |map es clock =>obtain⟨entries,h1,h2,h3⟩:=h;exact⟨entries,h1,h2,λk kv hk=>let ⟨e,he,h4,h5,hv⟩:=h3 k kv hk;⟨e,he,h4,h5,hv.mono hn hρ⟩⟩
 |iter m since seen last=>obtain⟨rm,h1,h2⟩:=h;exact⟨rm,h1,h2.mono hn hρ⟩
 |lp env r st pend=>exact⟨h.1,h.2.mono hn hρ⟩
 |siter s pos=>exact h
theorem ORel.q1s {ρ:Plc}{n:Nat}{o:VObj}{C:Array Value}{e:TypeId}{f:Nat×Nat}:¬ ORel ρ n o (.cells C e f):=by
 cases o with
 |map es clock=>rintro⟨_,h,_⟩;cases h
 |iter m since seen last=>rintro⟨_,h,_⟩;cases h
 |lp env r st pend=>rintro⟨h,_⟩;cases h
 |siter s pos=>intro h;cases h
theorem ORel.q0n {ρ:Plc}{n:Nat}{o:VObj}{d:Option (List Deferred)}:¬ ORel ρ n o (.deferred d):=by
 cases o with
 |map es clock=>rintro⟨_,h,_⟩;cases h
 |iter m since seen last=>rintro⟨_,h,_⟩;cases h
 |lp env r st pend=>rintro⟨h,_⟩;cases h
 |siter s pos=>intro h;cases h
theorem BRel.mono {ρ ρ':Plc}{n n':Nat}(hn:n<=n') (hρ:∀ i,i<n->∀ p,ρ' i=some p->ρ i=some p) {p:Pl}{w w':World}(hw:w'.heap[p.blk]?=w.heap[p.blk]?) {b:Blk}(h:BRel ρ n p w b):BRel ρ' n' p w' b:=by
 cases b with
 |cells c esz wr tight =>
  obtain⟨h1,h2,h3,h4,h5,h6⟩:=h;refine⟨h1,h2,h3,by rw[hw];exact h4,λk v hk=>?_,λfY=>⟨(h6 fY).1,λk hk=>?_⟩⟩
  .obtain⟨u,hu,hv⟩:=h5 k v hk;exact⟨u,by grind [World.cell?_of_block],hv.mono hn hρ⟩
  .grind [World.frozen?_of_block]
 |obj o wr =>obtain⟨h0,O,h1,h2⟩:=h;exact⟨h0,O,by rw[hw];exact h1,h2.mono hn hρ⟩
theorem HRel0.world {ρ:Plc}{U:Heap}{w w':World}(h:HRel0 ρ U w) (hs:w.heap.size<=w'.heap.size) (hb:∀ i p,ρ i=some p->w'.heap[p.blk]?=w.heap[p.blk]?):HRel0 ρ U w' where
 live i b hi:=by obtain⟨p,hp,hB⟩:=h.live i b hi;exact⟨p,hp,hB.mono (z9 _) (λ_ _ _ h=>h) (hb i p hp)⟩
 dead:=h.dead
 lt i p hp:=x3 (h.lt i p hp) hs
 sep:=h.sep
theorem HRel0.drew {ρ:Plc}{U:Heap}{w:World}(h:HRel0 ρ U w):HRel0 ρ U w.drew:=h.world (z9 _) (λ_ _ _=>rfl)
theorem Ext.drew (ρ:Plc) (U:Heap) (w:World):Ext ρ U w ρ U w.drew :=
 ⟨rfl,rfl,rfl,z9 _,λ_ _ _=>rfl,λ_ _ h=>h,z9 _,λ_ _ _ h=>h⟩
def Plc.put (ρ:Plc) (i:Nat) (p:Option Pl):Plc:=λj=>if j=i then p else ρ j
theorem HRel0.alloc {ρ:Plc}{U:Heap}{w:World}(h:HRel0 ρ U w) (c:List Value) (C:Array Value) (e:TypeId) (esz:El) (tight:Bool) (he:e=esz.ty)
  (hc:LRel ρ U.n c (C.toList.take c.length)) (hl:c.length<=C.size) :
  ∃ ρ',ρ' U.n=some ⟨w.heap.size,0,C.size,esz,tight⟩/\HRel0 ρ' (U.push (.cells c esz true tight)) (w.alloc (.cells C e))/\Ext ρ U w ρ' (U.push (.cells c esz true tight)) (w.alloc (.cells C e)):=by
 have hold:∀ k,k<w.heap.size->(w.alloc (.cells C e)).heap[k]?=w.heap[k]?:=λk hk=>by
  show (w.heap.push _)[k]?=_
  grind
 have aD:(w.alloc (.cells C e)).heap.size=w.heap.size+1:=World.size_alloc w _;have aY:∀ i,i<U.n->∀ p,(ρ.put U.n (some ⟨w.heap.size,0,C.size,esz,tight⟩)) i=some p->ρ i=some p:=λi hi p hp=>by unfold Plc.put at hp;rwa [z6 (by omega)] at hp
 refine⟨ρ.put U.n (some ⟨w.heap.size,0,C.size,esz,tight⟩),by simp[Plc.put],⟨?_,?_,?_,?_⟩,⟨rfl,rfl,rfl,by omega,λB hB _=>hold B hB,?_,by simp,aY⟩⟩
 .intro i b hb;by_cases hi:i=U.n
  .subst hi;rw[Heap.q0a] at hb;obtain rfl:=osj hb;refine⟨⟨w.heap.size,0,C.size,esz,tight⟩,by simp[Plc.put],rfl,rfl,hl,⟨C,e,(0,0),?_,by simp,he⟩,λk v hk=>?_,λ_=>⟨λ_=>rfl,λk _=>?_⟩⟩
   .show (w.heap.push _)[w.heap.size]?=_;simp
   .obtain⟨u,hu,hv⟩:=hc.get hk;have cr:k<c.length:=(zp.1 hk).1;refine⟨u,?_,hv.mono (by simp) aY⟩;rw[zQ,World.cell?_alloc_new]
    grind
   simp_all
  .rw[Heap.q0e _ _ hi] at hb;obtain⟨p,hp,hB⟩:=h.live i b hb;exact⟨p,by simp[Plc.put,hi,hp],hB.mono (by simp) aY (hold _ (h.lt i p hp))⟩
 .intro i hi;by_cases aR:i=U.n
  .grind [Heap.q0a]
  .rw[Heap.q0e _ _ aR] at hi;simp[Plc.put,aR,h.dead i hi]
 .intro i p hp;by_cases hi:i=U.n
  .subst hi;simp[Plc.put] at hp;subst hp;simp
  .simp[Plc.put,hi] at hp;have:=h.lt i p hp;omega
 .intro i j p q b cy hp hq hb hw hx;by_cases hi:i=U.n
  .subst hi;simp[Plc.put] at hp;subst hp;simp[Plc.put,Ne.symm cy] at hq;have:=h.lt j q hq;intro e;simp at e;omega
  .simp[Plc.put,hi] at hp;rw[Heap.q0e _ _ hi] at hb;by_cases hj:j=U.n
   .subst hj;simp[Plc.put] at hq;subst hq;have:=h.lt i p hp;intro e;simp at e;omega
   .simp[Plc.put,hj] at hq;exact h.sep i j p q b cy hp hq hb hw hx
 .rintro B hB ⟨i,p,b,hp,hb,hw,rfl⟩;by_cases hi:i=U.n
  .subst hi;simp[Plc.put] at hp;subst hp;simp at hB
  .simp[Plc.put,hi] at hp;rw[Heap.q0e _ _ hi] at hb;exact⟨i,p,b,hp,hb,hw,rfl⟩
theorem HRel0.newObj {ρ:Plc}{U:Heap}{w:World}(h:HRel0 ρ U w) (o:VObj) (O:Obj) (ho:ORel ρ U.n o O) :
  ∃ ρ',ρ' U.n=some ⟨w.heap.size,0,1,default,true⟩/\HRel0 ρ' (U.push (.obj o true)) (w.alloc O)/\Ext ρ U w ρ' (U.push (.obj o true)) (w.alloc O):=by
 have hold:∀ k,k<w.heap.size->(w.alloc O).heap[k]?=w.heap[k]?:=λk hk=>by
  show (w.heap.push _)[k]?=_
  grind
 have aD:(w.alloc O).heap.size=w.heap.size+1:=World.size_alloc w _;have aY:∀ i,i<U.n->∀ p,(ρ.put U.n (some ⟨w.heap.size,0,1,default,true⟩)) i=some p->ρ i=some p:=λi hi p hp=>by unfold Plc.put at hp;rwa [z6 (by omega)] at hp
 refine⟨ρ.put U.n (some ⟨w.heap.size,0,1,default,true⟩),by simp[Plc.put],⟨?_,?_,?_,?_⟩,⟨rfl,rfl,rfl,by omega,λB hB _=>hold B hB,?_,by simp,aY⟩⟩
 .intro i b hb;by_cases hi:i=U.n
  .subst hi;rw[Heap.q0a] at hb;obtain rfl:=osj hb;refine⟨⟨w.heap.size,0,1,default,true⟩,by simp[Plc.put],⟨rfl,rfl⟩,O,?_,ho.mono (by simp) aY⟩;show (w.heap.push _)[w.heap.size]?=_;simp
  .rw[Heap.q0e _ _ hi] at hb;obtain⟨p,hp,hB⟩:=h.live i b hb;exact⟨p,by simp[Plc.put,hi,hp],hB.mono (by simp) aY (hold _ (h.lt i p hp))⟩
 .intro i hi;by_cases aR:i=U.n
  .grind [Heap.q0a]
  .rw[Heap.q0e _ _ aR] at hi;simp[Plc.put,aR,h.dead i hi]
 .intro i p hp;by_cases hi:i=U.n
  .subst hi;simp[Plc.put] at hp;subst hp;simp
  .simp[Plc.put,hi] at hp;have:=h.lt i p hp;omega
 .intro i j p q b cy hp hq hb hw hx;by_cases hi:i=U.n
  .subst hi;simp[Plc.put] at hp;subst hp;simp[Plc.put,Ne.symm cy] at hq;have:=h.lt j q hq;intro e;simp at e;omega
  .simp[Plc.put,hi] at hp;rw[Heap.q0e _ _ hi] at hb;by_cases hj:j=U.n
   .subst hj;simp[Plc.put] at hq;subst hq;have:=h.lt i p hp;intro e;simp at e;omega
   .simp[Plc.put,hj] at hq;exact h.sep i j p q b cy hp hq hb hw hx
 .rintro B hB ⟨i,p,b,hp,hb,hw,rfl⟩;by_cases hi:i=U.n
  .subst hi;simp[Plc.put] at hp;subst hp;simp at hB
  .simp[Plc.put,hi] at hp;rw[Heap.q0e _ _ hi] at hb;exact⟨i,p,b,hp,hb,hw,rfl⟩
def Rq (w:World) (b:Nat) (O:Obj):World:={w with heap:=w.heap.setIfInBounds b O}
theorem Vw (w:World) (b:Nat) (O:Obj) (k:Nat) (h:k≠b):(Rq w b O).heap[k]?=w.heap[k]?:=by simp only[Rq];grind
theorem Q60 (w:World) (b:Nat) (O:Obj) (h:b<w.heap.size):(Rq w b O).heap[b]?=some O:=by simp only[Rq];simp_all
theorem HX (w:World) (b:Nat) (O:Obj):(Rq w b O).heap.size=w.heap.size:=by simp[Rq]
theorem HRel0.setObj {ρ:Plc}{U:Heap}{w:World}(h:HRel0 ρ U w) {i:Nat}{p:Pl}{o:VObj}(hp:ρ i=some p) (hb:U.get i=some (.obj o true)) {o':VObj}{O':Obj}(ho:ORel ρ U.n o' O') :
  HRel0 ρ (U.upd i (.obj o' true)) (Rq w p.blk O')/\Ext ρ U w ρ (U.upd i (.obj o' true)) (Rq w p.blk O'):=by
 have hi:=U.lt hb;obtain⟨p',bz,h0,O,h1,h2⟩:=h.live i _ hb;obtain rfl:p=p':=osj (hp.symm.trans bz);have ao:=h.lt i p hp;refine⟨⟨λj b hj=>?_,λj hj=>?_,λj q hq=>by rw[HX];exact h.lt j q hq,λj k q r b dY hq hr cm hw hx=>?_⟩,?_⟩
 .by_cases aN:j=i
  .subst aN;rw[Heap.q0d _ _ hi] at hj;obtain rfl:=osj hj;exact⟨p,hp,h0,O',Q60 _ _ _ ao,ho⟩
  .rw[Heap.q0b _ _ aN] at hj;obtain⟨q,hq,eZ⟩:=h.live j b hj;refine⟨q,hq,?_⟩;by_cases hk:q.blk=p.blk
   .have hx:q.ext=0:=by
     rcases Nat.eq_zero_or_pos q.ext with h'|h'
     .exact h'
     .exact absurd hk.symm (h.sep i j p q _ (Ne.symm aN) hp hq hb rfl h')
    cases b with
    |cells c esz wr tight =>obtain⟨_,_,_,⟨C,e,f,k1,_⟩,_⟩:=eZ;rw[hk,h1] at k1;obtain rfl:=osj k1;exact absurd h2 ORel.q1s
    |obj o2 wr=>have:=eZ.1;omega
   .exact eZ.mono (z9 _) (λ_ _ _ h=>h) (Vw _ _ _ _ hk)
 .by_cases aN:j=i
  .grind [Heap.q0d]
  .rw[Heap.q0b _ _ aN] at hj;exact h.dead j hj
 .by_cases aN:j=i
  .subst aN;exact h.sep j k q r _ dY hq hr hb rfl hx
  .rw[Heap.q0b _ _ aN] at cm;exact h.sep j k q r b dY hq hr cm hw hx
 .refine⟨rfl,rfl,rfl,by rw[HX];exact z9 _,λB hB hW=>Vw _ _ _ _ (λe=>hW ⟨i,p,_,hp,hb,rfl,e.symm⟩),?_,z9 _,λ_ _ _ h=>h⟩;rintro B _ ⟨j,q,b,hq,bX,hw,rfl⟩;by_cases aN:j=i
  .subst aN;exact⟨j,q,_,hq,hb,rfl,rfl⟩
  .rw[Heap.q0b _ _ aN] at bX;exact⟨j,q,b,hq,bX,hw,rfl⟩
theorem HRel0.q0n {ρ:Plc}{U:Heap}{w:World}(h:HRel0 ρ U w) {D:Nat}{d:Option (List Deferred)}(hD:w.heap[D]?=some (.deferred d)) (i:Nat) (p:Pl) (hp:ρ i=some p):p.blk≠D:=by
 rintro rfl;cases hb:U.get i with
 |none=>rw[h.dead i hb] at hp;cases hp
 |some b =>
  obtain⟨p',bz,hB⟩:=h.live i b hb;obtain rfl:p=p':=osj (hp.symm.trans bz);cases b with
  |cells c esz wr tight =>obtain⟨_,_,_,⟨C,e,f,k1,_⟩,_⟩:=hB;rw[hD] at k1;cases k1
  |obj o wr =>obtain⟨_,O,k1,k2⟩:=hB;rw[hD] at k1;obtain rfl:=osj k1;exact ORel.q0n k2
theorem HRel0.kill {ρ:Plc}{U:Heap}{w:World}(h:HRel0 ρ U w) (i:Nat):HRel0 (ρ.put i none) (U.kill i) w/\Ext ρ U w (ρ.put i none) (U.kill i) w:=by
 have aY:∀ j,∀ p,(ρ.put i none) j=some p->ρ j=some p/\j≠i:=λj p hp=>by unfold Plc.put at hp;split at hp<;>simp_all
 refine⟨⟨λj b hb=>?_,λj hj=>?_,λj p hp=>h.lt j p (aY j p hp).1,λj k p q b dY hp hq hb hw hx=>?_⟩,⟨rfl,rfl,rfl,z9 _,λ_ _ _=>rfl,?_,z9 _,λj _ p hp=>(aY j p hp).1⟩⟩
 .by_cases aN:j=i
  .grind [Heap.q0g]
  .rw[Heap.q0c _ aN] at hb;obtain⟨p,hp,hB⟩:=h.live j b hb;exact⟨p,by simp[Plc.put,aN,hp],hB.mono (z9 _) (λk _ p hp=>(aY k p hp).1) rfl⟩
 .by_cases aN:j=i
  .simp[Plc.put,aN]
  .rw[Heap.q0c _ aN] at hj;simp[Plc.put,aN,h.dead j hj]
 .obtain⟨bz,aN⟩:=aY j p hp;rw[Heap.q0c _ aN] at hb;exact h.sep j k p q b dY bz (aY k q hq).1 hb hw hx
 .rintro B _ ⟨j,p,b,hp,hb,hw,rfl⟩;obtain⟨bz,aN⟩:=aY j p hp;rw[Heap.q0c _ aN] at hb;exact⟨j,p,b,bz,hb,hw,rfl⟩
def GTabs (ρ:Plc) (U:Heap) (w:World):Prop:=∀ g cs,Q7e g=some cs->(∃ e f,w.heap[g]?=some (.cells cs.toArray e f))/\¬ Wr ρ U g
theorem GTabs.lt {ρ:Plc}{U:Heap}{w:World}(h:GTabs ρ U w) {g:Nat}{cs:List Value}(hg:Q7e g=some cs):g<w.heap.size:=by
 obtain⟨⟨e,f,h1⟩,_⟩:=h g cs hg
 grind
theorem GTabs.ext {ρ ρ':Plc}{U U':Heap}{w w':World}(h:GTabs ρ U w) (k:Ext ρ U w ρ' U' w'):GTabs ρ' U' w':=λg cs hg=>by obtain⟨⟨e,f,h1⟩,h2⟩:=h g cs hg;have hl:=h.lt hg;exact⟨⟨e,f,by rw[k.keep g hl h2];exact h1⟩,λhw=>h2 (k.wr g hl hw)⟩
structure HRel (ρ:Plc) (U:Heap) (w:World):Prop where
 core:HRel0 ρ U w
 tab:GTabs ρ U w
section
variable {ρ:Plc}{U:Heap}{w:World}
theorem HRel.ext {ρ':Plc}{U':Heap}{w':World}(h:HRel ρ U w) (h':HRel0 ρ' U' w') (k:Ext ρ U w ρ' U' w'):HRel ρ' U' w':=⟨h',h.tab.ext k⟩
theorem HRel.live (h:HRel ρ U w):∀ i b,U.get i=some b->∃ p,ρ i=some p/\BRel ρ U.n p w b:=h.core.live
theorem HRel.dead (h:HRel ρ U w):∀ i,U.get i=none->ρ i=none:=h.core.dead
theorem HRel.lt (h:HRel ρ U w):∀ i p,ρ i=some p->p.blk<w.heap.size:=h.core.lt
theorem HRel.sep (h:HRel ρ U w):∀ i j p q b,i≠j->ρ i=some p->ρ j=some q->U.get i=some b->b.wr=true->0<q.ext->p.blk≠q.blk:=h.core.sep
theorem HRel.idlt (h:HRel ρ U w) {i:Nat}{p:Pl}(hp:ρ i=some p):i<U.n:=h.core.idlt hp
theorem HRel.world {w':World}(h:HRel ρ U w) (hs:w.heap.size<=w'.heap.size) (hb:∀ i p,ρ i=some p->w'.heap[p.blk]?=w.heap[p.blk]?) (ht:∀ g cs,Q7e g=some cs->w'.heap[g]?=w.heap[g]?):HRel ρ U w' :=
 ⟨h.core.world hs hb,λg cs hg=>by
  obtain⟨⟨e,f,h1⟩,h2⟩:=h.tab g cs hg;simp_all⟩
theorem HRel.drew (h:HRel ρ U w):HRel ρ U w.drew:=⟨h.core.drew,h.tab⟩
theorem HRel.alloc (h:HRel ρ U w) (c:List Value) (C:Array Value) (e:TypeId) (esz:El) (tight:Bool) (he:e=esz.ty)
  (hc:LRel ρ U.n c (C.toList.take c.length)) (hl:c.length<=C.size) :
  ∃ ρ',ρ' U.n=some ⟨w.heap.size,0,C.size,esz,tight⟩/\HRel ρ' (U.push (.cells c esz true tight)) (w.alloc (.cells C e))/\Ext ρ U w ρ' (U.push (.cells c esz true tight)) (w.alloc (.cells C e)) :=
 let ⟨ρ',h1,h2,h3⟩:=h.core.alloc c C e esz tight he hc hl
 ⟨ρ',h1,h.ext h2 h3,h3⟩
theorem HRel.newObj (h:HRel ρ U w) (o:VObj) (O:Obj) (ho:ORel ρ U.n o O) :
  ∃ ρ',ρ' U.n=some ⟨w.heap.size,0,1,default,true⟩/\HRel ρ' (U.push (.obj o true)) (w.alloc O)/\Ext ρ U w ρ' (U.push (.obj o true)) (w.alloc O) :=
 let ⟨ρ',h1,h2,h3⟩:=h.core.newObj o O ho
 ⟨ρ',h1,h.ext h2 h3,h3⟩
theorem HRel.setObj (h:HRel ρ U w) {i:Nat}{p:Pl}{o:VObj}(hp:ρ i=some p) (hb:U.get i=some (.obj o true)) {o':VObj}{O':Obj}(ho:ORel ρ U.n o' O') :
  HRel ρ (U.upd i (.obj o' true)) (Rq w p.blk O')/\Ext ρ U w ρ (U.upd i (.obj o' true)) (Rq w p.blk O') :=
 let ⟨h2,h3⟩:=h.core.setObj hp hb ho
 ⟨h.ext h2 h3,h3⟩
theorem HRel.q0n (h:HRel ρ U w) {D:Nat}{d:Option (List Deferred)}(hD:w.heap[D]?=some (.deferred d)) (i:Nat) (p:Pl) (hp:ρ i=some p):p.blk≠D:=h.core.q0n hD i p hp
theorem HRel.kill (h:HRel ρ U w) (i:Nat):HRel (ρ.put i none) (U.kill i) w/\Ext ρ U w (ρ.put i none) (U.kill i) w :=
 let ⟨h2,h3⟩:=h.core.kill i
 ⟨h.ext h2 h3,h3⟩
end
end Go.V
namespace Go.V
open Go
abbrev Env:=List Value
inductive MK where
 |int (k:IntKind)
 |string
 |bool
 |agg (s:List MK)
 deriving Inhabited
inductive XOp where
 |eqNil (kd:Nat) (neg:Bool) (x y:Operand)
 |makeMap
 |lookup (mk:MK) (zero:Value) (ok:Bool) (x i:Operand)
 |mapUpdate (mk:MK) (m k v:Operand)
 |delete (mk:MK) (m k:Operand)
 |mapEntry (mk:MK) (zero:Value) (m k:Operand)
 |entryStore (m s v:Operand)
 |lenMap (x:Operand)
 |rangeMap (x:Operand)
 |nextMap (x:Operand)
 |entry (x:Operand)
 |copy (size:Nat) (d s:Operand)
 |clear (z:List Value) (x:Operand)
 |toUnsafe (x:Operand)
 |fromUnsafe (u size:Nat) (x:Operand)
 |sliceData (x:Operand)
 |unsafeStr (e:Nat) (x n:Operand)
 |bytesStr (x:Operand)
 |strBytes (e:Nat) (x:Operand)
 |eqAgg (neg:Bool) (s:List MK) (x y:Operand)
 |rangeStr (x:Operand)
 |nextStr (x:Operand)
 deriving Inhabited
inductive VOp where
 |move (x:Operand)
 |pick (c a b:Operand)
 |arith (op:BinOp) (x y:Operand)
 |div (op:BinOp) (x y:Operand)
 |bits (op:BinOp) (x y:Operand)
 |shift (op:BinOp) (x y:Operand)
 |cmp (op:BinOp) (x y:Operand)
 |str (op:BinOp) (x y:Operand)
 |eqB (neg:Bool) (x y:Operand)
 |un (op:UnOp) (x:Operand)
 |convI (k:IntKind) (x:Operand)
 |convS (x:Operand)
 |alloc (t:Nat) (z:List Value)
 |box (t:Nat) (x:Operand)
 |build (z:List Value) (parts:List (Nat×Nat×Operand))
 |buildSlice (esz:El) (z:List Value) (len:Nat) (parts:List (Nat×Operand))
 |load (agg:Bool) (size:Nat) (a:Operand)
 |store (size:Nat) (a v:Operand)
 |fieldAddr (off:Nat) (a:Operand)
 |field (agg:Bool) (off size:Nat) (x:Operand)
 |indexAddr (size:Nat) (x i:Operand)
 |indexAddrArr (len size:Nat) (x i:Operand)
 |indexStr (x i:Operand)
 |indexArr (len:Nat) (agg:Bool) (size:Nat) (x i:Operand)
 |slice (size:Nat) (x:Operand) (lo hi mx:Option Operand)
 |sliceStr (x:Operand) (lo hi:Option Operand)
 |makeSlice (esz:El) (bytes:Nat) (z:List Value) (l c:Operand)
 |len (x:Operand)
 |lenStr (x:Operand)
 |append (esz:El) (bytes:Nat) (s x:Operand)
 |max (x y:Operand)
 |max4 (x y z w:Operand)
 |min (x y:Operand)
 |makeFunc (fn:Fn) (first cap:List Operand)
 |iface (t:TypeId) (x:Operand)
 |extract (x:Operand) (i:Nat)
 |nilCheck (x:Operand)
 |callF (f:FuncId) (args:List Operand)
 |callV (f:Operand) (args:List Operand)
 |ext (o:XOp)
 |bad
 deriving Inhabited
structure VOper where
 dst:Option Nat
 op:VOp
 guard:Option (Nat×Bool)
 deriving Inhabited
structure DOper where
 dst:Option Nat
 op:VOp
 guard:Option (Nat×Bool)
 kind:Nat
 kmin:Nat
 kmax:Nat
 deriving Inhabited
inductive DSeg where
 |one (o:VOper)
 |alts (l:List (List DOper))
 deriving Inhabited
inductive VCode where
 |skip
 |region (ops:List VOper)
 |regionD (aU:List DSeg)
 |rangeF (g:Operand) (ps:List Nat) (a b:VCode)
 |seq (a b:VCode)
 |cond (c:Operand) (a b:VCode)
 |block (id:Nat) (b:VCode)
 |loop (b:VCode)
 |exit (id:Nat)
 |ret
 |bad
 deriving Inhabited
def Zy:Value->Bool
 |.bool _|.int _ _|.string _|.pointer none|.slice none 0 0|.map none|.nilFunc|.nilIface=>true
 |_=>false
def UL:Value->Bool
 |.agg cs=>cs.toList.all Zy
 |.tuple cs=>cs.toList.all Zy
 |v=>Zy v
def WZ:Operand->Bool
 |.tmp _=>true
 |.const v=>UL v
 |.global _=>true
 |.func _=>true
def Mb:TypeDesc->Bool
 |.struct _|.array _ _=>true
 |_=>false
def zeroOf (P:Program) (t:TypeId):Option (List Value):=do
 let i <-P.info? t;let z <-i.zero;let cs:=z.cells.toList
 if cs.length==i.size&&cs.all Zy then some cs else none
def P9 (P:Program) (t:TypeId) (f:Nat):Option Field :=
 match P.underlying t with
 |some (.struct fs)=>fs[f]?
 |_=>none
def Nb (P:Program) (o:Op):Option VOp :=
 if !(o.operands.toList.all WZ) then none else
 match o with
 |.move x|.assign x=>some (.move x)
 |.pick c a b=>some (.pick c a b)
 |.binOp op t x y _ =>
  match P.underlying t with
  |some (.int _) =>
   match op with
   |.add|.sub|.mul=>some (.arith op x y)
   |.quo|.rem=>some (.div op x y)
   |.and|.or|.xor|.andNot=>some (.bits op x y)
   |.shl|.shr=>some (.shift op x y)
   |_=>some (.cmp op x y)
  |some .string=>some (.str op x y)
  |some .bool=>match op with|.eql=>some (.eqB false x y)|.neq=>some (.eqB true x y)|_=>none
  |_=>none
 |.unOp op _ x=>some (.un op x)
 |.convert s d x =>
  match P.underlying s,P.underlying d with
  |some (.int _),some (.int k)=>some (.convI k x)
  |some .string,some .string=>some (.convS x)
  |_,_=>none
 |.alloc t=>do some (.alloc t (<-zeroOf P t))
 |.box t x=>some (.box t x)
 |.build t parts=>do
  let z <-zeroOf P t
  match P.underlying t with
  |some (.struct fs)=>do
   let places <-fs.toList.mapM λf=>(P.info? f.type).map λi=>(f.offset,i.size);let ps <-parts.toList.mapM λq=>(places[q.1]?).map λos=>(os.1,os.2,q.2)
   some (.build z ps)
  |some (.array _ e)=>do
   let ei <-P.info? e
   some (.build z (parts.toList.map λq=>(q.1*ei.size,ei.size,q.2)))
  |_=>none
 |.buildSlice t len parts =>
  match P.underlying t with
  |some (.slice e)=>do
   let z <-zeroOf P e
   if z.length==0||4096<len*z.length then none
   some (.buildSlice ⟨z.length,e⟩ z len parts.toList)
  |_=>none
 |.load t a=>do
  let i <-P.info? t;let d <-P.underlying t
  some (.load (Mb d) i.size a)
 |.store t a v=>do
  let i <-P.info? t
  some (.store i.size a v)
 |.fieldAddr t a f=>do
  let fd <-P9 P t f;let fi <-P.info? fd.type
  if fi.size==0 then none
  some (.fieldAddr fd.offset a)
 |.field t x f=>do
  let fd <-P9 P t f;let fi <-P.info? fd.type;let d <-P.underlying fd.type
  some (.field (Mb d) fd.offset fi.size x)
 |.indexAddr t x i =>
  match P.underlying t with
  |some (.slice e)=>do let ei <-P.info? e;some (.indexAddr ei.size x i)
  |some (.array n e)=>do let ei <-P.info? e;some (.indexAddrArr n ei.size x i)
  |_=>none
 |.index t x i =>
  match P.underlying t with
  |some .string=>some (.indexStr x i)
  |some (.array n e)=>do let ei <-P.info? e;let d <-P.underlying e;some (.indexArr n (Mb d) ei.size x i)
  |_=>none
 |.slice t x lo hi mx =>
  match P.underlying t with
  |some (.slice e)=>do let ei <-P.info? e;some (.slice ei.size x lo hi mx)
  |some .string=>if mx.isNone then some (.sliceStr x lo hi) else none
  |_=>none
 |.makeSlice t l c =>
  match P.underlying t with
  |some (.slice e)=>do
   let ei <-P.info? e;let z <-zeroOf P e
   if z.length==0 then none
   some (.makeSlice ⟨z.length,e⟩ ei.bytes z l c)
  |_=>none
 |.makeFunc fn first cap=>match fn with|.func _=>some (.makeFunc fn first.toList cap.toList)|_=>none
 |.makeInterface t x=>do
  let d <-P.underlying t
  match d with
  |.interface _=>none
  |_=>some (.iface t x)
 |.extract x i=>some (.extract x i)
 |.nilCheck x=>some (.nilCheck x)
 |.call c =>
  match c.callee with
  |.value (.func f)=>some (.callF f c.args.toList)
  |.value f=>some (.callV f c.args.toList)
  |.builtin .len =>
   match c.argTypes[0]?,c.args.toList with
   |some t,[x] =>
    match P.underlying t with
    |some .string=>some (.lenStr x)
    |some (.slice _)=>some (.len x)
    |_=>none
   |_,_=>none
  |.builtin .append =>
   match c.argTypes[0]?,c.argTypes[1]?,c.args.toList with
   |some t,some u,[s,x] =>
    match P.underlying t,P.underlying u with
    |some (.slice e),some (.slice _)=>do
     let ei <-P.info? e;let z <-zeroOf P e
     if z.length==0||ei.bytes==0 then none
     some (.append ⟨z.length,e⟩ ei.bytes s x)
    |_,_=>none
   |_,_,_=>none
  |.builtin .max=>match c.args.toList with|[x,y]=>some (.max x y)|[x,y,z]=>some (.max4 x y z z)|[x,y,z,w]=>some (.max4 x y z w)|_=>none
  |.builtin .min=>match c.args.toList with|[x,y]=>some (.min x y)|_=>none
  |_=>none
 |_=>none
def Q03 (P:Program) (g:TypeId->Option (List MK)):List Field->Nat->Option (List MK)
 |[],_=>some []
 |f::r,off=>if f.name≠"_"/\f.offset=off then (match g f.type with
  |some s=>if P.cellsOf f.type=s.length then (Q03 P g r (off+s.length)).map λq=>s++q else none
  |none=>none) else none
def shp (P:Program):Nat->TypeId->Option (List MK)
 |0,_=>none
 |d+1,t=>match P.underlying t with
  |some .bool=>some [.bool]
  |some (.int q)=>some [.int q]
  |some .string=>some [.string]
  |some (.array n e)=>(match shp P d e with
   |some s=>if P.cellsOf e=s.length then some (List.replicate n s).flatten else none
   |none=>none)
  |some (.struct fs)=>if P.stoodInHeld t=true then none else Q03 P (shp P d) fs.toList 0
  |_=>none
def Q7k:MK->Value->Bool
 |.int q,.int q' _=>decide (q'=q)
 |.string,.string _=>true
 |.bool,.bool _=>true
 |_,_=>false
def fits:List MK->List Value->Bool
 |[],[]=>true
 |k::ks,v::vs=>Q7k k v&&fits ks vs
 |_,_=>false
def UR:Value->Value->Bool
 |.int _ a,.int _ b=>a==b
 |.bool a,.bool b=>a==b
 |.string a,.string b=>a.data.toList==b.data.toList
 |_,_=>false
def QD:List Value->List Value->Bool
 |a::l,b::m=>UR a b&&QD l m
 |_,_=>true
def CT (P:Program) (neg:Bool) (t:TypeId) (x y:Operand):Option XOp :=
 if P.eqGuardType P.depth t=true then none else (shp P 8 t).map λs=>.eqAgg neg s x y
theorem Q2y {P:Program}{neg:Bool}{t:TypeId}{x y:Operand}{o:XOp}(h:CT P neg t x y=some o):∃ s,o=.eqAgg neg s x y:=by
 unfold CT at h
 grind [Option.map_eq_some_iff]
def IS (P:Program) (t:TypeId):Option MK :=
 match P.underlying t with
 |some (.int k)=>some (.int k)
 |some .string=>some .string
 |some .bool=>some .bool
 |some (.struct _)=>(shp P 8 t).map .agg
 |some (.array _ _)=>(shp P 8 t).map .agg
 |_=>none
def LQ (P:Program) (o:Op):Option XOp :=
 if !(o.operands.toList.all WZ) then none else
 match o with
 |.binOp op t x y _ =>
  match op,P.underlying t with
  |.eql,some (.pointer e)=>do let i <-P.info? e;if i.size==0 then none else some (.eqNil 0 false x y)
  |.neq,some (.pointer e)=>do let i <-P.info? e;if i.size==0 then none else some (.eqNil 0 true x y)
  |.eql,some (.slice _)=>some (.eqNil 1 false x y)
  |.eql,some (.map _ _)=>some (.eqNil 2 false x y)
  |.eql,some (.func _ _ _)=>some (.eqNil 3 false x y)
  |.neq,some (.slice _)=>some (.eqNil 1 true x y)
  |.neq,some (.map _ _)=>some (.eqNil 2 true x y)
  |.neq,some (.func _ _ _)=>some (.eqNil 3 true x y)
  |.eql,some (.struct _)=>CT P false t x y
  |.neq,some (.struct _)=>CT P true t x y
  |.eql,some (.array _ _)=>CT P false t x y
  |.neq,some (.array _ _)=>CT P true t x y
  |_,_=>none
 |.makeMap _ none=>some .makeMap
 |.lookup t x i ok =>
  match P.underlying t with
  |some (.map k e)=>do
   let mk <-IS P k;let inf <-P.info? e;let z <-inf.zero
   if UL z then some (.lookup mk z ok x i) else none
  |_=>none
 |.mapUpdate t m k v =>
  match P.underlying t with
  |some (.map kt _)=>do some (.mapUpdate (<-IS P kt) m k v)
  |_=>none
 |.insert t m k v =>
  match P.underlying t with
  |some (.map kt _)=>do some (.mapUpdate (<-IS P kt) m k v)
  |_=>none
 |.mapEntry t m k =>
  match P.underlying t with
  |some (.map kt e)=>do
   let mk <-IS P kt;let inf <-P.info? e;let z <-inf.zero
   if UL z then some (.mapEntry mk z m k) else none
  |_=>none
 |.entryStore _ m s v=>some (.entryStore m s v)
 |.range t x =>
  match P.underlying t with
  |some (.map _ _)=>some (.rangeMap x)
  |some .string=>some (.rangeStr x)
  |_=>none
 |.next x false=>some (.nextMap x)
 |.next x true=>some (.nextStr x)
 |.entry x=>some (.entry x)
 |.convert s d x =>
  match P.underlying s,P.underlying d with
  |some (.pointer t),some .unsafePointer=>do let i <-P.info? t;if i.size==0 then none else some (.toUnsafe x)
  |some .unsafePointer,some (.pointer u)=>do let i <-P.info? u;if i.size==0||P.cellsOf u==0 then none else some (.fromUnsafe u (P.cellsOf u) x)
  |some (.slice e),some .string=>match P.underlying e with|some (.int .u8)=>some (.bytesStr x)|_=>none
  |some .string,some (.slice e)=>match P.underlying e with|some (.int .u8)=>some (.strBytes e x)|_=>none
  |_,_=>none
 |.call c =>
  match c.callee with
  |.builtin .len =>
   match c.argTypes[0]?,c.args.toList with
   |some t,[x]=>match P.underlying t with|some (.map _ _)=>some (.lenMap x)|_=>none
   |_,_=>none
  |.builtin .delete =>
   match c.argTypes[0]?,c.args.toList with
   |some t,[m,k]=>match P.underlying t with|some (.map kt _)=>do some (.delete (<-IS P kt) m k)|_=>none
   |_,_=>none
  |.builtin .copy =>
   match c.argTypes[0]?,c.args.toList with
   |some t,[d,s]=>match P.underlying t with|some (.slice e)=>do let i <-P.info? e;some (.copy i.size d s)|_=>none
   |_,_=>none
  |.builtin .clear =>
   match c.argTypes[0]?,c.args.toList with
   |some t,[x]=>match P.underlying t with
    |some (.slice e)=>do
     let z <-zeroOf P e
     if z.length==0 then none
     some (.clear z x)
    |_=>none
   |_,_=>none
  |.builtin .unsafeSliceData=>match c.args.toList with|[x]=>some (.sliceData x)|_=>none
  |.builtin .unsafeString =>
   match c.argTypes[0]?,c.args.toList with
   |some t,[x,n]=>match P.underlying t with|some (.pointer e)=>if P.cellsOf e=1 then some (.unsafeStr e x n) else none|_=>none
   |_,_=>none
  |_=>none
 |_=>none
def VN (P:Program) (o:Op):VOp :=
 match Nb P o with
 |some v=>v
 |none=>match LQ P o with
  |some x=>.ext x
  |none=>.bad
def Xx (P:Program) (ops:Array Oper) (o:Oper):Option VOper:=do
 let v:=VN P o.op
 match o.guard with
 |none=>some ⟨o.dst,v,none⟩
 |some (j,want)=>do
  let oj <-ops[j]?;let d <-oj.dst
  some ⟨o.dst,v,some (d,want)⟩
def XOp.quiet:XOp->Bool
 |.makeMap|.mapUpdate ..|.mapEntry ..|.entryStore ..|.delete ..|.rangeMap _|.nextMap _|.copy ..|.clear ..|.unsafeStr ..|.strBytes ..|.rangeStr _|.nextStr _=>false
 |_=>true
def VOp.quiet:VOp->Bool
 |.ext o=>o.quiet
 |.alloc ..|.box ..|.buildSlice ..|.store ..|.makeSlice ..|.append ..=>false
 |.slice _ _ _ _ (some _)=>false
 |_=>true
def VOp.kind:VOp->Nat
 |.callF ..|.callV ..=>2
 |.load ..=>1
 |.slice _ _ _ _ none=>1
 |.ext (.eqNil ..)|.ext (.lookup ..)|.ext (.lenMap _)|.ext (.entry _)|.ext (.toUnsafe _)|.ext (.fromUnsafe ..)|.ext (.sliceData _)|.ext (.bytesStr _)=>1
 |o=>if o.quiet then 0 else 2
def Z29 (acc:List Nat) (es:List Nat):Nat:=es.foldl (λs e=>s ||| 2 ^ e ||| acc.getD e 0) 0
def Z9u:List (List Nat)->List Nat->List Nat
 |[],acc=>acc
 |es::r,acc=>Z9u r (acc++[Z29 acc es])
def XOp.opds:XOp->List Operand
 |.eqNil _ _ x y=>[x,y]
 |.eqAgg _ _ x y=>[x,y]
 |.makeMap=>[]
 |.lookup _ _ _ x i=>[x,i]
 |.mapUpdate _ m k v=>[m,k,v]
 |.delete _ m k=>[m,k]
 |.mapEntry _ _ m k=>[m,k]
 |.entryStore m s v=>[m,s,v]
 |.rangeStr x|.nextStr x|.lenMap x|.rangeMap x|.nextMap x|.entry x|.toUnsafe x|.fromUnsafe _ _ x|.sliceData x|.bytesStr x=>[x]
 |.copy _ d s=>[d,s]
 |.clear _ x=>[x]
 |.unsafeStr _ x n=>[x,n]
 |.strBytes _ x=>[x]
def VOp.opds:VOp->List Operand
 |.move x|.un _ x|.convI _ x|.convS x|.box _ x|.load _ _ x|.fieldAddr _ x|.field _ _ _ x|.len x|.lenStr x|.iface _ x|.extract x _|.nilCheck x=>[x]
 |.pick c a b=>[c,a,b]
 |.arith _ x y|.div _ x y|.bits _ x y|.shift _ x y|.cmp _ x y|.str _ x y|.eqB _ x y|.store _ x y|.indexAddr _ x y|.indexAddrArr _ _ x y|.indexStr x y|.indexArr _ _ _ x y|.makeSlice _ _ _ x y
 |.append _ _ x y|.max x y|.min x y=>[x,y]
 |.max4 x y z w=>[x,y,z,w]
 |.alloc ..|.bad=>[]
 |.build _ ps=>ps.map λp=>p.2.2
 |.buildSlice _ _ _ ps=>ps.map λp=>p.2
 |.slice _ x a b c=>x::(a.toList++b.toList++c.toList)
 |.sliceStr x a b=>x::(a.toList++b.toList)
 |.makeFunc _ a b=>a++b
 |.callF _ bR=>bR
 |.callV f bR=>f::bR
 |.ext o=>o.opds
def Q5b (l:List Operand):List Nat:=l.filterMap fun|.tmp t=>some t|_=>none
def TJ (o:Oper):List Nat:=(o.after.toList.filter (Region.binds .any)).map (·.on)
def Uj (v:VOper):List Nat:=v.dst.toList++Q5b v.op.opds++(v.guard.map (·.1)).toList
def Z0f (a b:List Nat×Option Nat):Bool:=(match a.2 with|some d=>b.1.contains d|none=>false)||(match b.2 with|some d=>a.1.contains d|none=>false)
structure DInfo where
 an:List Nat
 ed:List (List Nat)
 nm:List (List Nat×Option Nat)
 ks:List Nat
def UI (ops:List Oper) (vs:List VOper):DInfo:=⟨Z9u (ops.map TJ) [],ops.map TJ,vs.map λv=>(Uj v,v.dst),vs.map (·.op.kind)⟩
def DInfo.lt (d:DInfo) (i j:Nat):Bool:=(d.an.getD j 0).testBit i
def DInfo.k (d:DInfo) (i:Nat):Nat:=d.ks.getD i 0
def DInfo.rank (d:DInfo):Nat->Nat
 |0=>0
 |i+1=>if d.k i=2 then d.rank i+1 else d.rank i
def DInfo.kmin (d:DInfo) (i:Nat):Nat:=((List.range d.ks.length).filter λl=>d.k l==2&&d.lt l i).length
def DInfo.kmax (d:DInfo) (i:Nat):Nat:=((List.range d.ks.length).filter λl=>d.k l==2&&!(d.lt i l)).length
def DInfo.touch (d:DInfo) (i j:Nat):Bool:=Z0f (d.nm.getD i ([],none)) (d.nm.getD j ([],none))
def DInfo.okE (d:DInfo) (j:Nat):Bool:=(d.ed.getD j []).all λe=>decide (e<j)
def DInfo.okP (d:DInfo) (j:Nat):Bool:=(List.range j).all λi =>
 if d.lt i j then (d.ed.getD j []).any (λe=>e==i||decide (i<e)&&d.lt i e) else !(d.touch i j)&&!(d.k i==2&&d.k j==2)
def DInfo.okK (d:DInfo) (j:Nat):Bool:=!(d.k j==1) ||
 (decide (d.kmin j<=d.rank j/\d.rank j<=d.kmax j)&&(decide (d.kmax j<=d.rank d.ks.length)&&(List.range d.ks.length).all λl=>!(d.k l==2)||(d.lt l j==decide (d.rank l<d.kmin j)&&d.lt j l==decide (d.kmax j<=d.rank l))))
def DInfo.ok (d:DInfo):Bool:=(List.range d.ks.length).all λj=>d.okE j&&(d.okP j&&d.okK j)
def DInfo.opers (d:DInfo):List VOper->Nat->List DOper
 |[],_=>[]
 |v::r,i=>⟨v.dst,v.op,v.guard,v.op.kind,d.kmin i,d.kmax i⟩::d.opers r (i+1)
def DInfo.okB (d:DInfo):Bool:=decide (d.an.length=d.ks.length)&&(List.range d.ks.length).all λj=>d.okE j&&(decide (d.an.getD j 0<2 ^ j) &&
 (List.range j).all λi=>!(d.lt i j)||(d.ed.getD j []).any (λe=>e==i||decide (i<e)&&d.lt i e))
def exts (lt:Nat->Nat->Bool):Nat->List Nat->List (List Nat)
 |_,[]=>[[]]
 |0,_=>[]
 |n+1,l=>l.flatMap λk=>if l.all (λi=>i==k||!(lt i k)) then (exts lt n (l.erase k)).map (k::·) else []
def J0q (ed:List (List Nat)) (ks idx:List Nat):Nat->List Nat->List Nat->List Nat
 |0,acc,_=>acc
 |f+1,acc,kq=>match idx.find? (λi=>!(acc.contains i)&&((ed.getD i []).all (λe=>!(idx.contains e)||acc.contains e)&&(!(ks.getD i 0==2)||kq.head?==some i))) with
  |none=>acc
  |some i=>J0q ed ks idx f (acc++[i]) (if ks.getD i 0==2 then kq.tail else kq)
def Z1u (ed:List (List Nat)) (ks idx:List Nat):Nat->List Nat->List Nat->List Nat
 |0,acc,_=>acc
 |f+1,acc,kq=>match idx.find? (λi=>!(acc.contains i)&&((ed.getD i []).all (λe=>!(idx.contains e)||acc.contains e)&&!(ks.getD i 0==2))) with
  |some i=>Z1u ed ks idx f (acc++[i]) kq
  |none=>match idx.find? (λi=>!(acc.contains i)&&((ed.getD i []).all (λe=>!(idx.contains e)||acc.contains e)&&kq.head?==some i)) with
   |none=>acc
   |some i=>Z1u ed ks idx f (acc++[i]) kq.tail
def Z1w:VOp->Bool
 |.callF ..=>true
 |_=>false
def Z8d (b:Bool) (ed:List (List Nat)) (ks idx:List Nat) (n:Nat) (q:List Nat):List Nat:=if b then Z1u ed ks idx n [] q else J0q ed ks idx n [] q
def Z2b (d:DInfo) (pm:List Nat) (p:Nat):List Nat :=
 ((d.ed.getD (pm.getD p 0) []).filter pm.contains).map (λe=>pm.idxOf e) ++
  (if d.k (pm.getD p 0)==2 then ((List.range p).filter λq=>d.k (pm.getD q 0)==2).getLast?.toList else [])
def Nt (vs:List VOper) (pm:List Nat):List VOper:=pm.map λi=>vs.getD i default
def OW (d:DInfo) (vs:List VOper) (pm:List Nat):DInfo :=
 let ed:=(List.range pm.length).map (Z2b d pm)
 ⟨Z9u ed [],ed,(Nt vs pm).map λv=>(Uj v,v.dst),(Nt vs pm).map (·.op.kind)⟩
def Z7k (d:DInfo) (vs:List VOper) (idx s pm:List Nat):Bool :=
 idx.all pm.contains&&(pm.all idx.contains&&(decide pm.Nodup&&(decide (pm.filter (λi=>d.k i==2)=s)&&(OW d vs pm).ok)))
def Z86 (d:DInfo) (vs:List VOper) (s n:Nat):Option DSeg :=
 if n=1 then some (.one (vs.getD s default)) else
 let idx:=List.range' s n;let ss:=exts d.lt n (idx.filter λi=>d.k i==2);let ps:=ss.map λq=>(q,Z8d (decide (3<=(idx.filter λi=>Z1w (vs.getD i default).op).length)) d.ed d.ks idx n q)
 if ps.all λsp=>Z7k d vs idx sp.1 sp.2 then some (.alts (ps.map λsp=>(OW d vs sp.2).opers (Nt vs sp.2) 0)) else none
def cutAt (d:DInfo) (t:Nat):Bool:=(List.range' t (d.ks.length-t)).all λp=>(List.range t).all λi=>d.lt i p
def Q5q (d:DInfo) (vs:List VOper):Nat->Nat->Option (List DSeg)
 |0,s=>if s=d.ks.length then some [] else none
 |f+1,s=>if s=d.ks.length then some [] else
  match (List.range' (s+1) (d.ks.length-s)).find? (cutAt d) with
  |none=>none
  |some t=>match Z86 d vs s (t-s),Q5q d vs f t with
   |some x,some r=>some (x::r)
   |_,_=>none
def Z2k (d:DInfo) (vs:List VOper):Option (List DSeg):=if d.okB then Q5q d vs d.ks.length 0 else none
def BI (d:DInfo) (vs:List VOper):Bool :=
 d.okB&&(vs.all (λv=>!(v.op.kind==2))&&Z7k d vs (List.range' 0 d.ks.length) [] (List.range' 0 d.ks.length))
def comp (P:Program):Code->Option VCode
 |.skip=>some .skip
 |.region _ ops false=>do some (.region (<-ops.toList.mapM (Xx P ops)))
 |.region _ ops true=>do
  let l <-ops.toList.mapM (Xx P ops)
  if BI (UI ops.toList l) l then some (.region l) else
  match Z2k (UI ops.toList l) l with
  |some aU=>some (.regionD aU)
  |none=>some .bad
 |.seq a b=>do some (.seq (<-comp P a) (<-comp P b))
 |.cond c a b=>do if WZ c then some (.cond c (<-comp P a) (<-comp P b)) else some .bad
 |.block id b=>do some (.block id (<-comp P b))
 |.loop b=>do some (.loop (<-comp P b))
 |.rangeFunc g ps a b=>do if WZ g then some (.rangeF g ps.toList (<-comp P a) (<-comp P b)) else some .bad
 |.exit id=>some (.exit id)
 |.ret=>some .ret
 |_=>some .bad
def Q5 (env:Env):Operand->Value
 |.tmp t=>env.getD t undef
 |.const v=>v
 |.global g=>.pointer (some ⟨g,0,some 0⟩)
 |.func f=>.func (.func f) #[] #[]
def TI:BinOp->IntKind->Int->Int->Int
 |.add,k,a,b=>k.wrap (a+b)
 |.sub,k,a,b=>k.wrap (a-b)
 |_,k,a,b=>k.wrap (a*b)
def Z33:BinOp->IntKind->Int->Int->Int
 |.quo,k,a,b=>k.wrap (a.tdiv b)
 |_,_,a,b=>a.tmod b
def QB (op:BinOp) (k:IntKind) (x y:Int):Int :=
 let a:=BitVec.ofInt k.bits x;let b:=BitVec.ofInt k.bits y
 match op with
 |.and=>k.wrap (a &&& b).toNat
 |.or=>k.wrap (a ||| b).toNat
 |.xor=>k.wrap (a ^^^ b).toNat
 |_=>k.wrap (a &&& ~~~b).toNat
def T8:BinOp->IntKind->Int->Int->Int
 |.shl,k,x,y=>k.wrap (x*2 ^ (Nat.min y.toNat k.bits))
 |_,k,x,y=>x.fdiv (2 ^ (Nat.min y.toNat k.bits))
def Z3h:BinOp->Int->Int->Bool
 |.eql,a,b=>a==b
 |.neq,a,b=>a != b
 |.lss,a,b=>decide (a<b)
 |.leq,a,b=>decide (a<=b)
 |.gtr,a,b=>decide (a > b)
 |_,a,b=>decide (a>=b)
def cellOk:Value->Bool
 |.agg _|.tuple _|.chan _=>false
 |_=>true
def VL:Value->Option (List Value)
 |.agg cs=>some cs.toList
 |.chan _|.tuple _=>none
 |v=>some [v]
def WR (c:List Value) (o:Nat):List Value->List Value
 |[]=>c
 |v::vs=>WR (c.set o v) (o+1) vs
def My (c:List Value):List (Nat×Nat×Value)->Option (List Value)
 |[]=>some c
 |(o,s,v)::rest =>
  match VL v with
  |some vs=>if vs.length=s/\o+s<=c.length then My (WR c o vs) rest else none
  |none=>none
def Rx (n:Nat):List Value->List Value
 |[x]=>List.replicate n x
 |z=>(List.replicate n z).flatten
def YK (agg:Bool) (size:Nat) (c:List Value) (o:Nat):Option Value :=
 if agg then (if o+size<=c.length then some (.agg ((c.drop o).take size).toArray) else none) else c[o]?
def Heap.sl (U:Heap) (esz:Nat):Value->Option (List Value)
 |.slice none 0 0=>some []
 |.slice (some ⟨i,o,none⟩) n _ =>
  match U.get i with
  |some (.cells c e _ _)=>if e.sz=esz/\o+n*esz<=c.length then some ((c.drop o).take (n*esz)) else none
  |_=>none
 |_=>none
def Y2 (esz:El) (bytes:Nat) (U:Heap) (s:Value) (m:Nat) (xs:List Value):Option (Value×Heap) :=
 match s with
 |.slice none 0 0 =>
  if m=0 then some (s,U) else
  if m*bytes<=2 ^ 46 then some (.slice (some ⟨U.n,0,none⟩) m m,U.push (.cells xs esz true false)) else none
 |.slice (some ⟨i,o,none⟩) n cap =>
  match U.get i with
  |some (.cells c e wr tight) =>
   if e=esz/\n<=cap/\o+n*esz.sz<=c.length then
    if m=0 then some (s,U) else
    if n+m<=cap then
     (if wr=true/\o+(n+m)*esz.sz<=c.length then some (.slice (some ⟨i,o,none⟩) (n+m) cap,U.upd i (.cells (WR c (o+n*esz.sz) xs) e wr tight)) else none)
    else if (n+m)*bytes<=2 ^ 46 then
     (if tight then some (.slice (some ⟨U.n,0,none⟩) (n+m) (n+m),U.push (.cells ((c.drop o).take (n*esz.sz)++xs) esz true false))
     else if wr then some (.slice (some ⟨U.n,0,none⟩) (n+m) (n+m),(U.kill i).push (.cells ((c.drop o).take (n*esz.sz)++xs) esz true false))
     else none)
    else none
   else none
  |_=>none
 |.slice (some ⟨i,o,some 0⟩) n cap =>
  match U.get i with
  |some (.cells c e _ _) =>
   if e=esz/\n=cap/\o+n*esz.sz<=c.length/\m≠0/\(n+m)*bytes<=2 ^ 46 then
    some (.slice (some ⟨U.n,0,none⟩) (n+m) (n+m),U.push (.cells ((c.drop o).take (n*esz.sz)++xs) esz true false))
   else none
  |_=>none
 |_=>none
def Xs (ev:Operand->Value):Option Operand->Nat->Option Nat
 |none,d=>some d
 |some x,_=>match ev x with
  |.int _ i=>if 0<=i then some i.toNat else none
  |_=>none
def K7 (size:Nat) (U:Heap) (s:Value) (l h:Nat) (m:Option Nat):Option (Value×Heap) :=
 match s with
 |.slice none 0 0=>if l=0/\h=0/\(m.getD 0)=0 then some (.slice none 0 0,U) else none
 |.slice (some ⟨i,o,none⟩) _ cap =>
  match U.get i with
  |some (.cells _ e _ t) =>
   match m with
   |none=>if e.sz=size/\l<=h/\h<=cap then some (.slice (some ⟨i,o+l*size,none⟩) (h-l) (cap-l),U) else none
   |some m =>
    if e.sz=size/\l<=h/\h<=m/\m<=cap then
     if m=l then some (.slice (some ⟨U.n,0,none⟩) 0 0,U.push (.cells [] e false true))
     else if t=false/\h=m then some (.slice (some ⟨i,o+l*size,some 0⟩) (h-l) (m-l),U)
     else some (.slice (some ⟨i,o+l*size,none⟩) (h-l) (m-l),U)
    else none
  |_=>none
 |_=>none
def JY:MK->Value->Bool
 |.int k,.int k' _=>decide (k=k')
 |.string,.string _|.bool,.bool _=>true
 |.agg s,.agg cs=>fits s cs.toList
 |_,_=>false
def KI:Value->Value->Bool
 |.agg a,.agg b=>QD a.toList b.toList
 |.int _ a,.int _ b=>a==b
 |.string a,.string b=>a.data.toList==b.data.toList
 |.bool a,.bool b=>a==b
 |_,_=>false
abbrev Wl:=Value×Value×Nat
def Z7 (k:Value):List Wl->Option Wl
 |[]=>none
 |e::es=>if KI k e.1 then some e else Z7 k es
def ZB (k v:Value) (clock:Nat):List Wl->List Wl×Nat
 |[]=>([(k,v,clock)],clock+1)
 |e::es=>if KI k e.1 then ((k,v,e.2.2)::es,clock) else (e::(ZB k v clock es).1,(ZB k v clock es).2)
def Td (k:Value):List Wl->List Wl
 |[]=>[]
 |e::es=>if KI k e.1 then es else e::Td k es
def Heap.mapAt (U:Heap) (m:Nat):Option (List Wl×Nat×Bool):=match U.get m with
 |some (.obj (.map es clock) wr)=>some (es,clock,wr)
 |_=>none
def OG:Value->Option UInt8
 |.int .u8 n=>some n.toNat.toUInt8
 |_=>none
def Tf (l:List Value):Option ByteArray:=(l.mapM OG).map λbs=>⟨bs.toArray⟩
def Xy:Nat->Value->Value->Heap->Option Bool
 |0,.pointer none,.pointer none,_=>some true
 |0,.pointer none,.pointer (some _),_=>some false
 |0,.pointer (some _),.pointer none,_=>some false
 |0,.pointer (some ⟨i,o,none⟩),.pointer (some ⟨j,q,none⟩),U=>if i=j/\o=q/\(U.get i).isSome=true then some true else none
 |1,.slice none _ _,.slice none _ _,_=>some true
 |1,.slice none _ _,.slice (some _) _ _,_=>some false
 |1,.slice (some _) _ _,.slice none _ _,_=>some false
 |2,.map none,.map none,_=>some true
 |2,.map none,.map (some _),_=>some false
 |2,.map (some _),.map none,_=>some false
 |3,.nilFunc,.nilFunc,_=>some true
 |3,.nilFunc,.func _ _ _,_=>some false
 |3,.func _ _ _,.nilFunc,_=>some false
 |_,_,_,_=>none
def ZT (o:XOp) (ev:Operand->Value) (U:Heap):Option (Value×Heap) :=
 match o with
 |.eqNil kd neg x y=>match Xy kd (ev x) (ev y) U with|some b=>some (.bool (if neg then !b else b),U)|none=>none
 |.eqAgg neg s x y=>match ev x,ev y with
  |.agg a,.agg b=>if fits s a.toList=true/\fits s b.toList=true then some (.bool (if neg then !(QD a.toList b.toList) else QD a.toList b.toList),U) else none
  |_,_=>none
 |.makeMap=>some (.map (some U.n),U.push (.obj (.map [] 0) true))
 |.lookup mk z ok x i =>
  let k:=ev i
  if JY mk k then
   match ev x with
   |.map none=>some (if ok then .tuple #[z,.bool false] else z,U)
   |.map (some m)=>match U.mapAt m with
    |some (es,_,_)=>if es.all (λe=>JY mk e.1) then
      (match Z7 k es with
      |some e=>some (if ok then .tuple #[e.2.1,.bool true] else e.2.1,U)
      |none=>some (if ok then .tuple #[z,.bool false] else z,U)) else none
    |none=>none
   |_=>none
  else none
 |.mapUpdate mk m k v=>match ev m with
  |.map (some i)=>match U.mapAt i with
   |some (es,clock,true)=>if JY mk (ev k)&&es.all (λe=>JY mk e.1) then some (undef,U.upd i (.obj (.map (ZB (ev k) (ev v) clock es).1 (ZB (ev k) (ev v) clock es).2) true)) else none
   |_=>none
  |_=>none
 |.delete mk m k=>match ev m with
  |.map (some i)=>match U.mapAt i with
   |some (es,clock,true)=>if JY mk (ev k)&&es.all (λe=>JY mk e.1) then some (.tuple #[],U.upd i (.obj (.map (Td (ev k) es) clock) true)) else none
   |_=>none
  |_=>none
 |.mapEntry mk z m k=>match ev m with
  |.map (some i)=>match U.mapAt i with
   |some (es,clock,true)=>if JY mk (ev k)&&es.all (λe=>JY mk e.1) then
     (match Z7 (ev k) es with
     |some e=>some (.tuple #[e.2.1,.int .i64 e.2.2],U.upd i (.obj (.map (ZB (ev k) e.2.1 clock es).1 (ZB (ev k) e.2.1 clock es).2) true))
     |none=>some (.tuple #[z,.int .i64 clock],U.upd i (.obj (.map (ZB (ev k) z clock es).1 (ZB (ev k) z clock es).2) true))) else none
   |_=>none
  |_=>none
 |.entryStore m s v=>match ev m,ev s with
  |.map (some i),.int .i64 n=>match U.mapAt i with
   |some (es,clock,true)=>(match es.findIdx? (λe=>(e.2.2:Int)==n) with
    |some j=>(match es[j]? with
     |some e=>some (undef,U.upd i (.obj (.map (es.set j (e.1,ev v,e.2.2)) clock) true))
     |none=>none)
    |none=>none)
   |_=>none
  |_,_=>none
 |.lenMap x=>match ev x with
  |.map none=>some (.int .i64 0,U)
  |.map (some m)=>match U.mapAt m with
   |some (es,_,_)=>some (.int .i64 es.length,U)
   |none=>none
  |_=>none
 |.rangeMap x=>match ev x with
  |.map (some m)=>match U.mapAt m with
   |some (_,clock,_)=>some (.pointer (some ⟨U.n,0,none⟩),U.push (.obj (.iter m clock [] clock) true))
   |none=>none
  |_=>none
 |.nextMap _=>none
 |.rangeStr x=>match ev x with
  |.string s=>some (.pointer (some ⟨U.n,0,none⟩),U.push (.obj (.siter s 0) true))
  |_=>none
 |.nextStr x=>match ev x with
  |.pointer (some ⟨i,0,none⟩)=>match U.get i with
   |some (.obj (.siter s pos) true)=>match s.data.toList[pos]? with
    |some b=>if b.toNat<128 then some (.tuple #[.bool true,.int .i64 pos,.int .i32 b.toNat],U.upd i (.obj (.siter s (pos+1)) true)) else none
    |none=>some (.tuple #[.bool false],U)
   |_=>none
  |_=>none
 |.entry x=>match ev x with
  |.pointer (some ⟨i,0,none⟩)=>match U.get i with
   |some (.obj (.iter m _ seen last) _)=>match U.mapAt m,seen.getLast? with
    |some (es,clock,_),some b=>if clock=last then (match es.find? (λe=>e.2.2==b) with|some e=>if UL e.1 then some (.tuple #[e.1,e.2.1],U) else none|none=>none) else none
    |_,_=>none
   |_=>none
  |_=>none
 |.copy size d s=>match ev d,ev s with
  |.slice db dn _,.slice sb sn sc =>
   if min sn dn=0 then some (.int .i64 0,U) else
   match db,U.sl size (.slice sb (min sn dn) sc) with
   |some ⟨i,o,none⟩,some xs=>match U.get i with
    |some (.cells c e wr tight)=>if wr=true/\e.sz=size/\o+xs.length<=c.length/\xs.all cellOk=true then some (.int .i64 (min sn dn:Nat),U.upd i (.cells (WR c o xs) e wr tight)) else none
    |_=>none
   |_,_=>none
  |_,_=>none
 |.clear z x=>match ev x with
  |.slice b n _ =>
   if n=0 then some (.tuple #[],U) else
   match b with
   |some ⟨i,o,none⟩=>match U.get i with
    |some (.cells c e wr tight)=>if wr=true/\o+n*z.length<=c.length/\z.all cellOk=true then some (.tuple #[],U.upd i (.cells (WR c o (Rx n z)) e wr tight)) else none
    |_=>none
   |_=>none
  |_=>none
 |.toUnsafe x=>match ev x with
  |.pointer none=>some (.pointer none,U)
  |.pointer (some ⟨i,o,none⟩)=>match U.get i with
   |some (.cells c _ _ _)=>if o<c.length then some (.pointer (some ⟨i,o,none⟩),U) else none
   |_=>none
  |_=>none
 |.fromUnsafe u size x=>match ev x with
  |.pointer none=>some (.pointer none,U)
  |.pointer (some ⟨i,o,none⟩)=>match U.get i with
   |some (.cells c e true true)=>if o=0/\e.ty=u/\size<=c.length then some (.pointer (some ⟨i,o,none⟩),U) else none
   |_=>none
  |_=>none
 |.sliceData x=>match ev x with
  |.slice none _ _=>some (.pointer none,U)
  |.slice (some ⟨i,o,none⟩) _ cap=>if cap≠0/\(U.get i).isSome=true then some (.pointer (some ⟨i,o,none⟩),U) else none
  |_=>none
 |.unsafeStr e x n=>match ev x,ev n with
  |.pointer p,.int .i64 k =>
   if k=0 then some (.string ⟨#[]⟩,U) else
   match p with
   |some ⟨i,o,none⟩=>match U.get i with
    |some (.cells c el true tight) =>
     if 0<k/\k<=2 ^ 62/\el.ty=e/\o+k.toNat<=c.length then
      (match Tf ((c.drop o).take k.toNat) with
      |some s=>some (.string s,U.upd i (.cells c el false tight))
      |none=>none) else none
    |_=>none
   |_=>none
  |_,_=>none
 |.strBytes e x=>match ev x with
  |.string s=>if s.size<=2 ^ 62 then some (.slice (some ⟨U.n,0,none⟩) s.size s.size,U.push (.cells (s.data.toList.map λb=>.int .u8 b.toNat) ⟨1,e⟩ true false)) else none
  |_=>none
 |.bytesStr x=>match ev x with
  |.slice a n c=>match U.sl 1 (.slice a n c) with
   |some xs=>match Tf xs with|some s=>some (.string s,U)|none=>none
   |none=>none
  |_=>none
def Q4c (a b:Int):Int:=if b > a then b else a
theorem Q74 (a b:Int):Q4c (Q4c a b) b=Q4c a b:=by unfold Q4c;(repeat' split)<;>omega
def Q7 (o:VOp) (ev:Operand->Value) (U:Heap):Option (Value×Heap) :=
 match o with
 |.move x=>some (ev x,U)
 |.pick c a b=>match ev c with|.bool t=>some (if t then ev a else ev b,U)|_=>none
 |.arith op x y=>match ev x,ev y with|.int k a,.int k' b=>if k=k' then some (.int k (TI op k a b),U) else none|_,_=>none
 |.div op x y=>match ev x,ev y with|.int k a,.int k' b=>if k=k'/\b≠0 then some (.int k (Z33 op k a b),U) else none|_,_=>none
 |.bits op x y=>match ev x,ev y with|.int k a,.int k' b=>if k=k' then some (.int k (QB op k a b),U) else none|_,_=>none
 |.shift op x y=>match ev x,ev y with|.int k a,.int _ b=>if 0<=b then some (.int k (T8 op k a b),U) else none|_,_=>none
 |.cmp op x y=>match ev x,ev y with|.int k a,.int k' b=>if k=k' then some (.bool (Z3h op a b),U) else none|_,_=>none
 |.str op x y=>match ev x,ev y with
  |.string a,.string b=>match op with
   |.add=>if a.size+b.size<=2 ^ 62 then some (.string (a++b),U) else none
   |.eql=>some (.bool (a.data.toList==b.data.toList),U)
   |.neq=>some (.bool (!(a.data.toList==b.data.toList)),U)
   |.lss=>some (.bool (Op.bytesLess a.data.toList b.data.toList),U)
   |_=>none
  |_,_=>none
 |.eqB neg x y=>match ev x,ev y with|.bool a,.bool b=>some (.bool (if neg then !(a==b) else (a==b)),U)|_,_=>none
 |.un op x=>match op,ev x with
  |.not,.bool b=>some (.bool (!b),U)
  |.neg,.int k n=>some (.int k (k.wrap (0-n)),U)
  |.xor,.int k n=>some (.int k (QB .xor k (if k.signed then -1 else k.max) n),U)
  |_,_=>none
 |.convI k x=>match ev x with|.int _ n=>some (.int k (k.wrap n),U)|_=>none
 |.convS x=>match ev x with|.string s=>some (.string s,U)|_=>none
 |.alloc t z=>some (.pointer (some ⟨U.n,0,none⟩),U.push (.cells z ⟨z.length,t⟩ true true))
 |.box t x=>match VL (ev x) with
  |some vs=>some (.pointer (some ⟨U.n,0,none⟩),U.push (.cells vs ⟨vs.length,t⟩ true true))
  |none=>none
 |.build z parts=>match My z (parts.map λp=>(p.1,p.2.1,ev p.2.2)) with|some cs=>some (.agg cs.toArray,U)|none=>none
 |.buildSlice esz z len parts=>match My (Rx len z) (parts.map λp=>(p.1*esz.sz,esz.sz,ev p.2)) with
  |some cs=>some (.slice (some ⟨U.n,0,none⟩) len len,U.push (.cells cs esz true true))
  |none=>none
 |.load agg size a=>match ev a with
  |.pointer (some ⟨g,o,some _⟩)=>(match Q7e g with
   |some c=>if c.all Zy then (match YK agg size c o with|some v=>some (v,U)|none=>none) else none
   |none=>none)
  |.pointer (some ⟨i,o,none⟩)=>match U.get i with
   |some (.cells c _ _ _)=>match YK agg size c o with|some v=>some (v,U)|none=>none
   |_=>none
  |_=>none
 |.store size a v=>match ev a,VL (ev v) with
  |.pointer (some ⟨i,o,none⟩),some vs=>match U.get i with
   |some (.cells c e wr tight)=>if wr=true/\vs.length=size/\o+size<=c.length/\vs.all cellOk=true then some (undef,U.upd i (.cells (WR c o vs) e wr tight)) else none
   |_=>none
  |_,_=>none
 |.fieldAddr off a=>match ev a with
  |.pointer (some ⟨i,o,none⟩)=>some (.pointer (some ⟨i,o+off,none⟩),U)
  |_=>none
 |.field agg off size x=>match ev x with
  |.agg cs=>match YK agg size cs.toList off with|some v=>some (v,U)|none=>none
  |_=>none
 |.indexAddr size x i=>match ev x,ev i with
  |.slice (some ⟨b,o,none⟩) n _,.int _ k=>if 0<=k/\k<n then some (.pointer (some ⟨b,o+k.toNat*size,none⟩),U) else none
  |_,_=>none
 |.indexAddrArr len size x i=>match ev x,ev i with
  |.pointer (some ⟨g,o,some s⟩),.int _ k=>if 0<=k/\k<len then some (.pointer (some ⟨g,o+k.toNat*size,some s⟩),U) else none
  |.pointer (some ⟨b,o,none⟩),.int _ k=>if 0<=k/\k<len then some (.pointer (some ⟨b,o+k.toNat*size,none⟩),U) else none
  |_,_=>none
 |.indexStr x i=>match ev x,ev i with
  |.string s,.int _ k=>if 0<=k then (match s.data.toList[k.toNat]? with|some b=>some (.int .u8 b.toNat,U)|none=>none) else none
  |_,_=>none
 |.indexArr len agg size x i=>match ev x,ev i with
  |.agg cs,.int _ k=>if 0<=k/\k<len then (match YK agg size cs.toList (k.toNat*size) with|some v=>some (v,U)|none=>none) else none
  |_,_=>none
 |.slice size x lo hi mx =>
  match ev x with
  |.slice a n cap =>
   match Xs ev lo 0,Xs ev hi n,mx with
   |some l,some h,none=>K7 size U (.slice a n cap) l h none
   |some l,some h,some _=>match Xs ev mx 0,hi with
    |some m,some _=>K7 size U (.slice a n cap) l h (some m)
    |_,_=>none
   |_,_,_=>none
  |_=>none
 |.sliceStr x lo hi =>
  match ev x with
  |.string s =>
   match Xs ev lo 0,Xs ev hi s.size with
   |some l,some h=>if l<=h/\h<=s.size then some (.string (s.extract l h),U) else none
   |_,_=>none
  |_=>none
 |.makeSlice esz bytes z l c =>
  match ev l,ev c with
  |.int _ a,.int _ b=>if 0<=a/\a<=b/\b*bytes<=2 ^ 46/\b<=2 ^ 46 then some (.slice (some ⟨U.n,0,none⟩) a.toNat b.toNat,U.push (.cells (Rx b.toNat z) esz true true)) else none
  |_,_=>none
 |.len x=>match ev x with
  |.slice _ n _=>some (.int .i64 n,U)
  |_=>none
 |.lenStr x=>match ev x with
  |.string s=>some (.int .i64 s.size,U)
  |_=>none
 |.append esz bytes s x =>
  match U.sl esz.sz (ev x),ev x with
  |some xs,.slice _ m _=>if xs.all cellOk then Y2 esz bytes U (ev s) m xs else none
  |_,_=>none
 |.max4 x y z w=>match ev x,ev y,ev z,ev w with|.int k a,.int k2 b,.int k3 c,.int k4 d=>if k=k2/\k=k3/\k=k4 then some (.int k (Q4c (Q4c (Q4c a b) c) d),U) else none|_,_,_,_=>none
 |.max x y=>match ev x,ev y with|.int k a,.int k' b=>if k=k' then some (.int k (if b > a then b else a),U) else none|_,_=>none
 |.min x y=>match ev x,ev y with|.int k a,.int k' b=>if k=k' then some (.int k (if b<a then b else a),U) else none|_,_=>none
 |.makeFunc fn first cap=>some (.func fn (first.map ev).toArray (cap.map ev).toArray,U)
 |.iface t x=>match ev x with|.chan _=>none|v=>some (.iface t v,U)
 |.extract x i=>match ev x with
  |.tuple vs=>match vs.toList[i]? with|some v=>some (v,U)|none=>none
  |_=>none
 |.nilCheck x=>match ev x with
  |.pointer (some a)=>some (.pointer (some a),U)
  |.func (.func f) first cap=>some (.func (.func f) first cap,U)
  |_=>none
 |.ext o=>ZT o ev U
 |.callF ..|.callV ..|.bad=>none
def Zt {α:Type}(o:Option α) (f:α->Prop):Prop:=match o with|some a=>f a|none=>False
def vif (b:Bool) (A B:Prop):Prop:=(b=true->A)/\(b=false->B)
def Q6w (v:Value) (A B:Prop):Prop:=match v with|.bool t=>vif t A B|_=>False
abbrev Co:=List Value->Heap->(Value->Heap->Prop)->Prop
structure VSpecs where
 fn:FuncId->Option Co
 yl:Nat->Option Co
 it:FuncId->Option (Nat->Co->Co)
def vcall (S:VSpecs) (f:FuncId) (args:List Value) (U:Heap) (K:Value->Heap->Prop):Prop :=
 match S.fn f with
 |some s=>s args U K
 |none=>False
def Q1q (S:VSpecs) (i:Nat) (args:List Value) (U:Heap) (K:Value->Heap->Prop):Prop :=
 match S.yl i with
 |some s=>s args U K
 |none=>False
def Q08 (x:Value) (U:Heap) (K:Value->Heap->Prop):Prop :=
 match x with
 |.pointer (some ⟨i,0,none⟩)=>match U.get i with
  |some (.obj (.iter m since seen last) true)=>match U.mapAt m with
   |some (es,clock,_)=>(seen.isEmpty||es.isEmpty||es.any (λe=>decide (e.2.2<last)))=true/\es.all (λe=>UL e.1)=true /\
     (es.all (λe=>seen.contains e.2.2||decide (since<=e.2.2))=true->K (.tuple #[.bool false]) U) /\
     ∀ e∈es,seen.contains e.2.2=false->K (.tuple #[.bool true,e.1,e.2.1]) (U.upd i (.obj (.iter m since (seen++[e.2.2]) clock) true))
   |none=>False
  |_=>False
 |_=>False
def Ww (env:Env) (d:Option Nat) (v:Value):Env :=
 match d with
 |some d=>env.set d v
 |none=>env
def vop (S:VSpecs) (o:VOp) (env:Env) (U:Heap) (K:Value->Heap->Prop):Prop :=
 match o with
 |.callF f args=>vcall S f (args.map (Q5 env)) U K
 |.callV f args=>match Q5 env f with
  |.func (.func g) first cap=>vcall S g (first.toList++args.map (Q5 env)++cap.toList) U K
  |.func (.yield i) _ _=>Q1q S i (args.map (Q5 env)) U K
  |_=>False
 |.ext (.nextMap x)=>Q08 (Q5 env x) U K
 |o=>Zt (Q7 o (Q5 env) U) λp=>K p.1 p.2
def Xu (env:Env):Option (Nat×Bool)->Option Bool
 |none=>some true
 |some (d,want)=>match env.getD d undef with
  |.bool b=>some (b==want)
  |.tuple _=>some false
  |_=>none
def SQ (S:VSpecs):List VOper->Env->Heap->(Env->Heap->Prop)->Prop
 |[],env,U,K=>K env U
 |o::rest,env,U,K=>Zt (Xu env o.guard) λb =>
   vif b (vop S o.op env U λv U'=>SQ S rest (Ww env o.dst v) U' K) (SQ S rest (Ww env o.dst undef) U K)
def Q47:Value->Bool
 |.bool _|.int _ _|.string _|.pointer none|.slice none 0 0|.map none|.nilFunc|.nilIface=>true
 |.tuple vs=>vs.toList.all Zy
 |_=>false
def Heap.Le (U U':Heap):Prop:=U.n<=U'.n/\∀ i b,U.get i=some b->U'.get i=some b
def Hw (A:(Value->Heap->Prop)->Prop) (R:Value->Heap->Prop):Prop:=∃ v U',A (λv' aL=>v'=v/\aL=U')/\R v U'
def Wy (op:VOp) (ev:Operand->Value) (v:Value) (Z:Heap):Prop:=Zt (Q7 op ev Z) λq=>q.1=v
def WQ (r:Nat) (U:Heap):List (Nat×(Heap->Prop))->Prop
 |[]=>True
 |c::l=>(r<=c.1->c.2 U)/\WQ r U l
def waits:List Nat->List DOper->Bool
 |_,[]=>true
 |xs,o::r=>((o.kind==2)||(Q5b o.op.opds++(o.guard.map (·.1)).toList).any (λx=>xs.contains x))&&waits (o.dst.toList++xs) r
def J_ (S:VSpecs):List DOper->Env->List Heap->Heap->List (Nat×(Heap->Prop))->(Env->Heap->Prop)->Prop
 |[],env,_,U,_,K=>K env U
 |o::rest,env,hs,U,pend,K=>Zt (Xu env o.guard) λb =>
   vif b (if o.kind=2 then (Hw (λR=>vop S o.op env U R) λv U'=>WQ hs.length U' pend/\J_ S rest (Ww env o.dst v) (hs++[U']) U' pend K) \/
      (waits o.dst.toList rest=true/\vop S o.op env U λv U'=>WQ hs.length U' pend/\J_ S rest (Ww env o.dst v) (hs++[U']) U' pend K)
     else if o.kind=1 then Zt (Q7 o.op (Q5 env) U) λp=>(∀ Z∈hs.drop o.kmin,Wy o.op (Q5 env) p.1 Z) /\
      J_ S rest (Ww env o.dst p.1) hs U (if hs.length<=o.kmax then (o.kmax,Wy o.op (Q5 env) p.1)::pend else pend) K
     else Zt (Q7 o.op (Q5 env) U) λp=>J_ S rest (Ww env o.dst p.1) hs U pend K)
    (if o.kind=2 then WQ hs.length U pend/\J_ S rest (Ww env o.dst undef) (hs++[U]) U pend K else J_ S rest (Ww env o.dst undef) hs U pend K)
def DropE (σ0:Heap) (env:Env) (U:Heap) (ah:Env) (U':Heap):Prop :=
 ∀ ρ0 w0 ρ w cs,HRel ρ0 σ0 w0->Ext ρ0 σ0 w0 ρ U w->HRel ρ U w->LRel ρ U.n env cs->∃ ρ',LRel ρ' U'.n ah cs/\HRel ρ' U' w/\Ext ρ0 σ0 w0 ρ' U' w
theorem DropE.refl (σ0:Heap) (env:Env) (U:Heap):DropE σ0 env U env U:=λ_ _ ρ _ _ _ hE hH hL=>⟨ρ,hL,hH,hE⟩
def Dd (S:VSpecs):List DSeg->Env->Heap->(Env->Heap->Prop)->Prop
 |[],env,U,K=>K env U
 |.one o::rest,env,U,K=>SQ S [o] env U λenv U=>Dd S rest env U K
 |.alts l::rest,env,U,K=>∀ ops∈l,J_ S ops env [U] U [] λbn σ1=>∃ aT σ2,DropE U bn σ1 aT σ2/\Dd S rest aT σ2 K
def TN (live:List Nat) (env:Env):List Value:=live.map λi=>env.getD i poison
def Yt:List Nat->List Value->Env->Env
 |i::l,v::vs,env=>Yt l vs (env.set i v)
 |_,_,env=>env
def Z8h (W:(Exit->Env->Heap->Prop)->Env->Heap->Prop) (Q:Exit->Env->Heap->Prop) (env:Env) (U:Heap):Prop :=
 ∃ (live:List Nat) (I:Nat->List Value->Heap->Prop) (n0:Nat),I n0 (TN live env) U /\
  ∀ n vs U',I n vs U'->W (λe ah aL=>match e with
   |.normal=>∃ n',n'<n/\I n' (TN live ah) aL
   |e=>Q e ah aL) (Yt live vs (List.replicate env.length poison)) U'
def J14 (R:Env->Heap->Prop) (Q:Exit->Env->Heap->Prop):Exit->Env->Heap->Prop
 |.normal,env,U=>R env U
 |e,env,U=>Q e env U
def Q1z (id:Nat) (Q:Exit->Env->Heap->Prop):Exit->Env->Heap->Prop
 |.exit gV,env,U=>if gV=id then Q .normal env U else Q (.exit gV) env U
 |e,env,U=>Q e env U
def Ly:Env->List Nat->List Value->Env
 |env,p::ps,v::vs=>Ly (env.set p v) ps vs
 |env,_,_=>env
def Z4t (env:Env) (r:Loop) (i:Nat) (K:Value->Heap->Prop):Exit->Env->Heap->Prop:=λe _ U =>
 U.get i=some (.obj (.lp env r .busy none) true)/\match e with
  |.normal=>K (.bool true) (U.upd i (.obj (.lp env r .ready none) true))
  |.ret=>K (.bool false) (U.upd i (.obj (.lp env r .done (some .ret)) true))
  |.exit id=>K (.bool false) (U.upd i (.obj (.lp env r .done (some (.exit id))) true))
  |_=>False
def Q0y (A B:(Exit->Env->Heap->Prop)->Env->Heap->Prop) (ps:List Nat) (env:Env) (r:Loop) (i:Nat):Co:=λargs U K =>
 U.get i=some (.obj (.lp env r .ready none) true)/\args.length=ps.length /\
  A (J14 (λbn σ1=>σ1.get i=some (.obj (.lp env r .ready none) true)/\B (Z4t env r i K) bn (σ1.upd i (.obj (.lp env r .busy none) true))) (λ_ _ _=>False)) (Ly env ps args) U
def Q93 (Q:Exit->Env->Heap->Prop) (env:Env) (i:Nat):Value->Heap->Prop:=λ_ U =>
 match U.get i with
 |some (.obj (.lp _ _ st pend) true)=>st≠.busy/\match pend with
  |none=>Q .normal env (U.kill i)
  |some .ret=>Q .ret env (U.kill i)
  |some (.exit id)=>Q (.exit id) env (U.kill i)
  |some _=>False
 |_=>False
def J1j (U:Heap):Option Nat->Prop
 |none=>True
 |some i=>∃ env r st pend,U.get i=some (.obj (.lp env r st pend) true)
def O9 (S:VSpecs) (ro:Option Nat) (A B:Option Nat->(Exit->Env->Heap->Prop)->Env->Heap->Prop) (g:Value) (ps:List Nat) (Q:Exit->Env->Heap->Prop) (env:Env) (U:Heap):Prop :=
 match g with
 |.func (.func f) first cap=>match S.it f with
  |some T=>J1j U ro/\∀ r:Loop,T U.n (Q0y (A (some U.n)) (B (some U.n)) ps env r U.n) (first.toList++[.func (.yield U.n) #[] #[]]++cap.toList) (U.push (.obj (.lp env r .ready none) true)) (Q93 Q env U.n)
  |none=>False
 |_=>False
def vwp (S:VSpecs):VCode->Option Nat->(Exit->Env->Heap->Prop)->Env->Heap->Prop
 |.skip,_,Q,env,U=>Q .normal env U
 |.region ops,_,Q,env,U=>SQ S ops env U λenv U=>Q .normal env U
 |.regionD aU,_,Q,env,U=>Dd S aU env U λenv U=>Q .normal env U
 |.seq a b,ro,Q,env,U=>vwp S a ro (J14 (vwp S b ro Q) Q) env U
 |.cond c a b,ro,Q,env,U=>Q6w (Q5 env c) (vwp S a ro Q env U) (vwp S b ro Q env U)
 |.block id b,ro,Q,env,U=>vwp S b ro (Q1z id Q) env U
 |.loop b,ro,Q,env,U=>Z8h (vwp S b ro) Q env U
 |.rangeF g ps a b,ro,Q,env,U=>O9 S ro (vwp S a) (vwp S b) (Q5 env g) ps Q env U
 |.exit id,_,Q,env,U=>Q (.exit id) env U
 |.ret,_,Q,env,U=>Q .ret env U
 |.bad,_,_,_,_=>False
inductive VResult where
 |tmp (t:Nat)
 |cell (a:Nat) (agg:Bool) (size:Nat)
def Wc (P:Program):ResultVar->Option VResult
 |.tmp t=>some (.tmp t)
 |.cell a t =>
  match P.info? t,P.underlying t with
  |some i,some d=>some (.cell a (Mb d) i.size)
  |_,_=>none
def NC (P:Program) (rs:List ResultVar):Option (List VResult):=rs.mapM (Wc P)
def W2 (env:Env) (U:Heap):VResult->Option Value
 |.tmp t=>some (env.getD t undef)
 |.cell a agg size=>(Q7 (.load agg size (.tmp a)) (Q5 env) U).map (·.1)
def Wq (env:Env) (U:Heap) (rs:List VResult):Option Value :=
 match rs with
 |[r]=>W2 env U r
 |rs=>(rs.mapM (W2 env U)).map λvs=>.tuple vs.toArray
def Z5r (rs:List VResult) (R:Value->Heap->Prop):Exit->Env->Heap->Prop
 |.normal,env,U|.ret,env,U=>Zt (Wq env U rs) λv=>R v U
 |_,_,_=>False
theorem Y7 (b:Nat):∀ (vs:List Value) (o:Nat) (w:World) (k:Nat),k≠b->(w.setCells b o vs).heap[k]?=w.heap[k]?
 |[],_,_,_,_=>rfl
 |v::r,o,w,k,h=>by
  rw[World.setCells,Y7 b r (o+1) _ k h]
  grind [heap_setCell_other]
theorem YS (b:Nat):∀ (vs:List Value) (o:Nat) (w:World),(w.setCells b o vs).heap.size=w.heap.size
 |[],_,_=>rfl
 |v::r,o,w=>by rw[World.setCells,YS b r];exact World.size_setCell w _ _
theorem Bz (b:Nat):∀ (vs:List Value) (o:Nat) (w:World),(w.setCells b o vs).os=w.os/\(w.setCells b o vs).tape=w.tape/\(w.setCells b o vs).output=w.output
 |[],_,_=>⟨rfl,rfl,rfl⟩
 |v::r,o,w=>by rw[World.setCells];exact Bz b r (o+1) _
theorem UK (b:Nat):∀ (vs:List Value) (o:Nat) (w:World) (C:Array Value) (e:TypeId) (f:Nat×Nat),w.heap[b]?=some (.cells C e f) ->
  ∃ C',(w.setCells b o vs).heap[b]?=some (.cells C' e f)/\C'.size=C.size
 |[],_,_,C,_,_,h=>⟨C,h,rfl⟩
 |v::r,o,w,C,e,f,h=>by
  have h1:(w.setCell ⟨b,o,none⟩ v).heap[b]?=some (.cells (C.setIfInBounds o v) e f):=by simp only[World.setCell,Array.getElem?_modify,zq,h];simp
  obtain⟨C',h2,h3⟩:=UK b r (o+1) _ _ e f h1;exact⟨C',by rw[World.setCells];exact h2,by rw[h3];simp⟩
theorem Yw (vs:List Value):∀ (c:List Value) (o:Nat),(WR c o vs).length=c.length:=by
 induction vs with
 |nil=>intro c o;rfl
 |cons v r ih=>intro c o;rw[WR,ih];simp
theorem Um (vs:List Value):∀ (c:List Value) (o k:Nat),(k<o\/o+vs.length<=k)->(WR c o vs)[k]?=c[k]?:=by
 induction vs with
 |nil=>intro c o k _;rfl
 |cons v r ih =>intro c o k h;rw[WR,ih _ _ _ (by simp at h;omega),List.getElem?_set_ne (by simp at h;omega)]
theorem E7 (vs:List Value):∀ (c:List Value) (o k:Nat),o+vs.length<=c.length->k<vs.length->(WR c o vs)[o+k]?=vs[k]?:=by
 induction vs with
 |nil=>intro c o k _ h;simp at h
 |cons v r ih =>
  intro c o k h hk;simp at h hk;cases k with
  |zero=>rw[WR,Um _ _ _ _ (by left;omega),z_,List.getElem?_set_self (by omega)];rfl
  |succ k =>rw[WR,show o+(k+1)=o+1+k by omega,ih _ _ _ (by simp;omega) (by omega)];simp
theorem BRel.q0s {ρ:Plc}{n:Nat}{p:Pl}{w:World}{c:List Value}{esz:El}{wr tight:Bool}(h:BRel ρ n p w (.cells c esz wr tight)) (k:Nat) (hk:k<p.ext):(w.cell? ⟨p.blk,p.shift+k,none⟩).isSome=true:=by
 obtain⟨_,_,_,⟨C,e,f,h1,h2⟩,_⟩:=h;have h3:p.shift+k<C.size:=by omega
 simp[World.cell?,h1,h3]
theorem BRel.other {ρ ρ':Plc}{n n':Nat}{q:Pl}{w w':World}{b:Blk}(hn:n<=n') (hρ:∀ i,i<n->∀ p,ρ' i=some p->ρ i=some p) (B:Nat) (C:Array Value) (e:TypeId) (f:Nat×Nat) (hB:w.heap[B]?=some (.cells C e f))
  (aK:0<q.ext->B≠q.blk) (hC:∃ C' f',w'.heap[B]?=some (.cells C' e f')/\C.size<=C'.size) (ho:∀ k,k≠B->k<w.heap.size->w'.heap[k]?=w.heap[k]?) (hq:q.blk<w.heap.size) (h:BRel ρ n q w b):BRel ρ' n' q w' b:=by
 by_cases hk:q.blk=B
 .have h0:q.ext=0:=by
   omega
  cases b with
  |cells c esz wr tight =>
   obtain⟨h1,h2,h3,⟨C0,e0,f0,h4,iJ⟩,h5,h6⟩:=h;have hc:c=[]:=xp.1 (by omega);obtain⟨C',f',mf,oq⟩:=hC;have ta:C0=C/\e0=e:=by simp_all
   obtain⟨rfl,rfl⟩:=ta;refine⟨h1,h2,by omega,(by grind),λk v hv=>by simp[hc] at hv,(by simp_all)⟩
  |obj o wr=>have:=h.1;omega
 .exact h.mono hn hρ (ho _ hk hq)
theorem HRel0.store {ρ:Plc}{U:Heap}{w:World}(h:HRel0 ρ U w) {i:Nat}{p:Pl}{c:List Value}{esz:El}{tight:Bool}(hp:ρ i=some p) (hb:U.get i=some (.cells c esz true tight))
  {o:Nat}{vs cs:List Value}(hv:LRel ρ U.n vs cs) (ho:o+vs.length<=c.length) :
  HRel0 ρ (U.upd i (.cells (WR c o vs) esz true tight)) (w.setCells p.blk (p.shift+o) cs)/\Ext ρ U w ρ (U.upd i (.cells (WR c o vs) esz true tight)) (w.setCells p.blk (p.shift+o) cs):=by
 have hi:=U.lt hb;obtain⟨p',bz,hB⟩:=h.live i _ hb;obtain rfl:p=p':=osj (hp.symm.trans bz);obtain⟨h1,h2,h3,⟨C,e,f,h4,iJ⟩,h5,h6⟩:=hB;obtain⟨C',mf,oq⟩:=UK p.blk cs (p.shift+o) w C e f h4;have cz:vs.length=cs.length:=hv.1;refine⟨⟨λj b hj=>?_,λj hj=>?_,λj q hq=>by rw[YS];exact h.lt j q hq,λj k q r b dY hq hr cm hw hx=>?_⟩,?_⟩
 .by_cases aN:j=i
  .subst aN;rw[Heap.q0d _ _ hi] at hj;obtain rfl:=osj hj;refine⟨p,hp,h1,h2,by rw[Yw];exact h3,⟨C',e,f,mf,by omega,iJ.2⟩,λk v hk=>?_,(by grind [World.frozen?_setCells])⟩;have cr:k<c.length:=by grind [List.getElem?_eq_some_iff,Yw]
   by_cases bH:k<o\/o+vs.length<=k
   .rw[Um _ _ _ _ bH] at hk;obtain⟨u,hu,cA⟩:=h5 k v hk;exact⟨u,by grind [World.cell?_setCells_out],cA⟩
   .have ot:k=o+(k-o):=by omega
    rw[ot,E7 _ _ _ _ ho (by omega)] at hk;obtain⟨u,hu,cA⟩:=hv.get hk;have ou:k-o<cs.length:=(zp.1 hu).1;refine⟨u,?_,cA⟩;have:=World.cell?_setCells_in p.blk cs (p.shift+o) w (λj hj=>by
     rw[zu];exact BRel.q0s (ρ:=ρ) (n:=U.n) ⟨h1,h2,h3,⟨C,e,f,h4,iJ⟩,h5,h6⟩ _ (by omega)) (k-o) ou
    grind
  .rw[Heap.q0b _ _ aN] at hj;obtain⟨q,hq,eZ⟩:=h.live j b hj;refine⟨q,hq,eZ.other (by exact z9 _) (λ_ _ _ h=>h) p.blk C e f h4 (λhx=>h.sep i j p q _ (Ne.symm aN) hp hq hb rfl hx) ⟨C',f,mf,by omega⟩ (by grind [Y7]) (h.lt j q hq)⟩
 .by_cases aN:j=i
  .grind [Heap.q0d]
  .rw[Heap.q0b _ _ aN] at hj;exact h.dead j hj
 .by_cases aN:j=i
  .subst aN;exact h.sep j k q r _ dY hq hr hb rfl hx
  .rw[Heap.q0b _ _ aN] at cm;exact h.sep j k q r b dY hq hr cm hw hx
 .obtain⟨e1,e2,e3⟩:=Bz p.blk cs (p.shift+o) w;refine⟨e1,e2,e3,by rw[YS];exact z9 _,λB hB hW=>Y7 _ _ _ _ _ (λe=>hW ⟨i,p,_,hp,hb,rfl,e.symm⟩),?_,z9 _,λ_ _ _ h=>h⟩;rintro B _ ⟨j,q,b,hq,bX,hw,rfl⟩;by_cases aN:j=i
  .subst aN;exact⟨j,q,_,hq,hb,rfl,rfl⟩
  .rw[Heap.q0b _ _ aN] at bX;exact⟨j,q,b,hq,bX,hw,rfl⟩
theorem HRel0.onto {ρ:Plc}{U:Heap}{w:World}(h:HRel0 ρ U w) {i:Nat}{p:Pl}{c:List Value}{esz:El}(hp:ρ i=some p) (hb:U.get i=some (.cells c esz true false))
  (o':Nat) {bF vs cs:List Value}(hold:∀ k v,bF[k]?=some v->∃ u,w.cell? ⟨p.blk,p.shift+o'+k,none⟩=some u/\VRel ρ U.n v u) (hv:LRel ρ U.n vs cs) (ho:o'+bF.length+vs.length<=p.ext) :
  ∃ ρ',ρ' U.n=some ⟨p.blk,p.shift+o',p.ext-o',esz,false⟩/\HRel0 ρ' ((U.kill i).push (.cells (bF++vs) esz true false)) (w.setCells p.blk (p.shift+o'+bF.length) cs) /\
   Ext ρ U w ρ' ((U.kill i).push (.cells (bF++vs) esz true false)) (w.setCells p.blk (p.shift+o'+bF.length) cs):=by
 have hi:=U.lt hb;obtain⟨p',bz,hB⟩:=h.live i _ hb;obtain rfl:p=p':=osj (hp.symm.trans bz);have dm:=hB;obtain⟨h1,h2,h3,⟨C,e,f,h4,iJ⟩,h5,h6⟩:=hB;obtain⟨C',mf,oq⟩:=UK p.blk cs (p.shift+o'+bF.length) w C e f h4;have cz:vs.length=cs.length:=hv.1;let P':Pl:=⟨p.blk,p.shift+o',p.ext-o',esz,false⟩;let ρ':Plc:=(ρ.put i none).put U.n (some P');have gW:ρ' U.n=some P':=by simp[ρ',Plc.put]
 have gx:ρ' i=none:=by simp only[ρ',Plc.put];rw[z6 (by omega)];simp
 have fA:∀ j,j≠U.n->j≠i->ρ' j=ρ j:=λj h1 h2=>by simp[ρ',Plc.put,h1,h2]
 have aY:∀ j,j<U.n->∀ q,ρ' j=some q->ρ j=some q:=(by grind);refine⟨ρ',gW,⟨λj b hj=>?_,λj hj=>?_,λj q hq=>?_,λj k q r b dY hq hr cm hw hx=>?_⟩,?_⟩
 .by_cases aQ:j=U.n
  .subst aQ;have iK:((U.kill i).push (.cells (bF++vs) esz true false)).get U.n=some (.cells (bF++vs) esz true false):=Heap.q0a (U.kill i) _;rw[iK] at hj;obtain rfl:=osj hj;refine⟨P',gW,rfl,rfl,by simp[P'];omega,(by grind),λk v hk=>?_,λ_=>⟨(λh=>by cases h),λk hk=>?_⟩⟩
   .by_cases bH:k<bF.length
    .rw[x9 bH] at hk;obtain⟨u,hu,cA⟩:=hold k v hk;exact⟨u,by grind [World.cell?_setCells_out],cA.mono (by simp) aY⟩
    .rw[xn (by omega)] at hk;obtain⟨u,hu,cA⟩:=hv.get hk;have ou:k-bF.length<cs.length:=(zp.1 hu).1;refine⟨u,?_,cA.mono (by simp) aY⟩;have:=World.cell?_setCells_in p.blk cs (p.shift+o'+bF.length) w (λj hj=>by
      rw[zu,zu];exact dm.q0s _ (by omega)) (k-bF.length) ou
     grind
   grind [World.frozen?_setCells]
  .have cN:(U.kill i).get j=some b:=by rw[<-hj];exact(Heap.q0e (U.kill i) _ aQ).symm
   by_cases aN:j=i
   .grind [Heap.q0g]
   .rw[Heap.q0c _ aN] at cN;obtain⟨q,hq,eZ⟩:=h.live j b cN;exact⟨q,by rw[fA j aQ aN];exact hq,eZ.other (by simp) aY p.blk C e f h4 (λhx=>h.sep i j p q _ (Ne.symm aN) hp hq hb rfl hx) ⟨C',f,mf,by omega⟩ (by grind [Y7]) (h.lt j q hq)⟩
 .by_cases aQ:j=U.n
  .subst aQ;have iK:((U.kill i).push (.cells (bF++vs) esz true false)).get U.n=some (.cells (bF++vs) esz true false):=Heap.q0a (U.kill i) _;rw[iK] at hj;cases hj
  .have cN:(U.kill i).get j=none:=by rw[<-hj];exact(Heap.q0e (U.kill i) _ aQ).symm
   by_cases aN:j=i
   .subst aN;exact gx
   .rw[Heap.q0c _ aN] at cN;rw[fA j aQ aN];exact h.dead j cN
 .rw[YS];by_cases aQ:j=U.n
  .grind
  .by_cases aN:j=i
   .subst aN;rw[gx] at hq;cases hq
   .rw[fA j aQ aN] at hq;exact h.lt j q hq
 .by_cases aQ:j=U.n
  .subst aQ;rw[gW] at hq;obtain rfl:=osj hq;by_cases kg:k=i
   .subst kg;rw[gx] at hr;cases hr
   .rw[fA k (Ne.symm dY) kg] at hr;exact h.sep i k p r _ (Ne.symm kg) hp hr hb rfl hx
  .have b9:(U.kill i).get j=some b:=by rw[<-cm];exact(Heap.q0e (U.kill i) _ aQ).symm
   by_cases aN:j=i
   .subst aN;rw[gx] at hq;cases hq
   rw[Heap.q0c _ aN] at b9;rw[fA j aQ aN] at hq;by_cases gy:k=U.n
   .subst gy;rw[gW] at hr;obtain rfl:=osj hr;have rp:0<p.ext:=by simp[P'] at hx;omega
    exact h.sep j i q p b aN hq hp b9 hw rp
   .by_cases kg:k=i
    .subst kg;rw[gx] at hr;cases hr
    .rw[fA k gy kg] at hr;exact h.sep j k q r b dY hq hr b9 hw hx
 .obtain⟨e1,e2,e3⟩:=Bz p.blk cs (p.shift+o'+bF.length) w;refine⟨e1,e2,e3,by rw[YS];exact z9 _,λB hB hW=>Y7 _ _ _ _ _ (λe=>hW ⟨i,p,_,hp,hb,rfl,e.symm⟩),?_,by simp,aY⟩;rintro B _ ⟨j,q,b,hq,bX,hw,rfl⟩;by_cases aQ:j=U.n
  .subst aQ;rw[gW] at hq;obtain rfl:=osj hq;exact⟨i,p,_,hp,hb,rfl,rfl⟩
  .have b9:(U.kill i).get j=some b:=by rw[<-bX];exact(Heap.q0e (U.kill i) _ aQ).symm
   by_cases aN:j=i
   .subst aN;rw[gx] at hq;cases hq
   rw[Heap.q0c _ aN] at b9;rw[fA j aQ aN] at hq;exact⟨j,q,b,hq,b9,hw,rfl⟩
section
variable {ρ:Plc}{U:Heap}{w:World}
theorem HRel.store (h:HRel ρ U w) {i:Nat}{p:Pl}{c:List Value}{esz:El}{tight:Bool}(hp:ρ i=some p) (hb:U.get i=some (.cells c esz true tight))
  {o:Nat}{vs cs:List Value}(hv:LRel ρ U.n vs cs) (ho:o+vs.length<=c.length) :
  HRel ρ (U.upd i (.cells (WR c o vs) esz true tight)) (w.setCells p.blk (p.shift+o) cs)/\Ext ρ U w ρ (U.upd i (.cells (WR c o vs) esz true tight)) (w.setCells p.blk (p.shift+o) cs) :=
 let ⟨h2,h3⟩:=h.core.store hp hb hv ho
 ⟨h.ext h2 h3,h3⟩
theorem HRel.onto (h:HRel ρ U w) {i:Nat}{p:Pl}{c:List Value}{esz:El}(hp:ρ i=some p) (hb:U.get i=some (.cells c esz true false))
  (o':Nat) {bF vs cs:List Value}(hold:∀ k v,bF[k]?=some v->∃ u,w.cell? ⟨p.blk,p.shift+o'+k,none⟩=some u/\VRel ρ U.n v u) (hv:LRel ρ U.n vs cs) (ho:o'+bF.length+vs.length<=p.ext) :
  ∃ ρ',ρ' U.n=some ⟨p.blk,p.shift+o',p.ext-o',esz,false⟩/\HRel ρ' ((U.kill i).push (.cells (bF++vs) esz true false)) (w.setCells p.blk (p.shift+o'+bF.length) cs) /\
   Ext ρ U w ρ' ((U.kill i).push (.cells (bF++vs) esz true false)) (w.setCells p.blk (p.shift+o'+bF.length) cs) :=
 let ⟨ρ',h1,h2,h3⟩:=h.core.onto hp hb o' hold hv ho
 ⟨ρ',h1,h.ext h2 h3,h3⟩
end
end Go.V
namespace Go.V
open Go
structure Like (ρ:Plc) (w w':World):Prop where
 size:w.heap.size<=w'.heap.size
 blk:∀ i p,ρ i=some p->w'.heap[p.blk]?=w.heap[p.blk]?
 tab:∀ g cs,Q7e g=some cs->w'.heap[g]?=w.heap[g]?
theorem Like.refl (ρ:Plc) (w:World):Like ρ w w:=⟨z9 _,λ_ _ _=>rfl,λ_ _ _=>rfl⟩
section inv
variable {ρ:Plc}{n:Nat}{c:Value}
theorem VRel.q0f {k:IntKind}{x:Int}(h:VRel ρ n (.int k x) c):c=.int k x:=by cases h;rfl
theorem VRel.q1d {b:Bool}(h:VRel ρ n (.bool b) c):c=.bool b:=by cases h;rfl
theorem VRel.q0p {s:ByteArray}(h:VRel ρ n (.string s) c):c=.string s:=by cases h;rfl
theorem VRel.q1l {l k:Nat}(h:VRel ρ n (.slice none l k) c):l=0/\k=0/\c=.slice none 0 0:=by cases h;exact⟨rfl,rfl,rfl⟩
theorem VRel.q0u {i o:Nat}{p:Pl}(hp:ρ i=some p) (h:VRel ρ n (.pointer (some ⟨i,o,none⟩)) c):(none:Option Nat)=none/\i<n/\c=.pointer (some ⟨p.blk,p.shift+o,none⟩):=by
 cases h with
 |ptr _ _ a hi h=>exact⟨rfl,hi,by rw[h p hp]⟩
theorem VRel.q1j {cs:Array Value}(h:VRel ρ n (.agg cs) c):∃ ds:Array Value,c=.agg ds/\LRel ρ n cs.toList ds.toList:=by
 cases h with
 |agg _ ds hc h=>exact⟨ds,rfl,LRel.of_array hc h⟩
theorem VRel.q1k {cs:Array Value}(h:VRel ρ n (.tuple cs) c):∃ ds:Array Value,c=.tuple ds/\LRel ρ n cs.toList ds.toList:=by
 cases h with
 |tuple _ ds hc h=>exact⟨ds,rfl,LRel.of_array hc h⟩
end inv
theorem YP {ρ:Plc}{n:Nat}{v:Value}(h:Zy v=true):VRel ρ n v v:=by unfold Zy at h;split at h<;>first|constructor|cases h
theorem WU {ρ:Plc}{n:Nat}{l:List Value}(h:l.all Zy=true):LRel ρ n l l:=by
 refine⟨rfl,λi v c hv hc=>?_⟩
 grind [osj,YP,List.all_eq_true,List.mem_of_getElem?]
theorem Nx {ρ:Plc}{n:Nat}{v:Value}(h:UL v=true):VRel ρ n v v:=by
 unfold UL at h;split at h
 .rename_i cs;have:=VRel.q1m (WU (ρ:=ρ) (n:=n) h);simpa using this
 .rename_i cs;have:=VRel.q0j (WU (ρ:=ρ) (n:=n) h);simpa using this
 .exact YP h
theorem Wa {ρ:Plc}{n:Nat}:VRel ρ n undef undef:=Nx rfl
theorem YT {ρ:Plc}{n:Nat}{env:Env}{a:Act}(h:LRel ρ n env a.tmps.toList) {x:Operand}(hx:WZ x=true):VRel ρ n (Q5 env x) (a.eval x):=by
 cases x with
 |tmp t =>
  simp only[Q5,Act.eval];have e:List.length env=a.tmps.size:=by have:=h.1;omega
  rcases zm t (List.length env) with ht|ht
  .have o8:t<a.tmps.size:=by rw[<-e];exact ht
   have:=h.2 t env[t] a.tmps[t] (z8 ht) (by simp[o8]);simp_all
  .grind [Nat.not_lt,List.getElem?_eq_none,Wa]
 |const v=>exact Nx hx
 |global g=>exact .glob g 0 0
 |func f=>exact .func _ #[] #[] #[] #[] rfl rfl (λi h1=>by simp at h1) (λi h1=>by simp at h1)
theorem LL {ρ:Plc}{w w':World}(hl:Like ρ w w') {i:Nat}{p:Pl}(hp:ρ i=some p) (o:Nat):w'.cell? ⟨p.blk,o,none⟩=w.cell? ⟨p.blk,o,none⟩ :=
 World.cell?_of_block (a:=⟨p.blk,o,none⟩) (hl.blk i p hp)
section
variable {P:Program}{ρ:Plc}{U:Heap}{w:World}
theorem N4 {t:TypeId}{d:TypeDesc}(h:P.underlying t=some d) (w:World):(isAgg t).run P w=.ok (Mb d) w:=by cases d<;>simp[isAgg,run_underlying h,Mb]
theorem Qj {t:TypeId}{i:TypeInfo}(h:P.info? t=some i) (w:World):(sizeOf t).run P w=.ok i.size w:=by simp[sizeOf,run_typeInfo w h]
theorem Yl (b o n:Nat):(⟨b,o,none⟩:Addr).add n=⟨b,o+n,none⟩:=by unfold Addr.add;split<;>simp_all
theorem Q1s (hH:HRel ρ U w) {t:TypeId}{ti:TypeInfo}{d:TypeDesc}(h1:P.info? t=some ti) (h2:P.underlying t=some d) {i o:Nat}{c:List Value}{esz:El}{wr tight:Bool}{v x:Value}
  (hb:U.get i=some (.cells c esz wr tight)) (hv:YK (Mb d) ti.size c o=some v) (hx:VRel ρ U.n (.pointer (some ⟨i,o,none⟩)) x) :
  ∃ u,VRel ρ U.n v u/\∀ w',Like ρ w w'->(Instr.loadAt t x).run P w'=.ok u w':=by
 obtain⟨p,hp,_,_,_,_,h5,_⟩:=hH.live i _ hb;obtain⟨_,_,rfl⟩:=hx.q0u hp;unfold YK at hv;cases eO:Mb d with
 |false =>
  simp[eO] at hv;obtain⟨u,hu,cA⟩:=h5 o v hv;refine⟨u,cA,λw' hl=>?_⟩;have:w'.cell? ⟨p.blk,p.shift+o,none⟩=some u:=by rw[LL hl hp];exact hu
  simp[Instr.loadAt,Instr.sureAddr,loadVar,N4 h2,eO,this]
 |true =>
  simp only[eO,zq] at hv;split at hv
  .rename_i hlen;simp at hv;subst hv;have hex:∃ us:List Value,us.length=ti.size/\∀ k,k<ti.size->∃ u,us[k]?=some u/\w.cell? ⟨p.blk,p.shift+o+k,none⟩=some u/\∀ v,c[o+k]?=some v->VRel ρ U.n v u:=by
    refine⟨(List.range ti.size).map λk=>(w.cell? ⟨p.blk,p.shift+o+k,none⟩).getD undef,by simp,λk hk=>?_⟩;obtain⟨u,hu,cA⟩:=h5 (o+k) _ (z8 (by omega))
    grind
   obtain⟨us,tc,eD⟩:=hex;refine⟨.agg us.toArray,VRel.q1m ⟨by simp;omega,λk v u hk hu=>?_⟩,λw' hl=>?_⟩
   .grind
   .have cO:∀ j v,us[j]?=some v->w'.cell? ((⟨p.blk,p.shift+o,none⟩:Addr).add j)=some v:=λj v hj=>by
     have cP:j<ti.size:=by grind
     obtain⟨u',dt,cX,_⟩:=eD j cP;rw[hj] at dt;obtain rfl:=osj dt;rw[Yl,LL hl hp];exact cX
    have:=run_loadCells_list (P:=P) w' ⟨p.blk,p.shift+o,none⟩ us cO;rw[tc] at this;simp[Instr.loadAt,Instr.sureAddr,loadVar,N4 h2,eO,Qj h1,this]
  .cases hv
theorem Iq (hH:HRel ρ U w) {t:TypeId}{ti:TypeInfo}{d:TypeDesc}(h1:P.info? t=some ti) (h2:P.underlying t=some d) {g o s:Nat}{c:List Value}{v x:Value}
  (hb:Q7e g=some c) (aY:c.all Zy=true) (hv:YK (Mb d) ti.size c o=some v) (hx:VRel ρ U.n (.pointer (some ⟨g,o,some s⟩)) x) :
  ∃ u,VRel ρ U.n v u/\∀ w',Like ρ w w'->(Instr.loadAt t x).run P w'=.ok u w':=by
 obtain⟨⟨e,f,hw⟩,_⟩:=hH.tab g c hb;obtain rfl:x=.pointer (some ⟨g,o,none⟩):=by cases hx;rfl
 have bI:∀ w',Like ρ w w'->∀ k,w'.cell? ⟨g,k,none⟩=c[k]?:=λw' hl k=>by have:=hl.tab g c hb;simp[World.cell?,this,hw]
 unfold YK at hv;cases eO:Mb d with
 |false =>
  simp[eO] at hv;refine⟨v,YP (by grind),λw' hl=>?_⟩;have:w'.cell? ⟨g,o,none⟩=some v:=by rw[bI w' hl];exact hv
  simp[Instr.loadAt,Instr.sureAddr,loadVar,N4 h2,eO,this]
 |true =>
  simp only[eO,zq] at hv;split at hv
  .rename_i hlen;simp at hv;subst hv;have hall:((c.drop o).take ti.size).all Zy=true:=(by grind);refine⟨_,VRel.q1m (WU hall),λw' hl=>?_⟩;have cO:∀ j v,((c.drop o).take ti.size)[j]?=some v->w'.cell? ((⟨g,o,none⟩:Addr).add j)=some v:=(by grind [Yl]);have:=run_loadCells_list (P:=P) w' ⟨g,o,none⟩ _ cO;have b_:((c.drop o).take ti.size).length=ti.size:=by grind
   rw[b_] at this;simp[Instr.loadAt,Instr.sureAddr,loadVar,N4 h2,eO,Qj h1,this]
  .cases hv
theorem Q1p {t:TypeId}{ti:TypeInfo}{d:TypeDesc}(h1:P.info? t=some ti) (h2:P.underlying t=some d) {cs ds:Array Value}{o:Nat}{v:Value}{n:Nat}
  (hv:YK (Mb d) ti.size cs.toList o=some v) (hl:LRel ρ n cs.toList ds.toList):∃ u,VRel ρ n v u/\∀ w',(part t ds o).run P w'=.ok u w':=by
 unfold YK at hv;cases eO:Mb d with
 |false =>
  simp only[eO,zr,if_false] at hv;obtain⟨u,hu,cA⟩:=hl.get hv;refine⟨u,cA,λw'=>?_⟩;have:ds[o]?=some u:=by simpa using hu
  simp[part,N4 h2,eO,this]
 |true =>
  simp only[eO,zq] at hv;split at hv
  .rename_i hlen;simp at hv;subst hv;refine⟨.agg (ds.extract o (o+ti.size)),?_,λw'=>by simp[part,N4 h2,eO,Qj h1]⟩;have:LRel ρ n ((cs.toList.drop o).take ti.size) ((ds.toList.drop o).take ti.size):=by
    refine⟨by have:=hl.1;simp at this |-;omega,λk v u hk hu=>?_⟩;rw[xC] at hk hu;split at hk
    .rename_i cr;rw[z7 cr,zZ] at hu;rw[zZ] at hk;exact hl.2 _ v u hk hu
    .cases hk
   have h3:=VRel.q1m this;have h4:((ds.toList.drop o).take ti.size).toArray=ds.extract o (o+ti.size):=by
    grind
   rwa [h4] at h3
  .cases hv
end
end Go.V
namespace Go.V
open Go
theorem Pw {ρ:Plc}{n:Nat}{v c:Value}{vs:List Value}(h:VL v=some vs) (hv:VRel ρ n v c):LRel ρ n vs c.cells.toList:=by
 unfold VL at h;split at h
 .obtain⟨ds,rfl,hl⟩:=hv.q1j;simp at h;subst h;exact hl
 .cases h
 .cases h
 .rename_i h1 h2 h3;simp at h;subst h;have hc:c.cells.toList=[c]:=by
   cases hv<;>first|rfl|(exact absurd rfl (h1 _))|(exact absurd rfl (h2 _))|(exact absurd rfl (h3 _))
  rw[hc];exact LRel.cons hv (LRel.nil _ _)
theorem Q3j (off:Nat):∀ (vs:List Value) (k:Nat) (cells:Array Value),
  (((vs.zipIdx k).foldl (λ(cs:Array Value) (p:Value×Nat)=>cs.setIfInBounds (off+p.2) p.1) cells)).toList=WR cells.toList (off+k) vs:=by
 intro vs;induction vs with
 |nil=>intro k cells;rfl
 |cons v r ih =>intro k cells;simp only[List.zipIdx_cons,wo];rw[ih,WR];simp[zu]
theorem Q7n {ρ:Plc}{n:Nat}:∀ (vs us c d:List Value) (o:Nat),LRel ρ n c d->LRel ρ n vs us->LRel ρ n (WR c o vs) (WR d o us):=by
 intro vs;induction vs with
 |nil=>intro us c d o hc hv;cases us with
  |nil=>exact hc
  |cons _ _=>have:=hv.1;simp at this
 |cons v r ih =>
  intro us c d o hc hv;cases us with
  |nil=>have:=hv.1;simp at this
  |cons u us =>rw[WR,WR];have h0:VRel ρ n v u:=hv.2 0 v u rfl rfl;have hr:LRel ρ n r us:=⟨by have:=hv.1;simpa using this,λi a b ha hb=>hv.2 (i+1) a b (by simpa using ha) (by simpa using hb)⟩;exact ih us _ _ _ (hc.set o h0) hr
theorem E2 {ρ:Plc}{n:Nat}(place:Nat->Option (Nat×Nat)):∀ (l:List (Nat×Nat×Value)) (l':List (Nat×Value)) (c c':List Value) (cells:Array Value),
  l.length=l'.length->(∀ (k:Nat) (a:Nat×Nat×Value) (b:Nat×Value),l[k]?=some a->l'[k]?=some b->place b.1=some (a.1,a.2.1)/\VRel ρ n a.2.2 b.2) ->
  My c l=some c'->LRel ρ n c cells.toList->∃ bA,Instr.fill place cells l'=some bA/\LRel ρ n c' bA.toList:=by
 intro l;induction l with
 |nil =>
  intro l' c c' cells hl _ hf hc;cases l' with
  |nil=>simp[My] at hf;subst hf;exact⟨cells,rfl,hc⟩
  |cons _ _=>simp at hl
 |cons a r ih =>
  intro l' c c' cells hl hk hf hc;cases l' with
  |nil=>simp at hl
  |cons b r' =>
   obtain⟨o,s,v⟩:=a;obtain⟨j,u⟩:=b;obtain⟨hp,hv⟩:=hk 0 _ _ rfl rfl;simp only at hp hv;simp only[My] at hf;split at hf
   .rename_i vs cn;split at hf
    .rename_i al;obtain⟨hs,hle⟩:=al;have dZ:=Pw cn hv;have aC:u.cells.size=s:=by have:=dZ.1;simp at this;omega
     have hlen:cells.size=c.length:=by have:=hc.1;simp at this;omega
     obtain⟨bA,h1,h2⟩:=ih r' (WR c o vs) c' (u.cells.zipIdx.foldl (λcs (c,j)=>cs.setIfInBounds (o+j) c) cells) (by simpa using hl)
      (λk a b ha hb=>hk (k+1) a b (by simpa using ha) (by simpa using hb)) hf (by
       have:=Q3j o u.cells.toList 0 cells;rw[<-Array.foldl_toList,Array.toList_zipIdx];rw[show (o+0)=o from rfl] at this;refine Eq.subst (motive:=λx=>LRel ρ n (WR c o vs) x) this.symm ?_;exact Q7n _ _ _ _ _ hc dZ)
     refine⟨bA,?_,h2⟩;simp only[Instr.fill,hp];simp_all
    .cases hf
   .cases hf
theorem E6 {ρ:Plc}{n:Nat}{env:Env}{ev:Operand->Value}(hE:∀ x,WZ x=true->VRel ρ n (Q5 env x) (ev x)) {l:List Operand}(h:l.all WZ=true):LRel ρ n (l.map (Q5 env)) (l.map ev):=by
 refine⟨by simp,λi v c hv hc=>?_⟩
 grind
theorem Q0 {P:Program}{t:TypeId}{d:TypeDesc}(h:P.underlying t=some d) (w:World):(underlying t).run P w=.ok d w:=run_underlying h w
def Og (P:Program) (ρ:Plc) (U:Heap) (w:World) (v:Value) (s:Sem Next):Prop :=
 ∃ c,VRel ρ U.n v c/\∀ w',Like ρ w w'->s.run P w'=.ok (.value c) w'
theorem YZ {α β:Type}(f:α->Option β):∀ (l:List α) (r:List β),l.mapM f=some r->r.length=l.length/\∀ (i:Nat) (a:α),l[i]?=some a->∃ b,r[i]?=some b/\f a=some b:=by
 intro l;induction l with
 |nil=>intro r h;simp at h;subst h;exact⟨rfl,λi a h=>by simp at h⟩
 |cons a l ih =>
  intro r h;rw[x6] at h;cases hf:f a with
  |none=>simp[hf] at h
  |some b =>
   cases hm:l.mapM f with
   |none=>simp[hf,hm] at h
   |some r' =>
    simp[hf,hm] at h;subst h;obtain⟨h1,h2⟩:=ih r' hm;refine⟨by simp[h1],λi x hx=>?_⟩;cases i with
    |zero=>simp at hx;subst hx;exact⟨b,rfl,hf⟩
    |succ i=>simp at hx;simpa using h2 i x hx
theorem Q9l {P:Program}{α β:Type}(g:α->Sem β) (f:α->β) (w:World):∀ (l:List α),(∀ a∈l,(g a).run P w=.ok (f a) w)->(l.mapM g).run P w=.ok (l.map f) w:=by
 intro l;induction l with
 |nil=>intro _;rfl
 |cons a l ih =>intro h;rw[x6];simp[h a (by simp),ih (λb hb=>h b (by simp[hb]))]
theorem Kb {P:Program}{t:TypeId}{z:List Value}(h:zeroOf P t=some z):∃ i zv,P.info? t=some i/\i.zero=some zv/\zv.cells.toList=z/\z.length=i.size/\z.all Zy=true:=by
 unfold zeroOf at h;cases hi:P.info? t with
 |none=>simp[hi] at h
 |some i =>
  cases hz:i.zero with
  |none=>simp[hi,hz] at h
  |some zv =>simp[hi,hz] at h;obtain⟨h1,h2⟩:=h;subst h2;exact(by grind)
theorem J3 {P:Program}{t:TypeId}{i:TypeInfo}{zv:Value}(h:P.info? t=some i) (hz:i.zero=some zv) (w:World):(zeroValue t).run P w=.ok zv w:=by simp[zeroValue,run_typeInfo w h,hz]
section
variable {P:Program}{ρ:Plc}{U U':Heap}{w:World}{ev:Operand->Value}{env:Env}{v:Value}
theorem Qx {s:Sem Next}{v c:Value}(h:∀ w',s.run P w'=.ok (.value c) w') (hc:VRel ρ U.n v c):Og P ρ U w v s:=⟨c,hc,λw' _=>h w'⟩
theorem G5 (op:BinOp) (t:TypeId) (x y:Operand) (yt:TypeId) (ty:TypeId) (pos:String) (after:Array Edge) (dst:Option Tmp) (g:Option (Nat×Bool)) {v c a b:Value}(hx:ev x=a) (hy:ev y=b)
  (rr:(∃ k n k' n',a=.int k n/\b=.int k' n')\/(∃ s s',a=.string s/\b=.string s')\/(∃ s s',a=.bool s/\b=.bool s'))
  (h:∀ w',(binOp op t a b).run P w'=.ok c w') (hc:VRel ρ U.n v c):Og P ρ U w v (execOp ev ⟨dst,.binOp op t x y yt,ty,pos,after,g⟩):=by
 refine Qx (c:=c) (λw'=>?_) hc;have he:∀ w',(eqGuard op t x y a b).run P w'=.ok () w':=λw'=>by rcases rr with⟨k,n,k',n',rfl,rfl⟩|⟨s,s',rfl,rfl⟩|⟨s,s',rfl,rfl⟩<;>(unfold eqGuard;cases op<;>simp)
 simp only[execOp,hx,hy];simp[he,h]
theorem TZ {t:TypeId}(h:P.underlying t=some .bool) (a b:Bool) (d:Nat) (w:World):(Op.equalIn (d+1) t (.bool a) (.bool b)).run P w=.ok (a==b) w:=by simp only[Op.equalIn,zo,Q0 h,zi,xi]
theorem Cq {t:TypeId}(h:P.underlying t=some .bool) (a b:Bool) (w:World):(Op.equal t (.bool a) (.bool b)).run P w=.ok (a==b) w :=
 TZ h a b 9999 w
theorem VRel.q1f {n:Nat}{i o:Nat}{c:Value}(h:VRel ρ n (.pointer (some ⟨i,o,none⟩)) c):∃ a:Addr,c=.pointer (some a)/\i<n/\∀ p,ρ i=some p->a=⟨p.blk,p.shift+o,none⟩:=by
 cases h with
 |ptr _ _ a hi h=>exact⟨a,rfl,hi,h⟩
theorem VRel.q1c {n:Nat}{i o len cap:Nat}{c:Value}(h:VRel ρ n (.slice (some ⟨i,o,none⟩) len cap) c):∃ (a:Addr) (av:Nat),c=.slice (some a) len av/\i<n /\
  ∀ p,ρ i=some p->cap<=av/\(p.tight=true->av=cap)/\(av=0/\len=0\/∃ o',a=⟨p.blk,p.shift+o',none⟩/\o'+av*p.esz.sz<=p.ext/\(o'=o\/(len=0/\cap=0))):=by
 cases h with
 |sl _ _ _ _ a av hi h=>exact⟨a,av,rfl,hi,h⟩
theorem VRel.q2h {n:Nat}{i o len cap:Nat}{c:Value}(h:VRel ρ n (.slice (some ⟨i,o,some 0⟩) len cap) c):∃ a:Addr,c=.slice (some a) len cap/\i<n/\(∀ p,ρ i=some p->a=⟨p.blk,p.shift+o,none⟩/\o+cap*p.esz.sz<=p.ext)/\VRel ρ n (.slice (some ⟨i,o,none⟩) len cap) c:=by
 cases h with
 |slx _ _ _ _ a hi h=>exact⟨a,rfl,hi,h,.sl _ _ _ _ _ _ hi (by simp_all)⟩
theorem VRel.q1t {n:Nat}{a:Option Addr}{len cap:Nat}{c:Value}(h:VRel ρ n (.slice a len cap) c):∃ a' av,c=.slice a' len av:=by
 cases h with
 |sl _ _ _ _ a av hi h=>exact⟨_,av,rfl⟩
 |slx _ _ _ _ a hi h=>exact⟨_,_,rfl⟩
 |nilSl=>exact⟨_,_,rfl⟩
theorem Ke {op:Option Operand}{d l:Nat}(hE:∀ x,WZ x=true->VRel ρ U.n (Q5 env x) (ev x)) (aq:∀ x,op=some x->WZ x=true) (h:Xs (Q5 env) op d=some l) :
  (op=none/\l=d)\/∃ x k i,op=some x/\ev x=.int k i/\0<=i/\l=i.toNat:=by
 cases op with
 |none=>simp[Xs] at h;exact .inl ⟨rfl,h.symm⟩
 |some x =>
  have hr:=hE x (aq x rfl);simp only[Xs] at h;split at h
  .rename_i k i heq;rw[heq] at hr;split at h
   .rename_i hi;simp at h;exact .inr ⟨x,k,i,rfl,hr.q0f,hi,h.symm⟩
   .cases h
  .cases h
theorem J5 (k:IntKind) (i:Int) (y:Nat) (code:BoundsCode) (h:0<=i) (h':i.toNat<=y) (w:World):(Instr.sliceBound (.int k i) y code).run P w=.ok i.toNat w:=by
 have:i<=y:=by omega
 simp[Instr.sliceBound,asIntOf,h,this]
theorem VC {lo hi:Option Operand}{isSlice:Bool}{n cap l h:Nat}(o9:(lo=none/\l=0)\/∃ x k i,lo=some x/\ev x=.int k i/\0<=i/\l=i.toNat)
  (ki:(hi=none/\h=n)\/∃ x k i,hi=some x/\ev x=.int k i/\0<=i/\h=i.toNat) (h1:l<=h) (h2:h<=cap) (w:World) :
  (Instr.sliceBounds isSlice n cap (lo.map ev) (hi.map ev) none).run P w=.ok (l,h,cap) w:=by
 rcases o9 with⟨rfl,rfl⟩|⟨x,k,i,rfl,hx,ov,rfl⟩<;>rcases ki with⟨rfl,rfl⟩|⟨y,k',i',rfl,hy,gA,rfl⟩
 .simp[Instr.sliceBounds]
 .simp[Instr.sliceBounds,hy,J5 k' i' _ _ gA h2]
 .simp[Instr.sliceBounds,hx,J5 k i _ _ ov h1]
 .simp[Instr.sliceBounds,hx,hy,J5 k i _ _ ov h1,J5 k' i' _ _ gA h2]
set_option maxHeartbeats 1000000 in
theorem OU {o:Oper}{vo:VOp}(hc:Nb P o.op = some vo) (hq:vo.quiet = true) (hH:HRel ρ U w) (hE:∀ x, WZ x = true -> VRel ρ U.n (Q5 env x) (ev x))
    (h:Q7 vo (Q5 env) U = some (v, U')):U' = U /\ Og P ρ U w v (execOp ev o):=by
  obtain ⟨dst, op, ty, pos, after, guard⟩:=o;simp only at hc;unfold Nb at hc;split at hc
  . cases hc
  rename_i aq;simp only [xN, xq] at aq;cases op <;> simp only [Op.operands] at aq hc
  case move x =>
    have hx:=hE x (by simpa using aq);simp at hc; subst hc;simp [Q7] at h;obtain ⟨rfl, rfl⟩:=h;exact ⟨rfl, Qx (λw' => by simp [execOp]) hx⟩
  case assign x =>
    have hx:=hE x (by simpa using aq);simp at hc; subst hc;simp [Q7] at h;obtain ⟨rfl, rfl⟩:=h;exact ⟨rfl, Qx (λw' => by simp [execOp]) hx⟩
  case pick c a b =>
    simp at aq;have hx:=hE c aq.1;have ha:=hE a aq.2.1;have hb:=hE b aq.2.2;simp at hc; subst hc;simp only [Q7] at h;split at h
    . rename_i t heq
      rw [heq] at hx;simp at h;obtain ⟨h1, rfl⟩:=h;refine ⟨rfl, Qx (c:=if t then ev a else ev b) (λw' => by simp [execOp, hx.q1d, asBool]) ?_⟩;rw [<- h1]; split <;> assumption
    . cases h
  case binOp iU t x y yt =>
    simp at aq;have hx:=hE x aq.1;have hy:=hE y aq.2;split at hc
    .
      cases iU <;> simp at hc <;> subst hc <;> simp only [Q7] at h <;> split at h <;> first
        | (cases h; done)
        | (rename_i k a k' b h1 h2
           rw [h1] at hx; rw [h2] at hy;have ex:=hx.q0f;have ey:=hy.q0f;split at h
           . rename_i al
             simp at h; obtain ⟨rfl, rfl⟩:=h;refine ⟨rfl, ?_⟩
             first
              | refine G5 _ t x y yt ty pos after dst guard ex ey (.inl ⟨_, _, _, _, rfl, rfl⟩) (λw' => ?_) (VRel.int _ _)
              | refine G5 _ t x y yt ty pos after dst guard ex ey (.inl ⟨_, _, _, _, rfl, rfl⟩) (λw' => ?_) (VRel.bool _)
             first
              | (obtain rfl:=al; simp [binOp, Op.intArith, TI]; done)
              | (obtain ⟨rfl, o_⟩:=al; simp [binOp, Op.intDiv, Z33, o_]; done)
              | (obtain rfl:=al; simp [binOp, Op.intBits, QB]; done)
              | (obtain rfl:=al; simp [binOp, Op.intCmp, Z3h]; done)
              | (simp [binOp, Op.shift, T8, Int.not_lt.2 al, Nat.min_def]; done)
           . cases h)
    .
      simp at hc; subst hc;simp only [Q7] at h;split at h
      . rename_i a b h1 h2
        rw [h1] at hx; rw [h2] at hy;have ex:=hx.q0p;have ey:=hy.q0p
        cases iU <;> simp only at h <;> first
          | (cases h; done)
          | (split at h
             . rename_i aD
               simp at h; obtain ⟨rfl, rfl⟩:=h;refine ⟨rfl, G5 _ t x y yt ty pos after dst guard ex ey (.inr (.inl ⟨_, _, rfl, rfl⟩)) (c:=.string (a ++ b)) (λw' => ?_) (VRel.string _)⟩;have:¬ (((a.size + b.size:Nat):Int) > IntKind.i64.max):=by
                 have:IntKind.i64.max = 9223372036854775807:=by decide
                 omega
               simp only [binOp, Op.stringOp, z6 this]; rfl
             . cases h)
          | (simp at h; obtain ⟨rfl, rfl⟩:=h
             exact ⟨rfl, G5 _ t x y yt ty pos after dst guard ex ey (.inr (.inl ⟨_, _, rfl, rfl⟩)) (λw' => by simp [binOp, Op.stringOp, ByteArray.toList_eq]) (VRel.bool _)⟩)
      . cases h
    .
      rename_i pa
      cases iU <;> simp at hc <;> subst hc <;> simp only [Q7] at h <;> split at h <;> first
        | (cases h; done)
        | (rename_i a b h1 h2
           rw [h1] at hx; rw [h2] at hy;have ex:=hx.q1d;have ey:=hy.q1d;simp at h; obtain ⟨rfl, rfl⟩:=h;refine ⟨rfl, G5 _ t x y yt ty pos after dst guard ex ey (.inr (.inr ⟨_, _, rfl, rfl⟩)) (λw' => ?_) (VRel.bool _)⟩;simp [binOp, Cq pa])
    . cases hc
  case unOp vz t x =>
    have hx:=hE x (by simpa using aq);simp at hc; subst hc;simp only [Q7] at h
    split at h <;> first
      | (cases h; done)
      | (rename_i h1; rw [h1] at hx; simp at h; obtain ⟨rfl, rfl⟩:=h
         refine ⟨rfl, ?_⟩
         first
          | (have e:=hx.q1d; refine Qx (λw' => ?_) (VRel.bool _); simp [execOp, e, Op.unary]; done)
          | (have e:=hx.q0f; refine Qx (λw' => ?_) (VRel.int _ _); simp [execOp, e, Op.unary, Op.intArith]; done)
          | (have e:=hx.q0f; refine Qx (λw' => ?_) (VRel.int _ _); simp [execOp, e, Op.unary, Op.intBits, QB]; done))
  case convert s d x =>
    have hx:=hE x (by simpa using aq);split at hc
    . rename_i k0 k hs hd
      simp at hc; subst hc;simp only [Q7] at h;split at h
      . rename_i h1; rw [h1] at hx; simp at h; obtain ⟨rfl, rfl⟩:=h
        exact ⟨rfl, Qx (λw' => by simp [execOp, hx.q0f, convert, Q0 hs, Q0 hd, Conv.intToInt]) (VRel.int _ _)⟩
      . cases h
    . rename_i hs hd
      simp at hc; subst hc;simp only [Q7] at h;split at h
      . rename_i h1; rw [h1] at hx; simp at h; obtain ⟨rfl, rfl⟩:=h
        exact ⟨rfl, Qx (λw' => by simp [execOp, hx.q0p, convert, Q0 hs, Q0 hd]) (VRel.string _)⟩
      . cases h
    . cases hc
  case alloc t =>
    cases hz:zeroOf P t <;> simp [hz] at hc;subst hc; cases hq
  case box t x => simp at hc; subst hc; cases hq
  case buildSlice t len parts =>
    split at hc
    . rename_i e _
      cases hz:zeroOf P e with
      | none => simp [hz] at hc
      | some z =>
        simp only [hz, zz, xg] at hc;split at hc
        . cases hc
        . simp at hc; subst hc; cases hq
    . cases hc
  case store t a x =>
    cases hi:P.info? t <;> simp [hi] at hc;subst hc; cases hq
  case makeSlice t l c =>
    split at hc
    . rename_i e _
      cases hi:P.info? e with
      | none => simp [hi] at hc
      | some ei =>
        cases hz:zeroOf P e with
        | none => simp [hi, hz] at hc
        | some z =>
          simp only [hi, hz, zz, xg] at hc;split at hc
          . cases hc
          . simp at hc; subst hc; cases hq
    . cases hc
  case load t a =>
    have ha:=hE a (by simpa using aq);cases hi:P.info? t with
    | none => simp [hi] at hc
    | some ti =>
      cases hu:P.underlying t with
      | none => simp [hi, hu] at hc
      | some d =>
        simp [hi, hu] at hc; subst hc;simp only [Q7] at h;split at h
        . rename_i g o s h1
          rw [h1] at ha;split at h
          . rename_i c hb
            split at h
            . rename_i hall
              split at h
              . rename_i v0 hv
                simp at h; obtain ⟨rfl, rfl⟩:=h;obtain ⟨u, cA, hr⟩:=Iq hH hi hu hb hall hv ha;exact ⟨rfl, u, cA, λw' hl => by simp [execOp, hr w' hl]⟩
              . cases h
            . cases h
          . cases h
        . rename_i i o h1
          rw [h1] at ha;split at h
          . rename_i c esz wr tight hb
            split at h
            . rename_i v0 hv
              simp at h; obtain ⟨rfl, rfl⟩:=h;obtain ⟨u, cA, hr⟩:=Q1s hH hi hu hb hv ha;exact ⟨rfl, u, cA, λw' hl => by simp [execOp, hr w' hl]⟩
            . cases h
          . cases h
        . cases h
  case fieldAddr t a f =>
    have ha:=hE a (by simpa using aq);cases hf:P9 P t f with
    | none => simp [hf] at hc
    | some fd =>
      cases hi:P.info? fd.type with
      | none => simp [hf, hi] at hc
      | some fi =>
        simp only [hf, hi, zz, xg] at hc;split at hc
        . cases hc
        . rename_i aD
          simp at hc; subst hc;simp only [Q7] at h;split at h
          . rename_i i o h1
            rw [h1] at ha;simp at h; obtain ⟨rfl, rfl⟩:=h;unfold P9 at hf;split at hf
            . rename_i fs hu
              simp at aD;obtain ⟨ad, heq, aR, aY⟩:=ha.q1f;cases hρ:ρ i with
              | none =>refine ⟨rfl, .pointer (some (ad.add fd.offset)), .ptr _ _ _ aR (by simp_all), λw' _ => ?_⟩;simp [execOp, heq, Instr.fieldAt, Q0 hu, hf, Instr.sureAddr, fieldPlace, Qj hi, aD]
              | some p =>obtain rfl:=aY p hρ;refine ⟨rfl, .pointer (some ⟨p.blk, p.shift + (o + fd.offset), none⟩), .ptr _ _ _ aR (by simp_all), λw' _ => ?_⟩;simp [execOp, heq, Instr.fieldAt, Q0 hu, hf, Instr.sureAddr, fieldPlace, Qj hi, aD, Yl, zu]
            . cases hf
          . cases h
  case field t x f =>
    have hx:=hE x (by simpa using aq);cases hf:P9 P t f with
    | none => simp [hf] at hc
    | some fd =>
      cases hi:P.info? fd.type with
      | none => simp [hf, hi] at hc
      | some fi =>
        cases hu:P.underlying fd.type with
        | none => simp [hf, hi, hu] at hc
        | some d =>
          simp [hf, hi, hu] at hc; subst hc;simp only [Q7] at h;split at h
          . rename_i cs h1
            rw [h1] at hx;obtain ⟨ds, hds, hl⟩:=hx.q1j;split at h
            . rename_i v0 hv
              simp at h; obtain ⟨rfl, rfl⟩:=h;obtain ⟨u, cA, hr⟩:=Q1p hi hu hv hl;unfold P9 at hf;split at hf
              . rename_i fs pb
                exact ⟨rfl, u, cA, λw' _ => by simp [execOp, hds, Instr.field, Q0 pb, hf, asAgg, hr]⟩
              . cases hf
            . cases h
          . cases h
  case makeFunc fn first cap =>
    rw [Array.toList_append, List.all_append, z0] at aq;cases fn <;> simp at hc;rename_i f;subst hc;simp only [Q7] at h;simp at h; obtain ⟨rfl, rfl⟩:=h;have h1:=E6 hE (l:=first.toList) aq.1;have h2:=E6 hE (l:=cap.toList) aq.2;refine ⟨rfl, Qx (c:=.func (.func f) (first.map ev) (cap.map ev)) (λw' => by simp [execOp, Instr.makeFunc]) ?_⟩;refine .func _ _ _ _ _ (by simp) (by simp) (λi h3 h4 => ?_) (λi h3 h4 => ?_)
    . simp_all
    simp_all
  case build t parts =>
    cases hz:zeroOf P t with
    | none => simp [hz] at hc
    | some z =>
      obtain ⟨ti, zv, hi, dK, fZ, _, iL⟩:=Kb hz;have aY:LRel ρ U.n z zv.cells.toList:=by rw [fZ]; exact WU iL
      have kj:∀ q ∈ parts.toList, WZ q.2 = true:=(by grind);simp only [hz, zz, xg] at hc;split at hc
      . rename_i fs hu
        cases ju:fs.toList.mapM (λf => (P.info? f.type).map λi => (f.offset, i.size)) with
        | none => simp [ju] at hc
        | some places =>
          cases d_:parts.toList.mapM (λq => (places[q.1]?).map λos => (os.1, os.2, q.2)) with
          | none => simp [ju, d_] at hc
          | some ps =>
            simp [ju, d_] at hc; subst hc;simp only [Q7] at h;split at h
            . rename_i cs ec
              simp at h; obtain ⟨rfl, rfl⟩:=h;obtain ⟨dL, gO⟩:=YZ _ _ _ ju;obtain ⟨b_, cR⟩:=YZ _ _ _ d_
              obtain ⟨bA, lK, jv⟩:=E2 (ρ:=ρ) (n:=U.n) (λ(i:Nat) => places[i]?) _ ((parts.map λq => (q.1, ev q.2)).toList) z cs zv.cells (by simp [b_])
                (by grind [Array.toList_map, Option.some.injEq, List.mem_of_getElem?]) ec aY
              refine ⟨rfl, .agg bA, by have:=VRel.q1m jv; simpa using this, λw' _ => ?_⟩;have aH:(fs.mapM λ(f:Field) => do pure (f.offset, <- sizeOf f.type)).run P w' = .ok places.toArray w':=by
                rw [Array.mapM_eq_mapM_toList];have ox:∀ f ∈ fs.toList, ((do pure (f.offset, <- sizeOf f.type):Sem (Nat × Nat))).run P w' = .ok (f.offset, ((P.info? f.type).map (·.size)).getD 0) w':=λf hf => by
                  obtain ⟨k, hk⟩:=List.getElem?_of_mem hf;obtain ⟨b, hb, cm⟩:=gO k f hk;cases kn:P.info? f.type with
                  | none => simp [kn] at cm
                  | some fi => simp [Qj kn]
                have:=Q9l (P:=P) _ _ w' fs.toList ox;simp only [Sem.run_map, this, zi];congr 2;apply zT;intro k;rw [xu];cases hk:fs.toList[k]? with
                | none =>
                  have:places.length <= k:=by simp_all
                  simp [zE this]
                | some f =>
                  obtain ⟨b, hb, cm⟩:=gO k f hk;cases kn:P.info? f.type with
                  | none => simp [kn] at cm
                  | some fi => simp [kn] at cm |-; rw [hb, <- cm]
              have gB:(λ(i:Nat) => places.toArray[i]?) = (λ(i:Nat) => places[i]?):=by funext i; simp
              simp only [execOp];simp only [Instr.build, zo, J3 hi dK, zi, Q0 hu, aH];simp_all
            . cases h
      . rename_i n e hu
        cases ct:P.info? e with
        | none => simp [ct] at hc
        | some ei =>
          simp [ct] at hc; subst hc;simp only [Q7] at h;split at h
          . rename_i cs ec
            simp at h; obtain ⟨rfl, rfl⟩:=h
            obtain ⟨bA, lK, jv⟩:=E2 (ρ:=ρ) (n:=U.n) (λi => some (i * ei.size, ei.size)) _ ((parts.map λq => (q.1, ev q.2)).toList) z cs zv.cells (by simp)
              (by grind) ec aY
            refine ⟨rfl, .agg bA, by have:=VRel.q1m jv; simpa using this, λw' _ => ?_⟩;simp only [execOp];simp only [Instr.build, zo, J3 hi dK, zi, Q0 hu, Qj ct, lK];rfl
          . cases h
      . cases hc
  case index t x i =>
    simp at aq;have hx:=hE x aq.1;have hi:=hE i aq.2;split at hc
    . rename_i hu
      simp at hc; subst hc;simp only [Q7] at h;split at h
      . rename_i s k n h1 h2
        rw [h1] at hx; rw [h2] at hi;split at h
        . rename_i hn
          split at h
          . rename_i b hb
            simp at h; obtain ⟨rfl, rfl⟩:=h;have cm:s[n.toNat]? = some b:=by rw [<- hb]; simp [getElem?_def]; split <;> rfl
            refine ⟨rfl, Qx (λw' => ?_) (VRel.int _ _)⟩;simp [execOp, hx.q0p, hi.q0f, Instr.index, asIntOf, Q0 hu, hn, cm]
          . cases h
        . cases h
      . cases h
    . rename_i len e hu
      cases ct:P.info? e with
      | none => simp [ct] at hc
      | some ei =>
        cases iV:P.underlying e with
        | none => simp [ct, iV] at hc
        | some d =>
          simp [ct, iV] at hc; subst hc;simp only [Q7] at h;split at h
          . rename_i cs k n h1 h2
            rw [h1] at hx; rw [h2] at hi;obtain ⟨ds, hds, hl⟩:=hx.q1j;split at h
            . rename_i hn
              split at h
              . rename_i v0 hv
                simp at h; obtain ⟨rfl, rfl⟩:=h;obtain ⟨u, cA, hr⟩:=Q1p ct iV hv hl;refine ⟨rfl, u, cA, λw' _ => ?_⟩;simp [execOp, hds, hi.q0f, Instr.index, asIntOf, Q0 hu, hn, Qj ct, hr]
              . cases h
            . cases h
          . cases h
    . cases hc
  case indexAddr t x i =>
    simp at aq;have hx:=hE x aq.1;have hi:=hE i aq.2;split at hc
    . rename_i e hu
      cases ct:P.info? e with
      | none => simp [ct] at hc
      | some ei =>
        simp [ct] at hc; subst hc;simp only [Q7] at h;split at h
        . rename_i b o n cap k j h1 h2
          rw [h1] at hx; rw [h2] at hi;split at h
          . rename_i hj
            simp at h; obtain ⟨rfl, rfl⟩:=h;obtain ⟨a, av, bg, aR, aY⟩:=hx.q1c;refine ⟨rfl, .pointer (some (a.add (j.toNat * ei.size))), .ptr _ _ _ aR (λp hp => ?_), λw' _ => ?_⟩
            . grind [Yl, Nat.add_assoc]
            . simp [execOp, bg, hi.q0f, Instr.indexAt, asIntOf, Q0 hu, hj, Qj ct]
          . cases h
        . cases h
    . rename_i len e hu
      cases ct:P.info? e with
      | none => simp [ct] at hc
      | some ei =>
        simp [ct] at hc; subst hc;simp only [Q7] at h;split at h
        . rename_i g o s k j h1 h2
          rw [h1] at hx; rw [h2] at hi;split at h
          . rename_i hj
            simp at h; obtain ⟨rfl, rfl⟩:=h;have bg:ev x = .pointer (some ⟨g, o, none⟩):=by generalize ev x = c at hx; cases hx; rfl
            refine ⟨rfl, .pointer (some ((⟨g, o, none⟩:Addr).add (j.toNat * ei.size))), by rw [Yl]; exact .glob _ _ _, λw' _ => ?_⟩;simp [execOp, bg, hi.q0f, Instr.indexAt, Instr.sureAddr, asIntOf, Q0 hu, hj, Qj ct]
          . cases h
        . rename_i b o k j h1 h2
          rw [h1] at hx; rw [h2] at hi;split at h
          . rename_i hj
            simp at h; obtain ⟨rfl, rfl⟩:=h;obtain ⟨a, bg, aR, aY⟩:=hx.q1f;refine ⟨rfl, .pointer (some (a.add (j.toNat * ei.size))), .ptr _ _ _ aR (λp hp => ?_), λw' _ => ?_⟩
            . grind [Yl, Nat.add_assoc]
            . simp [execOp, bg, hi.q0f, Instr.indexAt, Instr.sureAddr, asIntOf, Q0 hu, hj, Qj ct]
          . cases h
        . cases h
    . cases hc
  case slice t x lo hi mx =>
    have kp:WZ x = true:=by simp at aq; exact aq.1
    have f_:∀ y, lo = some y -> WZ y = true:=(by simp_all);have ga:∀ y, hi = some y -> WZ y = true:=λy hy => by subst hy; cases lo <;> simp at aq <;> first | exact aq.2.1 | exact aq.2.2.1 | exact aq.2.2 | exact aq.2
    have hx:=hE x kp;split at hc
    . rename_i e hu
      cases ct:P.info? e with
      | none => simp [ct] at hc
      | some ei =>
        simp [ct] at hc; subst hc;cases mx with
        | some m => simp [VOp.quiet] at hq
        | none =>
          simp only [Q7] at h;split at h
          . rename_i a n cap h1
            rw [h1] at hx;split at h
            . rename_i l hh hl ki _
              have lL:=Ke hE f_ hl;have lM:=Ke hE ga ki;unfold K7 at h;split at h
              . rename_i heq
                simp at heq; obtain ⟨rfl, rfl, rfl⟩:=heq;obtain ⟨_, _, bg⟩:=hx.q1l;split at h
                . rename_i al
                  obtain ⟨rfl, rfl, _⟩:=al;simp at h; obtain ⟨rfl, rfl⟩:=h;refine ⟨rfl, Qx (λw' => ?_) VRel.nilSl⟩;have:=VC (P:=P) (isSlice:=true) (cap:=0) lL lM (z9 _) (z9 _) w';simp [execOp, bg, Instr.sliceAt, Instr.slice, Q0 hu, this, Qj ct]
                . cases h
              . rename_i i o n' iW heq
                simp at heq; obtain ⟨rfl, rfl, rfl⟩:=heq;simp only at h;split at h
                . rename_i c esz wr tight hb
                  split at h
                  . rename_i al
                    obtain ⟨mg, pc, td⟩:=al;simp at h; obtain ⟨rfl, rfl⟩:=h;obtain ⟨ad, av, bg, aR, aY⟩:=hx.q1c;obtain ⟨p, hp, hB⟩:=hH.live i _ hb;have eP:=(aY p hp).1;have bY:=λw' => VC (P:=P) (isSlice:=true) (cap:=av) lL lM pc (zO td eP) w';obtain ⟨-, oy, ⟨oz, iM⟩ | ⟨o', rfl, dN, ho⟩⟩:=aY p hp
                    . have bp:av = l:=by omega
                      refine ⟨rfl, .slice (some ad) (hh - l) (av - l), .sl _ _ _ _ _ _ aR (λq hq => ⟨by omega, λ_ => by omega, .inl ⟨by omega, by omega⟩⟩), λw' _ => ?_⟩;simp only [execOp, bg, Instr.sliceAt, zo, Q0 hu, zi, Instr.slice, Option.map_none, bY, Qj ct];simp [bp]
                    have dO:p.esz.sz = ei.size:=by rw [hB.1]; exact mg
                    rw [dO] at dN;refine ⟨rfl, .slice (some (if av = l then ⟨p.blk, p.shift + o', none⟩ else ⟨p.blk, p.shift + (o' + l * ei.size), none⟩)) (hh - l) (av - l), .sl _ _ _ _ _ _ aR (λq hq => ?_), λw' _ => ?_⟩
                    . obtain rfl:p = q:=osj (hp.symm.trans hq)
                      refine ⟨by omega, λht => by have:=oy ht; omega, .inr ?_⟩;rw [dO];by_cases cz:av = l
                      . refine ⟨o', by rw [z7 cz], by rw [cz, wy]; omega, .inr (by omega)⟩
                      . refine ⟨o' + l * ei.size, by rw [z6 cz], ?_, ?_⟩
                        . have:av = l + (av - l):=by omega
                          rw [this, zI] at dN;omega
                        . rcases ho with rfl | ⟨h0, vA⟩
                          . exact .inl rfl
                          . exact .inr (by omega)
                    . simp only [execOp, bg, Instr.sliceAt, zo, Q0 hu, zi, Instr.slice, Option.map_none, bY, Qj ct]
                      by_cases cz:av = l
                      . simp [cz]
                      . simp [cz, Yl, zu]
                  . cases h
                . cases h
              . cases h
            . simp_all
            . cases h
          . cases h
    . rename_i hu
      split at hc
      . rename_i pg
        cases mx with
        | some m => simp at pg
        | none =>
          simp at hc; subst hc;simp only [Q7] at h;split at h
          . rename_i s h1
            rw [h1] at hx;split at h
            . rename_i l hh hl ki
              have lL:=Ke hE f_ hl;have lM:=Ke hE ga ki;split at h
              . rename_i al
                simp at h; obtain ⟨rfl, rfl⟩:=h;refine ⟨rfl, Qx (λw' => ?_) (VRel.string _)⟩;have:=VC (P:=P) (isSlice:=false) (cap:=s.size) lL lM al.1 al.2 w';simp [execOp, hx.q0p, Instr.sliceAt, Instr.slice, Q0 hu, this]
              . cases h
            . cases h
          . cases h
      . cases hc
    . cases hc
  case makeInterface t x =>
    have hx:=hE x (by simpa using aq);cases hu:P.underlying t with
    | none => simp [hu] at hc
    | some d =>
      have tf:∀ ms, d ≠ .interface ms:=λms e => by subst e; simp [hu] at hc
      have cX:vo = .iface t x:=by simp_all
      subst cX;simp only [Q7] at h;split at h
      . cases h
      . simp at h; obtain ⟨rfl, rfl⟩:=h
        refine ⟨rfl, Qx (λw' => ?_) (VRel.iface t _ _ hx)⟩;have:(Instr.makeInterface t (ev x)).run P w' = .ok (.iface t (ev x)) w':=by cases d <;> first | (exact absurd rfl (tf _)) | simp [Instr.makeInterface, Q0 hu]
        simp [execOp, this]
  case extract x i =>
    have hx:=hE x (by simpa using aq);simp at hc; subst hc;simp only [Q7] at h;split at h
    . rename_i vs h1
      rw [h1] at hx;obtain ⟨ds, hds, hl⟩:=hx.q1k;split at h
      . rename_i v0 hv
        simp at h; obtain ⟨rfl, rfl⟩:=h;obtain ⟨u, hu, cA⟩:=hl.get hv;have dt:ds[i]? = some u:=by simpa using hu
        exact ⟨rfl, u, cA, λw' _ => by simp [execOp, hds, Instr.extract, dt]⟩
      . cases h
    . cases h
  case nilCheck x =>
    have hx:=hE x (by simpa using aq);simp at hc; subst hc;simp only [Q7] at h;split at h
    . rename_i a h1
      rw [h1] at hx;simp at h; obtain ⟨rfl, rfl⟩:=h;have:∃ a', ev x = .pointer (some a'):=by generalize ev x = c at hx;cases hx <;> exact ⟨_, rfl⟩
      obtain ⟨a', jx⟩:=this;exact ⟨rfl, ev x, hx, λw' _ => by simp [execOp, jx]⟩
    . rename_i f first cap h1
      rw [h1] at hx;simp at h; obtain ⟨rfl, rfl⟩:=h;have:∃ g' c', ev x = .func (.func f) g' c':=by generalize ev x = c at hx;cases hx; exact ⟨_, _, rfl⟩
      obtain ⟨g', c', jx⟩:=this;exact ⟨rfl, ev x, hx, λw' _ => by simp [execOp, jx]⟩
    . cases h
  case call c =>
    split at hc
    . simp at hc; subst hc; simp [Q7] at h
    . simp at hc; subst hc; simp [Q7] at h
    . rename_i aI
      split at hc
      . rename_i t x ht aA
        have cB:c.args = #[x]:=by apply Array.ext'; simpa using aA
        have hx:=hE x (by simp [Call.operands, aI, cB] at aq; exact aq);split at hc
        . rename_i hu
          simp at hc; subst hc;simp only [Q7] at h;split at h
          . rename_i s h1
            rw [h1] at hx; simp at h; obtain ⟨rfl, rfl⟩:=h;refine ⟨rfl, Qx (λw' => ?_) (VRel.int _ _)⟩;simp [execOp, resolve, aI, cB, invoke, builtin, Builtin.len_, ht, hx.q0p, Q0 hu, goInt]
          . cases h
        . rename_i e hu
          simp at hc; subst hc;simp only [Q7] at h;split at h
          . rename_i a n cap h1
            rw [h1] at hx; simp at h; obtain ⟨rfl, rfl⟩:=h;obtain ⟨a', av, bg⟩:=hx.q1t;refine ⟨rfl, Qx (λw' => ?_) (VRel.int _ _)⟩;simp [execOp, resolve, aI, cB, invoke, builtin, Builtin.len_, ht, bg, Q0 hu, goInt]
          . cases h
        . cases hc
      . cases hc
    . rename_i aI
      split at hc
      . rename_i t u s x ht hu aA
        split at hc
        . rename_i e f _ _
          cases hi:P.info? e with
          | none => simp [hi] at hc
          | some ei =>
            cases hz:zeroOf P e with
            | none => simp [hi, hz] at hc
            | some z =>
              simp only [hi, hz, zz, xg] at hc;split at hc
              . cases hc
              . simp at hc; subst hc; cases hq
        . cases hc
      . cases hc
    . rename_i aI
      split at hc
      . rename_i x y aA
        have cB:c.args = #[x, y]:=by apply Array.ext'; simpa using aA
        simp [Call.operands, aI, cB] at aq;have hx:=hE x aq.1;have hy:=hE y aq.2;simp at hc; subst hc;simp only [Q7] at h;split at h
        . rename_i k a k' b h1 h2
          rw [h1] at hx; rw [h2] at hy;split at h
          . simp at h; obtain ⟨rfl, rfl⟩:=h
            refine ⟨rfl, Qx (λw' => ?_) (VRel.int _ _)⟩;simp [execOp, resolve, aI, cB, invoke, builtin, Builtin.max_, Builtin.max2, hx.q0f, hy.q0f]
          . cases h
        . cases h
      . rename_i x y z aA
        have cB:c.args = #[x, y, z]:=by apply Array.ext'; simpa using aA
        simp [Call.operands, aI, cB] at aq;have hx:=hE x aq.1;have hy:=hE y aq.2.1;have hz:=hE z aq.2.2;simp at hc; subst hc;simp only [Q7] at h;split at h
        . rename_i k a k2 b k3 c' k4 d h1 h2 h3 h4
          rw [h1] at hx; rw [h2] at hy; rw [h3] at hz;split at h
          . rename_i hk; obtain ⟨rfl, rfl, rfl⟩:=hk
            simp at h; obtain ⟨rfl, rfl⟩:=h;refine ⟨rfl, Qx (λw' => ?_) (VRel.int _ _)⟩;have tg:=(Value.int.inj (h3.symm.trans h4)).2;subst tg;simp only [Q74];simp [execOp, resolve, aI, cB, invoke, builtin, Builtin.max_, Builtin.max2, hx.q0f, hy.q0f, hz.q0f, Q4c]
          . cases h
        . cases h
      . rename_i x y z w aA
        have cB:c.args = #[x, y, z, w]:=by apply Array.ext'; simpa using aA
        simp [Call.operands, aI, cB] at aq;have hx:=hE x aq.1;have hy:=hE y aq.2.1;have hz:=hE z aq.2.2.1;have hw:=hE w aq.2.2.2;simp at hc; subst hc;simp only [Q7] at h;split at h
        . rename_i k a k2 b k3 c' k4 d h1 h2 h3 h4
          rw [h1] at hx; rw [h2] at hy; rw [h3] at hz; rw [h4] at hw;split at h
          . rename_i hk; obtain ⟨rfl, rfl, rfl⟩:=hk
            simp at h; obtain ⟨rfl, rfl⟩:=h;refine ⟨rfl, Qx (λw' => ?_) (VRel.int _ _)⟩;simp [execOp, resolve, aI, cB, invoke, builtin, Builtin.max_, Builtin.max2, hx.q0f, hy.q0f, hz.q0f, hw.q0f, Q4c]
          . cases h
        . cases h
      . cases hc
    . rename_i aI
      split at hc
      . rename_i x y aA
        have cB:c.args = #[x, y]:=by apply Array.ext'; simpa using aA
        simp [Call.operands, aI, cB] at aq;have hx:=hE x aq.1;have hy:=hE y aq.2;simp at hc; subst hc;simp only [Q7] at h;split at h
        . rename_i k a k' b h1 h2
          rw [h1] at hx; rw [h2] at hy;split at h
          . simp at h; obtain ⟨rfl, rfl⟩:=h
            refine ⟨rfl, Qx (λw' => ?_) (VRel.int _ _)⟩;simp [execOp, resolve, aI, cB, invoke, builtin, Builtin.min_, Builtin.min2, hx.q0f, hy.q0f]
          . cases h
        . cases h
      . cases hc
    . cases hc
  all_goals (first | (cases hc; done) | (split at hc <;> cases hc; done))
end
end Go.V
namespace Go.V
open Go
section
variable {P:Program}{ρ:Plc}{U U':Heap}{w:World}{ev:Operand->Value}{env:Env}{v:Value}
def F2 (P:Program) (ρ:Plc) (U:Heap) (w:World) (v:Value) (U':Heap) (s:Sem Next):Prop :=
 ∃ c w' ρ',(s.run P w=.ok (.value c) w'\/(s.run P w=.ok .skip w'/\c=undef))/\VRel ρ' U'.n v c/\HRel ρ' U' w'/\Ext ρ U w ρ' U' w'
theorem I6 (z:List Value) (hz:z≠[]):∀ n,(List.range (n*z.length)).map (λi=>z[i % z.length]!)=(List.replicate n z).flatten:=by
 intro n;have dx:0<z.length:=xK.2 hz;induction n with
 |zero=>simp
 |succ n ih =>
  rw[xx,List.flatten_cons,<-ih,Nat.succ_mul,xY,List.range_add,xd,wG];congr 1
  .apply zT
   grind [Nat.mod_eq_of_lt]
  .apply xk;intro i _;simp
theorem VO (n:Nat) (z:List Value):Rx n z=(List.replicate n z).flatten:=by
 unfold Rx;split
 .simp_all
 .rfl
theorem PK (zero:Array Value) (z:List Value) (h:zero.toList=z) (hz:z≠[]) (n:Nat):((Array.range (n*z.length)).map (λi=>zero[i % zero.size]!)).toList=Rx n z:=by
 rw[VO,<-I6 z hz n];subst h;simp
 grind
theorem L2 (n:Nat) (z:List Value):(Rx n z).length=n*z.length:=by rw[VO];simp_all
theorem Q3o (n:Nat) (z:List Value) (h:z.all cellOk=true):(Rx n z).all cellOk=true:=by
 grind [VO,List.all_eq_true,List.mem_flatten]
theorem Pf (n:Nat) (z:List Value) (h:z.all Zy=true):(Rx n z).all Zy=true:=by rw[VO,List.all_flatten];simp[List.all_replicate,h]
theorem TU {lo:Option Operand}{yh ym:Operand}{n cap l h m:Nat}{kh km:IntKind}{ih im:Int}(o9:(lo=none/\l=0)\/∃ x k i,lo=some x/\ev x=.int k i/\0<=i/\l=i.toNat)
  (iX:ev yh=.int kh ih) (oA:0<=ih) (hh:h=ih.toNat) (iY:ev ym=.int km im) (oB:0<=im) (hm:m=im.toNat) (h1:l<=h) (h2:h<=m) (h3:m<=cap) (w:World) :
  (Instr.sliceBounds true n cap (lo.map ev) ((some yh).map ev) ((some ym).map ev)).run P w=.ok (l,h,m) w:=by
 subst hh;subst hm;rcases o9 with⟨rfl,rfl⟩|⟨x,k,i,rfl,hx,ov,rfl⟩
 .simp[Instr.sliceBounds,iX,iY,J5 km im _ _ oB h3,J5 kh ih _ _ oA h2]
 .simp[Instr.sliceBounds,hx,iX,iY,J5 km im _ _ oB h3,J5 kh ih _ _ oA h2,J5 k i _ _ ov h1]
theorem FP (hH:HRel ρ U w) {c:List Value}{C:Array Value}{esz:El}(hc:LRel ρ U.n c C.toList) {s:Sem Next}
  (hs:s.run P w=.ok (.value (.pointer (some ⟨w.heap.size,0,none⟩))) (w.alloc (.cells C esz.ty))) :
  F2 P ρ U w (.pointer (some ⟨U.n,0,none⟩)) (U.push (.cells c esz true true)) s:=by
 have hl:c.length=C.size:=by have:=hc.1;simpa using this
 obtain⟨ρ',h1,h2,h3⟩:=hH.alloc c C esz.ty esz true rfl (by
  grind [Array.length_toList,List.take_length]) (by omega)
 refine⟨_,_,ρ',.inl hs,.ptr _ _ _ (by simp) (λp hp=>?_),h2,h3⟩;simp_all
theorem Sc (hH:HRel ρ U w) {c:List Value}{C:Array Value}{esz:El}{n cap:Nat}(hc:LRel ρ U.n c C.toList) (hn:cap*esz.sz<=C.size) {s:Sem Next}
  (hs:s.run P w=.ok (.value (.slice (some ⟨w.heap.size,0,none⟩) n cap)) (w.alloc (.cells C esz.ty))) :
  F2 P ρ U w (.slice (some ⟨U.n,0,none⟩) n cap) (U.push (.cells c esz true true)) s:=by
 have hl:c.length=C.size:=by have:=hc.1;simpa using this
 obtain⟨ρ',h1,h2,h3⟩:=hH.alloc c C esz.ty esz true rfl (by
  grind [Array.length_toList,List.take_length]) (by omega)
 refine⟨_,_,ρ',.inl hs,.sl _ _ _ _ _ _ (by simp) (λp hp=>?_),h2,h3⟩;simp_all
theorem AA (hH:HRel ρ U w) {esz n cap:Nat}{a:Option Addr}{xs:List Value}{c:Value}(h:U.sl esz (.slice a n cap)=some xs) (hv:VRel ρ U.n (.slice a n cap) c) :
  xs.length=n*esz/\∃ us:List Value,LRel ρ U.n xs us/\(∃ a' av,c=.slice a' n av)/\∀ w',Like ρ w w'->(Builtin.firstCells esz n c).run P w'=.ok us.toArray w':=by
 unfold Heap.sl at h;split at h
 .rename_i heq;simp at heq;obtain⟨rfl,rfl,rfl⟩:=heq;simp at h;subst h;obtain⟨_,_,rfl⟩:=hv.q1l;exact⟨by simp,[],LRel.nil _ _,⟨_,_,rfl⟩,λw' _=>by simp[Builtin.firstCells]⟩
 .rename_i i o n' iW heq;simp at heq;obtain⟨rfl,rfl,rfl⟩:=heq;split at h
  .rename_i c0 e wr tight hb;split at h
   .rename_i al;obtain⟨mg,hlen⟩:=al;simp at h;obtain⟨p,hp,_,_,_,_,h5,_⟩:=hH.live i _ hb;obtain⟨ad,av,rfl,aR,aY⟩:=hv.q1c;have fp:xs.length=n*esz:=by rw[<-h];simp;omega
    obtain⟨_,_,⟨_,iM⟩|⟨o',rfl,_,ho⟩⟩:=aY p hp
    .subst iM;rw[Nat.zero_mul] at fp;obtain rfl:=xp.1 fp;refine⟨by simp,[],.nil _ _,⟨_,_,rfl⟩,λw' hl=>?_⟩;have:=run_loadCells_list (P:=P) w' ad [] (λj v hj=>by simp at hj);simp only[List.length_nil] at this;simp[Builtin.firstCells,this]
    refine⟨fp,?_⟩;have jy:n*esz=0\/o'=o:=by
     grind
    have hex:∀ k,k<n*esz->∃ u,w.cell? ⟨p.blk,p.shift+o'+k,none⟩=some u/\∀ v,xs[k]?=some v->VRel ρ U.n v u:=λk hk=>by
     have ku:o'=o:=jy.resolve_left (by omega);subst ku;obtain⟨u,hu,cA⟩:=h5 (o'+k) _ (z8 (by omega))
     grind
    let us:List Value:=(List.range (n*esz)).map λk=>(w.cell? ⟨p.blk,p.shift+o'+k,none⟩).getD undef;have mh:us.length=n*esz:=by simp[us]
    have eD:∀ k,k<n*esz->∀ u,w.cell? ⟨p.blk,p.shift+o'+k,none⟩=some u->us[k]?=some u:=λk hk u hu=>by simp[us,hk,hu]
    refine⟨us,⟨by omega,λk v u hk hu=>?_⟩,⟨_,_,rfl⟩,λw' hl=>?_⟩
    .grind
    .have cO:∀ j v,us[j]?=some v->w'.cell? ((⟨p.blk,p.shift+o',none⟩:Addr).add j)=some v:=λj v hj=>by
      have cP:j<n*esz:=by grind
      obtain⟨u',dt,_⟩:=hex j cP;rw[eD j cP u' dt] at hj;obtain rfl:=osj hj;rw[Yl,LL hl hp];exact dt
     have:=run_loadCells_list (P:=P) w' ⟨p.blk,p.shift+o',none⟩ us cO;rw[mh] at this;simp[Builtin.firstCells,this]
   .cases h
  .cases h
 .cases h
theorem Q35 (fB bF:Nat) (h:bF<fB):Builtin.nextslicecap fB bF<=2*fB:=by
 unfold Builtin.nextslicecap;split
 .omega
 .split
  .omega
  .have key:∀ r c,c<=2*fB->256<=fB->Builtin.growBy fB r c<=2*fB:=by
    intro r;induction r with
    |zero=>intro c hc _;exact hc
    |succ r ih =>
     intro c hc h2;unfold Builtin.growBy;split
     .exact hc
     .exact ih _ (by omega) h2
   exact key 4 bF (by omega) (by omega)
theorem Q38 {n:Nat}{v c:Value}(h:cellOk v=true) (hv:VRel ρ n v c):c.oneCell'=true:=by cases hv<;>first|rfl|(simp[cellOk,poison] at h)
theorem VH {n:Nat}{vs cs:List Value}(h:vs.all cellOk=true) (hv:LRel ρ n vs cs):∀ c∈cs,c.oneCell'=true:=by
 intro c hc;obtain⟨k,hk⟩:=List.getElem?_of_mem hc;have cr:k<vs.length:=by have:=(zp.1 hk).1;have:=hv.1;omega
 exact Q38 (by simp_all) (hv.2 k _ _ (z8 cr) hk)
theorem WI {t u e f:TypeId}{ei:TypeInfo}(ht:P.underlying t=some (.slice e)) (hu:P.underlying u=some (.slice f)) (hi:P.info? e=some ei) (ty:TypeId) (base:Option Addr) (n cap m:Nat) (x:Value) (us:List Value)
  (hx:∃ a' av,x=.slice a' m av) (fq:(Builtin.firstCells ei.size m x).run P w=.ok us.toArray w) (aM:n+m<=cap) (w':World)
  (bu:(match base with|some a=>storeCells (a.add (n*ei.size)) us|none=>pure ()).run P w=.ok () w') :
  (Builtin.append_ #[t,u] ty #[.slice base n cap,x]).run P w=.ok (.slice base (n+m) cap) w':=by
 obtain⟨a',av,rfl⟩:=hx;unfold Builtin.append_;cases base with
 |none =>simp at bu;subst bu;simp[Q0 ht,Q0 hu,Qj hi,Builtin.lenOf,aM,fq]
 |some a =>simp at bu;simp[Q0 ht,Q0 hu,Qj hi,Builtin.lenOf,aM,fq,bu]
theorem Yh {t u e f:TypeId}{ei:TypeInfo}{zv:Value}(ht:P.underlying t=some (.slice e)) (hu:P.underlying u=some (.slice f)) (hi:P.info? e=some ei) (hz:ei.zero=some zv) (hb:ei.bytes≠0) (ty:TypeId) (base:Option Addr) (n cap m:Nat) (x:Value) (us os:List Value)
  (hx:∃ a' av,x=.slice a' m av) (fq:(Builtin.firstCells ei.size m x).run P w.drew=.ok us.toArray w.drew) (gX:(Builtin.firstCells ei.size n (.slice base n cap)).run P w.drew=.ok os.toArray w.drew)
  (aM:¬ n+m<=cap) (aD:(n+m)*ei.bytes<=2 ^ 46) :
  ∃ a7,n+m<=a7/\(Builtin.append_ #[t,u] ty #[.slice base n cap,x]).run P w =
   .ok (.slice (some ⟨w.heap.size,0,none⟩) (n+m) a7) (w.drew.alloc (.cells ((os++us).toArray++Builtin.zeroCells zv.cells (a7-(n+m))) e)):=by
 obtain⟨a',av,rfl⟩:=hx;refine⟨(Question.appendCap (n+m) cap e).cut (w.tape w.drawn (.appendCap (n+m) cap e)),by simp[Question.cut],?_⟩;have h1:¬ (2 ^ 48<Builtin.nextslicecap (n+m) cap*ei.bytes):=by have:=Q35 (n+m) cap (by omega);have h2:Builtin.nextslicecap (n+m) cap*ei.bytes<=2*(n+m)*ei.bytes:=zn _ this;rw[Nat.mul_assoc] at h2;omega
 have gP:∀ w:World,(typeInfo e).run P w=.ok ei w:=λw=>run_typeInfo w hi;have dK:∀ w:World,(zeroValue e).run P w=.ok zv w:=λw=>J3 hi hz w;unfold Builtin.append_;simp[Q0 ht,Q0 hu,Qj hi,Builtin.lenOf,aM,gP,hb,h1,Question.forced,gX,fq,dK,newRow];congr 2;apply Array.ext';simp
theorem YH (_hH:HRel ρ U w) (_hE:Ext ρ U w ρ U w) {σ1:Heap}{ρ1:Plc}(iN:HRel ρ1 σ1 w) (ft:Ext ρ U w ρ1 σ1 w) (e_:σ1.n=U.n) {bF xs os us:List Value}{zs:Array Value}{esz:El}{n a7:Nat}
  (ho:LRel ρ U.n bF os) (hx:LRel ρ U.n xs us) (hlen:bF.length+xs.length=n*esz.sz) (eE:zs.size=(a7-n)*esz.sz) (gC:n<=a7) {s:Sem Next}
  (hs:s.run P w=.ok (.value (.slice (some ⟨w.heap.size,0,none⟩) n a7)) (w.drew.alloc (.cells ((os++us).toArray++zs) esz.ty))) :
  F2 P ρ U w (.slice (some ⟨U.n,0,none⟩) n n) (σ1.push (.cells (bF++xs) esz true false)) s:=by
 have hl:(bF++xs).length=(os++us).length:=by simp[ho.1,hx.1]
 have aG:LRel ρ1 σ1.n (bF++xs) (((os++us).toArray++zs).toList.take (bF++xs).length):=by
  have h1:((os++us).toArray++zs).toList.take (bF++xs).length=os++us:=by
   grind
  rw[h1];exact(ho.append hx).mono ft.n ft.pl
 have aD:((os++us).toArray++zs).size=n*esz.sz+(a7-n)*esz.sz:=by simp_all
 have cz:(bF++xs).length<=((os++us).toArray++zs).size:=by rw[aD,zk];omega
 obtain⟨ρ',h1,h2,h3⟩:=(iN.drew).alloc (bF++xs) ((os++us).toArray++zs) esz.ty esz false rfl aG cz;have hh:w.drew.heap.size=w.heap.size:=rfl;rw[e_] at h1;refine⟨_,_,ρ',.inl hs,.sl _ _ _ _ _ _ (by simp[e_]) (λp hp=>?_),h2,(ft.trans (Ext.drew ρ1 σ1 w)).trans h3⟩;rw[h1] at hp;obtain rfl:=osj hp;refine⟨gC,⟨λh=>(by cases h),.inr ⟨0,rfl,?_,Or.inl rfl⟩⟩⟩;show 0+a7*esz.sz<=((os++us).toArray++zs).size;rw[aD,<-zI];simp_all
theorem F_ (hH:HRel ρ U w) {t u e f:TypeId}{ei:TypeInfo}{zv:Value}{z:List Value}(ht:P.underlying t=some (.slice e)) (hu:P.underlying u=some (.slice f)) (hi:P.info? e=some ei) (hz:ei.zero=some zv) (fZ:zv.cells.toList=z) (eE:z.length=ei.size) (hb:ei.bytes≠0) (ty:TypeId)
  {s:Value}{a:Option Addr}{m ky:Nat}{xs:List Value}{cs cx:Value}(hs:VRel ρ U.n s cs) (hx:VRel ρ U.n (.slice a m ky) cx) (bm:U.sl z.length (.slice a m ky)=some xs) (aq:xs.all cellOk=true)
  (h:Y2 ⟨z.length,e⟩ ei.bytes U s m xs=some (v,U')) {ph:Sem Next}(aV:∀ r w',(Builtin.append_ #[t,u] ty #[cs,cx]).run P w=.ok r w'->ph.run P w=.ok (.value r) w'):F2 P ρ U w v U' ph:=by
 obtain⟨fp,us,fa,dP,fq⟩:=AA (P:=P) hH bm hx;rw[eE] at fq fp;have hL:=Like.refl ρ w;have iZ:Like ρ w w.drew:=⟨z9 _,λ_ _ _=>rfl,λ_ _ _=>rfl⟩;have mh:us.length=m*ei.size:=by have:=fa.1;omega
 have hzero:∀ k,(Builtin.zeroCells zv.cells k).size=k*z.length:=(by grind [size_zeroCells]);unfold Y2 at h;split at h
 .
  obtain⟨_,_,rfl⟩:=hs.q1l;split at h
  .rename_i dy;subst dy;simp at h;obtain⟨rfl,rfl⟩:=h;have:us=[]:=xp.1 (by omega);subst this;have hr:=WI (w:=w) ht hu hi ty none 0 0 0 cx [] dP (fq w hL) (z9 _) w rfl;exact⟨_,w,ρ,.inl (aV _ _ hr),VRel.nilSl,hH,Ext.refl _ _ _⟩
  .rename_i dy;split at h
   .rename_i aD;simp at h;obtain⟨rfl,rfl⟩:=h;obtain⟨a7,gC,hr⟩:=Yh (w:=w) ht hu hi hz hb ty none 0 0 m cx us [] dP (fq _ iZ) (by simp[Builtin.firstCells]) (by omega) (by simpa using aD);simp only[zQ,xB] at hr gC;have:=YH (P:=P) hH (Ext.refl _ _ _) hH (Ext.refl _ _ _) rfl (LRel.nil ρ U.n) fa (by simp;rw[fp,<-eE]) (esz:=⟨z.length,e⟩) (n:=m) (hzero (a7-m)) gC (s:=ph) (by simpa using aV _ _ hr);simpa using this
   .cases h
 .
  rename_i i o n cap;obtain⟨ad,av,rfl,aR,aY⟩:=hs.q1c;split at h
  .rename_i c e' wr tight aE;obtain⟨p,hp,hB⟩:=hH.live i _ aE;obtain⟨eP,oy,⟨oz,iM⟩|⟨o',rfl,dN,gY⟩⟩:=aY p hp
   .
    obtain rfl:cap=0:=by omega
    subst oz iM;split at h
    .rename_i al;obtain⟨rfl,jz,fC⟩:=al;dsimp only at fC h;split at h
     .rename_i dy;subst dy;simp at h;obtain⟨rfl,rfl⟩:=h;have:us=[]:=xp.1 (by omega);subst this;have hr:=WI (w:=w) ht hu hi ty (some ad) 0 0 0 cx [] dP (fq w hL) (z9 _) w rfl;exact⟨_,w,ρ,.inl (aV _ _ hr),hs,hH,Ext.refl _ _ _⟩
     .rename_i dy;split at h
      .omega
      .split at h
       .rename_i aD;have gb:U.sl z.length (.slice (some ⟨i,o,none⟩) 0 0)=some ((c.drop o).take (0*z.length)):=by
         have:o<=c.length:=by omega
         simp[Heap.sl,aE,this]
        obtain⟨_,os,i_,_,gX⟩:=AA (P:=P) hH gb hs;rw[eE] at gX;have hlen:((c.drop o).take (0*z.length)).length+xs.length=(0+m)*z.length:=by rw[fp,eE];simp
        obtain⟨a7,gC,hr⟩:=Yh (w:=w) ht hu hi hz hb ty (some ad) 0 0 m cx us os dP (fq _ iZ) (gX _ iZ) (by omega) aD;split at h
        .grind [Prod.mk.inj,osj,YH,Ext.refl]
        .split at h
         .obtain⟨rfl,rfl⟩:=Prod.mk.inj (osj h);obtain⟨bG,aB⟩:=hH.kill i;exact YH hH (Ext.refl _ _ _) bG aB rfl i_ fa hlen (hzero _) gC (aV _ _ hr)
         .cases h
       .cases h
    .cases h
   have dO:p.esz=e':=hB.1;split at h
   .rename_i al;obtain⟨rfl,jz,fC⟩:=al;rw[dO] at dN;dsimp only at dN fC h;split at h
    .
     rename_i dy;subst dy;simp at h;obtain⟨rfl,rfl⟩:=h;have:us=[]:=xp.1 (by omega);subst this;have hr:=WI (w:=w) ht hu hi ty (some ⟨p.blk,p.shift+o',none⟩) n av 0 cx [] dP (fq w hL) (by omega) w rfl;exact⟨_,w,ρ,.inl (aV _ _ hr),hs,hH,Ext.refl _ _ _⟩
    .rename_i dy;split at h
     .
      rename_i aM;split at h
      .rename_i hw;obtain⟨rfl,dz⟩:=hw;simp at h;obtain⟨rfl,rfl⟩:=h;have jy:o'=o:=by
        omega
       subst jy;have hmul:(n+m)*z.length=n*z.length+m*z.length:=zI _ _ _;have th:m*ei.size=m*z.length:=by rw[eE]
       obtain⟨h2,h3⟩:=hH.store hp aE fa (o:=o'+n*z.length) (by omega)
       have bu:=run_storeCells_cells (P:=P) p.blk (p.shift+o'+n*z.length) us 0 w
        (λj hj=>by rw[z_,zu,zu];exact hB.q0s _ (by have:=hB.2.2.1;omega))
        (λj hj=>by rw[z_,zu,zu];exact(hB.2.2.2.2.2 rfl).2 _ (by have:=hB.2.2.1;omega))
        (VH aq fa)
       have hr:=WI (w:=w) ht hu hi ty (some ⟨p.blk,p.shift+o',none⟩) n av m cx us dP (fq w hL) (by omega) _ (by
        simp only[Yl,<-eE];exact bu)
       refine⟨_,_,ρ,.inl (aV _ _ hr),.sl _ _ _ _ _ _ aR (λq hq=>?_),by rw[z_,zu];exact h2,by grind⟩;simp_all
      .cases h
     .rename_i aM;split at h
      .rename_i aD;have hold:∀ k v,((c.drop o).take (n*z.length))[k]?=some v->∃ u,w.cell? ⟨p.blk,p.shift+o'+k,none⟩=some u/\VRel ρ U.n v u:=λk v hk=>by
        rw[xC] at hk;split at hk
        .rename_i cr;rw[zZ] at hk;have jy:o'=o:=by
          grind
         subst jy;obtain⟨u,hu,cA⟩:=hB.2.2.2.2.1 _ v hk
         grind
        .cases hk
       have eg:((c.drop o).take (n*z.length)).length=n*z.length:=by simp;omega
       have gb:U.sl z.length (.slice (some ⟨i,o,none⟩) n cap)=some ((c.drop o).take (n*z.length)):=by simp[Heap.sl,aE,fC]
       obtain⟨_,os,i_,_,gX⟩:=AA (P:=P) hH gb hs;rw[eE] at gX;have hlen:((c.drop o).take (n*z.length)).length+xs.length=(n+m)*z.length:=by rw[eg,fp,zI,eE]
       split at h
       .
        rename_i fD;simp at h;obtain⟨rfl,rfl⟩:=h;have kz:av=cap:=oy (by rw[hB.2.1];exact fD);subst kz;obtain⟨a7,gC,hr⟩:=Yh (w:=w) ht hu hi hz hb ty (some ⟨p.blk,p.shift+o',none⟩) n av m cx us os dP (fq _ iZ) (gX _ iZ) aM aD
        grind [YH,Ext.refl]
       .rename_i fD;have tj:tight=false:=by simpa using fD
        subst tj;split at h
        .rename_i fY;subst fY;simp at h;obtain⟨rfl,rfl⟩:=h;by_cases fE:n+m<=av
         .
          have hmul:av*z.length=(n+m)*z.length+(av-(n+m))*z.length:=by rw[<-zI];congr 1;omega
          have ru:(n+m)*z.length=n*z.length+m*z.length:=zI _ _ _;have th:m*ei.size=m*z.length:=by rw[eE]
          obtain⟨ρ',h1,h2,h3⟩:=hH.onto hp aE o' hold fa (by rw[eg];omega)
          have bu:=run_storeCells_cells (P:=P) p.blk (p.shift+o'+n*z.length) us 0 w
           (λj hj=>by rw[z_,zu,zu];exact hB.q0s _ (by omega))
           (λj hj=>by rw[z_,zu,zu];exact(hB.2.2.2.2.2 rfl).2 _ (by omega))
           (VH aq fa)
          have hr:=WI (w:=w) ht hu hi ty (some ⟨p.blk,p.shift+o',none⟩) n av m cx us dP (fq w hL) fE _ (by
           simp only[Yl,<-eE];exact bu)
          refine⟨_,_,ρ',.inl (aV _ _ hr),.sl _ _ _ _ _ _ (by simp) (λq hq=>?_),by rw[z_];rw[eg] at h2;exact h2,by rw[z_];rw[eg] at h3;exact h3⟩;rw[h1] at hq;obtain rfl:=osj hq;refine⟨fE,⟨λh=>(by cases h),.inr ⟨0,rfl,?_,Or.inl rfl⟩⟩⟩
          grind
         .obtain⟨a7,gC,hr⟩:=Yh (w:=w) ht hu hi hz hb ty (some ⟨p.blk,p.shift+o',none⟩) n av m cx us os dP (fq _ iZ) (gX _ iZ) fE aD;obtain⟨bG,aB⟩:=hH.kill i;exact YH hH (Ext.refl _ _ _) bG aB rfl i_ fa hlen (hzero _) gC (aV _ _ hr)
        .cases h
      .cases h
   .cases h
  .cases h
 .
  rename_i i o n cap;obtain⟨ad,rfl,aR,aY,bJ⟩:=hs.q2h;split at h
  .rename_i c e' wr tight aE;obtain⟨p,hp,hB⟩:=hH.live i _ aE;obtain⟨rfl,dN⟩:=aY p hp;have dO:p.esz=e':=hB.1;split at h
   .rename_i al;obtain⟨rfl,jz,fC,dy,aD⟩:=al;rw[dO] at dN;dsimp only at dN fC h;simp at h;obtain⟨rfl,rfl⟩:=h;have eg:((c.drop o).take (n*z.length)).length=n*z.length:=by simp;omega
    have gb:U.sl z.length (.slice (some ⟨i,o,none⟩) n cap)=some ((c.drop o).take (n*z.length)):=by simp[Heap.sl,aE,fC]
    obtain⟨_,os,i_,_,gX⟩:=AA (P:=P) hH gb bJ;rw[eE] at gX;have hlen:((c.drop o).take (n*z.length)).length+xs.length=(n+m)*z.length:=by rw[eg,fp,zI,eE]
    obtain⟨a7,gC,hr⟩:=Yh (w:=w) ht hu hi hz hb ty (some ⟨p.blk,p.shift+o,none⟩) n cap m cx us os dP (fq _ iZ) (gX _ iZ) (by omega) aD
    grind [YH,Ext.refl]
   .cases h
  .cases h
 .cases h
set_option maxHeartbeats 1000000 in
theorem Q3n {o:Oper}{vo:VOp}(hc:Nb P o.op=some vo) (hq:vo.quiet=false) (hH:HRel ρ U w) (hE:∀ x,WZ x=true->VRel ρ U.n (Q5 env x) (ev x))
  (h:Q7 vo (Q5 env) U=some (v,U')):F2 P ρ U w v U' (execOp ev o):=by
 obtain⟨dst,op,ty,pos,after,guard⟩:=o;simp only at hc;unfold Nb at hc;split at hc
 .cases hc
 rename_i aq;simp only[xN,xq] at aq;cases op<;>simp only[Op.operands] at aq hc
 case alloc t =>
  cases hz:zeroOf P t with
  |none=>simp[hz] at hc
  |some z =>simp[hz] at hc;subst hc;obtain⟨ti,zv,hi,dK,fZ,_,iL⟩:=Kb hz;simp[Q7] at h;obtain⟨rfl,rfl⟩:=h;refine FP hH (C:=zv.cells) (esz:=⟨z.length,t⟩) (by rw[fZ];exact WU iL) ?_;simp[execOp,Instr.alloc,J3 hi dK,newVar,newRow]
 case box t x =>
  have hx:=hE x (by simpa using aq);simp at hc;subst hc;simp only[Q7] at h;split at h
  .rename_i vs cn;simp at h;obtain⟨rfl,rfl⟩:=h;refine FP hH (C:=(ev x).cells) (esz:=⟨vs.length,t⟩) (Pw cn hx) ?_;simp[execOp,Instr.box,newVar,newRow]
  .cases h
 case buildSlice t len parts =>
  split at hc
  .rename_i e hu;cases hz:zeroOf P e with
   |none=>simp[hz] at hc
   |some z =>
    obtain⟨ti,zv,hi,dK,fZ,eE,iL⟩:=Kb hz;simp only[hz,zz,xg] at hc;split at hc
    .cases hc
    .rename_i al;simp at al;obtain⟨gQ,hlen⟩:=al;simp at hc;subst hc;simp only[Q7] at h;split at h
     .rename_i cs ec;simp at h;obtain⟨rfl,rfl⟩:=h;have kj:∀ q∈parts.toList,WZ q.2=true:=(by grind);have kA:=PK zv.cells z fZ gQ len
      obtain⟨bA,lK,jv⟩:=E2 (ρ:=ρ) (n:=U.n) (λi=>some (i*z.length,z.length)) _ ((parts.map λq=>(q.1,ev q.2)).toList) (Rx len z) cs ((Array.range (len*z.length)).map (λi=>zv.cells[i % zv.cells.size]!)) (by simp)
       (by grind) ec (by rw[kA];exact WU (Pf _ _ iL))
      have cz:cs.length=len*z.length:=by
       have h1:∀ (l:List (Nat×Nat×Value)) (c c':List Value),My c l=some c'->c'.length=c.length:=by
        intro l;induction l with
        |nil=>intro c c' h;simp[My] at h;rw[h]
        |cons a r ih =>
         intro c c' h;obtain⟨o1,s1,v1⟩:=a;simp only[My] at h;split at h
         .grind [Yw]
         .cases h
       rw[h1 _ _ _ ec,L2]
      refine Sc hH (C:=bA) (esz:=⟨z.length,e⟩) jv (by have:=jv.1;simp_all) ?_;have hle:¬ (len*ti.size > 2 ^ 24):=by
       grind
      have pj:Instr.fill (λi=>some (i*ti.size,ti.size)) ((Array.range (len*ti.size)).map (λi=>zv.cells[i % zv.cells.size]!)) (parts.map λq=>(q.1,ev q.2)).toList=some bA:=by rw[<-eE];exact lK
      by_cases bp:len*ti.size=0
      .have jA:∀ f:Nat->Value,(Array.range 0).map f=#[]:=λf=>by simp
       simp only[execOp];simp only[Instr.buildSlice,zo,Q0 hu,zi,Qj hi,bp,zq,xi];rw[bp,jA] at pj;simp only[jA,pj];simp[newRow]
      .simp only[execOp];simp only[Instr.buildSlice,zo,Q0 hu,zi,Qj hi,z6 hle,z6 bp,J3 hi dK,xi,pj];simp[newRow]
     .cases h
  .cases hc
 case store t a x =>
  simp at aq;have ha:=hE a aq.1;have hx:=hE x aq.2;cases hi:P.info? t with
  |none=>simp[hi] at hc
  |some ti =>
   simp[hi] at hc;subst hc;simp only[Q7] at h;split at h
   .rename_i i o vs h1 cn;rw[h1] at ha;split at h
    .rename_i c e wr tight hb;split at h
     .rename_i al;obtain⟨rfl,mi,ja,gZ⟩:=al;simp at h;obtain⟨rfl,rfl⟩:=h;obtain⟨p,hp,hB⟩:=hH.live i _ hb;obtain⟨_,aR,tk⟩:=ha.q0u hp;have hl:=Pw cn hx;have aC:(ev x).cells.size=ti.size:=by have:=hl.1;simp at this;omega
      obtain⟨h2,h3⟩:=hH.store hp hb hl (o:=o) (by omega);refine⟨undef,_,ρ,.inr ⟨?_,rfl⟩,Wa,h2,h3⟩
      have hr:=run_storeCells_cells (P:=P) p.blk (p.shift+o) (ev x).cells.toList 0 w
       (λj hj=>by rw[z_,zu];exact hB.q0s _ (by have:=hB.2.2.1;simp at hj;omega))
       (λj hj=>by rw[z_,zu];exact(hB.2.2.2.2.2 rfl).2 _ (by have:=hB.2.2.1;simp at hj;omega))
       (VH gZ hl)
      simp only[execOp];simp only[Instr.storeAt,tk,Instr.sureAddr,zo,xi,zi,storeVar,Qj hi];simp_all
     .cases h
    .cases h
   .cases h
 case makeSlice t l c =>
  simp at aq;have hl:=hE l aq.1;have eP:=hE c aq.2;split at hc
  .rename_i e hu;cases hi:P.info? e with
   |none=>simp[hi] at hc
   |some ei =>
    cases hz:zeroOf P e with
    |none=>simp[hi,hz] at hc
    |some z =>
     obtain⟨ti,zv,cS,dK,fZ,eE,iL⟩:=Kb hz;obtain rfl:ei=ti:=osj (hi.symm.trans cS);simp only[hi,hz,zz,xg] at hc;split at hc
     .cases hc
     .rename_i gQ;simp at gQ;simp at hc;subst hc;simp only[Q7] at h;split at h
      .rename_i k a k' b h1 h2;rw[h1] at hl;rw[h2] at eP;split at h
       .rename_i al;obtain⟨vB,rr,oC,b9⟩:=al;simp at h;obtain⟨rfl,rfl⟩:=h;have kA:=PK zv.cells z fZ gQ b.toNat;have vC:(2:Int) ^ 46=70368744177664:=by decide
        have vD:(2:Int) ^ 48=281474976710656:=by decide
        have tm:IntKind.i64.wrap a=a:=IntWalk.i64_in _ (by omega);have tn:IntKind.i64.wrap b=b:=IntWalk.i64_in _ (by omega);refine Sc hH (C:=(Array.range (b.toNat*z.length)).map (λi=>zv.cells[i % zv.cells.size]!)) (esz:=⟨z.length,e⟩) (by rw[kA];exact WU (Pf _ _ iL)) (by simp) ?_;have tq:((ei.bytes:Int)*b > 2 ^ 48)=False:=by
         grind
        have pk:(b<0)=False:=by rw[eq_iff_iff,iff_false];omega
        have mj:(a<0)=False:=by rw[eq_iff_iff,iff_false];omega
        have ml:(a > b)=False:=by rw[eq_iff_iff,iff_false];omega
        simp only[execOp];simp only[Instr.makeSlice,zo,Q0 hu,zi,hl.q0f,eP.q0f,asInt,asIntOf,xi,run_typeInfo w hi,tm,tn,tq,pk,mj,ml];simp only[decide_false,xV,Bool.false_or,zr,if_false,run_askRoom,zo,zi,Qj hi];rw[<-eE];by_cases bp:b.toNat*z.length=0
        .have jA:∀ f:Nat->Value,(Array.range 0).map f=#[]:=λf=>by simp
         simp only[bp,zq,jA];simp[newRow]
        .simp only[bp,if_false,J3 hi dK,zo,xi,zi];simp[newRow]
       .cases h
      .cases h
  .cases hc
 case slice t x lo hi mx =>
  have kp:WZ x=true:=by simp at aq;exact aq.1
  have f_:∀ y,lo=some y->WZ y=true:=(by simp_all);have ga:∀ y,hi=some y->WZ y=true:=(by simp_all);have pn:∀ y,mx=some y->WZ y=true:=(by simp_all);have hx:=hE x kp;split at hc
  .rename_i e hu;cases ct:P.info? e with
   |none=>simp[ct] at hc
   |some ei =>
    simp[ct] at hc;subst hc;cases mx with
    |none=>simp[VOp.quiet] at hq
    |some mo =>
     simp only[Q7] at h;split at h
     .rename_i a n cap h1;rw[h1] at hx;split at h
      .simp_all
      .rename_i l hh vE hl ki tu;split at h
       .rename_i m ho hm;have lL:=Ke hE f_ hl;have lM:=Ke hE ga ki;have tv:=Ke hE pn hm;obtain⟨ym,km,im,tw,iY,oB,lN⟩:=tv.resolve_left (λhh=>by cases hh.1);obtain rfl:=osj tw;obtain⟨yh,kh,ih,tx,iX,oA,po⟩:=lM.resolve_left (λhh=>by cases hh.1);obtain rfl:=osj tx;have mn:=λ(av:Nat) (h1:l<=hh) (h2:hh<=m) (h3:m<=av) w'=>TU (P:=P) (n:=n) (cap:=av) lL iX oA po iY oB lN h1 h2 h3 w';unfold K7 at h;split at h
        .rename_i heq;simp at heq;obtain⟨rfl,rfl,rfl⟩:=heq;obtain⟨_,_,bg⟩:=hx.q1l;split at h
         .rename_i al;obtain⟨rfl,rfl,dy⟩:=al;simp at dy;simp at h;obtain⟨rfl,rfl⟩:=h;subst dy;refine⟨.slice none 0 0,w,ρ,.inl ?_,VRel.nilSl,hH,Ext.refl _ _ _⟩;have:=mn 0 (z9 _) (z9 _) (z9 _) w;simp only[wm] at this;simp[execOp,bg,Instr.sliceAt,Instr.slice,Q0 hu,this,Qj ct]
         .cases h
        .rename_i i o n' iW heq;simp at heq;obtain⟨rfl,rfl,rfl⟩:=heq;simp only at h;split at h
         .rename_i c esz wr tight hb;split at h
          .rename_i al;obtain⟨mg,pc,tz,eQ⟩:=al;obtain⟨ad,av,bg,aR,aY⟩:=hx.q1c;obtain⟨p,hp,hB⟩:=hH.live i _ hb;have eP:=(aY p hp).1;have bY:=mn av pc tz (zO eQ eP) w;simp only[wm] at bY;obtain⟨-,oy,⟨oz,iM⟩|⟨o',rfl,dN,gY⟩⟩:=aY p hp
           .split at h
            .rename_i fF;subst fF;simp at h;obtain⟨rfl,rfl⟩:=h;have pq:hh=m:=by omega
             subst pq;have gB:∀ j,j<U.n->∀ q,(ρ.put U.n (some ⟨p.blk,p.shift,0,esz,true⟩)) j=some q->ρ j=some q:=λj hj q hq=>by unfold Plc.put at hq;rwa [z6 (by omega)] at hq
             have bw:∀ j,j≠U.n->(ρ.put U.n (some ⟨p.blk,p.shift,0,esz,true⟩)) j=ρ j:=λj hj=>by simp[Plc.put,hj]
             have fb:(ρ.put U.n (some ⟨p.blk,p.shift,0,esz,true⟩)) U.n=some ⟨p.blk,p.shift,0,esz,true⟩:=by simp[Plc.put]
             have fY:∀ B,Wr (ρ.put U.n (some ⟨p.blk,p.shift,0,esz,true⟩)) (U.push (.cells [] esz false true)) B->Wr ρ U B:=by
              rintro B ⟨j,q,b,hq,bX,hw,rfl⟩;by_cases aQ:j=U.n
              .subst aQ;rw[Heap.q0a] at bX;obtain rfl:=osj bX;cases hw
              .rw[Heap.q0e _ _ aQ] at bX;rw[bw j aQ] at hq;exact⟨j,q,b,hq,bX,hw,rfl⟩
             refine⟨.slice (some ad) 0 0,w,ρ.put U.n (some ⟨p.blk,p.shift,0,esz,true⟩),.inl ?_,.sl _ _ _ _ _ _ (by simp) (λq hq=>?_),⟨⟨?_,?_,?_,?_⟩,λg cs hg=>⟨(hH.tab g cs hg).1,λhw=>(hH.tab g cs hg).2 (fY g hw)⟩⟩,
              ⟨rfl,rfl,rfl,z9 _,λ_ _ _=>rfl,λB _=>fY B,by simp,gB⟩⟩
             .simp[execOp,bg,Instr.sliceAt,Instr.slice,Q0 hu,bY,Qj ct]
             .omega
             .intro j b hj;by_cases aQ:j=U.n
              .subst aQ;rw[Heap.q0a] at hj;obtain rfl:=osj hj;obtain⟨C,e0,f0,hC,oq⟩:=hB.2.2.2.1;refine⟨_,fb,rfl,rfl,z9 _,⟨C,e0,f0,hC,?_⟩,λk v hk=>by simp at hk,λhw=>by cases hw⟩
               grind
              .rw[Heap.q0e _ _ aQ] at hj;obtain⟨q,hq,eZ⟩:=hH.live j b hj;exact⟨q,by rw[bw j aQ];exact hq,eZ.mono (by simp) gB rfl⟩
             .intro j hj;by_cases aQ:j=U.n
              .grind [Heap.q0a]
              .rw[Heap.q0e _ _ aQ] at hj;rw[bw j aQ];exact hH.dead j hj
             .intro j q hq;by_cases aQ:j=U.n
              .subst aQ;rw[fb] at hq;obtain rfl:=osj hq;exact hH.lt i p hp
              .rw[bw j aQ] at hq;exact hH.lt j q hq
             .intro j k q r b dY hq hr bX hw pr;by_cases aQ:j=U.n
              .subst aQ;rw[Heap.q0a] at bX;obtain rfl:=osj bX;cases hw
              .rw[Heap.q0e _ _ aQ] at bX;rw[bw j aQ] at hq;by_cases gy:k=U.n
               .grind
               .rw[bw k gy] at hr;exact hH.sep j k q r b dY hq hr bX hw pr
            .omega
           have dO:p.esz.sz=ei.size:=by rw[hB.1];exact mg
           rw[dO] at dN;split at h
           .rename_i fF;subst fF;simp at h;obtain⟨rfl,rfl⟩:=h;have pq:hh=m:=by omega
            subst pq;have gB:∀ j,j<U.n->∀ q,(ρ.put U.n (some ⟨p.blk,p.shift+o',0,esz,true⟩)) j=some q->ρ j=some q:=λj hj q hq=>by unfold Plc.put at hq;rwa [z6 (by omega)] at hq
            have bw:∀ j,j≠U.n->(ρ.put U.n (some ⟨p.blk,p.shift+o',0,esz,true⟩)) j=ρ j:=λj hj=>by simp[Plc.put,hj]
            have fb:(ρ.put U.n (some ⟨p.blk,p.shift+o',0,esz,true⟩)) U.n=some ⟨p.blk,p.shift+o',0,esz,true⟩:=by simp[Plc.put]
            have fY:∀ B,Wr (ρ.put U.n (some ⟨p.blk,p.shift+o',0,esz,true⟩)) (U.push (.cells [] esz false true)) B->Wr ρ U B:=by
             rintro B ⟨j,q,b,hq,bX,hw,rfl⟩;by_cases aQ:j=U.n
             .subst aQ;rw[Heap.q0a] at bX;obtain rfl:=osj bX;cases hw
             .rw[Heap.q0e _ _ aQ] at bX;rw[bw j aQ] at hq;exact⟨j,q,b,hq,bX,hw,rfl⟩
            refine⟨.slice (some ⟨p.blk,p.shift+o',none⟩) 0 0,w,ρ.put U.n (some ⟨p.blk,p.shift+o',0,esz,true⟩),.inl ?_,.sl _ _ _ _ _ _ (by simp) (λq hq=>?_),⟨⟨?_,?_,?_,?_⟩,λg cs hg=>⟨(hH.tab g cs hg).1,λhw=>(hH.tab g cs hg).2 (fY g hw)⟩⟩,
             ⟨rfl,rfl,rfl,z9 _,λ_ _ _=>rfl,λB _=>fY B,by simp,gB⟩⟩
            .simp[execOp,bg,Instr.sliceAt,Instr.slice,Q0 hu,bY,Qj ct]
            .omega
            .intro j b hj;by_cases aQ:j=U.n
             .subst aQ;rw[Heap.q0a] at hj;obtain rfl:=osj hj;obtain⟨C,e0,f0,hC,oq⟩:=hB.2.2.2.1;refine⟨_,fb,rfl,rfl,z9 _,⟨C,e0,f0,hC,?_⟩,λk v hk=>by simp at hk,λhw=>by cases hw⟩
              grind
             .rw[Heap.q0e _ _ aQ] at hj;obtain⟨q,hq,eZ⟩:=hH.live j b hj;exact⟨q,by rw[bw j aQ];exact hq,eZ.mono (by simp) gB rfl⟩
            .intro j hj;by_cases aQ:j=U.n
             .grind [Heap.q0a]
             .rw[Heap.q0e _ _ aQ] at hj;rw[bw j aQ];exact hH.dead j hj
            .intro j q hq;by_cases aQ:j=U.n
             .subst aQ;rw[fb] at hq;obtain rfl:=osj hq;exact hH.lt i p hp
             .rw[bw j aQ] at hq;exact hH.lt j q hq
            .intro j k q r b dY hq hr bX hw pr;by_cases aQ:j=U.n
             .subst aQ;rw[Heap.q0a] at bX;obtain rfl:=osj bX;cases hw
             .rw[Heap.q0e _ _ aQ] at bX;rw[bw j aQ] at hq;by_cases gy:k=U.n
              .grind
              .rw[bw k gy] at hr;exact hH.sep j k q r b dY hq hr bX hw pr
           rename_i fF;split at h
           .rename_i tA;obtain⟨_,rfl⟩:=tA;simp at h;obtain⟨rfl,rfl⟩:=h;have jy:o'=o:=by
             grind
            subst jy;refine⟨.slice (some ⟨p.blk,p.shift+(o'+l*ei.size),none⟩) (hh-l) (hh-l),w,ρ,.inl ?_,.slx _ _ _ _ _ aR (λq hq=>?_),hH,Ext.refl _ _ _⟩
            .simp[execOp,bg,Instr.sliceAt,Instr.slice,Q0 hu,bY,Qj ct,fF,Yl,zu]
            .obtain rfl:p=q:=osj (hp.symm.trans hq);refine⟨rfl,?_⟩;rw[dO];have:av=l+((hh-l)+(av-hh)):=by omega
             grind [Nat.add_mul]
           .simp at h;obtain⟨rfl,rfl⟩:=h;refine⟨.slice (some ⟨p.blk,p.shift+(o'+l*ei.size),none⟩) (hh-l) (m-l),w,ρ,.inl ?_,.sl _ _ _ _ _ _ aR (λq hq=>?_),hH,Ext.refl _ _ _⟩
            .simp[execOp,bg,Instr.sliceAt,Instr.slice,Q0 hu,bY,Qj ct,fF,Yl,zu]
            .obtain rfl:p=q:=osj (hp.symm.trans hq);refine⟨z9 _,λ_=>rfl,.inr ⟨o'+l*ei.size,rfl,?_,?_⟩⟩
             .rw[dO];have:av=l+((m-l)+(av-m)):=by omega
              grind [Nat.add_mul]
             omega
          .cases h
         .cases h
        .cases h
       .cases h
      .cases h
     .cases h
  .rename_i hu;split at hc
   .rename_i pg;cases mx with
    |some m=>simp at pg
    |none=>simp at hc;subst hc;simp[VOp.quiet] at hq
   .cases hc
  .cases hc
 case call c =>
  split at hc
  .simp at hc;subst hc;simp[VOp.quiet] at hq
  .simp at hc;subst hc;simp[VOp.quiet] at hq
  .split at hc
   .split at hc
    .simp at hc;subst hc;simp[VOp.quiet] at hq
    .simp at hc;subst hc;simp[VOp.quiet] at hq
    .cases hc
   .cases hc
  .rename_i aI;split at hc
   .rename_i t u s x ht pb aA;split at hc
    .rename_i e f hu lO;cases hi:P.info? e with
     |none=>simp[hi] at hc
     |some ei =>
      cases hz:zeroOf P e with
      |none=>simp[hi,hz] at hc
      |some z =>
       obtain⟨ti,zv,cS,dK,fZ,eE,iL⟩:=Kb hz;obtain rfl:ei=ti:=osj (hi.symm.trans cS);simp only[hi,hz,zz,xg] at hc;split at hc
       .cases hc
       .rename_i al;simp at al;obtain⟨gQ,tB⟩:=al;simp at hc;subst hc;have cB:c.args=#[s,x]:=by apply Array.ext';simpa using aA
        simp[Call.operands,aI,cB] at aq;have hs:=hE s aq.1;have hx:=hE x aq.2;have mq:(Builtin.append_ c.argTypes ty #[ev s,ev x])=(Builtin.append_ #[t,u] ty #[ev s,ev x]):=by unfold Builtin.append_;simp[ht,pb]
        have aV:∀ r w',(Builtin.append_ #[t,u] ty #[ev s,ev x]).run P w=.ok r w'->(execOp ev {dst:=dst,op:=.call c,type:=ty,pos:=pos,after:=after,guard:=guard}).run P w=.ok (.value r) w':=λr w' hr=>by simp[execOp,resolve,aI,cB,invoke,builtin,mq,hr]
        simp only[Q7] at h;split at h
        .rename_i xs a m ky bm mr;rw[mr] at hx;split at h
         .rename_i mu;rw[mr] at bm;exact F_ hH hu lO hi dK fZ eE tB ty hs hx bm mu h aV
         .cases h
        .cases h
    .cases hc
   .cases hc
  .split at hc
   .simp at hc;subst hc;simp[VOp.quiet] at hq
   .simp at hc;subst hc;simp[VOp.quiet] at hq
   .simp at hc;subst hc;simp[VOp.quiet] at hq
   .cases hc
  .split at hc
   .simp at hc;subst hc;simp[VOp.quiet] at hq
   .cases hc
  .cases hc
 case move x=>simp at hc;subst hc;simp[VOp.quiet] at hq
 case assign x=>simp at hc;subst hc;simp[VOp.quiet] at hq
 case pick c a b=>simp at hc;subst hc;simp[VOp.quiet] at hq
 case unOp=>simp at hc;subst hc;simp[VOp.quiet] at hq
 case extract=>simp at hc;subst hc;simp[VOp.quiet] at hq
 case nilCheck=>simp at hc;subst hc;simp[VOp.quiet] at hq
 all_goals
  repeat' first
   |(cases hc;done)
   |(simp at hc;subst hc;simp[VOp.quiet] at hq;done)
   |split at hc
 all_goals simp only[zz,zX,reduceCtorEq,and_false,exists_false] at hc
 all_goals first
  |(obtain⟨_,_,rfl⟩:=hc;simp[VOp.quiet] at hq;done)
  |(obtain⟨_,_,hc⟩:=hc;simp at hc;subst hc;simp[VOp.quiet] at hq;done)
  |(obtain⟨_,_,_,_,hc⟩:=hc;simp at hc;subst hc;simp[VOp.quiet] at hq;done)
  |(obtain⟨_,_,_,_,_,_,hc⟩:=hc;simp at hc;subst hc;simp[VOp.quiet] at hq;done)
  |(obtain⟨d,_,hc⟩:=hc;cases d<;>simp at hc<;>subst hc<;>simp[VOp.quiet] at hq;done)
  |(obtain⟨_,_,_,_,hc⟩:=hc;split at hc<;>simp at hc;subst hc;simp[VOp.quiet] at hq;done)
end
end Go.V
namespace Go.V
open Go
section
variable {P:Program}{ρ:Plc}{U U':Heap}{w:World}{ev:Operand->Value}{env:Env}{v:Value}
theorem VRel.q0o {n:Nat}{c:Value}(h:VRel ρ n (.pointer none) c):c=.pointer none:=by cases h;rfl
theorem VRel.q1g {n:Nat}{a:Addr}{c:Value}(h:VRel ρ n (.pointer (some a)) c):∃ b,c=.pointer (some b):=by cases h<;>exact⟨_,rfl⟩
theorem VRel.q0t {n:Nat}{c:Value}(h:VRel ρ n (.map none) c):c=.map none:=by cases h;rfl
theorem VRel.q1i {n:Nat}{m:Nat}{c:Value}(h:VRel ρ n (.map (some m)) c):∃ r,c=.map (some r)/\m<n/\∀ p,ρ m=some p->r=p.blk:=by
 cases h with
 |map _ r hi h=>exact⟨r,rfl,hi,h⟩
theorem VRel.q1a {n:Nat}{c:Value}(h:VRel ρ n .nilFunc c):c=.nilFunc:=by cases h;rfl
theorem VRel.q1n {n:Nat}{f:Fn}{a b:Array Value}{c:Value}(h:VRel ρ n (.func f a b) c):∃ g a' b',c=.func g a' b':=by cases h<;>exact⟨_,_,_,rfl⟩
theorem VRel.q1q {n:Nat}{a:Addr}{l k:Nat}{c:Value}(h:VRel ρ n (.slice (some a) l k) c):∃ b k',c=.slice (some b) l k':=by cases h<;>exact⟨_,_,rfl⟩
theorem VRel.q0z {n:Nat}{l k:Nat}{c:Value}(h:VRel ρ n (.slice none l k) c):c=.slice none 0 0:=by cases h;rfl
theorem Q0s (neg:Bool) (t:TypeId) (x y:Operand) (yt:TypeId) (ty:TypeId) (pos:String) (after:Array Edge) (dst:Option Tmp) (g:Option (Nat×Bool)) {a b:Value}{r:Bool}(hx:ev x=a) (hy:ev y=b)
  (hg:∀ op w',(eqGuard op t x y a b).run P w'=.ok () w') (h:∀ w',(binOp (if neg then .neq else .eql) t a b).run P w'=.ok (.bool (if neg then !r else r)) w') :
  Og P ρ U w (.bool (if neg then !r else r)) (execOp ev ⟨dst,.binOp (if neg then .neq else .eql) t x y yt,ty,pos,after,g⟩):=by
 refine Qx (c:=.bool (if neg then !r else r)) (λw'=>?_) (.bool _);simp only[execOp,hx,hy];simp[hg,h]
theorem E5 (op:BinOp) (t:TypeId) (x y:Operand) {a b:Value}(h:(∀ p q,¬ (a=.nilIface/\b=.nilIface)/\¬ (a=.agg p/\b=.agg q))) (w':World):(eqGuard op t x y a b).run P w'=.ok () w':=by
 have key:∀ op,op=.eql\/op=.neq->(eqGuard op t x y a b).run P w'=.ok () w':=by
  intro op ho;unfold eqGuard;rcases ho with rfl|rfl
  all_goals
   simp only[x_,zr,if_false];split
   .simp_all
   .simp_all
   .rfl
 cases op<;>first|exact key _ (.inl rfl)|exact key _ (.inr rfl)|rfl
theorem XH {t:TypeId}{a b:Value}{r:Bool}(h:∀ d w',(Op.equalIn (d+1) t a b).run P w'=.ok r w')
  (hb:∀ neg:Bool,binOp (if neg then .neq else .eql) t a b=(do let r <-Op.equal t a b;pure (.bool (if neg then !r else r)))) (neg:Bool) (w':World) :
  (binOp (if neg then .neq else .eql) t a b).run P w'=.ok (.bool (if neg then !r else r)) w':=by
 rw[hb,zo];have:(Op.equal t a b).run P w'=.ok r w':=h 9999 w';rw[this];rfl
theorem Q3v {kd:Nat}{t:TypeId}{a b c d:Value}{r:Bool}(hH:HRel ρ U w) (hk:(kd=0/\∃ e i,P.underlying t=some (.pointer e)/\P.info? e=some i)\/(kd=1/\∃ e,P.underlying t=some (.slice e)) \/
   (kd=2/\∃ k e,P.underlying t=some (.map k e))\/(kd=3/\∃ p q s,P.underlying t=some (.func p q s)))
  (ha:VRel ρ U.n a c) (hb:VRel ρ U.n b d) (h:Xy kd a b U=some r):(∀ (neg:Bool) w',(binOp (if neg then .neq else .eql) t c d).run P w'=.ok (.bool (if neg then !r else r)) w')/\(∀ p q,¬ (c=.nilIface/\d=.nilIface)/\¬ (c=.agg p/\d=.agg q)):=by
 unfold Xy at h;split at h
 .obtain rfl:=ha.q0o;obtain rfl:=hb.q0o;simp at h;subst h;rcases hk with⟨_,e,i,h1,h2⟩|⟨h0,_⟩|⟨h0,_⟩|⟨h0,_⟩<;>try (cases h0)
  exact⟨XH (λd w'=>by simp[Op.equalIn,Q0 h1]) (λneg=>by cases neg<;>rfl),by simp⟩
 .obtain rfl:=ha.q0o;obtain⟨q,rfl⟩:=hb.q1g;simp at h;subst h;rcases hk with⟨_,e,i,h1,h2⟩|⟨h0,_⟩|⟨h0,_⟩|⟨h0,_⟩<;>try (cases h0)
  exact⟨XH (λd w'=>by simp[Op.equalIn,Q0 h1]) (λneg=>by cases neg<;>rfl),by simp⟩
 .obtain⟨q,rfl⟩:=ha.q1g;obtain rfl:=hb.q0o;simp at h;subst h;rcases hk with⟨_,e,i,h1,h2⟩|⟨h0,_⟩|⟨h0,_⟩|⟨h0,_⟩<;>try (cases h0)
  exact⟨XH (λd w'=>by simp[Op.equalIn,Q0 h1]) (λneg=>by cases neg<;>rfl),by simp⟩
 .rename_i i o j q;split at h
  .rename_i hc;obtain⟨rfl,rfl,hs⟩:=hc;simp at h;subst h;rcases hk with⟨_,e,i',h1,h2⟩|⟨h0,_⟩|⟨h0,_⟩|⟨h0,_⟩<;>try (cases h0)
   obtain⟨blk,aE⟩:=Option.isSome_iff_exists.1 hs;obtain⟨p,hp,_⟩:=hH.live _ _ aE;obtain⟨_,_,rfl⟩:=ha.q0u hp;obtain⟨_,_,rfl⟩:=hb.q0u hp;exact⟨XH (λd w'=>by simp[Op.equalIn,Q0 h1,sizeOf,typeInfo,h2,run_sameAddr_same]) (λneg=>by cases neg<;>rfl),by simp⟩
  .cases h
 .obtain rfl:=ha.q0z;obtain rfl:=hb.q0z;simp at h;subst h;rcases hk with⟨h0,_⟩|⟨_,e,h1⟩|⟨h0,_⟩|⟨h0,_⟩<;>try (cases h0)
  exact⟨XH (λd w'=>by simp[Op.equalIn,Q0 h1]) (λneg=>by cases neg<;>rfl),by simp⟩
 .obtain rfl:=ha.q0z;obtain⟨_,_,rfl⟩:=hb.q1q;simp at h;subst h;rcases hk with⟨h0,_⟩|⟨_,e,h1⟩|⟨h0,_⟩|⟨h0,_⟩<;>try (cases h0)
  exact⟨XH (λd w'=>by simp[Op.equalIn,Q0 h1]) (λneg=>by cases neg<;>rfl),by simp⟩
 .obtain⟨_,_,rfl⟩:=ha.q1q;obtain rfl:=hb.q0z;simp at h;subst h;rcases hk with⟨h0,_⟩|⟨_,e,h1⟩|⟨h0,_⟩|⟨h0,_⟩<;>try (cases h0)
  exact⟨XH (λd w'=>by simp[Op.equalIn,Q0 h1]) (λneg=>by cases neg<;>rfl),by simp⟩
 .obtain rfl:=ha.q0t;obtain rfl:=hb.q0t;simp at h;subst h;rcases hk with⟨h0,_⟩|⟨h0,_⟩|⟨_,k,e,h1⟩|⟨h0,_⟩<;>try (cases h0)
  exact⟨XH (λd w'=>by simp[Op.equalIn,Q0 h1]) (λneg=>by cases neg<;>rfl),by simp⟩
 .obtain rfl:=ha.q0t;obtain⟨_,rfl,_⟩:=hb.q1i;simp at h;subst h;rcases hk with⟨h0,_⟩|⟨h0,_⟩|⟨_,k,e,h1⟩|⟨h0,_⟩<;>try (cases h0)
  exact⟨XH (λd w'=>by simp[Op.equalIn,Q0 h1]) (λneg=>by cases neg<;>rfl),by simp⟩
 .obtain⟨_,rfl,_⟩:=ha.q1i;obtain rfl:=hb.q0t;simp at h;subst h;rcases hk with⟨h0,_⟩|⟨h0,_⟩|⟨_,k,e,h1⟩|⟨h0,_⟩<;>try (cases h0)
  exact⟨XH (λd w'=>by simp[Op.equalIn,Q0 h1]) (λneg=>by cases neg<;>rfl),by simp⟩
 .obtain rfl:=ha.q1a;obtain rfl:=hb.q1a;simp at h;subst h;rcases hk with⟨h0,_⟩|⟨h0,_⟩|⟨h0,_⟩|⟨_,p,q,s,h1⟩<;>try (cases h0)
  exact⟨XH (λd w'=>by simp[Op.equalIn,Q0 h1]) (λneg=>by cases neg<;>rfl),by simp⟩
 .obtain rfl:=ha.q1a;obtain⟨_,_,_,rfl⟩:=hb.q1n;simp at h;subst h;rcases hk with⟨h0,_⟩|⟨h0,_⟩|⟨h0,_⟩|⟨_,p,q,s,h1⟩<;>try (cases h0)
  exact⟨XH (λd w'=>by simp[Op.equalIn,Q0 h1]) (λneg=>by cases neg<;>rfl),by simp⟩
 .obtain⟨_,_,_,rfl⟩:=ha.q1n;obtain rfl:=hb.q1a;simp at h;subst h;rcases hk with⟨h0,_⟩|⟨h0,_⟩|⟨h0,_⟩|⟨_,p,q,s,h1⟩<;>try (cases h0)
  exact⟨XH (λd w'=>by simp[Op.equalIn,Q0 h1]) (λneg=>by cases neg<;>rfl),by simp⟩
 .cases h
def Z6f (ρ:Plc) (n:Nat) (e:MapEntry) (kv:Wl):Prop:=e.key=kv.1/\e.born=kv.2.2/\VRel ρ n kv.2.1 e.val
def LERel (ρ:Plc) (n:Nat) (E:List MapEntry) (es:List Wl):Prop:=E.length=es.length/\∀ (k:Nat) (e:MapEntry) (kv:Wl),E[k]?=some e->es[k]?=some kv->Z6f ρ n e kv
theorem LERel.cons_inv {n:Nat}{E:List MapEntry}{es:List Wl}{kv:Wl}(h:LERel ρ n E (kv::es)):∃ e E',E=e::E'/\Z6f ρ n e kv/\LERel ρ n E' es:=by
 cases E with
 |nil=>have:=h.1;simp at this
 |cons e E'=>exact⟨e,E',rfl,h.2 0 e kv rfl rfl,by have:=h.1;simpa using this,λk a b ha hb=>h.2 (k+1) a b (by simpa using ha) (by simpa using hb)⟩
theorem ORel.q0q {n:Nat}{es:List Wl}{clock:Nat}{O:Obj}:ORel ρ n (.map es clock) O<->∃ entries,O=.map entries clock/\LERel ρ n entries.toList es:=by
 constructor
 .rintro⟨entries,h1,h2,h3⟩;refine⟨entries,h1,by simpa using h2,λk e kv he dQ=>?_⟩;obtain⟨e',h4,h5,h6,h7⟩:=h3 k kv dQ;have:e=e':=by
   simp_all
  subst this;exact⟨h5,h6,h7⟩
 .rintro⟨entries,h1,h2,h3⟩;refine⟨entries,h1,by simpa using h2,λk kv dQ=>?_⟩;have hk:k<es.length:=(zp.1 dQ).1;have ot:k<entries.toList.length:=by omega
  obtain⟨h4,h5,h6⟩:=h3 k entries.toList[k] kv (z8 ot) dQ;simp_all
theorem Yo:∀ {s:List MK}{l:List Value},fits s l=true->l.length=s.length
 |[],[],_=>rfl
 |_::s,_::l,h=>by simp only[fits,z0] at h;simp[Yo h.2]
 |[],_::_,h=>by cases h
 |_::_,[],h=>by cases h
theorem M0:∀ {s r:List MK}{l:List Value},fits (s++r) l=true->fits s (l.take s.length)=true/\fits r (l.drop s.length)=true
 |[],r,l,h=>by simpa [fits] using h
 |k::s,r,[],h=>by cases h
 |k::s,r,v::l,h=>by simp only[xI,fits,z0] at h;obtain⟨h1,h2⟩:=M0 h.2;simp only[zw,xZ,wE,fits,z0];exact⟨⟨h.1,h1⟩,h2⟩
theorem MU:∀ (n:Nat) (l m:List Value),l.length=m.length->QD l m=(QD (l.take n) (m.take n)&&QD (l.drop n) (m.drop n))
 |0,l,m,_=>by simp[QD]
 |n+1,[],[],_=>by simp[QD]
 |n+1,a::l,b::m,h=>by simp only[QD,xZ,wE];rw[MU n l m (by simpa using h),Bool.and_assoc]
 |n+1,[],_::_,h=>by simp at h
 |n+1,_::_,[],h=>by simp at h
def mkT (P:Program) (t:TypeId) (cs:List Value):Value:=match P.underlying t with
 |some (.struct _)=>.agg cs.toArray
 |some (.array _ _)=>.agg cs.toArray
 |_=>cs.headD undef
theorem D4 {m:Nat}{t:TypeId}{s:List MK}(hs:shp P m t=some s) (hc:P.cellsOf t=s.length) {xs:Array Value}{off:Nat}(hf:fits s ((xs.toList.drop off).take s.length)=true) (w:World) :
  (part t xs off).run P w=.ok (mkT P t ((xs.toList.drop off).take s.length)) w:=by
 cases m with
 |zero=>simp[shp] at hs
 |succ m =>
  simp only[shp] at hs;have plain:∀ kd,P.underlying t=some kd->(∀ n e,kd≠.array n e)->(∀ fs,kd≠.struct fs)->s.length=1->(part t xs off).run P w=.ok (mkT P t ((xs.toList.drop off).take s.length)) w:=λkd hu h1 h2 h3=>by
   have hl:=Yo hf;rw[h3] at hl |-;have ao:off<xs.size:=by
    grind
   have e:(xs.toList.drop off).take 1=[xs[off]]:=by
    grind [List.drop_eq_getElem_cons]
   rw[e];have:mkT P t [xs[off]]=xs[off]:=by unfold mkT;simp_all
   rw[this];cases kd<;>first|(exact absurd rfl (h1 _ _))|(exact absurd rfl (h2 _))|simp[part,isAgg,run_underlying hu,xG ao]
  have agg:∀ kd,P.underlying t=some kd->((∃ n e,kd=.array n e)\/∃ fs,kd=.struct fs)->(part t xs off).run P w=.ok (mkT P t ((xs.toList.drop off).take s.length)) w:=λkd hu hk=>by
   obtain⟨i,hi⟩:=info_of_underlying hu;have hl:(xs.extract off (off+P.cellsOf t))=((xs.toList.drop off).take s.length).toArray:=by
    grind
   rcases hk with⟨n,e,rfl⟩|⟨fs,rfl⟩<;>simp[part,isAgg,run_underlying hu,run_sizeOf w hi,hl,mkT,hu]
  cases hu:P.underlying t with
  |none=>rw[hu] at hs;cases hs
  |some kd =>
   rw[hu] at hs;cases kd
   case bool=>grind
   case int q=>grind
   case string=>grind
   case array n e=>exact agg _ hu (.inl ⟨_,_,rfl⟩)
   case struct fs=>exact agg _ hu (.inr ⟨_,rfl⟩)
   all_goals cases hs
theorem Q24 {g:TypeId->Option (List MK)}{m d:Nat}(hg:g=shp P m) (ih:∀ t s,shp P m t=some s->∀ (w:World) (cs ds:List Value),fits s cs=true->fits s ds=true->(Op.equalIn (d+m) t (mkT P t cs) (mkT P t ds)).run P w=.ok (QD cs ds) w) {xs ys:Array Value}(w:World) :
  ∀ (fs:List Field) (off:Nat) (ss:List MK),Q03 P g fs off=some ss->fits ss (xs.toList.drop off)=true->fits ss (ys.toList.drop off)=true->(Op.eqFields (d+m) xs ys fs).run P w=.ok (QD (xs.toList.drop off) (ys.toList.drop off)) w
 |[],off,ss,h,h1,h2=>by simp only[Q03,x8] at h;subst h;have e1:=Yo h1;have e2:=Yo h2;rw[List.eq_nil_of_length_eq_zero e1];simp[Op.eqFields,QD]
 |f::r,off,ss,h,h1,h2=>by
  simp only[Q03] at h;split at h
  .rename_i hn;obtain⟨hn,rfl⟩:=hn;split at h
   .rename_i s hs;split at h
    .rename_i hc;obtain⟨q,hq,rfl⟩:=zj.1 h;obtain⟨a1,a2⟩:=M0 h1;obtain⟨b1,b2⟩:=M0 h2;rw[List.drop_drop] at a2 b2;rw[hg] at hs;have p1:=D4 hs hc a1 w;have p2:=D4 hs hc b1 w;have p3:=ih f.type s hs w _ _ a1 b1;have hr:=Q24 hg ih w r (f.offset+s.length) q hq a2 b2;rw[MU s.length _ _ (by rw[Yo h1,Yo h2]),List.drop_drop,List.drop_drop];simp only[Op.eqFields,hn,ne_eq,not_false_eq_true,zq,zo,p1,p2,p3,zi];cases hb:QD (List.take s.length (List.drop f.offset xs.toList)) (List.take s.length (List.drop f.offset ys.toList)) with
     |false=>simp
     |true=>simpa using hr
    .cases h
   .cases h
  .cases h
theorem Lj {m d:Nat}{e:TypeId}{s:List MK}(hs:shp P m e=some s) (hc:P.cellsOf e=s.length) (ih:∀ (w:World) (cs ds:List Value),fits s cs=true->fits s ds=true->(Op.equalIn (d+m) e (mkT P e cs) (mkT P e ds)).run P w=.ok (QD cs ds) w) {xs ys:Array Value}(w:World) :
  ∀ (k i:Nat),fits (List.replicate k s).flatten (xs.toList.drop (i*s.length))=true->fits (List.replicate k s).flatten (ys.toList.drop (i*s.length))=true->(Op.eqItems (d+m) e (P.cellsOf e) xs ys (List.range' i k)).run P w=.ok (QD (xs.toList.drop (i*s.length)) (ys.toList.drop (i*s.length))) w
 |0,i,h1,h2=>by have e1:=Yo h1;have e2:=Yo h2;simp only[List.replicate_zero,List.flatten_nil,List.length_nil] at e1 e2;rw[List.eq_nil_of_length_eq_zero e1];simp[Op.eqItems,QD]
 |k+1,i,h1,h2=>by
  rw[xx,List.flatten_cons] at h1 h2;obtain⟨a1,a2⟩:=M0 h1;obtain⟨b1,b2⟩:=M0 h2;rw[List.drop_drop,<-Nat.succ_mul] at a2 b2;have p1:=D4 hs hc a1 w;have p2:=D4 hs hc b1 w;have p3:=ih w _ _ a1 b1;have hr:=Lj hs hc ih w k (i+1) a2 b2;rw[MU s.length _ _ (by rw[Yo h1,Yo h2]),List.drop_drop,List.drop_drop,<-Nat.succ_mul];rw[hc] at hr |-;simp only[List.range'_succ,Op.eqItems,zo,p1,p2,p3,zi];cases hb:QD (List.take s.length (List.drop (i*s.length) xs.toList)) (List.take s.length (List.drop (i*s.length) ys.toList)) with
  |false=>simp
  |true=>simpa using hr
theorem M5 (d:Nat):∀ (m:Nat) (t:TypeId) (s:List MK),shp P m t=some s->∀ (w:World) (cs ds:List Value),fits s cs=true->fits s ds=true->(Op.equalIn (d+m) t (mkT P t cs) (mkT P t ds)).run P w=.ok (QD cs ds) w
 |0,t,s,h=>by simp[shp] at h
 |m+1,t,s,h=>by
  intro w cs ds h1 h2;simp only[shp] at h;have one:∀ {k:MK}{cs:List Value},fits [k] cs=true->∃ a,cs=[a]/\Q7k k a=true:=λ{k cs} h=>by
   cases cs with
   |nil=>cases h
   |cons a l =>
    cases l with
    |nil=>exact⟨a,rfl,by simpa [fits] using h⟩
    |cons b l=>simp[fits] at h
  cases hu:P.underlying t with
  |none=>rw[hu] at h;cases h
  |some kd =>
   rw[hu] at h;cases kd
   case bool =>
    obtain rfl:=osj h;obtain⟨a,rfl,ha⟩:=one h1;obtain⟨b,rfl,hb⟩:=one h2;cases a<;>first|(cases ha;done)|skip
    cases b<;>first|(cases hb;done)|skip
    simp only[mkT,hu,List.headD_cons,QD,UR,xM];exact run_equalIn_bool' w (d+m) t _ _ hu
   case int q =>
    obtain rfl:=osj h;obtain⟨a,rfl,ha⟩:=one h1;obtain⟨b,rfl,hb⟩:=one h2;cases a<;>first|(cases ha;done)|skip
    cases b<;>first|(cases hb;done)|skip
    simp only[Q7k,zf] at ha hb;subst ha;subst hb;simp only[mkT,hu,List.headD_cons,QD,UR,xM]
    grind [run_equalIn_int]
   case string =>
    obtain rfl:=osj h;obtain⟨a,rfl,ha⟩:=one h1;obtain⟨b,rfl,hb⟩:=one h2;cases a<;>first|(cases ha;done)|skip
    cases b<;>first|(cases hb;done)|skip
    simp only[mkT,hu,List.headD_cons,QD,UR,xM]
    grind [ByteArray.toList_eq,run_equalIn_string]
   case array n e =>
    simp only at h;split at h
    .rename_i s' bh;split at h
     .rename_i hc;obtain rfl:=osj h;obtain⟨i,hi⟩:∃ i,P.info? e=some i:=by
       cases m with
       |zero=>simp[shp] at bh
       |succ m =>
        simp only[shp] at bh;cases iV:P.underlying e with
        |none=>rw[iV] at bh;cases bh
        |some _=>exact info_of_underlying iV
      simp only[mkT,hu];rw[show d+(m+1)=(d+m)+1 from rfl,run_equalIn_array w (d+m) _ _ hu hi,List.range_eq_range'];have:=Lj (d:=d) bh hc (M5 d m e s' bh) (xs:=cs.toArray) (ys:=ds.toArray) w n 0 (by simpa using h1) (by simpa using h2);simpa using this
     .cases h
    .cases h
   case struct fs =>
    simp only at h;split at h
    .cases h
    .rename_i bu;have ox:P.fieldsOf t=fs:=by simp[Program.fieldsOf,hu]
     simp only[mkT,hu];rw[show d+(m+1)=(d+m)+1 from rfl,run_equalIn_struct w (d+m) t _ _ (by rw[ox];exact hu) (by simpa using bu),ox];have:=Q24 (d:=d) rfl (M5 d m) (xs:=cs.toArray) (ys:=ds.toArray) w fs.toList 0 s h (by simpa using h1) (by simpa using h2);simpa using this
   all_goals cases h
theorem Rn {n:Nat}:∀ {s:List MK}{l m:List Value},fits s l=true->LRel ρ n l m->m=l
 |[],[],m,_,hr=>by have:=hr.1;grind
 |k::s,v::l,[],_,hr=>by have:=hr.1;simp at this
 |k::s,v::l,c::m,h,hr=>by
  simp only[fits,z0] at h;have h0:=hr.2 0 v c rfl rfl;have e:c=v:=by cases k<;>cases v<;>first|(cases h.1;done)|(cases h0;rfl)
  have jb:LRel ρ n l m:=⟨by have:=hr.1;simpa using this,λi a b ha hb=>hr.2 (i+1) a b (by simpa using ha) (by simpa using hb)⟩;rw[e,Rn h.2 jb]
 |[],_::_,_,h,_=>by cases h
 |_::_,[],_,h,_=>by cases h
def Q9d (P:Program) (t:TypeId):MK->TypeDesc->Prop
 |.int k,d=>d=.int k
 |.string,d=>d=.string
 |.bool,d=>d=.bool
 |.agg s,d=>shp P 8 t=some s/\((∃ fs,d=.struct fs)\/∃ n e,d=.array n e)
theorem GQ {t:TypeId}{mk:MK}(h:IS P t=some mk):∃ d,P.underlying t=some d/\Q9d P t mk d:=by
 unfold IS at h;split at h
 .rename_i k hk;simp at h;subst h;exact⟨_,hk,rfl⟩
 .rename_i hk;simp at h;subst h;exact⟨_,hk,rfl⟩
 .rename_i hk;simp at h;subst h;exact⟨_,hk,rfl⟩
 .rename_i fs hk;obtain⟨s,hs,rfl⟩:=zj.1 h;exact⟨_,hk,hs,.inl ⟨fs,rfl⟩⟩
 .rename_i n e hk;obtain⟨s,hs,rfl⟩:=zj.1 h;exact⟨_,hk,hs,.inr ⟨n,e,rfl⟩⟩
 .cases h
theorem Ve {n:Nat}{v c:Value}(h:Zy v=true) (hv:VRel ρ n v c):c=v:=by cases hv<;>first|rfl|(simp[Zy,poison] at h)
theorem LN {mk:MK}{k c:Value}{n:Nat}(h:JY mk k=true) (hv:VRel ρ n k c):c=k:=by
 unfold JY at h;split at h<;>first|(cases h;done)|(exact Ve rfl hv)|skip
 obtain⟨ds,rfl,hl⟩:=hv.q1j
 grind [Rn,Array.toList_inj]
def MK.plain:MK->Bool
 |.agg _=>false
 |_=>true
theorem Q3g {mk:MK}(hp:mk.plain=true) {t:TypeId}{d:TypeDesc}(hd:Q9d P t mk d) {a b:Value}(ha:JY mk a=true) (hb:JY mk b=true):Instr.sameNow d a b=some (KI a b):=by
 cases mk
 case agg=>cases hp
 all_goals
  cases a<;>first|(cases ha;done)|skip
  cases b<;>first|(cases hb;done)|skip
  simp only[Q9d] at hd;subst hd
 .simp[JY] at ha hb;subst ha;subst hb;simp[Instr.sameNow,KI]
 .simp[Instr.sameNow,KI,beq_toListBytes,ByteArray.toList_eq]
 .simp[Instr.sameNow,KI]
theorem Az:∀ {s:List MK}{l m:List Value},fits s l=true->fits s m=true->QD l m=true->((m.zip l).all λp=>Instr.sameBits 9999 p.1 p.2)=true
 |[],[],[],_,_,_=>rfl
 |k::s,a::l,b::m,h1,h2,h3=>by
  simp only[fits,QD,z0] at h1 h2 h3;simp only[List.zip_cons_cons,zW,z0];refine⟨?_,Az h1.2 h2.2 h3.2⟩;obtain⟨h1,_⟩:=h1;obtain⟨h2,_⟩:=h2;obtain⟨h3,_⟩:=h3;cases k<;>cases a<;>first|(cases h1;done)|(cases b<;>first|(cases h2;done)|skip)
  .simp only[Q7k,zf] at h1 h2;subst h1;subst h2;simp only[UR,zU] at h3;subst h3;simp[Instr.sameBits]
  .simp only[UR,zU] at h3;simp[Instr.sameBits,beq_toListBytes,ByteArray.toList_eq,h3]
  .simp only[UR,zU] at h3;subst h3;simp[Instr.sameBits]
 |[],_::_,_,h,_,_=>by cases h
 |[],[],_::_,_,h,_=>by cases h
 |_::_,[],_,h,_,_=>by cases h
 |_::_,_::_,[],_,h,_=>by cases h
theorem Br {mk:MK}{a b:Value}(ha:JY mk a=true) (hb:JY mk b=true) (h:KI a b=true):Instr.sameBits 10000 b a=true:=by
 cases mk
 case agg s =>
  cases a<;>first|(cases ha;done)|skip
  cases b<;>first|(cases hb;done)|skip
  rename_i x y;simp only[JY] at ha hb;simp only[KI] at h;simp only[Instr.sameBits,z0,zU];have h1:=Yo ha;have h2:=Yo hb
  grind [Az]
 all_goals
  cases a<;>first|(cases ha;done)|skip
  cases b<;>first|(cases hb;done)|skip
 .simp[JY] at ha hb;subst ha;subst hb;simp[KI] at h;subst h;simp[Instr.sameBits]
 .simp[KI] at h;simp[Instr.sameBits,beq_toListBytes,ByteArray.toList_eq,h]
 .simp[KI] at h;simp[Instr.sameBits,h]
theorem Vo {t:TypeId}{d:TypeDesc}(hd:P.underlying t=some d) {a:Value}(hm:(∃ k,d=.int k)\/d=.string\/d=.bool) (e:Bool) (n:Nat) (w':World):(Instr.checkKey e (n+1) t a).run P w'=.ok () w':=by simp only[Instr.checkKey,zo,Q0 hd,zi];rcases hm with⟨k,rfl⟩|rfl|rfl<;>rfl
theorem Q0r {e:Bool}{g:TypeId->Option (List MK)}{m d:Nat}(hg:g=shp P m) (ih:∀ t s,shp P m t=some s->∀ (w:World) (cs:List Value),fits s cs=true->(Instr.checkKey e (d+m) t (mkT P t cs)).run P w=.ok () w) {xs:Array Value}(w:World) :
  ∀ (fs:List Field) (off:Nat) (ss:List MK),Q03 P g fs off=some ss->fits ss (xs.toList.drop off)=true->(forIn fs PUnit.unit λf (_:PUnit)=>(do
   if f.name≠"_" then Instr.checkKey e (d+m) f.type (<-part f.type xs f.offset)
   pure (ForInStep.yield PUnit.unit):Sem (ForInStep PUnit))).run P w=.ok PUnit.unit w
 |[],off,ss,h,h1=>by simp
 |f::r,off,ss,h,h1=>by
  simp only[Q03] at h;split at h
  .rename_i hn;obtain⟨hn,rfl⟩:=hn;split at h
   .rename_i s hs;split at h
    .rename_i hc;obtain⟨q,hq,rfl⟩:=zj.1 h;obtain⟨a1,a2⟩:=M0 h1;rw[List.drop_drop] at a2;rw[hg] at hs;have p1:=D4 hs hc a1 w;have p3:=ih f.type s hs w _ a1;have hr:=Q0r hg ih w r (f.offset+s.length) q hq a2;simp_all
    .cases h
   .cases h
  .cases h
theorem L3 (e:Bool) (d:Nat):∀ (m:Nat) (t:TypeId) (s:List MK),shp P m t=some s->∀ (w:World) (cs:List Value),fits s cs=true->(Instr.checkKey e (d+m) t (mkT P t cs)).run P w=.ok () w
 |0,t,s,h=>by simp[shp] at h
 |m+1,t,s,h=>by
  intro w cs h1;simp only[shp] at h;cases hu:P.underlying t with
  |none=>rw[hu] at h;cases h
  |some kd =>
   rw[hu] at h;cases kd
   case bool=>grind [Vo]
   case int q=>grind [Vo]
   case string=>rw[show d+(m+1)=(d+m)+1 from rfl];exact Vo hu (by simp) e (d+m) w
   case array n el =>
    simp only at h;split at h
    .rename_i s' bh;split at h
     .rename_i hc;obtain rfl:=osj h;obtain⟨i,hi⟩:∃ i,P.info? el=some i:=by
       cases m with
       |zero=>simp[shp] at bh
       |succ m =>
        simp only[shp] at bh;cases iV:P.underlying el with
        |none=>rw[iV] at bh;cases bh
        |some _=>exact info_of_underlying iV
      simp only[mkT,hu];rw[show d+(m+1)=(d+m)+1 from rfl,Instr.checkKey];simp only[zo,run_underlying hu,zi];simp only[Std.Legacy.Range.forIn_eq_forIn_range',Std.Legacy.Range.size,Nat.sub_zero,Nat.add_one_sub_one,Nat.div_one]
      have key:∀ (k i:Nat),fits (List.replicate k s').flatten (cs.drop (i*s'.length))=true->(forIn (List.range' i k) PUnit.unit λi (_:PUnit)=>(do
        Instr.checkKey e (d+m) el (<-part el cs.toArray (i*(<-sizeOf el)))
        pure (ForInStep.yield PUnit.unit):Sem (ForInStep PUnit))).run P w=.ok PUnit.unit w:=by
       intro k;induction k with
       |zero=>intro i _;simp
       |succ k tC =>intro i hf;rw[xx,List.flatten_cons] at hf;obtain⟨a1,a2⟩:=M0 hf;rw[List.drop_drop,<-Nat.succ_mul] at a2;have p1:=D4 (xs:=cs.toArray) (off:=i*s'.length) bh hc (by simpa using a1) w;have p2:=L3 e d m el s' bh w _ a1;have hr:=tC (i+1) a2;simp only[List.range'_succ,List.forIn_cons,zo,run_sizeOf w hi,hc,zi,p1,p2,xi];exact hr
      simp_all
     .cases h
    .cases h
   case struct fs =>
    simp only at h;split at h
    .cases h
    .simp only[mkT,hu];rw[show d+(m+1)=(d+m)+1 from rfl,Instr.checkKey];simp only[zo,run_underlying hu,zi];rw[<-Array.forIn_toList];have:=Q0r (e:=e) (d:=d) rfl (L3 e d m) (xs:=cs.toArray) w fs.toList 0 s h (by simpa using h1);simp_all
   all_goals cases h
theorem Oy {t:TypeId}{d:TypeDesc}(hd:P.underlying t=some d) (hk:(∃ fs,d=.struct fs)\/∃ n e,d=.array n e) (a:Array Value):mkT P t a.toList=.agg a:=by unfold mkT;rcases hk with⟨fs,rfl⟩|⟨n,e,rfl⟩<;>simp[hd]
theorem JP {mk:MK}{t:TypeId}{d:TypeDesc}(hd:P.underlying t=some d) (hm:Q9d P t mk d) {a:Value}(ha:JY mk a=true) (e:Bool) (w':World):(Instr.checkKey e 10000 t a).run P w'=.ok () w':=by
 cases mk
 case agg s =>
  cases a<;>first|(cases ha;done)|skip
  rename_i x;have:=L3 (P:=P) e 9992 8 t s hm.1 w' x.toList ha;rw[Oy hd hm.2] at this;exact this
 all_goals (cases a<;>first|(cases ha;done)|(simp only[Q9d] at hm;subst hm;exact Vo hd (by simp) e 9999 w'))
theorem Q2t {mk:MK}(hp:mk.plain=true) {t:TypeId}{d:TypeDesc}(hd:Q9d P t mk d) {k:Value}(hk:JY mk k=true) (nv:Value) (c:Nat) {n:Nat}:∀ (es:List Wl) (E:List MapEntry) (i:Nat),LERel ρ n E es->es.all (λe=>JY mk e.1)=true ->
  (Z7 k es=none/\Instr.findNow d k E i=some none/\ZB k nv c es=(es++[(k,nv,c)],c+1)) \/
  (∃ j e e',Z7 k es=some e/\es[j]?=some e/\E[j]?=some e'/\Instr.findNow d k E i=some (some (i+j,e'.val))/\KI k e.1=true/\ZB k nv c es=(es.set j (k,nv,e.2.2),c)):=by
 intro es;induction es with
 |nil =>
  intro E i hE _;have:E=[]:=by have:=hE.1;simpa using this
  subst this;exact .inl ⟨rfl,rfl,rfl⟩
 |cons kv es ih =>
  intro E i hE hall;obtain⟨e,E',rfl,he,bS⟩:=hE.cons_inv;simp only[zW,z0] at hall;have hs:Instr.sameNow d k e.key=some (KI k kv.1):=by rw[he.1];exact Q3g hp hd hk hall.1
  cases hq:KI k kv.1 with
  |true =>refine .inr ⟨0,kv,e,by simp[Z7,hq],rfl,rfl,?_,hq,by simp[ZB,hq]⟩;simp[Instr.findNow,hs,hq]
  |false =>
   rcases ih E' (i+1) bS hall.2 with⟨h1,h2,h3⟩|⟨j,a,a',h1,h2,h3,h4,h5,h6⟩
   .refine .inl ⟨by simp[Z7,hq,h1],by simp[Instr.findNow,hs,hq,h2],by simp[ZB,hq,h3]⟩
   .refine .inr ⟨j+1,a,a',by simp[Z7,hq,h1],by simpa using h2,by simpa using h3,?_,h5,by simp[ZB,hq,h6]⟩;simp[Instr.findNow,hs,hq,h4];omega
theorem Bx {t:TypeId}{d:TypeDesc}(hd:P.underlying t=some d) {k:Value}{E:List MapEntry}{r:Option (Nat×Value)}(h:Instr.findNow d k E 0=some r) (w':World):(Instr.findKey t k E).run P w'=.ok r w':=by simp[Instr.findKey,Q0 hd,h]
theorem Q2u {s:List MK}{t:TypeId}{d:TypeDesc}(hu:P.underlying t=some d) (hd:Q9d P t (.agg s) d) {k:Value}(hk:JY (.agg s) k=true) (nv:Value) (c:Nat) {n:Nat}:∀ (es:List Wl) (E:List MapEntry) (i:Nat),LERel ρ n E es->es.all (λe=>JY (.agg s) e.1)=true ->
  (Z7 k es=none/\(∀ w',(Instr.findAsking t k E i).run P w'=.ok none w')/\ZB k nv c es=(es++[(k,nv,c)],c+1)) \/
  (∃ j e e',Z7 k es=some e/\es[j]?=some e/\E[j]?=some e'/\(∀ w',(Instr.findAsking t k E i).run P w'=.ok (some (i+j,e'.val)) w')/\KI k e.1=true/\ZB k nv c es=(es.set j (k,nv,e.2.2),c)):=by
 intro es;induction es with
 |nil =>
  intro E i hE _;have:E=[]:=by have:=hE.1;simpa using this
  subst this;exact .inl ⟨rfl,λw'=>by simp[Instr.findAsking],rfl⟩
 |cons kv es ih =>
  intro E i hE hall;obtain⟨e,E',rfl,he,bS⟩:=hE.cons_inv;simp only[zW,z0] at hall;have hs:∀ w',(Op.equal t k e.key).run P w'=.ok (KI k kv.1) w':=λw'=>by
   rw[he.1];have h1:=hall.1;cases k<;>first|(cases hk;done)|skip
   rename_i x;generalize dQ:kv.1=y at h1 |-;cases y<;>first|(cases h1;done)|skip
   rename_i y;have:=M5 9992 8 t s hd.1 w' x.toList y.toList hk h1;rw[Oy hu hd.2,Oy hu hd.2] at this;exact this
  cases hq:KI k kv.1 with
  |true =>refine .inr ⟨0,kv,e,by simp[Z7,hq],rfl,rfl,λw'=>?_,hq,by simp[ZB,hq]⟩;simp[Instr.findAsking,hs,hq]
  |false =>
   rcases ih E' (i+1) bS hall.2 with⟨h1,h2,h3⟩|⟨j,a,a',h1,h2,h3,h4,h5,h6⟩
   .refine .inl ⟨by simp[Z7,hq,h1],λw'=>by simp[Instr.findAsking,hs,hq,h2],by simp[ZB,hq,h3]⟩
   .refine .inr ⟨j+1,a,a',by simp[Z7,hq,h1],by simpa using h2,by simpa using h3,λw'=>?_,h5,by simp[ZB,hq,h6]⟩;simp[Instr.findAsking,hs,hq,h4];omega
theorem OH {t:TypeId}{s:List MK}{d:TypeDesc}(hd:Q9d P t (.agg s) d) {k:Value}{e:MapEntry}{E:List MapEntry}{i:Nat}:Instr.findNow d k (e::E) i=none:=by rcases hd.2 with⟨fs,rfl⟩|⟨n,el,rfl⟩<;>simp[Instr.findNow,Instr.sameNow]
theorem Vy {mk:MK}{t:TypeId}{d:TypeDesc}(hu:P.underlying t=some d) (hd:Q9d P t mk d) {k:Value}(hk:JY mk k=true) (nv:Value) (c:Nat) {n:Nat}(es:List Wl) (E:List MapEntry) (hE:LERel ρ n E es) (hall:es.all (λe=>JY mk e.1)=true) :
  (Z7 k es=none/\(∀ w',(Instr.findKey t k E).run P w'=.ok none w')/\ZB k nv c es=(es++[(k,nv,c)],c+1)) \/
  (∃ j e e',Z7 k es=some e/\es[j]?=some e/\E[j]?=some e'/\(∀ w',(Instr.findKey t k E).run P w'=.ok (some (0+j,e'.val)) w')/\KI k e.1=true/\ZB k nv c es=(es.set j (k,nv,e.2.2),c)):=by
 cases hp:mk.plain with
 |true =>
  rcases Q2t hp hd hk nv c es E 0 hE hall with⟨h1,h2,h3⟩|⟨j,a,a',h1,h2,h3,h4,h5,h6⟩
  .grind [Bx]
  .grind [Bx]
 |false =>
  cases mk with
  |agg s =>
   have e1:∀ w',(Instr.findKey t k E).run P w'=(Instr.findAsking t k E 0).run P w':=λw'=>by
    cases E with
    |nil=>simp[Instr.findKey,Q0 hu,Instr.findNow,Instr.findAsking]
    |cons e E=>simp[Instr.findKey,Q0 hu,OH hd]
   rcases Q2u hu hd hk nv c es E 0 hE hall with⟨h1,h2,h3⟩|⟨j,a,a',h1,h2,h3,h4,h5,h6⟩
   .simp_all
   .grind
  |_=>cases hp
theorem Yd {m:Nat}{es:List Wl}{clock:Nat}{wr:Bool}(h:U.mapAt m=some (es,clock,wr)):U.get m=some (.obj (.map es clock) wr):=by
 unfold Heap.mapAt at h
 grind
theorem Yi (hH:HRel ρ U w) {m:Nat}{es:List Wl}{clock:Nat}{wr:Bool}(h:U.mapAt m=some (es,clock,wr)) {c:Value}(hv:VRel ρ U.n (.map (some m)) c) :
  ∃ p entries,c=.map (some p.blk)/\ρ m=some p/\w.heap[p.blk]?=some (.map entries clock)/\LERel ρ U.n entries.toList es:=by
 obtain⟨p,hp,_,O,h1,h2⟩:=hH.live m _ (Yd h);obtain⟨entries,rfl,h3⟩:=ORel.q0q.1 h2;obtain⟨r,rfl,_,hr⟩:=hv.q1i
 grind
theorem QK {w':World}{r:Nat}{O:Obj}(h:w'.heap[r]?=some O) (hc:∀ c e f,O≠.cells c e f):(getObj r).run P w'=.ok O w':=by cases O<;>first|(exact absurd rfl (hc _ _ _))|simp[getObj,Sem.run,h]
theorem Zg {w':World}{r:Nat}{O O':Obj}(h:w'.heap[r]?=some O) (hc:∀ c e f,O≠.cells c e f):(setObj r O').run P w'=.ok () (Rq w' r O'):=by cases O<;>first|(exact absurd rfl (hc _ _ _))|simp[setObj,Sem.run,h,Rq]
theorem Ar {xs:List Value}{s:ByteArray}(h:Tf xs=some s):∃ ns:List Int,xs=ns.map (Value.int .u8)/\s=⟨(ns.map λn=>n.toNat.toUInt8).toArray⟩:=by
 unfold Tf at h;rw[zj] at h;obtain⟨bs,h1,rfl⟩:=h;have key:∀ (xs:List Value) (bs:List UInt8),xs.mapM OG=some bs->∃ ns:List Int,xs=ns.map (Value.int .u8)/\bs=ns.map λn=>n.toNat.toUInt8:=by
  intro xs;induction xs with
  |nil=>intro bs h;simp at h;subst h;exact⟨[],rfl,rfl⟩
  |cons x xs ih =>
   intro bs h;rw[x6] at h;cases hx:OG x with
   |none=>simp[hx] at h
   |some b =>
    cases hm:xs.mapM OG with
    |none=>simp[hx,hm] at h
    |some vF =>
     simp[hx,hm] at h;obtain⟨ns,h1,h2⟩:=ih _ hm;unfold OG at hx;split at hx
     .rename_i n;simp at hx;exact⟨n::ns,by simp[h1],by rw[<-h,h2,<-hx];rfl⟩
     .cases hx
 simp_all
theorem Q8k {n:Nat}{ns:List Int}{us:List Value}(h:LRel ρ n (ns.map (Value.int .u8)) us):us=ns.map (Value.int .u8):=by
 apply zT;intro i;cases hi:(ns.map (Value.int .u8))[i]? with
 |none =>have h1:(ns.map (Value.int .u8)).length<=i:=List.getElem?_eq_none_iff.1 hi;exact List.getElem?_eq_none_iff.2 (by rw[<-h.1];exact h1)
 |some v =>
  obtain⟨c,hc,hv⟩:=h.get hi;rw[hc];rw[xu] at hi;cases hn:ns[i]? with
  |none=>rw[hn] at hi;cases hi
  |some x=>rw[hn] at hi;obtain rfl:=osj hi;rw[hv.q0f]
theorem Q2e (ns:List Int):∀ (acc:ByteArray),ns.foldl (λr n=>r.push (UInt8.ofNat n.toNat)) acc=⟨acc.data++(ns.map λn=>n.toNat.toUInt8).toArray⟩:=by
 induction ns with
 |nil=>intro acc;simp
 |cons n ns ih =>intro acc;rw[wo,ih];apply ByteArray.ext;simp[ByteArray.push]
theorem Q8s {n:Nat}(b:Nat):∀ (es:List Wl) (E:List MapEntry),LERel ρ n E es->∀ e,es.find? (λe=>e.2.2==b)=some e->∃ e',E.find? (λx=>x.born==b)=some e'/\Z6f ρ n e' e:=by
 intro es;induction es with
 |nil=>intro E _ e h;simp at h
 |cons kv es ih =>
  intro E hE e h;obtain⟨x,E',rfl,hx,bS⟩:=hE.cons_inv;cases hb:kv.2.2==b with
  |true =>simp only[List.find?_cons,hb] at h;obtain rfl:=osj h;exact⟨x,by simp only[List.find?_cons,hx.2.1,hb],hx⟩
  |false =>simp only[List.find?_cons,hb] at h;obtain⟨e',h1,h2⟩:=ih E' bS e h;exact⟨e',by simp only[List.find?_cons,hx.2.1,hb];exact h1,h2⟩
theorem Q3d {u:TypeId}(hc:P.cellsOf u≠0) (n off:Nat) (h0:off=0) (hn:P.cellsOf u<=n):liesAt P P.depth u (n / P.cellsOf u) off u 1=true:=by have hd:P.depth=(2*(P.types.size+Made.depth)+1)+1:=rfl;have h1:1<=n / P.cellsOf u:=(Nat.one_le_div_iff (by omega)).2 hn;subst h0;rw[hd];simp only[liesAt,zt];left;rw[hd];simp[rowAt,hc,sameLayout,h1]
set_option maxHeartbeats 1000000 in
theorem II {o:Oper}{xo:XOp}(hc:LQ P o.op=some xo) (hq:xo.quiet=true) (hH:HRel ρ U w) (hE:∀ x,WZ x=true->VRel ρ U.n (Q5 env x) (ev x))
  (h:ZT xo (Q5 env) U=some (v,U')):U'=U/\Og P ρ U w v (execOp ev o):=by
 obtain⟨dst,op,ty,pos,after,guard⟩:=o;simp only at hc;unfold LQ at hc;split at hc
 .cases hc
 rename_i aq;simp only[xN,xq] at aq;cases op<;>simp only[Op.operands] at aq hc
 case binOp iU t x y yt =>
  simp at aq;have hx:=hE x aq.1;have hy:=hE y aq.2
  have key:∀ (kd:Nat) (neg:Bool),iU=(if neg then .neq else .eql)->((kd=0/\∃ e i,P.underlying t=some (.pointer e)/\P.info? e=some i)\/(kd=1/\∃ e,P.underlying t=some (.slice e)) \/
   (kd=2/\∃ k e,P.underlying t=some (.map k e))\/(kd=3/\∃ p q s,P.underlying t=some (.func p q s)))->xo=.eqNil kd neg x y->U'=U/\Og P ρ U w v (execOp ev ⟨dst,.binOp iU t x y yt,ty,pos,after,guard⟩):=by
   intro kd neg kB hk lP;subst lP;simp only[ZT] at h;split at h
   .rename_i r hs;simp at h;obtain⟨rfl,rfl⟩:=h;obtain⟨h1,h2⟩:=Q3v hH hk hx hy hs;rw[kB];exact⟨rfl,Q0s neg t x y yt ty pos after dst guard rfl rfl (by grind [E5]) (h1 neg)⟩
   .cases h
  have tD:∀ (neg:Bool),iU=(if neg then .neq else .eql)->((∃ fs,P.underlying t=some (.struct fs))\/∃ n e,P.underlying t=some (.array n e))->CT P neg t x y=some xo->U'=U/\Og P ρ U w v (execOp ev ⟨dst,.binOp iU t x y yt,ty,pos,after,guard⟩):=by
   intro neg kB hk lP;unfold CT at lP;split at lP
   .cases lP
   .rename_i ml;obtain⟨s,hs,rfl⟩:=zj.1 lP;simp only[ZT] at h;split at h
    .rename_i a b ha hb;split at h
     .rename_i dz;simp at h;obtain⟨rfl,rfl⟩:=h;rw[ha] at hx;rw[hb] at hy;obtain⟨ca,vG,mw⟩:=hx.q1j;obtain⟨cb,vH,oD⟩:=hy.q1j;have ea:=Rn dz.1 mw;have eb:=Rn dz.2 oD;have e1:mkT P t a.toList=.agg a:=by
       unfold mkT;rcases hk with⟨fs,hu⟩|⟨n,e,hu⟩<;>simp[hu]
      have e2:mkT P t b.toList=.agg b:=by unfold mkT;rcases hk with⟨fs,hu⟩|⟨n,e,hu⟩<;>simp[hu]
      have aV:=λw'=>M5 9992 8 t s hs w' a.toList b.toList dz.1 dz.2;rw[e1,e2] at aV;have tE:ev x=.agg a:=by simp_all
      have tF:ev y=.agg b:=by simp_all
      rw[kB];refine⟨rfl,Q0s neg t x y yt ty pos after dst guard tE tF (by grind [run_eqGuard_agg]) (λw'=>?_)⟩;have hr:=aV w';cases neg
      .simp only[zr,if_false];rw[run_eql_struct w' t a b,show (10000:Nat)=9992+8 from rfl,hr];rfl
      .simp only[zq];rw[run_neq_struct w' t a b,show (10000:Nat)=9992+8 from rfl,hr];rfl
     .cases h
    .cases h
  split at hc
  .rename_i e hu;cases hi:P.info? e with
   |none=>simp[hi] at hc
   |some i =>simp[hi] at hc;exact(by simp_all)
  .rename_i e hu;cases hi:P.info? e with
   |none=>simp[hi] at hc
   |some i =>simp[hi] at hc;exact(by simp_all)
  .simp_all
  .simp_all
  .simp_all
  .simp_all
  .simp_all
  .simp_all
  .simp_all
  .simp_all
  .simp_all
  .simp_all
  .cases hc
 case makeMap t r=>cases r<;>simp at hc;subst hc;cases hq
 case mapUpdate t m k x =>
  split at hc
  .rename_i kt e hu;cases hk:IS P kt with
   |none=>simp[hk] at hc
   |some mk=>simp[hk] at hc;subst hc;cases hq
  .cases hc
 case insert t m k x =>
  split at hc
  .rename_i kt e hu;cases hk:IS P kt with
   |none=>simp[hk] at hc
   |some mk=>simp[hk] at hc;subst hc;cases hq
  .cases hc
 case mapEntry t m k =>
  split at hc
  .rename_i kt e hu;cases hk:IS P kt with
   |none=>simp[hk] at hc
   |some mk =>
    cases bT:P.info? e with
    |none=>simp[hk,bT] at hc
    |some inf =>
     cases hz:inf.zero with
     |none=>simp[hk,bT,hz] at hc
     |some z=>simp[hk,bT,hz] at hc;obtain⟨_,rfl⟩:=hc;cases hq
  .cases hc
 case entryStore t m s x=>simp at hc;subst hc;cases hq
 case range t x =>
  split at hc
  .simp at hc;subst hc;cases hq
  .simp at hc;subst hc;cases hq
  .cases hc
 case next x b=>cases b<;>(simp at hc;subst hc;cases hq)
 case lookup t x i jc =>
  simp at aq;have hx:=hE x aq.1;have hi:=hE i aq.2;split at hc
  .rename_i kt e hu;cases hk:IS P kt with
   |none=>simp[hk] at hc
   |some mk =>
    cases bT:P.info? e with
    |none=>simp[hk,bT] at hc
    |some inf =>
     cases hz:inf.zero with
     |none=>simp[hk,bT,hz] at hc
     |some z =>
      simp[hk,bT,hz] at hc;obtain⟨kC,rfl⟩:=hc;obtain⟨d,hd,dR⟩:=GQ hk;have kA:∀ w',(zeroValue e).run P w'=.ok z w':=λw'=>J3 bT hz w';have dK:VRel ρ U.n z z:=Nx kC;simp only[ZT] at h;split at h
      .rename_i bH;have pw:ev i=Q5 env i:=LN bH hi;split at h
       .rename_i bg;rw[bg] at hx;obtain bU:=hx.q0t;simp at h;obtain⟨rfl,rfl⟩:=h;refine⟨rfl,if jc then .tuple #[z,.bool false] else z,?_,λw' _=>?_⟩
        .cases jc
         .exact dK
         .exact VRel.q0j (LRel.cons dK (LRel.cons (.bool _) (LRel.nil _ _)))
        .simp only[execOp];simp only[Instr.lookup,zo,Q0 hu,zi,bU,xi,pw,JP hd dR bH];rw[Bx hd (r:=none) rfl];cases jc<;>simp[kA]
       .rename_i m bg;rw[bg] at hx;split at h
        .rename_i es clock wr aH;split at h
         .rename_i hall;obtain⟨p,entries,bU,hp,aE,aG⟩:=Yi hH aH hx;have aV:∀ w',Like ρ w w'->(getObj p.blk).run P w'=.ok (.map entries clock) w':=λw' hl =>
           QK (by rw[hl.blk m p hp];exact aE) (λ_ _ _ e=>by cases e)
          rcases Vy hd dR bH (.bool true) 0 es entries.toList aG hall with⟨h1,h2,_⟩|⟨j,a,a',h1,h2,h3,h4,_,_⟩
          .rw[h1] at h;simp at h;obtain⟨rfl,rfl⟩:=h;refine⟨rfl,if jc then .tuple #[z,.bool false] else z,?_,λw' hl=>?_⟩
           .cases jc
            .exact dK
            .exact VRel.q0j (LRel.cons dK (LRel.cons (.bool _) (LRel.nil _ _)))
           .simp only[execOp];simp only[Instr.lookup,zo,Q0 hu,zi,bU,aV w' hl,xi,pw,JP hd dR bH];simp_all
          .rw[h1] at h;simp at h;obtain⟨rfl,rfl⟩:=h;have my:=(aG.2 j a' a h3 h2).2.2;refine⟨rfl,if jc then .tuple #[a'.val,.bool true] else a'.val,?_,λw' hl=>?_⟩
           .cases jc
            .exact my
            .exact VRel.q0j (LRel.cons my (LRel.cons (.bool _) (LRel.nil _ _)))
           .simp only[execOp];simp only[Instr.lookup,zo,Q0 hu,zi,bU,aV w' hl,xi,pw,JP hd dR bH];rw[h4];cases jc<;>simp
         .cases h
        .cases h
       .cases h
      .cases h
  .cases hc
 case entry x =>
  simp at aq;have hx:=hE x aq;simp at hc;subst hc;simp only[ZT] at h;split at h
  .rename_i i bg;rw[bg] at hx;split at h
   .rename_i m since seen last wr hb;split at h
    .rename_i es clock kD b aH dA;split at h
     .rename_i cz;split at h
      .rename_i e cT;split at h
       rotate_left
       .cases h
       rename_i aY;simp at h;obtain⟨rfl,rfl⟩:=h;obtain⟨p,hp,⟨_,cY⟩,O,hO,rm,rfl,oE⟩:=hH.live i _ hb;obtain⟨q,entries,g9,dB,aE,aG⟩:=Yi hH aH oE;simp at g9;obtain⟨_,_,bU⟩:=hx.q0u hp;rw[cY] at bU;obtain⟨e',lQ,oF⟩:=Q8s b es entries.toList aG e cT;rw[Array.find?_toList] at lQ;have en:(seen.toArray).back?=some b:=by simpa using dA
       have dQ:VRel ρ U.n e.1 e'.key:=by rw[oF.1];exact Nx aY
       refine⟨rfl,.tuple #[e'.key,e'.val],VRel.q0j (LRel.cons dQ (LRel.cons oF.2.2 (LRel.nil _ _))),λw' hl=>?_⟩;have h1:=QK (P:=P) (w':=w') (r:=p.blk) (by rw[hl.blk i p hp];exact hO) (λ_ _ _ e=>by cases e);have h2:=QK (P:=P) (w':=w') (r:=q.blk) (by rw[hl.blk m q dB];exact aE) (λ_ _ _ e=>by cases e);simp only[execOp];simp only[Instr.entry,bU,zQ,zo,h1,zi,en];rw[g9,];simp[h2,cz,lQ]
      .cases h
     .cases h
    .cases h
   .cases h
  .cases h
 case convert s d x =>
  simp at aq;have hx:=hE x aq;split at hc
  .rename_i t hs hd;cases hi:P.info? t with
   |none=>simp[hi] at hc
   |some inf =>
    simp[hi] at hc;obtain⟨aD,rfl⟩:=hc;simp only[ZT] at h;split at h
    .rename_i bg;rw[bg] at hx;obtain bU:=hx.q0o;simp at h;obtain⟨rfl,rfl⟩:=h;refine⟨rfl,Qx (c:=.pointer none) (λw'=>?_) .nilPtr⟩;simp[execOp,bU,convert,Q0 hs,Q0 hd,Conv.unsafePointer]
    .rename_i i o bg;rw[bg] at hx;split at h
     .rename_i c e wr tight hb;split at h
      .rename_i ao;simp at h;obtain⟨rfl,rfl⟩:=h;obtain⟨p,hp,_,_,hl,⟨C,e',f,hC,px,_⟩,_,_⟩:=hH.live i _ hb;obtain⟨_,_,bU⟩:=hx.q0u hp;refine⟨rfl,ev x,hx,λw' py=>?_⟩;have cY:w'.shape? p.blk=some (e',C.size):=by
        have:w'.heap[p.blk]?=some (.cells C e' f):=by rw[py.blk i p hp];exact hC
        simp[World.shape?,this]
       simp only[execOp,bU];have:=Go.Lib.run_to_unsafe (P:=P) w' (src:=s) (dst:=d) ⟨p.blk,p.shift+o,none⟩ hs hd hi (by simpa using aD) cY (by show p.shift+o<C.size;omega);simp[this]
      .cases h
     .cases h
    .cases h
  .rename_i u hs hd;cases hi:P.info? u with
   |none=>simp[hi] at hc
   |some inf =>
    simp[hi] at hc;obtain⟨⟨aD,tG⟩,rfl⟩:=hc;simp only[ZT] at h;split at h
    .rename_i bg;rw[bg] at hx;obtain bU:=hx.q0o;simp at h;obtain⟨rfl,rfl⟩:=h;refine⟨rfl,Qx (c:=.pointer none) (λw'=>?_) .nilPtr⟩;simp[execOp,bU,convert,Q0 hs,Q0 hd,Conv.unsafePointer]
    .rename_i i o bg;rw[bg] at hx;split at h
     .rename_i c e hb;split at h
      .rename_i ao;obtain⟨rfl,het,hle⟩:=ao;simp at h;obtain⟨rfl,rfl⟩:=h;obtain⟨p,hp,_,_,hl,⟨C,e',f,hC,px,kE⟩,_,h6⟩:=hH.live i _ hb;obtain⟨_,_,bU⟩:=hx.q0u hp;have tH:=(h6 rfl).1 rfl;refine⟨rfl,ev x,hx,λw' py=>?_⟩;have cY:w'.shape? p.blk=some (u,C.size):=by
        have:w'.heap[p.blk]?=some (.cells C e' f):=by rw[py.blk i p hp];exact hC
        simp[World.shape?,this,kE,het]
       simp only[execOp,bU];rw[z_] at *
       have:=Go.Lib.run_from_unsafe (P:=P) w' (src:=s) (dst:=d) ⟨p.blk,p.shift,none⟩ hs hd hi cY (Q3d tG _ _ tH (by omega));simp[this]
      .cases h
     .cases h
    .cases h
  .rename_i e hs hd;split at hc
   .rename_i he;simp at hc;subst hc;simp only[ZT] at h;split at h
    .rename_i a n c bg;rw[bg] at hx;split at h
     .rename_i xs bm;split at h
      .rename_i s' oG;simp at h;obtain⟨rfl,rfl⟩:=h;obtain⟨ns,lR,rfl⟩:=Ar oG;subst lR;obtain⟨hlen,us,eD,⟨a',av,bU⟩,aV⟩:=AA hH bm hx;have mz:=Q8k eD;refine⟨rfl,.string ⟨(ns.map λn=>n.toNat.toUInt8).toArray⟩,.string _,λw' hl=>?_⟩;have hr:=aV w' hl;rw[bU] at hr;simp only[execOp,bU];cases a' with
       |none =>
        simp[Builtin.firstCells] at hr;have:ns=[]:=by rw[mz] at hr;simpa using hr.symm
        subst this;simp[convert,Q0 hs,Q0 hd,Q0 he,Conv.bytesToString];rfl
       |some a' =>simp only[Builtin.firstCells,wA] at hr;rw[mz] at hr;have:=run_bytesToString (P:=P) w' a' n av ns hr;rw[Q2e] at this;simp[convert,Q0 hs,Q0 hd,Q0 he,this]
      .cases h
     .cases h
    .cases h
   .cases hc
  .split at hc
   .simp at hc;subst hc;cases hq
   .cases hc
  .cases hc
 case call c =>
  split at hc
  .rename_i aI;split at hc
   .rename_i t x gd cB;split at hc
    .rename_i kt e hu;simp at hc;subst hc;have bB:c.args=#[x]:=Array.ext' (by simpa using cB);have hx:VRel ρ U.n (Q5 env x) (ev x):=hE x (by simpa [Call.operands,aI,bB] using aq);simp only[ZT] at h;split at h
     .rename_i bg;rw[bg] at hx;obtain bU:=hx.q0t;simp at h;obtain⟨rfl,rfl⟩:=h;refine⟨rfl,Qx (c:=.int .i64 0) (λw'=>?_) (.int _ _)⟩;simp[execOp,resolve,aI,bB,invoke,builtin,Builtin.len_,gd,bU,Q0 hu,goInt]
     .rename_i m bg;rw[bg] at hx;split at h
      .rename_i es clock wr aH;simp at h;obtain⟨rfl,rfl⟩:=h;obtain⟨p,entries,bU,hp,aE,aG⟩:=Yi hH aH hx;refine⟨rfl,.int .i64 es.length,.int _ _,λw' hl=>?_⟩;have h1:=QK (P:=P) (w':=w') (r:=p.blk) (by rw[hl.blk m p hp];exact aE) (λ_ _ _ e=>by cases e);have h2:entries.size=es.length:=by have:=aG.1;simpa using this
       simp[execOp,resolve,aI,bB,invoke,builtin,Builtin.len_,gd,bU,Q0 hu,goInt,h1,h2]
      .cases h
     .cases h
    .cases hc
   .cases hc
  .split at hc
   .split at hc
    .rename_i kt e hu;cases hk:IS P kt with
     |none=>simp[hk] at hc
     |some mk=>simp[hk] at hc;subst hc;cases hq
    .cases hc
   .cases hc
  .split at hc
   .split at hc
    .rename_i e hu;cases hi:P.info? e with
     |none=>simp[hi] at hc
     |some inf=>simp[hi] at hc;subst hc;cases hq
    .cases hc
   .cases hc
  .split at hc
   .split at hc
    .rename_i e hu;cases hz:zeroOf P e with
     |none=>simp[hz] at hc
     |some z=>simp[hz] at hc;obtain⟨_,rfl⟩:=hc;cases hq
    .cases hc
   .cases hc
  .rename_i aI;split at hc
   .rename_i x cB;simp at hc;subst hc;have bB:c.args=#[x]:=Array.ext' (by simpa using cB);have hx:VRel ρ U.n (Q5 env x) (ev x):=hE x (by simpa [Call.operands,aI,bB] using aq);simp only[ZT] at h;split at h
    .rename_i bg;rw[bg] at hx;obtain bU:=hx.q0z;simp at h;obtain⟨rfl,rfl⟩:=h;refine⟨rfl,Qx (c:=.pointer none) (λw'=>?_) .nilPtr⟩;simp[execOp,resolve,aI,bB,invoke,builtin,bU,Go.Lib.run_unsafeSliceData_nil]
    .rename_i i o n cap bg;rw[bg] at hx;split at h
     .rename_i bO;simp at h;obtain⟨rfl,rfl⟩:=h;obtain⟨bO,hs⟩:=bO;obtain⟨blk,aE⟩:=Option.isSome_iff_exists.1 hs;obtain⟨p,hp,_⟩:=hH.live _ _ aE;obtain⟨a,av,bU,aR,aY⟩:=hx.q1c;obtain⟨h1,_,⟨oz,_⟩|⟨o',rfl,_,ho⟩⟩:=aY p hp
      .omega
      have gY:o'=o:=ho.resolve_right (λhh=>bO hh.2);subst gY;refine⟨rfl,.pointer (some ⟨p.blk,p.shift+o',none⟩),.ptr _ _ _ aR (by simp_all),λw' _=>?_⟩;simp[execOp,resolve,aI,bB,invoke,builtin,bU,Go.Lib.run_unsafeSliceData_row w' _ _ _ n av (by omega)]
     .cases h
    .cases h
   .cases hc
  .split at hc
   .split at hc
    .split at hc
     .simp at hc;subst hc;cases hq
     .cases hc
    .cases hc
   .cases hc
  .cases hc
 all_goals cases hc
theorem getElem?_modify_list {α:Type}(l:List α) (j:Nat) (f:α->α) (k:Nat):(l.modify j f)[k]?=if j=k then (l[k]?).map f else l[k]?:=by
 grind
theorem BZ {n:Nat}{E:List MapEntry}{es:List Wl}(h:LERel ρ n E es) (j:Nat) (f:MapEntry->MapEntry) (kv:Wl) (hf:∀ e,E[j]?=some e->Z6f ρ n (f e) kv):LERel ρ n (E.modify j f) (es.set j kv):=by
 refine⟨by simp[h.1],λk e tI he dQ=>?_⟩;rw[getElem?_modify_list] at he;rw[xF] at dQ;by_cases dY:j=k
 .grind
 .simp only[dY,if_false] at he dQ;exact h.2 k e tI he dQ
theorem Ph {n:Nat}{E:List MapEntry}{es:List Wl}(h:LERel ρ n E es) {e:MapEntry}{kv:Wl}(he:Z6f ρ n e kv):LERel ρ n (E++[e]) (es++[kv]):=by
 refine⟨by simp[h.1],λk a b ha hb=>?_⟩;have hl:=h.1;rw[List.getElem?_append] at ha hb;split at ha<;>split at hb<;>try omega
 .exact h.2 k a b ha hb
 grind
theorem E4 {γ:Sort _}(f:Option Addr->Value->γ) (g:Array Value->γ) (p:Option Addr) (l:Value):Builtin.unsafeString_.match_3 (motive:=λ_=>γ) #[.pointer p,l] f g=f p l:=rfl
theorem Ep (ts:Array TypeId) (ty pt:TypeId) (h0:ts[0]?=some pt) (p:Option Addr) (w:World):(Builtin.unsafeString_ ts ty #[.pointer p,.int .i64 0]).run P w=.ok (.string .empty) w:=by
 have jd:IntKind.i64.max=9223372036854775807:=rfl;cases p with
 |none =>delta Builtin.unsafeString_;rw[E4];simp[asInt,asIntOf,jd,h0]
 |some a =>delta Builtin.unsafeString_;rw[E4];simp[asInt,asIntOf,jd,h0]
theorem Is:∀ (ns:List Int) (a:Addr) (acc:ByteArray) (w:World),(∀ j n,ns[j]?=some n->w.cell? (a.add j)=some (.int .u8 n)) ->
  (loadBytes a acc ns.length).run P w=.ok ⟨acc.data++(ns.map λn=>n.toNat.toUInt8).toArray⟩ w
 |[],a,acc,w,_=>by simp[loadBytes]
 |n::ns,a,acc,w,h=>by
  have h0:w.cell? a=some (.int .u8 n):=by have:=h 0 n rfl;simpa [Addr.add] using this
  have ih:=Is ns (a.add 1) (acc.push n.toNat.toUInt8) w (λj y hy=>by
   have:=h (j+1) y (by simpa using hy);have e:(a.add 1).add j=a.add (j+1):=by
    unfold Addr.add
    grind
   rw[e];exact this)
  simp only[zw,loadBytes,zo,run_load,h0,Result.andThen];simp_all
theorem Fj {e:TypeId}(hc:P.cellsOf e=1) (count off n:Nat) (hn:off+n<=count):liesAt P P.depth e count off e n=true:=by have hd:P.depth=(2*(P.types.size+Made.depth)+1)+1:=rfl;rw[hd];simp only[liesAt,zt];left;rw[hd];simp[rowAt,hc,hn,sameLayout,Nat.mod_one]
theorem Q81 (ts:Array TypeId) (ty pt e:TypeId) (h0:ts[0]?=some pt) (hp:P.underlying pt=some (.pointer e)) (hc:P.cellsOf e=1) (a:Addr) (cells:Nat) (w:World) (cY:w.shape? a.block=some (e,cells)) (ns:List Int) (k:Int) (hk:0<k) (pz:ns.length=k.toNat) (hn:a.off+ns.length<=cells)
  (vI:k<=2 ^ 62) (bI:∀ j n,ns[j]?=some n->w.cell? (a.add j)=some (.int .u8 n)) :
  (Builtin.unsafeString_ ts ty #[.pointer (some a),.int .i64 k]).run P w=.ok (.string ⟨(ns.map λn=>n.toNat.toUInt8).toArray⟩) (w.freeze a k.toNat):=by
 have jd:IntKind.i64.max=9223372036854775807:=rfl;have vJ:(2:Int) ^ 62=4611686018427387904:=by decide
 have oD:=Is (P:=P) ns a .empty w bI;have jB:=Fj (P:=P) hc (cells / P.cellsOf e) a.off ns.length (by rw[hc];simpa using hn);have h1:¬ k<0:=by omega
 have h2:¬ (9223372036854775807:Int)<k:=by omega
 have h3:¬ k=0:=by omega
 rw[<-pz];rw[pz] at oD jB;delta Builtin.unsafeString_;rw[E4];simp[asInt,asIntOf,jd,h0,h1,h2,h3,variablesAt,cY,elemOf,Q0 hp,jB,oD,pz]
theorem HRel.freeze (hH:HRel ρ U w) {i:Nat}{p:Pl}{c:List Value}{e:El}{tight:Bool}(hp:ρ i=some p) (hb:U.get i=some (.cells c e true tight)) (off n:Nat) :
  HRel ρ (U.upd i (.cells c e false tight)) (w.freeze ⟨p.blk,off,none⟩ n)/\Ext ρ U w ρ (U.upd i (.cells c e false tight)) (w.freeze ⟨p.blk,off,none⟩ n):=by
 have hi:=U.lt hb;obtain⟨p',bz,hB⟩:=hH.live i _ hb;obtain rfl:p=p':=osj (hp.symm.trans bz);obtain⟨h1,h2,h3,⟨C,e',f,h4,iJ⟩,h5,h6⟩:=hB;have cZ:∀ k,k≠p.blk->(w.freeze ⟨p.blk,off,none⟩ n).heap[k]?=w.heap[k]?:=λk hk=>by
  unfold World.freeze
  grind
 have aD:(w.freeze ⟨p.blk,off,none⟩ n).heap.size=w.heap.size:=by
  unfold World.freeze;split
  .rfl
  .simp
 obtain⟨f',fc⟩:∃ f',(w.freeze ⟨p.blk,off,none⟩ n).heap[p.blk]?=some (.cells C e' f'):=by
  unfold World.freeze
  grind
 have bI:∀ o,(w.freeze ⟨p.blk,off,none⟩ n).cell? ⟨p.blk,o,none⟩=w.cell? ⟨p.blk,o,none⟩:=λo=>by simp[World.cell?,fc,h4]
 have pA:(w.freeze ⟨p.blk,off,none⟩ n).os=w.os/\(w.freeze ⟨p.blk,off,none⟩ n).tape=w.tape/\(w.freeze ⟨p.blk,off,none⟩ n).output=w.output:=by unfold World.freeze;split<;>exact⟨rfl,rfl,rfl⟩
 have hE:Ext ρ U w ρ (U.upd i (.cells c e false tight)) (w.freeze ⟨p.blk,off,none⟩ n):=by
  .refine⟨pA.1,pA.2.1,pA.2.2,by rw[aD];exact z9 _,λB hB hW=>cZ B (λe=>hW ⟨i,p,_,hp,hb,rfl,e.symm⟩),?_,z9 _,λ_ _ _ h=>h⟩;rintro B _ ⟨j,q,b,hq,bX,hw,rfl⟩;by_cases aN:j=i
   .subst aN;exact⟨j,q,_,hq,hb,rfl,rfl⟩
   .rw[Heap.q0b _ _ aN] at bX;exact⟨j,q,b,hq,bX,hw,rfl⟩
 refine⟨hH.ext ⟨λj b hj=>?_,λj hj=>?_,λj q hq=>by rw[aD];exact hH.lt j q hq,λj k q r b dY hq hr cm hw hx=>?_⟩ hE,hE⟩
 .by_cases aN:j=i
  .subst aN;rw[Heap.q0d _ _ hi] at hj;obtain rfl:=osj hj;exact⟨p,hp,h1,h2,h3,⟨C,e',f',fc,iJ⟩,(by simp_all),λh=>by cases h⟩
  .rw[Heap.q0b _ _ aN] at hj;obtain⟨q,hq,eZ⟩:=hH.live j b hj;exact⟨q,hq,eZ.other (z9 _) (λ_ _ _ h=>h) p.blk C e' f h4 (λhx=>hH.sep i j p q _ (Ne.symm aN) hp hq hb rfl hx) ⟨C,f',fc,z9 _⟩ (λk hk _=>cZ k hk) (hH.lt j q hq)⟩
 .by_cases aN:j=i
  .grind [Heap.q0d]
  .rw[Heap.q0b _ _ aN] at hj;exact hH.dead j hj
 .by_cases aN:j=i
  .subst aN;rw[Heap.q0d _ _ hi] at cm;obtain rfl:=osj cm;cases hw
  .rw[Heap.q0b _ _ aN] at cm;exact hH.sep j k q r b dY hq hr cm hw hx
theorem HRel.freezeOut (hH:HRel ρ U w) {i:Nat}{p:Pl}{c:List Value}{e:El}{tight:Bool}(hp:ρ i=some p) (hb:U.get i=some (.cells c e true tight)) {C:Array Value}{e':TypeId}{f:Nat×Nat}(hC:w.heap[p.blk]?=some (.cells C e' f)) (hf:f.1=f.2) :
  HRel ρ U (w.freeze ⟨p.blk,C.size,none⟩ 1)/\Ext ρ U w ρ U (w.freeze ⟨p.blk,C.size,none⟩ 1):=by
 have cZ:∀ k,k≠p.blk->(w.freeze ⟨p.blk,C.size,none⟩ 1).heap[k]?=w.heap[k]?:=λk hk=>by
  unfold World.freeze
  grind
 have aD:(w.freeze ⟨p.blk,C.size,none⟩ 1).heap.size=w.heap.size:=by unfold World.freeze;rw[z6 (by omega)];simp
 have fc:(w.freeze ⟨p.blk,C.size,none⟩ 1).heap[p.blk]?=some (.cells C e' (C.size,C.size+1)):=by
  unfold World.freeze
  grind
 have bI:∀ o,(w.freeze ⟨p.blk,C.size,none⟩ 1).cell? ⟨p.blk,o,none⟩=w.cell? ⟨p.blk,o,none⟩:=λo=>by simp[World.cell?,fc,hC]
 have hE:Ext ρ U w ρ U (w.freeze ⟨p.blk,C.size,none⟩ 1):=by refine⟨?_,?_,?_,by rw[aD];exact z9 _,λB hB hW=>cZ B (λe=>hW ⟨i,p,_,hp,hb,rfl,e.symm⟩),λ_ _ h=>h,z9 _,λ_ _ _ h=>h⟩<;>(unfold World.freeze;rw[z6 (by omega)])
 refine⟨hH.ext ⟨λj b hj=>?_,hH.dead,λj q hq=>by rw[aD];exact hH.lt j q hq,hH.sep⟩ hE,hE⟩;obtain⟨q,hq,eZ⟩:=hH.live j b hj;refine⟨q,hq,?_⟩;by_cases hk:q.blk=p.blk
 .cases b with
  |cells c0 e0 tJ t0 =>
   obtain⟨h1,h2,h3,⟨C0,e1,f1,h4,h5⟩,h6,h7⟩:=eZ;rw[hk,hC] at h4;obtain⟨rfl,rfl,rfl⟩:=(by simpa using h4:C=C0/\e'=e1/\f=f1);refine⟨h1,h2,h3,(by simp_all),λk v hv=>?_,λhw=>⟨(h7 hw).1,λk ot=>?_⟩⟩
   .rw[hk,bI,<-hk];exact h6 k v hv
   .unfold World.frozen?
    grind
  |obj o tJ =>obtain⟨_,O,h4,h5⟩:=eZ;rw[hk,hC] at h4;obtain rfl:=osj h4;exact absurd h5 ORel.q1s
 .exact eZ.mono (z9 _) (λ_ _ _ h=>h) (cZ _ hk)
theorem Q06 (hH:HRel ρ U w) {s:ByteArray}{st d e:TypeId}(hs:P.underlying st=some .string) (hd:P.underlying d=some (.slice e)) (he:P.underlying e=some (.int .u8)) {s0:Sem Next}(h0:s0=(do let v <-convert st d (.string s);pure (.value v))) :
  F2 P ρ U w (.slice (some ⟨U.n,0,none⟩) s.size s.size) (U.push (.cells (s.data.toList.map λb=>.int .u8 b.toNat) ⟨1,e⟩ true false)) s0:=by
 obtain⟨cap,bO⟩:∃ cap,cap=(Question.appendCap s.size 0 e).cut (w.tape w.drawn (.appendCap s.size 0 e)):=⟨_,rfl⟩;have hle:s.size<=cap:=by rw[bO];simp[Question.cut]
 let C:Array Value:=(s.data.map λb=>Value.int .u8 b.toNat)++Array.replicate (cap-s.size) (.int .u8 0);have px:C.size=cap:=by have:s.data.size=s.size:=rfl;simp[C,this];omega
 have mA:=hH.drew;have aG:LRel ρ U.n (s.data.toList.map λb=>Value.int .u8 b.toNat) (C.toList.take (s.data.toList.map λb=>Value.int .u8 b.toNat).length):=by
  have:C.toList.take (s.data.toList.map λb=>Value.int .u8 b.toNat).length=s.data.toList.map λb=>Value.int .u8 b.toNat:=by simp[C]
  rw[this];exact WU (zg.2 λx hx=>by obtain⟨b,_,rfl⟩:=zC.1 hx;rfl)
 obtain⟨ρ',h1,h2,h3⟩:=mA.alloc (s.data.toList.map λb=>Value.int .u8 b.toNat) C e ⟨1,e⟩ false rfl aG (by
  simp_all)
 have aE:(w.drew.alloc (.cells C e)).heap[w.drew.heap.size]?=some (.cells C e (0,0)):=by show (w.drew.heap.push _)[w.drew.heap.size]?=_;rw[Array.getElem?_push_size]
 obtain⟨h4,h5⟩:=h2.freezeOut (i:=U.n) h1 (Heap.q0a _ _) aE rfl;refine⟨.slice (some ⟨w.heap.size,0,none⟩) s.size cap,_,ρ',.inl ?_,.sl _ _ _ _ _ _ (by simp) (λp hp=>?_),h4,((Ext.drew ρ U w).trans h3).trans h5⟩
 .subst h0;have cY:(w.drew.alloc (.cells C e)).shape? w.drew.heap.size=some (e,C.size):=by
   unfold World.shape?;rw[aE]
  have hq:(Question.appendCap s.size 0 e).forced=false:=rfl;have rv:w.drew.heap.size=w.heap.size:=rfl;simp only[convert,zo,Q0 hs,Q0 hd,Q0 he,zi,Conv.stringToBytes,run_choose_drew,hq,zr,if_false,<-bO,newRow,run_newObj_alloc,xi,markStringish,run_shape,rv];rw[rv] at cY;have pB:(w.drew.alloc (.cells ((s.data.map λb=>Value.int .u8 b.toNat)++Array.replicate (cap-s.size) (.int .u8 0)) e)).shape? w.heap.size=some (e,C.size):=cY;rw[pB];rfl
 simp_all
set_option maxHeartbeats 1000000 in
theorem AS {k nv:Value}{c:Nat}:∀ {es:List Wl}{e:Wl},Z7 k es=some e->∃ j,es[j]?=some e/\ZB k nv c es=(es.set j (k,nv,e.2.2),c)/\Td k es=es.eraseIdx j
 |[],e,h=>by cases h
 |a::es,e,h=>by
  simp only[Z7] at h;split at h
  .rename_i he;obtain rfl:=osj h;exact⟨0,rfl,by simp[ZB,he],by simp[Td,he]⟩
  .rename_i he;obtain⟨j,h1,h2,h3⟩:=AS (nv:=nv) (c:=c) h;exact⟨j+1,by simpa using h1,by simp[ZB,he,h2],by simp[Td,he,h3]⟩
theorem SE {k:Value}:∀ {es:List Wl},Z7 k es=none->Td k es=es
 |[],_=>rfl
 |a::es,h=>by
  simp only[Z7] at h;split at h
  .cases h
  .rename_i he;simp[Td,he,SE h]
def Z7x:Value->Nat
 |.int _ n=>n.natAbs
 |_=>0
theorem Q14 {e:Wl}:∀ {es:List Wl},e∈es->Z7x e.2.1<=(es.map λx=>Z7x x.2.1).sum
 |a::es,h=>by
  rw[xm,List.sum_cons];rcases zH.1 h with rfl|h
  .omega
  .have:=Q14 h;omega
theorem Q5y (es:List Wl):∃ nv:Value,∀ e∈es,e.2.1≠nv :=
 ⟨.int .i64 ((es.map λx=>Z7x x.2.1).sum+1:Nat),λe he h=>by
  have h1:=Q14 he;rw[h] at h1;simp only[Z7x] at h1;omega⟩
theorem Z1v {es:List Wl}{i j:Nat}{x y:Wl}(hi:i<es.length) (_hj:j<es.length) (h:es.set i x=es.set j y) (hx:∀ e∈es,e.2.1≠x.2.1):i=j:=by
 grind [List.getElem?_set_self,List.getElem?_set_ne,List.getElem?_eq_getElem,osj,List.getElem_mem]
theorem Ox {n:Nat}{E:List MapEntry}{es:List Wl}(h:LERel ρ n E es) (j:Nat):LERel ρ n (E.eraseIdx j) (es.eraseIdx j):=by
 refine⟨by rw[List.length_eraseIdx,List.length_eraseIdx,h.1],λk e kv he dQ=>?_⟩;rw[List.getElem?_eraseIdx] at he dQ;split at he
 .rename_i ao;rw[z7 ao] at dQ;exact h.2 _ _ _ he dQ
 .rename_i ao;rw[z6 ao] at dQ;exact h.2 _ _ _ he dQ
theorem Q0f {o:Oper}{xo:XOp}(hc:LQ P o.op = some xo) (hq:xo.quiet = false) (hH:HRel ρ U w) (hE:∀ x, WZ x = true -> VRel ρ U.n (Q5 env x) (ev x))
    (h:ZT xo (Q5 env) U = some (v, U')):F2 P ρ U w v U' (execOp ev o):=by
  obtain ⟨dst, op, ty, pos, after, guard⟩:=o;simp only at hc;unfold LQ at hc;split at hc
  . cases hc
  rename_i aq;simp only [xN, xq] at aq;cases op <;> simp only [Op.operands] at aq hc
  case binOp iU t x y yt =>
    have nA:∀ neg, CT P neg t x y = some xo -> False:=λneg hx => by
      unfold CT at hx;split at hx
      . cases hx
      . obtain ⟨s, _, rfl⟩:=zj.1 hx; cases hq
    split at hc <;> first
      | exact (nA _ hc).elim
      | (simp at hc; subst hc; cases hq; done)
      | (rename_i e hu
         cases hi:P.info? e with
         | none => simp [hi] at hc
         | some i => simp [hi] at hc; obtain ⟨_, rfl⟩:=hc; cases hq)
      | cases hc
  case makeMap t r =>
    cases r with
    | some _ => cases hc
    | none =>
      simp at hc; subst hc;simp [ZT] at h;obtain ⟨rfl, rfl⟩:=h;obtain ⟨ρ', h1, h2, h3⟩:=hH.newObj (.map [] 0) (.map #[] 0) (ORel.q0q.2 ⟨#[], rfl, rfl, λk e kv he => by simp at he⟩);refine ⟨.map (some w.heap.size), _, ρ', .inl ?_, .map _ _ (by simp) (λp hp => ?_), h2, h3⟩
      . simp [execOp, Instr.makeMap]
      . simp_all
  case lookup t x i jc =>
    split at hc
    . rename_i kt e hu
      cases hk:IS P kt with
      | none => simp [hk] at hc
      | some mk =>
        cases bT:P.info? e with
        | none => simp [hk, bT] at hc
        | some inf =>
          cases hz:inf.zero with
          | none => simp [hk, bT, hz] at hc
          | some z => simp [hk, bT, hz] at hc; obtain ⟨_, rfl⟩:=hc; cases hq
    . cases hc
  case mapUpdate t m k x =>
    simp at aq;have hm:=hE m aq.1;have fG:=hE k aq.2.1;have hx:=hE x aq.2.2;split at hc
    . rename_i kt e hu
      cases hk:IS P kt with
      | none => simp [hk] at hc
      | some mk =>
        simp [hk] at hc; subst hc;obtain ⟨d, hd, dR⟩:=GQ hk;simp only [ZT] at h;split at h
        . rename_i i je
          rw [je] at hm;split at h
          . rename_i es clock aH
            split at h
            . rename_i al
              simp only [z0] at al;obtain ⟨bH, hall⟩:=al;simp at h; obtain ⟨rfl, rfl⟩:=h;obtain ⟨p, entries, eQ, hp, aE, aG⟩:=Yi hH aH hm;have eR:ev k = Q5 env k:=LN bH fG;have bC:(getObj p.blk).run P w = .ok (.map entries clock) w:=(by grind [QK]);have aW:∀ O', (setObj p.blk O').run P w = .ok () (Rq w p.blk O'):=(by grind [Zg]);rcases Vy hd dR bH (Q5 env x) clock es entries.toList aG hall with ⟨h1, h2, h3⟩ | ⟨j, a, a', h1, h2, h3, h4, h5, h6⟩
              . rw [h3]
                obtain ⟨k1, k2⟩:=hH.setObj (i:=i) (p:=p) hp (Yd aH) (o':=.map (es ++ [(Q5 env k, Q5 env x, clock)]) (clock + 1))
                  (O':=.map (entries.push { key:=ev k, val:=ev x, born:=clock }) (clock + 1)) (ORel.q0q.2 ⟨_, rfl, by
                    rw [Array.toList_push];exact Ph aG ⟨eR, rfl, hx⟩⟩)
                refine ⟨undef, _, ρ, .inr ⟨?_, rfl⟩, Wa, k1, k2⟩;simp only [execOp];simp only [Instr.mapUpdate, zo, Q0 hu, zi, eQ, bC, eR, JP hd dR bH];simp_all
              . rw [h6]
                have g_:((entries[j]?).map (·.key)).getD (Q5 env k) = a.1:=by
                  rw [<- Array.getElem?_toList, h3];simp [(aG.2 j a' a h3 h2).1]
                have fe:JY mk a.1 = true:=(by grind)
                obtain ⟨k1, k2⟩:=hH.setObj (i:=i) (p:=p) hp (Yd aH) (o':=.map (es.set j (Q5 env k, Q5 env x, a.2.2)) clock)
                  (O':=.map (entries.modify (0 + j) λe => { e with key:=Q5 env k, val:=ev x }) clock) (ORel.q0q.2 ⟨_, rfl, by
                    rw [Array.toList_modify, zQ];exact BZ aG j _ _ (λe he => by
                      obtain rfl:a' = e:=osj (h3.symm.trans he);exact ⟨rfl, (aG.2 j a' a h3 h2).2.1, hx⟩)⟩)
                refine ⟨undef, _, ρ, .inr ⟨?_, rfl⟩, Wa, k1, k2⟩;simp only [execOp];simp only [Instr.mapUpdate, zo, Q0 hu, zi, eQ, bC, eR, JP hd dR bH];rw [h4];simp only [zi, zo, zQ, g_];have bu:(Instr.keyThatStays a.1 (Q5 env k)).run P w = .ok (Q5 env k) w:=by unfold Instr.keyThatStays;rw [z7 (Br bH fe h5)];rfl
                simp_all
            . cases h
          . cases h
        . cases h
    . cases hc
  case insert t m k x =>
    simp at aq;have hm:=hE m aq.1;have fG:=hE k aq.2.1;have hx:=hE x aq.2.2;split at hc
    . rename_i kt e hu
      cases hk:IS P kt with
      | none => simp [hk] at hc
      | some mk =>
        simp [hk] at hc; subst hc;obtain ⟨d, hd, dR⟩:=GQ hk;simp only [ZT] at h;split at h
        . rename_i i je
          rw [je] at hm;split at h
          . rename_i es clock aH
            split at h
            . rename_i al
              simp only [z0] at al;obtain ⟨bH, hall⟩:=al;simp at h; obtain ⟨rfl, rfl⟩:=h;obtain ⟨p, entries, eQ, hp, aE, aG⟩:=Yi hH aH hm;have eR:ev k = Q5 env k:=LN bH fG;have bC:(getObj p.blk).run P w = .ok (.map entries clock) w:=(by grind [QK]);have aW:∀ O', (setObj p.blk O').run P w = .ok () (Rq w p.blk O'):=(by grind [Zg]);rcases Vy hd dR bH (Q5 env x) clock es entries.toList aG hall with ⟨h1, h2, h3⟩ | ⟨j, a, a', h1, h2, h3, h4, h5, h6⟩
              . rw [h3]
                obtain ⟨k1, k2⟩:=hH.setObj (i:=i) (p:=p) hp (Yd aH) (o':=.map (es ++ [(Q5 env k, Q5 env x, clock)]) (clock + 1))
                  (O':=.map (entries.push { key:=ev k, val:=ev x, born:=clock }) (clock + 1)) (ORel.q0q.2 ⟨_, rfl, by
                    rw [Array.toList_push];exact Ph aG ⟨eR, rfl, hx⟩⟩)
                refine ⟨undef, _, ρ, .inr ⟨?_, rfl⟩, Wa, k1, k2⟩;simp only [execOp];simp only [Instr.mapUpdate, zo, Q0 hu, zi, eQ, bC, eR, JP hd dR bH];simp_all
              . rw [h6]
                have g_:((entries[j]?).map (·.key)).getD (Q5 env k) = a.1:=by
                  rw [<- Array.getElem?_toList, h3];simp [(aG.2 j a' a h3 h2).1]
                have fe:JY mk a.1 = true:=(by grind)
                obtain ⟨k1, k2⟩:=hH.setObj (i:=i) (p:=p) hp (Yd aH) (o':=.map (es.set j (Q5 env k, Q5 env x, a.2.2)) clock)
                  (O':=.map (entries.modify (0 + j) λe => { e with key:=Q5 env k, val:=ev x }) clock) (ORel.q0q.2 ⟨_, rfl, by
                    rw [Array.toList_modify, zQ];exact BZ aG j _ _ (λe he => by
                      obtain rfl:a' = e:=osj (h3.symm.trans he);exact ⟨rfl, (aG.2 j a' a h3 h2).2.1, hx⟩)⟩)
                refine ⟨undef, _, ρ, .inr ⟨?_, rfl⟩, Wa, k1, k2⟩;simp only [execOp];simp only [Instr.mapUpdate, zo, Q0 hu, zi, eQ, bC, eR, JP hd dR bH];rw [h4];simp only [zi, zo, zQ, g_];have bu:(Instr.keyThatStays a.1 (Q5 env k)).run P w = .ok (Q5 env k) w:=by unfold Instr.keyThatStays;rw [z7 (Br bH fe h5)];rfl
                simp_all
            . cases h
          . cases h
        . cases h
    . cases hc
  case mapEntry t m k =>
    simp at aq;have hm:=hE m aq.1;have fG:=hE k aq.2;split at hc
    . rename_i kt e hu
      cases hk:IS P kt with
      | none => simp [hk] at hc
      | some mk =>
      cases bT:P.info? e with
      | none => simp [hk, bT] at hc
      | some inf =>
      cases hz:inf.zero with
      | none => simp [hk, bT, hz] at hc
      | some z =>
        simp [hk, bT, hz] at hc;obtain ⟨kC, rfl⟩:=hc;obtain ⟨d, hd, dR⟩:=GQ hk;have kA:∀ w', (zeroValue e).run P w' = .ok z w':=λw' => J3 bT hz w';have dK:VRel ρ U.n z z:=Nx kC;simp only [ZT] at h;split at h
        . rename_i i je
          rw [je] at hm;split at h
          . rename_i es clock aH
            split at h
            . rename_i al
              simp only [z0] at al;obtain ⟨bH, hall⟩:=al;obtain ⟨p, entries, eQ, hp, aE, aG⟩:=Yi hH aH hm;have eR:ev k = Q5 env k:=LN bH fG;have bC:(getObj p.blk).run P w = .ok (.map entries clock) w:=(by grind [QK]);have aW:∀ O', (setObj p.blk O').run P w = .ok () (Rq w p.blk O'):=(by grind [Zg]);split at h
              . rename_i e0 hf
                simp at h; obtain ⟨rfl, rfl⟩:=h;rcases Vy hd dR bH e0.2.1 clock es entries.toList aG hall with ⟨h1, h2, h3⟩ | ⟨j, a, a', h1, h2, h3, h4, h5, h6⟩
                . rw [hf] at h1; cases h1
                . obtain rfl:e0 = a:=by rw [hf] at h1; exact osj h1
                  rw [h6];have pC:entries[j]? = some a':=by simp_all
                  have g_:((entries[j]?).map (·.key)).getD (Q5 env k) = e0.1:=by
                    rw [pC]; simp [(aG.2 j a' e0 h3 h2).1]
                  have pD:((entries[j]?).map λx => (x.born:Int)).getD 0 = (e0.2.2:Int):=by rw [pC]; simp [(aG.2 j a' e0 h3 h2).2.1]
                  have fe:JY mk e0.1 = true:=(by grind);have my:=(aG.2 j a' e0 h3 h2).2.2
                  obtain ⟨k1, k2⟩:=hH.setObj (i:=i) (p:=p) hp (Yd aH) (o':=.map (es.set j (Q5 env k, e0.2.1, e0.2.2)) clock)
                    (O':=.map (entries.modify (0 + j) λe => { e with key:=Q5 env k }) clock) (ORel.q0q.2 ⟨_, rfl, by
                      rw [Array.toList_modify, zQ];exact BZ aG j _ _ (λe he => by
                        obtain rfl:a' = e:=osj (h3.symm.trans he);exact ⟨rfl, (aG.2 j a' e0 h3 h2).2.1, my⟩)⟩)
                  refine ⟨.tuple #[a'.val, .int .i64 e0.2.2], _, ρ, .inl ?_, VRel.q0j (LRel.cons my (LRel.cons (.int _ _) (LRel.nil _ _))), k1, k2⟩;simp only [execOp];simp only [Instr.mapEntry, zo, Q0 hu, zi, eQ, bC, eR, JP hd dR bH];rw [h4];simp only [zi, zo, zQ, g_, pD];have bu:(Instr.keyThatStays e0.1 (Q5 env k)).run P w = .ok (Q5 env k) w:=by unfold Instr.keyThatStays;rw [z7 (Br bH fe h5)];rfl
                  rw [bu];simp only [zi, aW, xi];rfl
              . rename_i hf
                simp at h; obtain ⟨rfl, rfl⟩:=h;rcases Vy hd dR bH z clock es entries.toList aG hall with ⟨h1, h2, h3⟩ | ⟨j, a, a', h1, h2, h3, h4, h5, h6⟩
                . rw [h3]
                  obtain ⟨k1, k2⟩:=hH.setObj (i:=i) (p:=p) hp (Yd aH) (o':=.map (es ++ [(Q5 env k, z, clock)]) (clock + 1))
                    (O':=.map (entries.push { key:=Q5 env k, val:=z, born:=clock }) (clock + 1)) (ORel.q0q.2 ⟨_, rfl, by
                      rw [Array.toList_push];exact Ph aG ⟨rfl, rfl, dK⟩⟩)
                  refine ⟨.tuple #[z, .int .i64 clock], _, ρ, .inl ?_, VRel.q0j (LRel.cons dK (LRel.cons (.int _ _) (LRel.nil _ _))), k1, k2⟩;simp only [execOp];simp only [Instr.mapEntry, zo, Q0 hu, zi, eQ, bC, eR, JP hd dR bH];rw [h2];simp only [zi, zo, kA, aW, xi];rfl
                . rw [hf] at h1; cases h1
            . cases h
          . cases h
        . cases h
    . cases hc
  case entryStore t m s x =>
    simp at aq;have hm:=hE m aq.1;have hs:=hE s aq.2.1;have hx:=hE x aq.2.2;simp at hc; subst hc;simp only [ZT] at h;split at h
    . rename_i i n je pE
      rw [je] at hm;rw [pE] at hs;split at h
      . rename_i es clock aH
        split at h
        . rename_i j kn
          split at h
          . rename_i e0 ry
            simp at h; obtain ⟨rfl, rfl⟩:=h;obtain ⟨p, entries, eQ, hp, aE, aG⟩:=Yi hH aH hm;have mB:ev s = .int .i64 n:=Ve rfl hs;have bC:(getObj p.blk).run P w = .ok (.map entries clock) w:=(by grind [QK]);have aW:∀ O', (setObj p.blk O').run P w = .ok () (Rq w p.blk O'):=(by grind [Zg]);have mC:entries.toList.map (λx => (x.born:Int)) = es.map (λe => (e.2.2:Int)):=by
              refine zT λq => ?_;rw [xu, xu];cases h1:entries.toList[q]? with
              | none =>
                have:es[q]? = none:=by rw [List.getElem?_eq_none_iff] at h1 |-; rw [<- aG.1]; exact h1
                rw [this]; rfl
              | some a =>
                cases h2:es[q]? with
                | none => rw [List.getElem?_eq_none_iff, <- aG.1, <- List.getElem?_eq_none_iff, h1] at h2; cases h2
                | some b => simp [(aG.2 q a b h1 h2).2.1]
            have pF:entries.findIdx? (λe => (e.born:Int) == n) = some j:=by
              have e1:entries.toList.findIdx? (λe => (e.born:Int) == n) = (entries.toList.map (λx => (x.born:Int))).findIdx? (λb => b == n):=by rw [List.findIdx?_map]; rfl
              have e2:es.findIdx? (λe => (e.2.2:Int) == n) = (es.map (λe => (e.2.2:Int))).findIdx? (λb => b == n):=by rw [List.findIdx?_map]; rfl
              have e3:entries.findIdx? (λe => (e.born:Int) == n) = entries.toList.findIdx? (λe => (e.born:Int) == n):=by rw [<- List.findIdx?_toArray, Array.toArray_toList]
              rw [e3, e1, mC, <- e2, kn]
            have cP:j < entries.toList.length:=by rw [aG.1]; grind
            have pC:=z8 cP
            obtain ⟨k1, k2⟩:=hH.setObj (i:=i) (p:=p) hp (Yd aH) (o':=.map (es.set j (e0.1, Q5 env x, e0.2.2)) clock)
              (O':=.map (entries.modify j λe => { e with val:=ev x }) clock) (ORel.q0q.2 ⟨_, rfl, by
                rw [Array.toList_modify];exact BZ aG j _ _ (λe he => by
                  have hr:=aG.2 j e e0 he ry;exact ⟨hr.1, hr.2.1, hx⟩)⟩)
            refine ⟨undef, _, ρ, .inr ⟨?_, rfl⟩, Wa, k1, k2⟩;simp only [execOp];simp only [Instr.entryStore, eQ, zo, bC, zi, mB];simp [asInt, asIntOf, pF, aW]
          . cases h
        . cases h
      . cases h
    . cases h
  case range t x =>
    simp at aq;have hx:=hE x aq;split at hc
    . rename_i kt e hu
      simp at hc; subst hc;simp only [ZT] at h;split at h
      . rename_i m bg
        rw [bg] at hx;split at h
        . rename_i es clock wr aH
          simp at h; obtain ⟨rfl, rfl⟩:=h;obtain ⟨p, entries, eQ, hp, aE, aG⟩:=Yi hH aH hx;rw [eQ] at hx;obtain ⟨ρ', h1, h2, h3⟩:=hH.newObj (.iter m clock [] clock) (.mapIter (some p.blk) clock #[] clock) ⟨p.blk, rfl, hx⟩;have bC:(getObj p.blk).run P w = .ok (.map entries clock) w:=(by grind [QK]);refine ⟨.pointer (some ⟨w.heap.size, 0, none⟩), _, ρ', .inl ?_, .ptr _ _ _ (by simp) (λq hq => ?_), h2, h3⟩
          . simp [execOp, Instr.range, Q0 hu, eQ, bC]
          simp_all
        . cases h
      . cases h
    . rename_i hu
      simp at hc; subst hc;simp only [ZT] at h;split at h
      . rename_i s bg
        rw [bg] at hx;simp at h; obtain ⟨rfl, rfl⟩:=h;have bm:ev x = .string s:=Ve rfl hx;obtain ⟨ρ', h1, h2, h3⟩:=hH.newObj (.siter s 0) (.stringIter s 0) rfl;refine ⟨.pointer (some ⟨w.heap.size, 0, none⟩), _, ρ', .inl ?_, .ptr _ _ _ (by simp) (λq hq => ?_), h2, h3⟩
        . simp [execOp, Instr.range, Q0 hu, bm]
        simp_all
      . cases h
    . cases hc
  case next x b =>
    cases b with
    | false => simp at hc; subst hc; simp [ZT] at h
    | true =>
      simp at aq hc;subst hc;have hx:=hE x aq;simp only [ZT] at h;split at h
      . rename_i i bg
        rw [bg] at hx;split at h
        . rename_i s ps hb
          obtain ⟨p, hp, ⟨_, cY⟩, O, hO, rfl⟩:=hH.live i _ hb;obtain ⟨_, _, bU⟩:=hx.q0u hp;rw [cY, zQ] at bU;have bC:(getObj p.blk).run P w = .ok (.stringIter s ps) w:=(by grind [QK]);have aW:∀ O', (setObj p.blk O').run P w = .ok () (Rq w p.blk O'):=(by grind [Zg]);split at h
          . rename_i b pG
            split at h
            . rename_i ao
              simp at h; obtain ⟨rfl, rfl⟩:=h;obtain ⟨d_, tK⟩:=zp.1 pG;have hps':ps < s.size:=d_;have cm:s[ps]'hps' = b:=tK;obtain ⟨k1, k2⟩:=hH.setObj hp hb (o':=.siter s (ps + 1)) (O':=.stringIter s (ps + 1)) rfl;refine ⟨.tuple #[.bool true, .int .i64 ps, .int .i32 b.toNat], _, ρ, .inl ?_, VRel.q0j (LRel.cons (.bool _) (LRel.cons (.int _ _) (LRel.cons (.int _ _) (LRel.nil _ _)))), k1, k2⟩;simp only [execOp, Instr.next, bU, zo, bC, zi, z7 hps', decode_ascii s ps hps' (by rw [cm]; exact ao), aW];simp [goInt, cm]
            . cases h
          . rename_i pG
            simp at h; obtain ⟨rfl, rfl⟩:=h;have hps':¬ ps < s.size:=by have:=List.getElem?_eq_none_iff.1 pG;intro h; have h':ps < s.data.toList.length:=h; omega
            refine ⟨.tuple #[.bool false], w, ρ, .inl ?_, VRel.q0j (LRel.cons (.bool _) (LRel.nil _ _)), hH, Ext.refl _ _ _⟩;simp only [execOp, Instr.next, bU, zo, bC, zi, z6 hps'];simp
        . cases h
      . cases h
  case entry x => simp at hc; subst hc; cases hq
  case convert s d x =>
    split at hc
    . rename_i t hs hd
      cases hi:P.info? t with
      | none => simp [hi] at hc
      | some inf => simp [hi] at hc; obtain ⟨_, rfl⟩:=hc; cases hq
    . rename_i u hs hd
      cases hi:P.info? u with
      | none => simp [hi] at hc
      | some inf => simp [hi] at hc; obtain ⟨_, rfl⟩:=hc; cases hq
    . split at hc
      . simp at hc; subst hc; cases hq
      . cases hc
    . rename_i e hs hd
      split at hc
      . rename_i he
        simp at hc; subst hc;simp only [ZT] at h;split at h
        . rename_i s' bg
          split at h
          . simp at h; obtain ⟨rfl, rfl⟩:=h
            have hx:=hE x (by simpa using aq);rw [bg] at hx;refine Q06 hH hs hd he ?_;simp only [execOp, hx.q0p]
          . cases h
        . cases h
      . cases hc
    . cases hc
  case call c =>
    split at hc
    . split at hc
      . split at hc
        . simp at hc; subst hc; cases hq
        . cases hc
      . cases hc
    . rename_i aI
      split at hc
      . rename_i t mm kk gd cB
        split at hc
        . rename_i kt e hu
          cases hk:IS P kt with
          | none => simp [hk] at hc
          | some mk =>
            simp [hk] at hc; subst hc;obtain ⟨d, hd, dR⟩:=GQ hk;have bB:c.args = #[mm, kk]:=Array.ext' (by simpa using cB);have cF:WZ mm = true /\ WZ kk = true:=by simpa [Call.operands, aI, bB] using aq
            have hm:=hE mm cF.1;have fG:=hE kk cF.2;simp only [ZT] at h;split at h
            . rename_i i je
              rw [je] at hm;split at h
              . rename_i es clock aH
                split at h
                . rename_i al
                  simp only [z0] at al;obtain ⟨bH, hall⟩:=al;simp at h; obtain ⟨rfl, rfl⟩:=h;obtain ⟨p, entries, eQ, hp, aE, aG⟩:=Yi hH aH hm;have eR:ev kk = Q5 env kk:=LN bH fG;have bC:(getObj p.blk).run P w = .ok (.map entries clock) w:=(by grind [QK]);have aW:∀ O', (setObj p.blk O').run P w = .ok () (Rq w p.blk O'):=(by grind [Zg]);obtain ⟨nv, oH⟩:=Q5y es;rcases Vy hd dR bH nv clock es entries.toList aG hall with ⟨h1, h2, h3⟩ | ⟨j, a, a', h1, h2, h3, h4, h5, h6⟩
                  . rw [SE h1]
                    obtain ⟨k1, k2⟩:=hH.setObj (i:=i) (p:=p) hp (Yd aH) (o':=.map es clock) (O':=.map entries clock) (ORel.q0q.2 ⟨_, rfl, aG⟩);refine ⟨.tuple #[], _, ρ, .inl ?_, VRel.q0j (LRel.nil _ _), k1, k2⟩;simp only [execOp];simp [resolve, aI, bB, invoke, builtin, Builtin.delete_, gd, Q0 hu, eQ, bC, eR, JP hd dR bH, h2, aW]
                  . obtain ⟨j0, g1, g2, g3⟩:=AS (nv:=nv) (c:=clock) h1
                    have hj:j = j0:=by
                      rw [g2] at h6;have hs:=congrArg (λx:List Wl × Nat => x.1) h6
                      grind [Z1v, List.getElem?_eq_some_iff]
                    subst hj;rw [g3];obtain ⟨k1, k2⟩:=hH.setObj (i:=i) (p:=p) hp (Yd aH) (o':=.map (es.eraseIdx j) clock) (O':=.map (entries.eraseIdxIfInBounds (0 + j)) clock) (ORel.q0q.2 ⟨_, rfl, by
                      have cP:j < entries.size:=by
                        grind
                      rw [zQ];have e:(entries.eraseIdxIfInBounds j).toList = entries.toList.eraseIdx j:=by simp
                      grind [Ox]⟩)
                    refine ⟨.tuple #[], _, ρ, .inl ?_, VRel.q0j (LRel.nil _ _), k1, k2⟩;simp only [execOp];simp [resolve, aI, bB, invoke, builtin, Builtin.delete_, gd, Q0 hu, eQ, bC, eR, JP hd dR bH, h4, aW]
                . cases h
              . cases h
            . cases h
        . cases hc
      . cases hc
    . rename_i aI
      split at hc
      . rename_i t dd ss gd cB
        split at hc
        . rename_i e hu
          cases hi:P.info? e with
          | none => simp [hi] at hc
          | some inf =>
            simp [hi] at hc; subst hc;have bB:c.args = #[dd, ss]:=Array.ext' (by simpa using cB);have cF:WZ dd = true /\ WZ ss = true:=by simpa [Call.operands, aI, bB] using aq
            have hd:=hE dd cF.1;have hs:=hE ss cF.2;simp only [ZT] at h;split at h
            . rename_i db dn dc sb sn sc pH pE
              rw [pH] at hd; rw [pE] at hs;obtain ⟨da, tL, pI⟩:=hd.q1t;obtain ⟨sa, mD, mB⟩:=hs.q1t;split at h
              . rename_i h0
                simp at h; obtain ⟨rfl, rfl⟩:=h;refine ⟨.int .i64 0, w, ρ, .inl ?_, .int _ _, hH, Ext.refl _ _ _⟩;simp only [execOp];have rz:Nat.min sn dn = 0:=h0;cases sa <;> cases da <;> simp [resolve, aI, bB, invoke, builtin, Builtin.copy_, gd, pI, mB, Q0 hu, Qj hi, Builtin.lenOf, rz, Builtin.firstCells, loadCells, loadCellsFrom, storeCells, goInt]
              . rename_i h0
                split at h
                . rename_i i o xs bm
                  split at h
                  . rename_i cc e' wr tight hb
                    split at h
                    . rename_i al
                      obtain ⟨rfl, mg, ja, gZ⟩:=al;simp at h; obtain ⟨rfl, rfl⟩:=h;have bh:VRel ρ U.n (.slice sb (min sn dn) sc) (.slice sa (min sn dn) mD):=by
                        rw [mB] at hs;cases hs with
                        | nilSl => exact absurd (by simp) h0
                        | slx _ _ _ _ _ gf dS => exact .slx _ _ _ _ _ gf dS
                        | sl i2 o2 _ _ a2 _ gf dS =>
                          refine .sl _ _ _ _ _ _ gf λp hp => ?_;obtain ⟨k1, k2, ⟨k0, vK⟩ | ⟨o', k3, k4, k5⟩⟩:=dS p hp
                          . omega
                          exact (by simp_all)
                      obtain ⟨fp, us, eD, _, aV⟩:=AA hH bm bh;have hr:=aV w (Like.refl ρ w);have pF:(Builtin.firstCells inf.size (min sn dn) (.slice sa sn mD)).run P w = .ok us.toArray w:=by rw [<- hr]; cases sa <;> rfl
                      obtain ⟨p, hp, hB⟩:=hH.live i _ hb;rw [pI] at hd;obtain ⟨a2, iW, mE, aR, aY⟩:=hd.q1c;simp at mE;obtain ⟨rfl, rfl⟩:=mE;obtain ⟨_, _, ⟨_, gQ⟩ | ⟨o', lS, _, ku⟩⟩:=aY p hp
                      . exact absurd (by rw [gQ]; simp) h0
                      have ho:o' = o:=ku.resolve_right (λhh => h0 (by rw [hh.1]; simp));subst ho;obtain ⟨h2, h3⟩:=hH.store hp hb eD (o:=o') (by omega);refine ⟨.int .i64 (min sn dn:Nat), _, ρ, .inl ?_, .int _ _, h2, h3⟩;have ou:us.length = xs.length:=eD.1.symm
                      have bu:=run_storeCells_cells (P:=P) p.blk (p.shift + o') us 0 w
                        (λj hj => by rw [z_, zu]; exact hB.q0s _ (by have:=hB.2.2.1; omega))
                        (λj hj => by rw [z_, zu]; exact (hB.2.2.2.2.2 rfl).2 _ (by have:=hB.2.2.1; omega))
                        (VH gZ eD)
                      rw [z_] at bu;have pJ:Nat.min sn dn = min sn dn:=rfl;simp only [execOp];simp [resolve, aI, bB, invoke, builtin, Builtin.copy_, gd, pI, mB, Q0 hu, Qj hi, Builtin.lenOf, pJ, pF, lS, bu, goInt]
                    . cases h
                  . cases h
                . cases h
            . cases h
        . cases hc
      . cases hc
    . rename_i aI
      split at hc
      . rename_i t x gd cB
        split at hc
        . rename_i e hu
          cases hz:zeroOf P e with
          | none => simp [hz] at hc
          | some z =>
            simp [hz] at hc;obtain ⟨gQ, rfl⟩:=hc;obtain ⟨inf, zv, bT, dK, fZ, vL, iL⟩:=Kb hz;have bB:c.args = #[x]:=Array.ext' (by simpa using cB);have cF:WZ x = true:=by simpa [Call.operands, aI, bB] using aq
            have hx:=hE x cF;simp only [ZT] at h;split at h
            . rename_i b n cap bg
              rw [bg] at hx;obtain ⟨a, tM, bU⟩:=hx.q1t;split at h
              . rename_i h0
                simp at h; obtain ⟨rfl, rfl⟩:=h;subst h0;refine ⟨.tuple #[], w, ρ, .inl ?_, VRel.q0j (LRel.nil _ _), hH, Ext.refl _ _ _⟩;simp only [execOp];cases a <;> simp [resolve, aI, bB, invoke, builtin, Builtin.clear_, gd, bU, Q0 hu]
              . rename_i h0
                split at h
                . rename_i i o
                  split at h
                  . rename_i cc e' wr tight hb
                    split at h
                    . rename_i al
                      obtain ⟨rfl, ja, gZ⟩:=al;simp at h; obtain ⟨rfl, rfl⟩:=h;have eD:LRel ρ U.n (Rx n z) (Rx n z):=WU (Pf n z iL);have eo:=L2 n z;have bV:(Rx n z).all cellOk = true:=Q3o n z gZ;obtain ⟨p, hp, hB⟩:=hH.live i _ hb;rw [bU] at hx;obtain ⟨a2, iW, mE, aR, aY⟩:=hx.q1c;simp at mE;obtain ⟨rfl, rfl⟩:=mE;obtain ⟨_, _, ⟨_, gQ⟩ | ⟨o', lS, _, ku⟩⟩:=aY p hp
                      . exact absurd gQ h0
                      have ho:o' = o:=ku.resolve_right (λhh => h0 hh.1);subst ho;obtain ⟨h2, h3⟩:=hH.store hp hb eD (o:=o') (by omega);refine ⟨.tuple #[], _, ρ, .inl ?_, VRel.q0j (LRel.nil _ _), h2, h3⟩
                      have bu:=run_storeCells_cells (P:=P) p.blk (p.shift + o') (Rx n z) 0 w
                        (λj hj => by rw [z_, zu]; exact hB.q0s _ (by have:=hB.2.2.1; omega))
                        (λj hj => by rw [z_, zu]; exact (hB.2.2.2.2.2 rfl).2 _ (by have:=hB.2.2.1; omega))
                        (VH bV eD)
                      rw [z_] at bu;have tN:(Builtin.zeroCells zv.cells n).toList = Rx n z:=by have:=PK zv.cells z fZ (by intro hh; rw [hh] at gQ; exact gQ rfl) n;simpa [Builtin.zeroCells, <- fZ] using this
                      simp only [execOp];obtain ⟨n', rfl⟩:∃ k, n = k + 1:=⟨n - 1, by omega⟩;simp [resolve, aI, bB, invoke, builtin, Builtin.clear_, gd, bU, Q0 hu, J3 bT dK, tN, lS, bu]
                    . cases h
                  . cases h
                . cases h
            . cases h
        . cases hc
      . cases hc
    . split at hc
      . simp at hc; subst hc; cases hq
      . cases hc
    . rename_i aI
      split at hc
      . rename_i t x nn gd cB
        split at hc
        . rename_i e hu
          split at hc
          . rename_i kz
            simp at hc; subst hc;have bB:c.args = #[x, nn]:=Array.ext' (by simpa using cB);have cF:WZ x = true /\ WZ nn = true:=by simpa [Call.operands, aI, bB] using aq
            have hx:=hE x cF.1;have hn:=hE nn cF.2;simp only [ZT] at h;split at h
            . rename_i q k bg aK
              rw [bg] at hx; rw [aK] at hn;have gC:=hn.q0f;split at h
              . rename_i h0
                simp at h; obtain ⟨rfl, rfl⟩:=h;subst h0;refine ⟨.string ⟨#[]⟩, w, ρ, .inl ?_, .string _, hH, Ext.refl _ _ _⟩;have dB:∃ q', ev x = .pointer q':=by
                  cases q with
                  | none => exact ⟨none, hx.q0o⟩
                  | some a => obtain ⟨b, hb⟩:=hx.q1g; exact ⟨_, hb⟩
                obtain ⟨q', dB⟩:=dB;simp [execOp, resolve, aI, bB, invoke, builtin, dB, gC, Ep c.argTypes ty t gd q' w];rfl
              . rename_i h0
                split at h
                . rename_i i o
                  split at h
                  . rename_i cc el tight hb
                    split at h
                    . rename_i al
                      obtain ⟨kF, pK, het, ja⟩:=al;split at h
                      . rename_i s' oG
                        simp at h; obtain ⟨rfl, rfl⟩:=h;obtain ⟨ns, lR, rfl⟩:=Ar oG;obtain ⟨p, hp, h1, h2, h3, ⟨C, e', f, hC, px, kE⟩, h5, h6⟩:=hH.live i _ hb;obtain ⟨_, _, bU⟩:=hx.q0u hp;have gF:ns.length = k.toNat:=by have:=congrArg List.length lR;simp at this; omega
                        have bI:∀ j n, ns[j]? = some n -> w.cell? ((⟨p.blk, p.shift + o, none⟩:Addr).add j) = some (.int .u8 n):=λj n hj => by
                          have cP:j < ns.length:=(zp.1 hj).1;have eP:cc[o + j]? = some (.int .u8 n):=by
                            have:((cc.drop o).take k.toNat)[j]? = some (.int .u8 n):=by rw [lR, xu, hj]; rfl
                            rwa [xC, z7 (by omega), zZ] at this
                          obtain ⟨u, dt, cA⟩:=h5 (o + j) _ eP;have fH:(⟨p.blk, p.shift + o, none⟩:Addr).add j = ⟨p.blk, p.shift + (o + j), none⟩:=by unfold Addr.add; split <;> simp_all <;> omega
                          rw [fH, dt, cA.q0f]
                        have cY:w.shape? p.blk = some (e, C.size):=by simp [World.shape?, hC, kE, het]
                        have hr:=Q81 (P:=P) c.argTypes ty t e gd hu kz ⟨p.blk, p.shift + o, none⟩ C.size w cY ns k kF gF (by show p.shift + o + ns.length <= C.size; omega) pK bI;obtain ⟨k1, k2⟩:=hH.freeze hp hb (p.shift + o) k.toNat;refine ⟨.string ⟨(ns.map λn => n.toNat.toUInt8).toArray⟩, _, ρ, .inl ?_, .string _, k1, k2⟩;simp [execOp, resolve, aI, bB, invoke, builtin, bU, gC, hr]
                      . cases h
                    . cases h
                  . cases h
                . cases h
            . cases h
          . cases hc
        . cases hc
      . cases hc
    . cases hc
  all_goals cases hc
theorem Q5g {o:Oper}{vo:VOp}(hc:VN P o.op=vo) (hq:vo.quiet=true) (hH:HRel ρ U w) (hE:∀ x,WZ x=true->VRel ρ U.n (Q5 env x) (ev x))
  (h:Q7 vo (Q5 env) U=some (v,U')):U'=U/\Og P ρ U w v (execOp ev o):=by
 unfold VN at hc;split at hc
 .grind [OU]
 .split at hc
  .rename_i x hx;subst hc;exact II hx hq hH hE h
  .subst hc;simp[Q7] at h
theorem Q8z {o:Oper}{vo:VOp}(hc:VN P o.op=vo) (hq:vo.quiet=false) (hH:HRel ρ U w) (hE:∀ x,WZ x=true->VRel ρ U.n (Q5 env x) (ev x))
  (h:Q7 vo (Q5 env) U=some (v,U')):F2 P ρ U w v U' (execOp ev o):=by
 unfold VN at hc;split at hc
 .grind [Q3n]
 .split at hc
  .rename_i x hx;subst hc;exact Q0f hx hq hH hE h
  .subst hc;simp[Q7] at h
end
end Go.V