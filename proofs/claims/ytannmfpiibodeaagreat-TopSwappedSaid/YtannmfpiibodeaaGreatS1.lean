/- A framework for walks, contracts of functions, and their proofs: part 1. -/
import Derived.WalkKit
import Derived.Lib.Builder
import Derived.Lib.UnsafeStr
import Derived.DeepKeys
abbrev Go.z0:=@if_neg
abbrev Go.z1:=@Bool.and_eq_true
abbrev Go.z2:=@if_pos
abbrev Go.z3:=@List.getElem?_eq_getElem
abbrev Go.z4:=@Nat.le_refl
abbrev Go.z5:=@List.getD_eq_getElem?_getD
abbrev Go.z6:=@decide_eq_true_eq
abbrev Go.z7:=@Int.toNat_natCast
abbrev Go.z8:=@List.all_eq_true
abbrev Go.z9:=@Go.Result.andThen_ok
abbrev Go.zd:=@List.getElem_mem
abbrev Go.ze:=@_root_.cond_true
abbrev Go.zf:=@Nat.lt_or_ge
abbrev Go.zg:=@Option.map_eq_some_iff
abbrev Go.zh:=@Go.Sem.run_bind
abbrev Go.zi:=@List.getElem?_eq_some_iff
abbrev Go.zj:=@Bool.false_eq_true
abbrev Go.zk:=@Nat.mul_le_mul_right
abbrev Go.zl:=@Bool.or_eq_true
abbrev Go.zm:=@Int.eq_ofNat_of_zero_le
abbrev Go.zn:=@List.length_append
abbrev Go.zo:=@Nat.add_assoc
abbrev Go.zp:=@Nat.le_of_ble_eq_true
abbrev Go.zq:=@if_true
abbrev Go.zr:=@List.length_cons
abbrev Go.zt:=@of_decide_eq_false
abbrev Go.zu:=@Nat.blt_eq
abbrev Go.zw:=@Option.bind_eq_bind
abbrev Go.zx:=@List.mem_singleton
abbrev Go.zy:=@decide_eq_false_iff_not
abbrev Go.zz:=@List.getElem?_eq_none
abbrev Go.zA:=@of_decide_eq_true
abbrev Go.zB:=@List.mem_cons
abbrev Go.zC:=@List.mem_map
abbrev Go.zD:=@Nat.eq_of_beq_eq_true
abbrev Go.zE:=@Nat.add_mul
abbrev Go.zF:=@_root_.cond_false
abbrev Go.zG:=@decide_eq_true
abbrev Go.zH:=@beq_iff_eq
abbrev Go.zI:=@List.length_eq_one_iff
abbrev Go.zJ:=@List.append_assoc
abbrev Go.zK:=@List.ext_getElem?
abbrev Go.zL:=@List.all_cons
abbrev Go.zM:=@List.cons.inj
abbrev Go.zN:=@List.getElem?_drop
abbrev Go.zO:=@Nat.le_trans
abbrev Go.zP:=@List.take_of_length_le
abbrev Go.zQ:=@List.mem_range
abbrev Go.zR:=@Nat.add_zero
abbrev Go.zS:=@Option.bind_eq_some_iff
abbrev Go.zT:=@Nat.lt_of_lt_of_le
abbrev Go.zU:=@List.mem_iff_getElem?
abbrev Go.zV:=@List.length_singleton
abbrev Go.zW:=@beq_eq_false_iff_ne
abbrev Go.zX:=@List.mem_of_getElem?
abbrev Go.zY:=@Nat.zero_add
abbrev Go.zZ:=@List.mapM_cons
abbrev Go.z_:=@List.mem_cons_self
abbrev Go.x3:=@List.length_eq_zero_iff
abbrev Go.x4:=@List.length_pos_iff
abbrev Go.x5:=@Nat.shiftRight_eq_div_pow
abbrev Go.x6:=@Option.some.injEq
abbrev Go.x7:=@Go.Sem.run_pure
abbrev Go.x8:=@List.map_congr_left
abbrev Go.x9:=@Option.bind_some
abbrev Go.xc:=@List.any_eq_false
abbrev Go.xd:=@List.getElem?_append_left
abbrev Go.xe:=@Nat.lt_of_le_of_lt
abbrev Go.xg:=@Bool.not_eq_false'
abbrev Go.xh:=@List.mem_append
abbrev Go.xi:=@List.map_append
abbrev Go.xj:=@List.getElem?_append_right
abbrev Go.xk:=@List.mem_cons_of_mem
abbrev Go.xl:=@List.length_set
abbrev Go.xm:=@Nat.mod_lt
abbrev Go.xn:=@List.replicate_succ
abbrev Go.xp:=@List.getElem?_map
abbrev Go.xq:=@List.getElem?_set
abbrev Go.xr:=@List.map_cons
abbrev Go.xt:=@List.append_nil
abbrev Go.xu:=@Nat.one_mul
abbrev Go.xw:=@List.getElem?_take
abbrev Go.xx:=@List.any_eq_true
abbrev Go.xy:=@Bool.or_false
abbrev Go.xA:=@List.drop_zero
abbrev Go.xB:=@List.length_map
abbrev Go.xC:=@Array.getElem?_eq_getElem
abbrev Go.xD:=@Nat.min_eq_left
abbrev Go.xE:=@List.cons_append
abbrev Go.xF:=@List.nil_append
abbrev Go.xG:=@Array.getElem?_eq_some_iff
abbrev Go.xH:=@Bool.and_true
abbrev Go.xI:=@List.length_take
abbrev Go.xJ:=@Nat.mod_eq_of_lt
abbrev Go.xK:=@List.drop_eq_getElem_cons
abbrev Go.xL:=@List.take_append_drop
abbrev Go.xM:=@List.length_replicate
abbrev Go.xN:=@Nat.add_comm
abbrev Go.xO:=@Bool.not_eq_true
abbrev Go.xP:=@List.getElem_map
abbrev Go.xQ:=@Bool.not_true
abbrev Go.xR:=@List.mem_filter
abbrev Go.xS:=@Option.map_some
abbrev Go.xT:=@List.foldl_cons
abbrev Go.xU:=@List.mem_append_right
abbrev Go.xV:=@List.take_succ_cons
abbrev Go.xW:=@decide_eq_false
abbrev Go.xX:=@List.set_append_right
abbrev Go.xY:=@List.nodup_cons
abbrev Go.xZ:=@Nat.mul_comm
abbrev Go.x_:=@List.map_map
abbrev Go.w4:=@List.mem_append_left
abbrev Go.wA:=@Nat.sub_self
abbrev Go.wB:=@Nat.not_lt
abbrev Go.wC:=@List.drop_succ_cons
abbrev Go.wD:=@List.length_drop
theorem Go.osj.{u} {α:Type u} {a b:α}:some a=some b->a=b:=Option.some.inj
namespace Go.V
open Go
def Z2j:Nat->Option (List Value):=λ_=>none
structure El where
 sz:Nat
 ty:Nat
 deriving DecidableEq,Inhabited
inductive VObj where
 |map (es:List (Value×Value×Nat)) (clock:Nat)
 |iter (m since:Nat) (seen:List Nat) (last:Nat)
 |lp (env:List Value) (r:Loop) (st:LoopState) (pend:Option Code)
 |siter (s:ByteArray) (pos:Nat)
 deriving Inhabited
inductive Blk where
 |cells (c:List Value) (esz:El) (wr tight:Bool)
 |obj (o:VObj) (wr:Bool)
 deriving Inhabited
def Blk.wr:Blk->Bool
 |.cells _ _ w _=>w
 |.obj _ w=>w
structure Heap where
 get:Nat->Option Blk
 n:Nat
 wf:∀ i,n<=i->get i=none
theorem Heap.lt (U:Heap) {i:Nat}{b:Blk}(h:U.get i=some b):i<U.n:=by
 rcases zf i U.n with h'|h'
 .exact h'
 .rw[U.wf i h'] at h;cases h
def Heap.push (U:Heap) (b:Blk):Heap where
 get i:=if i=U.n then some b else U.get i
 n:=U.n+1
 wf i h:=by rw[z0 (by omega)];exact U.wf i (by omega)
def Heap.upd (U:Heap) (i:Nat) (b:Blk):Heap where
 get j:=if j=i/\i<U.n then some b else U.get j
 n:=U.n
 wf j h:=by rw[z0 (by omega)];exact U.wf j h
def Heap.kill (U:Heap) (i:Nat):Heap where
 get j:=if j=i then none else U.get j
 n:=U.n
 wf j h:=by split;rfl;exact U.wf j h
@[simp] theorem Heap.push_n (U:Heap) (b:Blk):(U.push b).n=U.n+1:=rfl
@[simp] theorem Heap.q2i (U:Heap) (i:Nat) (b:Blk):(U.upd i b).n=U.n:=rfl
@[simp] theorem Heap.kill_n (U:Heap) (i:Nat):(U.kill i).n=U.n:=rfl
theorem Heap.q0a (U:Heap) (b:Blk):(U.push b).get U.n=some b:=by simp[Heap.push]
theorem Heap.q0e (U:Heap) (b:Blk) {i:Nat}(h:i≠U.n):(U.push b).get i=U.get i:=by simp[Heap.push,h]
theorem Heap.q0j (U:Heap) (b:Blk) {i:Nat}(h:i<U.n):(U.push b).get i=U.get i:=U.q0e b (Nat.ne_of_lt h)
theorem Heap.q0d (U:Heap) (b:Blk) {i:Nat}(h:i<U.n):(U.upd i b).get i=some b:=by simp[Heap.upd,h]
theorem Heap.q0b (U:Heap) (b:Blk) {i j:Nat}(h:j≠i):(U.upd i b).get j=U.get j:=by simp[Heap.upd,h]
theorem Heap.q0h (U:Heap) (i:Nat):(U.kill i).get i=none:=by simp[Heap.kill]
theorem Heap.q0c (U:Heap) {i j:Nat}(h:j≠i):(U.kill i).get j=U.get j:=by simp[Heap.kill,h]
structure Pl where
 blk:Nat
 shift:Nat
 ext:Nat
 esz:El
 tight:Bool
abbrev Plc:=Nat->Option Pl
def poison:Value:=.chan none
inductive VRel (ρ:Plc) (n:Nat):Value->Value->Prop
 |poison (c:Value):VRel ρ n poison c
 |bool (b:Bool):VRel ρ n (.bool b) (.bool b)
 |int (k:IntKind) (x:Int):VRel ρ n (.int k x) (.int k x)
 |string (s:ByteArray):VRel ρ n (.string s) (.string s)
 |nilPtr:VRel ρ n (.pointer none) (.pointer none)
 |nilSl:VRel ρ n (.slice none 0 0) (.slice none 0 0)
 |nilMap:VRel ρ n (.map none) (.map none)
 |nilFunc:VRel ρ n .nilFunc .nilFunc
 |nilIface:VRel ρ n .nilIface .nilIface
 |glob (g o s:Nat):VRel ρ n (.pointer (some ⟨g,o,some s⟩)) (.pointer (some ⟨g,o,none⟩))
 |ptr (i o:Nat) (a:Addr) (hi:i<n) (h:∀ p,ρ i=some p->a=⟨p.blk,p.shift+o,none⟩):VRel ρ n (.pointer (some ⟨i,o,none⟩)) (.pointer (some a))
 |sl (i o len cap:Nat) (a:Addr) (av:Nat) (hi:i<n)
   (h:∀ p,ρ i=some p->cap<=av/\(p.tight=true->av=cap)/\(av=0/\len=0\/∃ o',a=⟨p.blk,p.shift+o',none⟩/\o'+av*p.esz.sz<=p.ext/\(o'=o\/(len=0/\cap=0)))) :
   VRel ρ n (.slice (some ⟨i,o,none⟩) len cap) (.slice (some a) len av)
 |slx (i o len cap:Nat) (a:Addr) (hi:i<n) (h:∀ p,ρ i=some p->a=⟨p.blk,p.shift+o,none⟩/\o+cap*p.esz.sz<=p.ext) :
   VRel ρ n (.slice (some ⟨i,o,some 0⟩) len cap) (.slice (some a) len cap)
 |map (i r:Nat) (hi:i<n) (h:∀ p,ρ i=some p->r=p.blk):VRel ρ n (.map (some i)) (.map (some r))
 |yield (i r:Nat) (hi:i<n) (h:∀ p,ρ i=some p->r=p.blk):VRel ρ n (.func (.yield i) #[] #[]) (.func (.yield r) #[] #[])
 |iface (t:TypeId) (v c:Value) (h:VRel ρ n v c):VRel ρ n (.iface t v) (.iface t c)
 |func (fn:FuncId) (fs gs cs ds:Array Value) (hf:fs.size=gs.size) (hc:cs.size=ds.size)
   (h1:∀ i (h1:i<fs.size) (h2:i<gs.size),VRel ρ n fs[i] gs[i]) (h2:∀ i (h1:i<cs.size) (h2:i<ds.size),VRel ρ n cs[i] ds[i]):VRel ρ n (.func (.func fn) fs cs) (.func (.func fn) gs ds)
 |agg (cs ds:Array Value) (hc:cs.size=ds.size) (h:∀ i (h1:i<cs.size) (h2:i<ds.size),VRel ρ n cs[i] ds[i]):VRel ρ n (.agg cs) (.agg ds)
 |tuple (cs ds:Array Value) (hc:cs.size=ds.size) (h:∀ i (h1:i<cs.size) (h2:i<ds.size),VRel ρ n cs[i] ds[i]):VRel ρ n (.tuple cs) (.tuple ds)
theorem VRel.mono {ρ ρ':Plc}{n n':Nat}(hn:n<=n') (hρ:∀ i,i<n->∀ p,ρ' i=some p->ρ i=some p) {v c:Value}(h:VRel ρ n v c):VRel ρ' n' v c:=by
 induction h with
 |poison c=>exact .poison c
 |bool b=>exact .bool b
 |int k x=>exact .int k x
 |string s=>exact .string s
 |nilPtr=>exact .nilPtr
 |nilSl=>exact .nilSl
 |nilMap=>exact .nilMap
 |nilFunc=>exact .nilFunc
 |nilIface=>exact .nilIface
 |glob g o s=>exact .glob g o s
 |ptr i o a hi h=>exact .ptr i o a (by omega) λp hp=>h p (hρ i hi p hp)
 |sl i o len cap a av hi h=>exact .sl i o len cap a av (by omega) λp hp=>h p (hρ i hi p hp)
 |slx i o len cap a hi h=>exact .slx i o len cap a (by omega) λp hp=>h p (hρ i hi p hp)
 |map i r hi h=>exact .map i r (by omega) λp hp=>h p (hρ i hi p hp)
 |yield i r hi h=>exact .yield i r (by omega) λp hp=>h p (hρ i hi p hp)
 |iface t v c _ ih=>exact .iface t v c ih
 |func fn fs gs cs ds hf hc _ _ lY lZ=>exact .func fn fs gs cs ds hf hc lY lZ
 |agg cs ds hc _ ih=>exact .agg cs ds hc ih
 |tuple cs ds hc _ ih=>exact .tuple cs ds hc ih
def LRel (ρ:Plc) (n:Nat) (vs cs:List Value):Prop:=vs.length=cs.length/\∀ (i:Nat) (v c:Value),vs[i]?=some v->cs[i]?=some c->VRel ρ n v c
theorem LRel.mono {ρ ρ':Plc}{n n':Nat}(hn:n<=n') (hρ:∀ i,i<n->∀ p,ρ' i=some p->ρ i=some p) {v c:List Value}(h:LRel ρ n v c):LRel ρ' n' v c :=
 ⟨h.1,λi v c hv hc=>(h.2 i v c hv hc).mono hn hρ⟩
theorem LRel.nil (ρ:Plc) (n:Nat):LRel ρ n [] []:=⟨rfl,λi v c h _=>by simp at h⟩
theorem LRel.cons {ρ:Plc}{n:Nat}{v c:Value}{vs cs:List Value}(h:VRel ρ n v c) (hs:LRel ρ n vs cs):LRel ρ n (v::vs) (c::cs):=by
 refine⟨by simp[hs.1],λi v' c' hv hc=>?_⟩;cases i with
 |zero=>simp at hv hc;subst hv;subst hc;exact h
 |succ i=>simp at hv hc;exact hs.2 i v' c' hv hc
theorem LRel.get {ρ:Plc}{n:Nat}{vs cs:List Value}(h:LRel ρ n vs cs) {i:Nat}{v:Value}(hv:vs[i]?=some v):∃ c,cs[i]?=some c/\VRel ρ n v c:=by
 have ao:i<vs.length:=(zi.1 hv).1;have cQ:i<cs.length:=by have:=h.1;omega
 exact⟨cs[i],z3 cQ,h.2 i v _ hv (z3 cQ)⟩
theorem LRel.set {ρ:Plc}{n:Nat}{vs cs:List Value}(h:LRel ρ n vs cs) (i:Nat) {v c:Value}(hv:VRel ρ n v c):LRel ρ n (vs.set i v) (cs.set i c):=by
 refine⟨by simp[h.1],λj v' c' h1 h2=>?_⟩;rw[xq] at h1 h2;by_cases cE:i=j
 .simp_all
 .simp only[cE,if_false] at h1 h2;exact h.2 j v' c' h1 h2
theorem LRel.append {ρ:Plc}{n:Nat}{vs cs cJ cs':List Value}(h:LRel ρ n vs cs) (h':LRel ρ n cJ cs'):LRel ρ n (vs++cJ) (cs++cs'):=by
 refine⟨by simp[h.1,h'.1],λi v c hv hc=>?_⟩;have e:=h.1;rw[List.getElem?_append] at hv hc;split at hv<;>split at hc<;>try omega
 .exact h.2 i v c hv hc
 .rw[e] at hv;exact h'.2 _ v c hv hc
theorem VRel.q1l {ρ:Plc}{n:Nat}{cs ds:List Value}(h:LRel ρ n cs ds):VRel ρ n (.agg cs.toArray) (.agg ds.toArray) :=
 .agg _ _ (by simpa using h.1) λi h1 h2=>h.2 i _ _ (by simp) (by simp)
theorem VRel.q0i {ρ:Plc}{n:Nat}{cs ds:List Value}(h:LRel ρ n cs ds):VRel ρ n (.tuple cs.toArray) (.tuple ds.toArray) :=
 .tuple _ _ (by simpa using h.1) λi h1 h2=>h.2 i _ _ (by simp) (by simp)
theorem LRel.of_array {ρ:Plc}{n:Nat}{cs ds:Array Value}(hc:cs.size=ds.size) (h:∀ i (h1:i<cs.size) (h2:i<ds.size),VRel ρ n cs[i] ds[i]):LRel ρ n cs.toList ds.toList:=by
 refine⟨by simpa using hc,λi v c hv dg=>?_⟩
 grind
def ORel (ρ:Plc) (n:Nat):VObj->Obj->Prop
 |.map es clock,o=>∃ entries,o=.map entries clock/\entries.size=es.length /\
   ∀ (k:Nat) (kv:Value×Value×Nat),es[k]?=some kv->∃ e:MapEntry,entries[k]?=some e/\e.key=kv.1/\e.born=kv.2.2/\VRel ρ n kv.2.1 e.val
 |.iter m since seen last,o=>∃ rm,o=.mapIter (some rm) since seen.toArray last/\VRel ρ n (.map (some m)) (.map (some rm))
 |.lp env r st pend,o=>o=.loop {r with state:=st,pending:=pend}/\LRel ρ n env r.tmps.toList
 |.siter s pos,o=>o=.stringIter s pos
def BRel (ρ:Plc) (n:Nat) (p:Pl) (w:World):Blk->Prop
 |.cells c esz wr tight=>p.esz=esz/\p.tight=tight/\c.length<=p.ext /\
   (∃ C e f,w.heap[p.blk]?=some (.cells C e f)/\p.shift+p.ext<=C.size/\e=esz.ty) /\
   (∀ (k:Nat) (v:Value),c[k]?=some v->∃ u,w.cell? ⟨p.blk,p.shift+k,none⟩=some u/\VRel ρ n v u) /\
   (wr=true->(tight=true->p.shift=0)/\∀ k,k<p.ext->w.frozen? ⟨p.blk,p.shift+k,none⟩=false)
 |.obj o _=>(p.ext=1/\p.shift=0)/\∃ O,w.heap[p.blk]?=some O/\ORel ρ n o O
structure HRel0 (ρ:Plc) (U:Heap) (w:World):Prop where
 live:∀ i b,U.get i=some b->∃ p,ρ i=some p/\BRel ρ U.n p w b
 dead:∀ i,U.get i=none->ρ i=none
 lt:∀ i p,ρ i=some p->p.blk<w.heap.size
 sep:∀ i j p q b,i≠j->ρ i=some p->ρ j=some q->U.get i=some b->b.wr=true->0<q.ext->p.blk≠q.blk
theorem HRel0.idlt {ρ:Plc}{U:Heap}{w:World}(h:HRel0 ρ U w) {i:Nat}{p:Pl}(hp:ρ i=some p):i<U.n:=by
 cases hb:U.get i with
 |none=>rw[h.dead i hb] at hp;cases hp
 |some b=>exact U.lt hb
def Wr (ρ:Plc) (U:Heap) (B:Nat):Prop:=∃ i p b,ρ i=some p/\U.get i=some b/\b.wr=true/\p.blk=B
structure Ext (ρ:Plc) (U:Heap) (w:World) (ρ':Plc) (U':Heap) (w':World):Prop where
 os:w'.os=w.os
 tape:w'.tape=w.tape
 output:w'.output=w.output
 size:w.heap.size<=w'.heap.size
 keep:∀ B,B<w.heap.size->¬ Wr ρ U B->w'.heap[B]?=w.heap[B]?
 wr:∀ B,B<w.heap.size->Wr ρ' U' B->Wr ρ U B
 n:U.n<=U'.n
 pl:∀ i,i<U.n->∀ p,ρ' i=some p->ρ i=some p
theorem Ext.refl (ρ:Plc) (U:Heap) (w:World):Ext ρ U w ρ U w :=
 ⟨rfl,rfl,rfl,z4 _,λ_ _ _=>rfl,λ_ _ h=>h,z4 _,λ_ _ _ h=>h⟩
theorem Ext.trans {ρ ρ' eJ:Plc}{U U' aN:Heap}{w w' o5:World}(h:Ext ρ U w ρ' U' w') (k:Ext ρ' U' w' eJ aN o5):Ext ρ U w eJ aN o5 where
 os:=k.os.trans h.os
 tape:=k.tape.trans h.tape
 output:=k.output.trans h.output
 size:=zO h.size k.size
 keep B hB hW:=(k.keep B (zT hB h.size) (λhw=>hW (h.wr B hB hw))).trans (h.keep B hB hW)
 wr B hB hW:=h.wr B hB (k.wr B (zT hB h.size) hW)
 n:=zO h.n k.n
 pl i hi p hp:=h.pl i hi p (k.pl i (zT hi h.n) p hp)
theorem Ext.lrel {ρ ρ':Plc}{U U':Heap}{w w':World}(h:Ext ρ U w ρ' U' w') {v c:List Value}(hv:LRel ρ U.n v c):LRel ρ' U'.n v c:=hv.mono h.n h.pl
theorem ORel.mono {ρ ρ':Plc}{n n':Nat}(hn:n<=n') (hρ:∀ i,i<n->∀ p,ρ' i=some p->ρ i=some p) {o:VObj}{O:Obj}(h:ORel ρ n o O):ORel ρ' n' o O:=by
 cases o with
 |map es clock =>obtain⟨entries,h1,h2,h3⟩:=h;exact⟨entries,h1,h2,λk kv hk=>let ⟨e,he,h4,h5,hv⟩:=h3 k kv hk;⟨e,he,h4,h5,hv.mono hn hρ⟩⟩
 |iter m since seen last=>obtain⟨rm,h1,h2⟩:=h;exact⟨rm,h1,h2.mono hn hρ⟩
 |lp env r st pend=>exact⟨h.1,h.2.mono hn hρ⟩
 |siter s pos=>exact h
theorem ORel.q1s {ρ:Plc}{n:Nat}{o:VObj}{C:Array Value}{e:TypeId}{f:Nat×Nat}:¬ ORel ρ n o (.cells C e f):=by
 cases o with
 |map es clock=>rintro⟨_,h,_⟩;cases h
 |iter m since seen last=>rintro⟨_,h,_⟩;cases h
 |lp env r st pend=>rintro⟨h,_⟩;cases h
 |siter s pos=>intro h;cases h
theorem ORel.q0m {ρ:Plc}{n:Nat}{o:VObj}{d:Option (List Deferred)}:¬ ORel ρ n o (.deferred d):=by
 cases o with
 |map es clock=>rintro⟨_,h,_⟩;cases h
 |iter m since seen last=>rintro⟨_,h,_⟩;cases h
 |lp env r st pend=>rintro⟨h,_⟩;cases h
 |siter s pos=>intro h;cases h
theorem BRel.mono {ρ ρ':Plc}{n n':Nat}(hn:n<=n') (hρ:∀ i,i<n->∀ p,ρ' i=some p->ρ i=some p) {p:Pl}{w w':World}(hw:w'.heap[p.blk]?=w.heap[p.blk]?) {b:Blk}(h:BRel ρ n p w b):BRel ρ' n' p w' b:=by
 cases b with
 |cells c esz wr tight =>
  obtain⟨h1,h2,h3,h4,h5,h6⟩:=h;refine⟨h1,h2,h3,by rw[hw];exact h4,λk v hk=>?_,λgG=>⟨(h6 gG).1,λk hk=>?_⟩⟩
  .obtain⟨u,hu,hv⟩:=h5 k v hk;exact⟨u,by grind [World.cell?_of_block],hv.mono hn hρ⟩
  .grind [World.frozen?_of_block]
 |obj o wr =>obtain⟨h0,O,h1,h2⟩:=h;exact⟨h0,O,by rw[hw];exact h1,h2.mono hn hρ⟩
theorem HRel0.world {ρ:Plc}{U:Heap}{w w':World}(h:HRel0 ρ U w) (hs:w.heap.size<=w'.heap.size) (hb:∀ i p,ρ i=some p->w'.heap[p.blk]?=w.heap[p.blk]?):HRel0 ρ U w' where
 live i b hi:=by obtain⟨p,hp,hB⟩:=h.live i b hi;exact⟨p,hp,hB.mono (z4 _) (λ_ _ _ h=>h) (hb i p hp)⟩
 dead:=h.dead
 lt i p hp:=zT (h.lt i p hp) hs
 sep:=h.sep
theorem HRel0.drew {ρ:Plc}{U:Heap}{w:World}(h:HRel0 ρ U w):HRel0 ρ U w.drew:=h.world (z4 _) (λ_ _ _=>rfl)
theorem Ext.drew (ρ:Plc) (U:Heap) (w:World):Ext ρ U w ρ U w.drew :=
 ⟨rfl,rfl,rfl,z4 _,λ_ _ _=>rfl,λ_ _ h=>h,z4 _,λ_ _ _ h=>h⟩
def Plc.put (ρ:Plc) (i:Nat) (p:Option Pl):Plc:=λj=>if j=i then p else ρ j
theorem HRel0.alloc {ρ:Plc}{U:Heap}{w:World}(h:HRel0 ρ U w) (c:List Value) (C:Array Value) (e:TypeId) (esz:El) (tight:Bool) (he:e=esz.ty)
  (hc:LRel ρ U.n c (C.toList.take c.length)) (hl:c.length<=C.size) :
  ∃ ρ',ρ' U.n=some ⟨w.heap.size,0,C.size,esz,tight⟩/\HRel0 ρ' (U.push (.cells c esz true tight)) (w.alloc (.cells C e))/\Ext ρ U w ρ' (U.push (.cells c esz true tight)) (w.alloc (.cells C e)):=by
 have hold:∀ k,k<w.heap.size->(w.alloc (.cells C e)).heap[k]?=w.heap[k]?:=λk hk=>by
  show (w.heap.push _)[k]?=_
  grind
 have aH:(w.alloc (.cells C e)).heap.size=w.heap.size+1:=World.size_alloc w _;have aW:∀ i,i<U.n->∀ p,(ρ.put U.n (some ⟨w.heap.size,0,C.size,esz,tight⟩)) i=some p->ρ i=some p:=λi hi p hp=>by unfold Plc.put at hp;rwa [z0 (by omega)] at hp
 refine⟨ρ.put U.n (some ⟨w.heap.size,0,C.size,esz,tight⟩),by simp[Plc.put],⟨?_,?_,?_,?_⟩,⟨rfl,rfl,rfl,by omega,λB hB _=>hold B hB,?_,by simp,aW⟩⟩
 .intro i b hb;by_cases hi:i=U.n
  .subst hi;rw[Heap.q0a] at hb;obtain rfl:=osj hb;refine⟨⟨w.heap.size,0,C.size,esz,tight⟩,by simp[Plc.put],rfl,rfl,hl,⟨C,e,(0,0),?_,by simp,he⟩,λk v hk=>?_,λ_=>⟨λ_=>rfl,λk _=>?_⟩⟩
   .show (w.heap.push _)[w.heap.size]?=_;simp
   .obtain⟨u,hu,hv⟩:=hc.get hk;have cO:k<c.length:=(zi.1 hk).1;refine⟨u,?_,hv.mono (by simp) aW⟩;rw[zY,World.cell?_alloc_new]
    grind
   simp_all
  .rw[Heap.q0e _ _ hi] at hb;obtain⟨p,hp,hB⟩:=h.live i b hb;exact⟨p,by simp[Plc.put,hi,hp],hB.mono (by simp) aW (hold _ (h.lt i p hp))⟩
 .intro i hi;by_cases aQ:i=U.n
  .grind [Heap.q0a]
  .rw[Heap.q0e _ _ aQ] at hi;simp[Plc.put,aQ,h.dead i hi]
 .intro i p hp;by_cases hi:i=U.n
  .subst hi;simp[Plc.put] at hp;subst hp;simp
  .simp[Plc.put,hi] at hp;have:=h.lt i p hp;omega
 .intro i j p q b cE hp hq hb hw hx;by_cases hi:i=U.n
  .subst hi;simp[Plc.put] at hp;subst hp;simp[Plc.put,Ne.symm cE] at hq;have:=h.lt j q hq;intro e;simp at e;omega
  .simp[Plc.put,hi] at hp;rw[Heap.q0e _ _ hi] at hb;by_cases hj:j=U.n
   .subst hj;simp[Plc.put] at hq;subst hq;have:=h.lt i p hp;intro e;simp at e;omega
   .simp[Plc.put,hj] at hq;exact h.sep i j p q b cE hp hq hb hw hx
 .rintro B hB ⟨i,p,b,hp,hb,hw,rfl⟩;by_cases hi:i=U.n
  .subst hi;simp[Plc.put] at hp;subst hp;simp at hB
  .simp[Plc.put,hi] at hp;rw[Heap.q0e _ _ hi] at hb;exact⟨i,p,b,hp,hb,hw,rfl⟩
theorem HRel0.newObj {ρ:Plc}{U:Heap}{w:World}(h:HRel0 ρ U w) (o:VObj) (O:Obj) (ho:ORel ρ U.n o O) :
  ∃ ρ',ρ' U.n=some ⟨w.heap.size,0,1,default,true⟩/\HRel0 ρ' (U.push (.obj o true)) (w.alloc O)/\Ext ρ U w ρ' (U.push (.obj o true)) (w.alloc O):=by
 have hold:∀ k,k<w.heap.size->(w.alloc O).heap[k]?=w.heap[k]?:=λk hk=>by
  show (w.heap.push _)[k]?=_
  grind
 have aH:(w.alloc O).heap.size=w.heap.size+1:=World.size_alloc w _;have aW:∀ i,i<U.n->∀ p,(ρ.put U.n (some ⟨w.heap.size,0,1,default,true⟩)) i=some p->ρ i=some p:=λi hi p hp=>by unfold Plc.put at hp;rwa [z0 (by omega)] at hp
 refine⟨ρ.put U.n (some ⟨w.heap.size,0,1,default,true⟩),by simp[Plc.put],⟨?_,?_,?_,?_⟩,⟨rfl,rfl,rfl,by omega,λB hB _=>hold B hB,?_,by simp,aW⟩⟩
 .intro i b hb;by_cases hi:i=U.n
  .subst hi;rw[Heap.q0a] at hb;obtain rfl:=osj hb;refine⟨⟨w.heap.size,0,1,default,true⟩,by simp[Plc.put],⟨rfl,rfl⟩,O,?_,ho.mono (by simp) aW⟩;show (w.heap.push _)[w.heap.size]?=_;simp
  .rw[Heap.q0e _ _ hi] at hb;obtain⟨p,hp,hB⟩:=h.live i b hb;exact⟨p,by simp[Plc.put,hi,hp],hB.mono (by simp) aW (hold _ (h.lt i p hp))⟩
 .intro i hi;by_cases aQ:i=U.n
  .grind [Heap.q0a]
  .rw[Heap.q0e _ _ aQ] at hi;simp[Plc.put,aQ,h.dead i hi]
 .intro i p hp;by_cases hi:i=U.n
  .subst hi;simp[Plc.put] at hp;subst hp;simp
  .simp[Plc.put,hi] at hp;have:=h.lt i p hp;omega
 .intro i j p q b cE hp hq hb hw hx;by_cases hi:i=U.n
  .subst hi;simp[Plc.put] at hp;subst hp;simp[Plc.put,Ne.symm cE] at hq;have:=h.lt j q hq;intro e;simp at e;omega
  .simp[Plc.put,hi] at hp;rw[Heap.q0e _ _ hi] at hb;by_cases hj:j=U.n
   .subst hj;simp[Plc.put] at hq;subst hq;have:=h.lt i p hp;intro e;simp at e;omega
   .simp[Plc.put,hj] at hq;exact h.sep i j p q b cE hp hq hb hw hx
 .rintro B hB ⟨i,p,b,hp,hb,hw,rfl⟩;by_cases hi:i=U.n
  .subst hi;simp[Plc.put] at hp;subst hp;simp at hB
  .simp[Plc.put,hi] at hp;rw[Heap.q0e _ _ hi] at hb;exact⟨i,p,b,hp,hb,hw,rfl⟩
def Cg (w:World) (b:Nat) (O:Obj):World:={w with heap:=w.heap.setIfInBounds b O}
theorem Nm (w:World) (b:Nat) (O:Obj) (k:Nat) (h:k≠b):(Cg w b O).heap[k]?=w.heap[k]?:=by simp only[Cg];grind
theorem Q8p (w:World) (b:Nat) (O:Obj) (h:b<w.heap.size):(Cg w b O).heap[b]?=some O:=by simp only[Cg];simp_all
theorem R6 (w:World) (b:Nat) (O:Obj):(Cg w b O).heap.size=w.heap.size:=by simp[Cg]
theorem HRel0.setObj {ρ:Plc}{U:Heap}{w:World}(h:HRel0 ρ U w) {i:Nat}{p:Pl}{o:VObj}(hp:ρ i=some p) (hb:U.get i=some (.obj o true)) {o':VObj}{O':Obj}(ho:ORel ρ U.n o' O') :
  HRel0 ρ (U.upd i (.obj o' true)) (Cg w p.blk O')/\Ext ρ U w ρ (U.upd i (.obj o' true)) (Cg w p.blk O'):=by
 have hi:=U.lt hb;obtain⟨p',bu,h0,O,h1,h2⟩:=h.live i _ hb;obtain rfl:p=p':=osj (hp.symm.trans bu);have ao:=h.lt i p hp;refine⟨⟨λj b hj=>?_,λj hj=>?_,λj q hq=>by rw[R6];exact h.lt j q hq,λj k q r b eo hq hr ck hw hx=>?_⟩,?_⟩
 .by_cases aP:j=i
  .subst aP;rw[Heap.q0d _ _ hi] at hj;obtain rfl:=osj hj;exact⟨p,hp,h0,O',Q8p _ _ _ ao,ho⟩
  .rw[Heap.q0b _ _ aP] at hj;obtain⟨q,hq,fe⟩:=h.live j b hj;refine⟨q,hq,?_⟩;by_cases hk:q.blk=p.blk
   .have hx:q.ext=0:=by
     rcases Nat.eq_zero_or_pos q.ext with h'|h'
     .exact h'
     .exact absurd hk.symm (h.sep i j p q _ (Ne.symm aP) hp hq hb rfl h')
    cases b with
    |cells c esz wr tight =>obtain⟨_,_,_,⟨C,e,f,k1,_⟩,_⟩:=fe;rw[hk,h1] at k1;obtain rfl:=osj k1;exact absurd h2 ORel.q1s
    |obj o2 wr=>have:=fe.1;omega
   .exact fe.mono (z4 _) (λ_ _ _ h=>h) (Nm _ _ _ _ hk)
 .by_cases aP:j=i
  .grind [Heap.q0d]
  .rw[Heap.q0b _ _ aP] at hj;exact h.dead j hj
 .by_cases aP:j=i
  .subst aP;exact h.sep j k q r _ eo hq hr hb rfl hx
  .rw[Heap.q0b _ _ aP] at ck;exact h.sep j k q r b eo hq hr ck hw hx
 .refine⟨rfl,rfl,rfl,by rw[R6];exact z4 _,λB hB hW=>Nm _ _ _ _ (λe=>hW ⟨i,p,_,hp,hb,rfl,e.symm⟩),?_,z4 _,λ_ _ _ h=>h⟩;rintro B _ ⟨j,q,b,hq,bW,hw,rfl⟩;by_cases aP:j=i
  .subst aP;exact⟨j,q,_,hq,hb,rfl,rfl⟩
  .rw[Heap.q0b _ _ aP] at bW;exact⟨j,q,b,hq,bW,hw,rfl⟩
theorem HRel0.q0m {ρ:Plc}{U:Heap}{w:World}(h:HRel0 ρ U w) {D:Nat}{d:Option (List Deferred)}(hD:w.heap[D]?=some (.deferred d)) (i:Nat) (p:Pl) (hp:ρ i=some p):p.blk≠D:=by
 rintro rfl;cases hb:U.get i with
 |none=>rw[h.dead i hb] at hp;cases hp
 |some b =>
  obtain⟨p',bu,hB⟩:=h.live i b hb;obtain rfl:p=p':=osj (hp.symm.trans bu);cases b with
  |cells c esz wr tight =>obtain⟨_,_,_,⟨C,e,f,k1,_⟩,_⟩:=hB;rw[hD] at k1;cases k1
  |obj o wr =>obtain⟨_,O,k1,k2⟩:=hB;rw[hD] at k1;obtain rfl:=osj k1;exact ORel.q0m k2
theorem HRel0.kill {ρ:Plc}{U:Heap}{w:World}(h:HRel0 ρ U w) (i:Nat):HRel0 (ρ.put i none) (U.kill i) w/\Ext ρ U w (ρ.put i none) (U.kill i) w:=by
 have aW:∀ j,∀ p,(ρ.put i none) j=some p->ρ j=some p/\j≠i:=λj p hp=>by unfold Plc.put at hp;split at hp<;>simp_all
 refine⟨⟨λj b hb=>?_,λj hj=>?_,λj p hp=>h.lt j p (aW j p hp).1,λj k p q b eo hp hq hb hw hx=>?_⟩,⟨rfl,rfl,rfl,z4 _,λ_ _ _=>rfl,?_,z4 _,λj _ p hp=>(aW j p hp).1⟩⟩
 .by_cases aP:j=i
  .grind [Heap.q0h]
  .rw[Heap.q0c _ aP] at hb;obtain⟨p,hp,hB⟩:=h.live j b hb;exact⟨p,by simp[Plc.put,aP,hp],hB.mono (z4 _) (λk _ p hp=>(aW k p hp).1) rfl⟩
 .by_cases aP:j=i
  .simp[Plc.put,aP]
  .rw[Heap.q0c _ aP] at hj;simp[Plc.put,aP,h.dead j hj]
 .obtain⟨bu,aP⟩:=aW j p hp;rw[Heap.q0c _ aP] at hb;exact h.sep j k p q b eo bu (aW k q hq).1 hb hw hx
 .rintro B _ ⟨j,p,b,hp,hb,hw,rfl⟩;obtain⟨bu,aP⟩:=aW j p hp;rw[Heap.q0c _ aP] at hb;exact⟨j,p,b,bu,hb,hw,rfl⟩
def GTabs (ρ:Plc) (U:Heap) (w:World):Prop:=∀ g cs,Z2j g=some cs->(∃ e f,w.heap[g]?=some (.cells cs.toArray e f))/\¬ Wr ρ U g
theorem GTabs.lt {ρ:Plc}{U:Heap}{w:World}(h:GTabs ρ U w) {g:Nat}{cs:List Value}(hg:Z2j g=some cs):g<w.heap.size:=by
 obtain⟨⟨e,f,h1⟩,_⟩:=h g cs hg
 grind
theorem GTabs.ext {ρ ρ':Plc}{U U':Heap}{w w':World}(h:GTabs ρ U w) (k:Ext ρ U w ρ' U' w'):GTabs ρ' U' w':=λg cs hg=>by obtain⟨⟨e,f,h1⟩,h2⟩:=h g cs hg;have hl:=h.lt hg;exact⟨⟨e,f,by rw[k.keep g hl h2];exact h1⟩,λhw=>h2 (k.wr g hl hw)⟩
structure HRel (ρ:Plc) (U:Heap) (w:World):Prop where
 core:HRel0 ρ U w
 tab:GTabs ρ U w
section
variable {ρ:Plc}{U:Heap}{w:World}
theorem HRel.ext {ρ':Plc}{U':Heap}{w':World}(h:HRel ρ U w) (h':HRel0 ρ' U' w') (k:Ext ρ U w ρ' U' w'):HRel ρ' U' w':=⟨h',h.tab.ext k⟩
theorem HRel.live (h:HRel ρ U w):∀ i b,U.get i=some b->∃ p,ρ i=some p/\BRel ρ U.n p w b:=h.core.live
theorem HRel.dead (h:HRel ρ U w):∀ i,U.get i=none->ρ i=none:=h.core.dead
theorem HRel.lt (h:HRel ρ U w):∀ i p,ρ i=some p->p.blk<w.heap.size:=h.core.lt
theorem HRel.sep (h:HRel ρ U w):∀ i j p q b,i≠j->ρ i=some p->ρ j=some q->U.get i=some b->b.wr=true->0<q.ext->p.blk≠q.blk:=h.core.sep
theorem HRel.idlt (h:HRel ρ U w) {i:Nat}{p:Pl}(hp:ρ i=some p):i<U.n:=h.core.idlt hp
theorem HRel.world {w':World}(h:HRel ρ U w) (hs:w.heap.size<=w'.heap.size) (hb:∀ i p,ρ i=some p->w'.heap[p.blk]?=w.heap[p.blk]?) (ht:∀ g cs,Z2j g=some cs->w'.heap[g]?=w.heap[g]?):HRel ρ U w' :=
 ⟨h.core.world hs hb,λg cs hg=>by
  obtain⟨⟨e,f,h1⟩,h2⟩:=h.tab g cs hg;simp_all⟩
theorem HRel.drew (h:HRel ρ U w):HRel ρ U w.drew:=⟨h.core.drew,h.tab⟩
theorem HRel.alloc (h:HRel ρ U w) (c:List Value) (C:Array Value) (e:TypeId) (esz:El) (tight:Bool) (he:e=esz.ty)
  (hc:LRel ρ U.n c (C.toList.take c.length)) (hl:c.length<=C.size) :
  ∃ ρ',ρ' U.n=some ⟨w.heap.size,0,C.size,esz,tight⟩/\HRel ρ' (U.push (.cells c esz true tight)) (w.alloc (.cells C e))/\Ext ρ U w ρ' (U.push (.cells c esz true tight)) (w.alloc (.cells C e)) :=
 let ⟨ρ',h1,h2,h3⟩:=h.core.alloc c C e esz tight he hc hl
 ⟨ρ',h1,h.ext h2 h3,h3⟩
theorem HRel.newObj (h:HRel ρ U w) (o:VObj) (O:Obj) (ho:ORel ρ U.n o O) :
  ∃ ρ',ρ' U.n=some ⟨w.heap.size,0,1,default,true⟩/\HRel ρ' (U.push (.obj o true)) (w.alloc O)/\Ext ρ U w ρ' (U.push (.obj o true)) (w.alloc O) :=
 let ⟨ρ',h1,h2,h3⟩:=h.core.newObj o O ho
 ⟨ρ',h1,h.ext h2 h3,h3⟩
theorem HRel.setObj (h:HRel ρ U w) {i:Nat}{p:Pl}{o:VObj}(hp:ρ i=some p) (hb:U.get i=some (.obj o true)) {o':VObj}{O':Obj}(ho:ORel ρ U.n o' O') :
  HRel ρ (U.upd i (.obj o' true)) (Cg w p.blk O')/\Ext ρ U w ρ (U.upd i (.obj o' true)) (Cg w p.blk O') :=
 let ⟨h2,h3⟩:=h.core.setObj hp hb ho
 ⟨h.ext h2 h3,h3⟩
theorem HRel.q0m (h:HRel ρ U w) {D:Nat}{d:Option (List Deferred)}(hD:w.heap[D]?=some (.deferred d)) (i:Nat) (p:Pl) (hp:ρ i=some p):p.blk≠D:=h.core.q0m hD i p hp
theorem HRel.kill (h:HRel ρ U w) (i:Nat):HRel (ρ.put i none) (U.kill i) w/\Ext ρ U w (ρ.put i none) (U.kill i) w :=
 let ⟨h2,h3⟩:=h.core.kill i
 ⟨h.ext h2 h3,h3⟩
end
end Go.V
namespace Go.V
open Go
abbrev Env:=List Value
inductive MK where
 |int (k:IntKind)
 |string
 |bool
 |agg (s:List MK)
 deriving Inhabited
inductive XOp where
 |eqNil (kd:Nat) (neg:Bool) (x y:Operand)
 |makeMap
 |lookup (mk:MK) (zero:Value) (ok:Bool) (x i:Operand)
 |mapUpdate (mk:MK) (m k v:Operand)
 |delete (mk:MK) (m k:Operand)
 |mapEntry (mk:MK) (zero:Value) (m k:Operand)
 |entryStore (m s v:Operand)
 |lenMap (x:Operand)
 |rangeMap (x:Operand)
 |nextMap (x:Operand)
 |entry (x:Operand)
 |copy (size:Nat) (d s:Operand)
 |clear (z:List Value) (x:Operand)
 |toUnsafe (x:Operand)
 |fromUnsafe (u size:Nat) (x:Operand)
 |sliceData (x:Operand)
 |unsafeStr (e:Nat) (x n:Operand)
 |bytesStr (x:Operand)
 |strBytes (e:Nat) (x:Operand)
 |eqAgg (neg:Bool) (s:List MK) (x y:Operand)
 |rangeStr (x:Operand)
 |nextStr (x:Operand)
 deriving Inhabited
inductive VOp where
 |move (x:Operand)
 |pick (c a b:Operand)
 |arith (op:BinOp) (x y:Operand)
 |div (op:BinOp) (x y:Operand)
 |bits (op:BinOp) (x y:Operand)
 |shift (op:BinOp) (x y:Operand)
 |cmp (op:BinOp) (x y:Operand)
 |str (op:BinOp) (x y:Operand)
 |eqB (neg:Bool) (x y:Operand)
 |un (op:UnOp) (x:Operand)
 |convI (k:IntKind) (x:Operand)
 |convS (x:Operand)
 |alloc (t:Nat) (z:List Value)
 |box (t:Nat) (x:Operand)
 |build (z:List Value) (parts:List (Nat×Nat×Operand))
 |buildSlice (esz:El) (z:List Value) (len:Nat) (parts:List (Nat×Operand))
 |load (agg:Bool) (size:Nat) (a:Operand)
 |store (size:Nat) (a v:Operand)
 |fieldAddr (off:Nat) (a:Operand)
 |field (agg:Bool) (off size:Nat) (x:Operand)
 |indexAddr (size:Nat) (x i:Operand)
 |indexAddrArr (len size:Nat) (x i:Operand)
 |indexStr (x i:Operand)
 |indexArr (len:Nat) (agg:Bool) (size:Nat) (x i:Operand)
 |slice (size:Nat) (x:Operand) (lo hi mx:Option Operand)
 |sliceStr (x:Operand) (lo hi:Option Operand)
 |makeSlice (esz:El) (bytes:Nat) (z:List Value) (l c:Operand)
 |len (x:Operand)
 |lenStr (x:Operand)
 |append (esz:El) (bytes:Nat) (s x:Operand)
 |max (x y:Operand)
 |max4 (x y z w:Operand)
 |min (x y:Operand)
 |makeFunc (fn:Fn) (first cap:List Operand)
 |iface (t:TypeId) (x:Operand)
 |extract (x:Operand) (i:Nat)
 |nilCheck (x:Operand)
 |callF (f:FuncId) (args:List Operand)
 |callV (f:Operand) (args:List Operand)
 |ext (o:XOp)
 |bad
 deriving Inhabited
structure VOper where
 dst:Option Nat
 op:VOp
 guard:Option (Nat×Bool)
 deriving Inhabited
structure DOper where
 dst:Option Nat
 op:VOp
 guard:Option (Nat×Bool)
 kind:Nat
 kmin:Nat
 kmax:Nat
 deriving Inhabited
inductive DSeg where
 |one (o:VOper)
 |alts (l:List (List DOper))
 deriving Inhabited
inductive VCode where
 |skip
 |region (ops:List VOper)
 |regionD (aU:List DSeg)
 |rangeF (g:Operand) (ps:List Nat) (a b:VCode)
 |seq (a b:VCode)
 |cond (c:Operand) (a b:VCode)
 |block (id:Nat) (b:VCode)
 |loop (b:VCode)
 |exit (id:Nat)
 |ret
 |bad
 deriving Inhabited
def J8:Value->Bool
 |.bool _|.int _ _|.string _|.pointer none|.slice none 0 0|.map none|.nilFunc|.nilIface=>true
 |_=>false
def MN:Value->Bool
 |.agg cs=>cs.toList.all J8
 |.tuple cs=>cs.toList.all J8
 |v=>J8 v
def K6:Operand->Bool
 |.tmp _=>true
 |.const v=>MN v
 |.global _=>true
 |.func _=>true
def DH:TypeDesc->Bool
 |.struct _|.array _ _=>true
 |_=>false
def zeroOf (P:Program) (t:TypeId):Option (List Value):=do
 let i <-P.info? t;let z <-i.zero;let cs:=z.cells.toList
 if cs.length==i.size&&cs.all J8 then some cs else none
def Sr (P:Program) (t:TypeId) (f:Nat):Option Field :=
 match P.underlying t with
 |some (.struct fs)=>fs[f]?
 |_=>none
def Gf (P:Program) (o:Op):Option VOp :=
 if !(o.operands.toList.all K6) then none else
 match o with
 |.move x|.assign x=>some (.move x)
 |.pick c a b=>some (.pick c a b)
 |.binOp op t x y _ =>
  match P.underlying t with
  |some (.int _) =>
   match op with
   |.add|.sub|.mul=>some (.arith op x y)
   |.quo|.rem=>some (.div op x y)
   |.and|.or|.xor|.andNot=>some (.bits op x y)
   |.shl|.shr=>some (.shift op x y)
   |_=>some (.cmp op x y)
  |some .string=>some (.str op x y)
  |some .bool=>match op with|.eql=>some (.eqB false x y)|.neq=>some (.eqB true x y)|_=>none
  |_=>none
 |.unOp op _ x=>some (.un op x)
 |.convert s d x =>
  match P.underlying s,P.underlying d with
  |some (.int _),some (.int k)=>some (.convI k x)
  |some .string,some .string=>some (.convS x)
  |_,_=>none
 |.alloc t=>do some (.alloc t (<-zeroOf P t))
 |.box t x=>some (.box t x)
 |.build t parts=>do
  let z <-zeroOf P t
  match P.underlying t with
  |some (.struct fs)=>do
   let places <-fs.toList.mapM λf=>(P.info? f.type).map λi=>(f.offset,i.size);let ps <-parts.toList.mapM λq=>(places[q.1]?).map λos=>(os.1,os.2,q.2)
   some (.build z ps)
  |some (.array _ e)=>do
   let ei <-P.info? e
   some (.build z (parts.toList.map λq=>(q.1*ei.size,ei.size,q.2)))
  |_=>none
 |.buildSlice t len parts =>
  match P.underlying t with
  |some (.slice e)=>do
   let z <-zeroOf P e
   if z.length==0||4096<len*z.length then none
   some (.buildSlice ⟨z.length,e⟩ z len parts.toList)
  |_=>none
 |.load t a=>do
  let i <-P.info? t;let d <-P.underlying t
  some (.load (DH d) i.size a)
 |.store t a v=>do
  let i <-P.info? t
  some (.store i.size a v)
 |.fieldAddr t a f=>do
  let fd <-Sr P t f;let fi <-P.info? fd.type
  if fi.size==0 then none
  some (.fieldAddr fd.offset a)
 |.field t x f=>do
  let fd <-Sr P t f;let fi <-P.info? fd.type;let d <-P.underlying fd.type
  some (.field (DH d) fd.offset fi.size x)
 |.indexAddr t x i =>
  match P.underlying t with
  |some (.slice e)=>do let ei <-P.info? e;some (.indexAddr ei.size x i)
  |some (.array n e)=>do let ei <-P.info? e;some (.indexAddrArr n ei.size x i)
  |_=>none
 |.index t x i =>
  match P.underlying t with
  |some .string=>some (.indexStr x i)
  |some (.array n e)=>do let ei <-P.info? e;let d <-P.underlying e;some (.indexArr n (DH d) ei.size x i)
  |_=>none
 |.slice t x lo hi mx =>
  match P.underlying t with
  |some (.slice e)=>do let ei <-P.info? e;some (.slice ei.size x lo hi mx)
  |some .string=>if mx.isNone then some (.sliceStr x lo hi) else none
  |_=>none
 |.makeSlice t l c =>
  match P.underlying t with
  |some (.slice e)=>do
   let ei <-P.info? e;let z <-zeroOf P e
   if z.length==0 then none
   some (.makeSlice ⟨z.length,e⟩ ei.bytes z l c)
  |_=>none
 |.makeFunc fn first cap=>match fn with|.func _=>some (.makeFunc fn first.toList cap.toList)|_=>none
 |.makeInterface t x=>do
  let d <-P.underlying t
  match d with
  |.interface _=>none
  |_=>some (.iface t x)
 |.extract x i=>some (.extract x i)
 |.nilCheck x=>some (.nilCheck x)
 |.call c =>
  match c.callee with
  |.value (.func f)=>some (.callF f c.args.toList)
  |.value f=>some (.callV f c.args.toList)
  |.builtin .len =>
   match c.argTypes[0]?,c.args.toList with
   |some t,[x] =>
    match P.underlying t with
    |some .string=>some (.lenStr x)
    |some (.slice _)=>some (.len x)
    |_=>none
   |_,_=>none
  |.builtin .append =>
   match c.argTypes[0]?,c.argTypes[1]?,c.args.toList with
   |some t,some u,[s,x] =>
    match P.underlying t,P.underlying u with
    |some (.slice e),some (.slice _)=>do
     let ei <-P.info? e;let z <-zeroOf P e
     if z.length==0||ei.bytes==0 then none
     some (.append ⟨z.length,e⟩ ei.bytes s x)
    |_,_=>none
   |_,_,_=>none
  |.builtin .max=>match c.args.toList with|[x,y]=>some (.max x y)|[x,y,z]=>some (.max4 x y z z)|[x,y,z,w]=>some (.max4 x y z w)|_=>none
  |.builtin .min=>match c.args.toList with|[x,y]=>some (.min x y)|_=>none
  |_=>none
 |_=>none
def Q4b (P:Program) (g:TypeId->Option (List MK)):List Field->Nat->Option (List MK)
 |[],_=>some []
 |f::r,off=>if f.name≠"_"/\f.offset=off then (match g f.type with
  |some s=>if P.cellsOf f.type=s.length then (Q4b P g r (off+s.length)).map λq=>s++q else none
  |none=>none) else none
def shp (P:Program):Nat->TypeId->Option (List MK)
 |0,_=>none
 |d+1,t=>match P.underlying t with
  |some .bool=>some [.bool]
  |some (.int q)=>some [.int q]
  |some .string=>some [.string]
  |some (.array n e)=>(match shp P d e with
   |some s=>if P.cellsOf e=s.length then some (List.replicate n s).flatten else none
   |none=>none)
  |some (.struct fs)=>if P.stoodInHeld t=true then none else Q4b P (shp P d) fs.toList 0
  |_=>none
def Z15:MK->Value->Bool
 |.int q,.int q' _=>decide (q'=q)
 |.string,.string _=>true
 |.bool,.bool _=>true
 |_,_=>false
def fits:List MK->List Value->Bool
 |[],[]=>true
 |k::ks,v::vs=>Z15 k v&&fits ks vs
 |_,_=>false
def MV:Value->Value->Bool
 |.int _ a,.int _ b=>a==b
 |.bool a,.bool b=>a==b
 |.string a,.string b=>a.data.toList==b.data.toList
 |_,_=>false
def QP:List Value->List Value->Bool
 |a::l,b::m=>MV a b&&QP l m
 |_,_=>true
def F6 (P:Program) (neg:Bool) (t:TypeId) (x y:Operand):Option XOp :=
 if P.eqGuardType P.depth t=true then none else (shp P 8 t).map λs=>.eqAgg neg s x y
theorem Q7n {P:Program}{neg:Bool}{t:TypeId}{x y:Operand}{o:XOp}(h:F6 P neg t x y=some o):∃ s,o=.eqAgg neg s x y:=by
 unfold F6 at h
 grind [Option.map_eq_some_iff]
def Q0y (P:Program) (t:TypeId):Option MK :=
 match P.underlying t with
 |some (.int k)=>some (.int k)
 |some .string=>some .string
 |some .bool=>some .bool
 |some (.struct _)=>(shp P 8 t).map .agg
 |some (.array _ _)=>(shp P 8 t).map .agg
 |_=>none
def FH (P:Program) (o:Op):Option XOp :=
 if !(o.operands.toList.all K6) then none else
 match o with
 |.binOp op t x y _ =>
  match op,P.underlying t with
  |.eql,some (.pointer e)=>do let i <-P.info? e;if i.size==0 then none else some (.eqNil 0 false x y)
  |.neq,some (.pointer e)=>do let i <-P.info? e;if i.size==0 then none else some (.eqNil 0 true x y)
  |.eql,some (.slice _)=>some (.eqNil 1 false x y)
  |.eql,some (.map _ _)=>some (.eqNil 2 false x y)
  |.eql,some (.func _ _ _)=>some (.eqNil 3 false x y)
  |.neq,some (.slice _)=>some (.eqNil 1 true x y)
  |.neq,some (.map _ _)=>some (.eqNil 2 true x y)
  |.neq,some (.func _ _ _)=>some (.eqNil 3 true x y)
  |.eql,some (.struct _)=>F6 P false t x y
  |.neq,some (.struct _)=>F6 P true t x y
  |.eql,some (.array _ _)=>F6 P false t x y
  |.neq,some (.array _ _)=>F6 P true t x y
  |_,_=>none
 |.makeMap _ none=>some .makeMap
 |.lookup t x i ok =>
  match P.underlying t with
  |some (.map k e)=>do
   let mk <-Q0y P k;let inf <-P.info? e;let z <-inf.zero
   if MN z then some (.lookup mk z ok x i) else none
  |_=>none
 |.mapUpdate t m k v =>
  match P.underlying t with
  |some (.map kt _)=>do some (.mapUpdate (<-Q0y P kt) m k v)
  |_=>none
 |.insert t m k v =>
  match P.underlying t with
  |some (.map kt _)=>do some (.mapUpdate (<-Q0y P kt) m k v)
  |_=>none
 |.mapEntry t m k =>
  match P.underlying t with
  |some (.map kt e)=>do
   let mk <-Q0y P kt;let inf <-P.info? e;let z <-inf.zero
   if MN z then some (.mapEntry mk z m k) else none
  |_=>none
 |.entryStore _ m s v=>some (.entryStore m s v)
 |.range t x =>
  match P.underlying t with
  |some (.map _ _)=>some (.rangeMap x)
  |some .string=>some (.rangeStr x)
  |_=>none
 |.next x false=>some (.nextMap x)
 |.next x true=>some (.nextStr x)
 |.entry x=>some (.entry x)
 |.convert s d x =>
  match P.underlying s,P.underlying d with
  |some (.pointer t),some .unsafePointer=>do let i <-P.info? t;if i.size==0 then none else some (.toUnsafe x)
  |some .unsafePointer,some (.pointer u)=>do let i <-P.info? u;if i.size==0||P.cellsOf u==0 then none else some (.fromUnsafe u (P.cellsOf u) x)
  |some (.slice e),some .string=>match P.underlying e with|some (.int .u8)=>some (.bytesStr x)|_=>none
  |some .string,some (.slice e)=>match P.underlying e with|some (.int .u8)=>some (.strBytes e x)|_=>none
  |_,_=>none
 |.call c =>
  match c.callee with
  |.builtin .len =>
   match c.argTypes[0]?,c.args.toList with
   |some t,[x]=>match P.underlying t with|some (.map _ _)=>some (.lenMap x)|_=>none
   |_,_=>none
  |.builtin .delete =>
   match c.argTypes[0]?,c.args.toList with
   |some t,[m,k]=>match P.underlying t with|some (.map kt _)=>do some (.delete (<-Q0y P kt) m k)|_=>none
   |_,_=>none
  |.builtin .copy =>
   match c.argTypes[0]?,c.args.toList with
   |some t,[d,s]=>match P.underlying t with|some (.slice e)=>do let i <-P.info? e;some (.copy i.size d s)|_=>none
   |_,_=>none
  |.builtin .clear =>
   match c.argTypes[0]?,c.args.toList with
   |some t,[x]=>match P.underlying t with
    |some (.slice e)=>do
     let z <-zeroOf P e
     if z.length==0 then none
     some (.clear z x)
    |_=>none
   |_,_=>none
  |.builtin .unsafeSliceData=>match c.args.toList with|[x]=>some (.sliceData x)|_=>none
  |.builtin .unsafeString =>
   match c.argTypes[0]?,c.args.toList with
   |some t,[x,n]=>match P.underlying t with|some (.pointer e)=>if P.cellsOf e=1 then some (.unsafeStr e x n) else none|_=>none
   |_,_=>none
  |_=>none
 |_=>none
def NG (P:Program) (o:Op):VOp :=
 match Gf P o with
 |some v=>v
 |none=>match FH P o with
  |some x=>.ext x
  |none=>.bad
def WD (P:Program) (ops:Array Oper) (o:Oper):Option VOper:=do
 let v:=NG P o.op
 match o.guard with
 |none=>some ⟨o.dst,v,none⟩
 |some (j,want)=>do
  let oj <-ops[j]?;let d <-oj.dst
  some ⟨o.dst,v,some (d,want)⟩
def XOp.quiet:XOp->Bool
 |.makeMap|.mapUpdate ..|.mapEntry ..|.entryStore ..|.delete ..|.rangeMap _|.nextMap _|.copy ..|.clear ..|.unsafeStr ..|.strBytes ..|.rangeStr _|.nextStr _=>false
 |_=>true
def VOp.quiet:VOp->Bool
 |.ext o=>o.quiet
 |.alloc ..|.box ..|.buildSlice ..|.store ..|.makeSlice ..|.append ..=>false
 |.slice _ _ _ _ (some _)=>false
 |_=>true
def VOp.kind:VOp->Nat
 |.callF ..|.callV ..=>2
 |.load ..=>1
 |.slice _ _ _ _ none=>1
 |.ext (.eqNil ..)|.ext (.lookup ..)|.ext (.lenMap _)|.ext (.entry _)|.ext (.toUnsafe _)|.ext (.fromUnsafe ..)|.ext (.sliceData _)|.ext (.bytesStr _)=>1
 |o=>if o.quiet then 0 else 2
def Z49 (acc:List Nat) (es:List Nat):Nat:=es.foldl (λs e=>s ||| 2 ^ e ||| acc.getD e 0) 0
def J10:List (List Nat)->List Nat->List Nat
 |[],acc=>acc
 |es::r,acc=>J10 r (acc++[Z49 acc es])
def XOp.opds:XOp->List Operand
 |.eqNil _ _ x y=>[x,y]
 |.eqAgg _ _ x y=>[x,y]
 |.makeMap=>[]
 |.lookup _ _ _ x i=>[x,i]
 |.mapUpdate _ m k v=>[m,k,v]
 |.delete _ m k=>[m,k]
 |.mapEntry _ _ m k=>[m,k]
 |.entryStore m s v=>[m,s,v]
 |.rangeStr x|.nextStr x|.lenMap x|.rangeMap x|.nextMap x|.entry x|.toUnsafe x|.fromUnsafe _ _ x|.sliceData x|.bytesStr x=>[x]
 |.copy _ d s=>[d,s]
 |.clear _ x=>[x]
 |.unsafeStr _ x n=>[x,n]
 |.strBytes _ x=>[x]
def VOp.opds:VOp->List Operand
 |.move x|.un _ x|.convI _ x|.convS x|.box _ x|.load _ _ x|.fieldAddr _ x|.field _ _ _ x|.len x|.lenStr x|.iface _ x|.extract x _|.nilCheck x=>[x]
 |.pick c a b=>[c,a,b]
 |.arith _ x y|.div _ x y|.bits _ x y|.shift _ x y|.cmp _ x y|.str _ x y|.eqB _ x y|.store _ x y|.indexAddr _ x y|.indexAddrArr _ _ x y|.indexStr x y|.indexArr _ _ _ x y|.makeSlice _ _ _ x y
 |.append _ _ x y|.max x y|.min x y=>[x,y]
 |.max4 x y z w=>[x,y,z,w]
 |.alloc ..|.bad=>[]
 |.build _ ps=>ps.map λp=>p.2.2
 |.buildSlice _ _ _ ps=>ps.map λp=>p.2
 |.slice _ x a b c=>x::(a.toList++b.toList++c.toList)
 |.sliceStr x a b=>x::(a.toList++b.toList)
 |.makeFunc _ a b=>a++b
 |.callF _ bQ=>bQ
 |.callV f bQ=>f::bQ
 |.ext o=>o.opds
def Q9g (l:List Operand):List Nat:=l.filterMap fun|.tmp t=>some t|_=>none
def L8 (o:Oper):List Nat:=(o.after.toList.filter (Region.binds .any)).map (·.on)
def Mf (v:VOper):List Nat:=v.dst.toList++Q9g v.op.opds++(v.guard.map (·.1)).toList
def Z3l (a b:List Nat×Option Nat):Bool:=(match a.2 with|some d=>b.1.contains d|none=>false)||(match b.2 with|some d=>a.1.contains d|none=>false)
structure DInfo where
 an:List Nat
 ed:List (List Nat)
 nm:List (List Nat×Option Nat)
 ks:List Nat
def MQ (ops:List Oper) (vs:List VOper):DInfo:=⟨J10 (ops.map L8) [],ops.map L8,vs.map λv=>(Mf v,v.dst),vs.map (·.op.kind)⟩
def DInfo.lt (d:DInfo) (i j:Nat):Bool:=(d.an.getD j 0).testBit i
def DInfo.k (d:DInfo) (i:Nat):Nat:=d.ks.getD i 0
def DInfo.rank (d:DInfo):Nat->Nat
 |0=>0
 |i+1=>if d.k i=2 then d.rank i+1 else d.rank i
def DInfo.kmin (d:DInfo) (i:Nat):Nat:=((List.range d.ks.length).filter λl=>d.k l==2&&d.lt l i).length
def DInfo.kmax (d:DInfo) (i:Nat):Nat:=((List.range d.ks.length).filter λl=>d.k l==2&&!(d.lt i l)).length
def DInfo.touch (d:DInfo) (i j:Nat):Bool:=Z3l (d.nm.getD i ([],none)) (d.nm.getD j ([],none))
def DInfo.okE (d:DInfo) (j:Nat):Bool:=(d.ed.getD j []).all λe=>decide (e<j)
def DInfo.okP (d:DInfo) (j:Nat):Bool:=(List.range j).all λi =>
 if d.lt i j then (d.ed.getD j []).any (λe=>e==i||decide (i<e)&&d.lt i e) else !(d.touch i j)&&!(d.k i==2&&d.k j==2)
def DInfo.okK (d:DInfo) (j:Nat):Bool:=!(d.k j==1) ||
 (decide (d.kmin j<=d.rank j/\d.rank j<=d.kmax j)&&(decide (d.kmax j<=d.rank d.ks.length)&&(List.range d.ks.length).all λl=>!(d.k l==2)||(d.lt l j==decide (d.rank l<d.kmin j)&&d.lt j l==decide (d.kmax j<=d.rank l))))
def DInfo.ok (d:DInfo):Bool:=(List.range d.ks.length).all λj=>d.okE j&&(d.okP j&&d.okK j)
def DInfo.opers (d:DInfo):List VOper->Nat->List DOper
 |[],_=>[]
 |v::r,i=>⟨v.dst,v.op,v.guard,v.op.kind,d.kmin i,d.kmax i⟩::d.opers r (i+1)
def DInfo.okB (d:DInfo):Bool:=decide (d.an.length=d.ks.length)&&(List.range d.ks.length).all λj=>d.okE j&&(decide (d.an.getD j 0<2 ^ j) &&
 (List.range j).all λi=>!(d.lt i j)||(d.ed.getD j []).any (λe=>e==i||decide (i<e)&&d.lt i e))
def exts (lt:Nat->Nat->Bool):Nat->List Nat->List (List Nat)
 |_,[]=>[[]]
 |0,_=>[]
 |n+1,l=>l.flatMap λk=>if l.all (λi=>i==k||!(lt i k)) then (exts lt n (l.erase k)).map (k::·) else []
def J2s (ed:List (List Nat)) (ks idx:List Nat):Nat->List Nat->List Nat->List Nat
 |0,acc,_=>acc
 |f+1,acc,kq=>match idx.find? (λi=>!(acc.contains i)&&((ed.getD i []).all (λe=>!(idx.contains e)||acc.contains e)&&(!(ks.getD i 0==2)||kq.head?==some i))) with
  |none=>acc
  |some i=>J2s ed ks idx f (acc++[i]) (if ks.getD i 0==2 then kq.tail else kq)
def Z4l (ed:List (List Nat)) (ks idx:List Nat):Nat->List Nat->List Nat->List Nat
 |0,acc,_=>acc
 |f+1,acc,kq=>match idx.find? (λi=>!(acc.contains i)&&((ed.getD i []).all (λe=>!(idx.contains e)||acc.contains e)&&!(ks.getD i 0==2))) with
  |some i=>Z4l ed ks idx f (acc++[i]) kq
  |none=>match idx.find? (λi=>!(acc.contains i)&&((ed.getD i []).all (λe=>!(idx.contains e)||acc.contains e)&&kq.head?==some i)) with
   |none=>acc
   |some i=>Z4l ed ks idx f (acc++[i]) kq.tail
def Z45:VOp->Bool
 |.callF ..=>true
 |_=>false
def J1b (b:Bool) (ed:List (List Nat)) (ks idx:List Nat) (n:Nat) (q:List Nat):List Nat:=if b then Z4l ed ks idx n [] q else J2s ed ks idx n [] q
def Z5p (d:DInfo) (pm:List Nat) (p:Nat):List Nat :=
 ((d.ed.getD (pm.getD p 0) []).filter pm.contains).map (λe=>pm.idxOf e) ++
  (if d.k (pm.getD p 0)==2 then ((List.range p).filter λq=>d.k (pm.getD q 0)==2).getLast?.toList else [])
def GD (vs:List VOper) (pm:List Nat):List VOper:=pm.map λi=>vs.getD i default
def Q4m (d:DInfo) (vs:List VOper) (pm:List Nat):DInfo :=
 let ed:=(List.range pm.length).map (Z5p d pm)
 ⟨J10 ed [],ed,(GD vs pm).map λv=>(Mf v,v.dst),(GD vs pm).map (·.op.kind)⟩
def J0b (d:DInfo) (vs:List VOper) (idx s pm:List Nat):Bool :=
 idx.all pm.contains&&(pm.all idx.contains&&(decide pm.Nodup&&(decide (pm.filter (λi=>d.k i==2)=s)&&(Q4m d vs pm).ok)))
def J17 (d:DInfo) (vs:List VOper) (s n:Nat):Option DSeg :=
 if n=1 then some (.one (vs.getD s default)) else
 let idx:=List.range' s n;let ss:=exts d.lt n (idx.filter λi=>d.k i==2);let ps:=ss.map λq=>(q,J1b (decide (3<=(idx.filter λi=>Z45 (vs.getD i default).op).length)) d.ed d.ks idx n q)
 if ps.all λsp=>J0b d vs idx sp.1 sp.2 then some (.alts (ps.map λsp=>(Q4m d vs sp.2).opers (GD vs sp.2) 0)) else none
def cutAt (d:DInfo) (t:Nat):Bool:=(List.range' t (d.ks.length-t)).all λp=>(List.range t).all λi=>d.lt i p
def Q9i (d:DInfo) (vs:List VOper):Nat->Nat->Option (List DSeg)
 |0,s=>if s=d.ks.length then some [] else none
 |f+1,s=>if s=d.ks.length then some [] else
  match (List.range' (s+1) (d.ks.length-s)).find? (cutAt d) with
  |none=>none
  |some t=>match J17 d vs s (t-s),Q9i d vs f t with
   |some x,some r=>some (x::r)
   |_,_=>none
def Z4s (d:DInfo) (vs:List VOper):Option (List DSeg):=if d.okB then Q9i d vs d.ks.length 0 else none
def Tx (d:DInfo) (vs:List VOper):Bool :=
 d.okB&&(vs.all (λv=>!(v.op.kind==2))&&J0b d vs (List.range' 0 d.ks.length) [] (List.range' 0 d.ks.length))
def comp (P:Program):Code->Option VCode
 |.skip=>some .skip
 |.region _ ops false=>do some (.region (<-ops.toList.mapM (WD P ops)))
 |.region _ ops true=>do
  let l <-ops.toList.mapM (WD P ops)
  if Tx (MQ ops.toList l) l then some (.region l) else
  match Z4s (MQ ops.toList l) l with
  |some aU=>some (.regionD aU)
  |none=>some .bad
 |.seq a b=>do some (.seq (<-comp P a) (<-comp P b))
 |.cond c a b=>do if K6 c then some (.cond c (<-comp P a) (<-comp P b)) else some .bad
 |.block id b=>do some (.block id (<-comp P b))
 |.loop b=>do some (.loop (<-comp P b))
 |.rangeFunc g ps a b=>do if K6 g then some (.rangeF g ps.toList (<-comp P a) (<-comp P b)) else some .bad
 |.exit id=>some (.exit id)
 |.ret=>some .ret
 |_=>some .bad
def Q5 (env:Env):Operand->Value
 |.tmp t=>env.getD t undef
 |.const v=>v
 |.global g=>.pointer (some ⟨g,0,some 0⟩)
 |.func f=>.func (.func f) #[] #[]
def Iu:BinOp->IntKind->Int->Int->Int
 |.add,k,a,b=>k.wrap (a+b)
 |.sub,k,a,b=>k.wrap (a-b)
 |_,k,a,b=>k.wrap (a*b)
def Z60:BinOp->IntKind->Int->Int->Int
 |.quo,k,a,b=>k.wrap (a.tdiv b)
 |_,_,a,b=>a.tmod b
def Qa (op:BinOp) (k:IntKind) (x y:Int):Int :=
 let a:=BitVec.ofInt k.bits x;let b:=BitVec.ofInt k.bits y
 match op with
 |.and=>k.wrap (a &&& b).toNat
 |.or=>k.wrap (a ||| b).toNat
 |.xor=>k.wrap (a ^^^ b).toNat
 |_=>k.wrap (a &&& ~~~b).toNat
def Iv:BinOp->IntKind->Int->Int->Int
 |.shl,k,x,y=>k.wrap (x*2 ^ (Nat.min y.toNat k.bits))
 |_,k,x,y=>x.fdiv (2 ^ (Nat.min y.toNat k.bits))
def J06:BinOp->Int->Int->Bool
 |.eql,a,b=>a==b
 |.neq,a,b=>a != b
 |.lss,a,b=>decide (a<b)
 |.leq,a,b=>decide (a<=b)
 |.gtr,a,b=>decide (a > b)
 |_,a,b=>decide (a>=b)
def cellOk:Value->Bool
 |.agg _|.tuple _|.chan _=>false
 |_=>true
def M8:Value->Option (List Value)
 |.agg cs=>some cs.toList
 |.chan _|.tuple _=>none
 |v=>some [v]
def Nh (c:List Value) (o:Nat):List Value->List Value
 |[]=>c
 |v::vs=>Nh (c.set o v) (o+1) vs
def BB (c:List Value):List (Nat×Nat×Value)->Option (List Value)
 |[]=>some c
 |(o,s,v)::rest =>
  match M8 v with
  |some vs=>if vs.length=s/\o+s<=c.length then BB (Nh c o vs) rest else none
  |none=>none
def Ct (n:Nat):List Value->List Value
 |[x]=>List.replicate n x
 |z=>(List.replicate n z).flatten
def Vq (agg:Bool) (size:Nat) (c:List Value) (o:Nat):Option Value :=
 if agg then (if o+size<=c.length then some (.agg ((c.drop o).take size).toArray) else none) else c[o]?
def Heap.sl (U:Heap) (esz:Nat):Value->Option (List Value)
 |.slice none 0 0=>some []
 |.slice (some ⟨i,o,none⟩) n _ =>
  match U.get i with
  |some (.cells c e _ _)=>if e.sz=esz/\o+n*esz<=c.length then some ((c.drop o).take (n*esz)) else none
  |_=>none
 |_=>none
def UE (esz:El) (bytes:Nat) (U:Heap) (s:Value) (m:Nat) (xs:List Value):Option (Value×Heap) :=
 match s with
 |.slice none 0 0 =>
  if m=0 then some (s,U) else
  if m*bytes<=2 ^ 46 then some (.slice (some ⟨U.n,0,none⟩) m m,U.push (.cells xs esz true false)) else none
 |.slice (some ⟨i,o,none⟩) n cap =>
  match U.get i with
  |some (.cells c e wr tight) =>
   if e=esz/\n<=cap/\o+n*esz.sz<=c.length then
    if m=0 then some (s,U) else
    if n+m<=cap then
     (if wr=true/\o+(n+m)*esz.sz<=c.length then some (.slice (some ⟨i,o,none⟩) (n+m) cap,U.upd i (.cells (Nh c (o+n*esz.sz) xs) e wr tight)) else none)
    else if (n+m)*bytes<=2 ^ 46 then
     (if tight then some (.slice (some ⟨U.n,0,none⟩) (n+m) (n+m),U.push (.cells ((c.drop o).take (n*esz.sz)++xs) esz true false))
     else if wr then some (.slice (some ⟨U.n,0,none⟩) (n+m) (n+m),(U.kill i).push (.cells ((c.drop o).take (n*esz.sz)++xs) esz true false))
     else none)
    else none
   else none
  |_=>none
 |.slice (some ⟨i,o,some 0⟩) n cap =>
  match U.get i with
  |some (.cells c e _ _) =>
   if e=esz/\n=cap/\o+n*esz.sz<=c.length/\m≠0/\(n+m)*bytes<=2 ^ 46 then
    some (.slice (some ⟨U.n,0,none⟩) (n+m) (n+m),U.push (.cells ((c.drop o).take (n*esz.sz)++xs) esz true false))
   else none
  |_=>none
 |_=>none
def Wt (ev:Operand->Value):Option Operand->Nat->Option Nat
 |none,d=>some d
 |some x,_=>match ev x with
  |.int _ i=>if 0<=i then some i.toNat else none
  |_=>none
def VC (size:Nat) (U:Heap) (s:Value) (l h:Nat) (m:Option Nat):Option (Value×Heap) :=
 match s with
 |.slice none 0 0=>if l=0/\h=0/\(m.getD 0)=0 then some (.slice none 0 0,U) else none
 |.slice (some ⟨i,o,none⟩) _ cap =>
  match U.get i with
  |some (.cells _ e _ t) =>
   match m with
   |none=>if e.sz=size/\l<=h/\h<=cap then some (.slice (some ⟨i,o+l*size,none⟩) (h-l) (cap-l),U) else none
   |some m =>
    if e.sz=size/\l<=h/\h<=m/\m<=cap then
     if m=l then some (.slice (some ⟨U.n,0,none⟩) 0 0,U.push (.cells [] e false true))
     else if t=false/\h=m then some (.slice (some ⟨i,o+l*size,some 0⟩) (h-l) (m-l),U)
     else some (.slice (some ⟨i,o+l*size,none⟩) (h-l) (m-l),U)
    else none
  |_=>none
 |_=>none
def Xv:MK->Value->Bool
 |.int k,.int k' _=>decide (k=k')
 |.string,.string _|.bool,.bool _=>true
 |.agg s,.agg cs=>fits s cs.toList
 |_,_=>false
def Uj:Value->Value->Bool
 |.agg a,.agg b=>QP a.toList b.toList
 |.int _ a,.int _ b=>a==b
 |.string a,.string b=>a.data.toList==b.data.toList
 |.bool a,.bool b=>a==b
 |_,_=>false
abbrev Yx:=Value×Value×Nat
def Zp (k:Value):List Yx->Option Yx
 |[]=>none
 |e::es=>if Uj k e.1 then some e else Zp k es
def J7 (k v:Value) (clock:Nat):List Yx->List Yx×Nat
 |[]=>([(k,v,clock)],clock+1)
 |e::es=>if Uj k e.1 then ((k,v,e.2.2)::es,clock) else (e::(J7 k v clock es).1,(J7 k v clock es).2)
def Lb (k:Value):List Yx->List Yx
 |[]=>[]
 |e::es=>if Uj k e.1 then es else e::Lb k es
def Heap.mapAt (U:Heap) (m:Nat):Option (List Yx×Nat×Bool):=match U.get m with
 |some (.obj (.map es clock) wr)=>some (es,clock,wr)
 |_=>none
def Q4w:Value->Option UInt8
 |.int .u8 n=>some n.toNat.toUInt8
 |_=>none
def La (l:List Value):Option ByteArray:=(l.mapM Q4w).map λbs=>⟨bs.toArray⟩
def WJ:Nat->Value->Value->Heap->Option Bool
 |0,.pointer none,.pointer none,_=>some true
 |0,.pointer none,.pointer (some _),_=>some false
 |0,.pointer (some _),.pointer none,_=>some false
 |0,.pointer (some ⟨i,o,none⟩),.pointer (some ⟨j,q,none⟩),U=>if i=j/\o=q/\(U.get i).isSome=true then some true else none
 |1,.slice none _ _,.slice none _ _,_=>some true
 |1,.slice none _ _,.slice (some _) _ _,_=>some false
 |1,.slice (some _) _ _,.slice none _ _,_=>some false
 |2,.map none,.map none,_=>some true
 |2,.map none,.map (some _),_=>some false
 |2,.map (some _),.map none,_=>some false
 |3,.nilFunc,.nilFunc,_=>some true
 |3,.nilFunc,.func _ _ _,_=>some false
 |3,.func _ _ _,.nilFunc,_=>some false
 |_,_,_,_=>none
def JA (o:XOp) (ev:Operand->Value) (U:Heap):Option (Value×Heap) :=
 match o with
 |.eqNil kd neg x y=>match WJ kd (ev x) (ev y) U with|some b=>some (.bool (if neg then !b else b),U)|none=>none
 |.eqAgg neg s x y=>match ev x,ev y with
  |.agg a,.agg b=>if fits s a.toList=true/\fits s b.toList=true then some (.bool (if neg then !(QP a.toList b.toList) else QP a.toList b.toList),U) else none
  |_,_=>none
 |.makeMap=>some (.map (some U.n),U.push (.obj (.map [] 0) true))
 |.lookup mk z ok x i =>
  let k:=ev i
  if Xv mk k then
   match ev x with
   |.map none=>some (if ok then .tuple #[z,.bool false] else z,U)
   |.map (some m)=>match U.mapAt m with
    |some (es,_,_)=>if es.all (λe=>Xv mk e.1) then
      (match Zp k es with
      |some e=>some (if ok then .tuple #[e.2.1,.bool true] else e.2.1,U)
      |none=>some (if ok then .tuple #[z,.bool false] else z,U)) else none
    |none=>none
   |_=>none
  else none
 |.mapUpdate mk m k v=>match ev m with
  |.map (some i)=>match U.mapAt i with
   |some (es,clock,true)=>if Xv mk (ev k)&&es.all (λe=>Xv mk e.1) then some (undef,U.upd i (.obj (.map (J7 (ev k) (ev v) clock es).1 (J7 (ev k) (ev v) clock es).2) true)) else none
   |_=>none
  |_=>none
 |.delete mk m k=>match ev m with
  |.map (some i)=>match U.mapAt i with
   |some (es,clock,true)=>if Xv mk (ev k)&&es.all (λe=>Xv mk e.1) then some (.tuple #[],U.upd i (.obj (.map (Lb (ev k) es) clock) true)) else none
   |_=>none
  |_=>none
 |.mapEntry mk z m k=>match ev m with
  |.map (some i)=>match U.mapAt i with
   |some (es,clock,true)=>if Xv mk (ev k)&&es.all (λe=>Xv mk e.1) then
     (match Zp (ev k) es with
     |some e=>some (.tuple #[e.2.1,.int .i64 e.2.2],U.upd i (.obj (.map (J7 (ev k) e.2.1 clock es).1 (J7 (ev k) e.2.1 clock es).2) true))
     |none=>some (.tuple #[z,.int .i64 clock],U.upd i (.obj (.map (J7 (ev k) z clock es).1 (J7 (ev k) z clock es).2) true))) else none
   |_=>none
  |_=>none
 |.entryStore m s v=>match ev m,ev s with
  |.map (some i),.int .i64 n=>match U.mapAt i with
   |some (es,clock,true)=>(match es.findIdx? (λe=>(e.2.2:Int)==n) with
    |some j=>(match es[j]? with
     |some e=>some (undef,U.upd i (.obj (.map (es.set j (e.1,ev v,e.2.2)) clock) true))
     |none=>none)
    |none=>none)
   |_=>none
  |_,_=>none
 |.lenMap x=>match ev x with
  |.map none=>some (.int .i64 0,U)
  |.map (some m)=>match U.mapAt m with
   |some (es,_,_)=>some (.int .i64 es.length,U)
   |none=>none
  |_=>none
 |.rangeMap x=>match ev x with
  |.map (some m)=>match U.mapAt m with
   |some (_,clock,_)=>some (.pointer (some ⟨U.n,0,none⟩),U.push (.obj (.iter m clock [] clock) true))
   |none=>none
  |_=>none
 |.nextMap _=>none
 |.rangeStr x=>match ev x with
  |.string s=>some (.pointer (some ⟨U.n,0,none⟩),U.push (.obj (.siter s 0) true))
  |_=>none
 |.nextStr x=>match ev x with
  |.pointer (some ⟨i,0,none⟩)=>match U.get i with
   |some (.obj (.siter s pos) true)=>match s.data.toList[pos]? with
    |some b=>if b.toNat<128 then some (.tuple #[.bool true,.int .i64 pos,.int .i32 b.toNat],U.upd i (.obj (.siter s (pos+1)) true)) else none
    |none=>some (.tuple #[.bool false],U)
   |_=>none
  |_=>none
 |.entry x=>match ev x with
  |.pointer (some ⟨i,0,none⟩)=>match U.get i with
   |some (.obj (.iter m _ seen last) _)=>match U.mapAt m,seen.getLast? with
    |some (es,clock,_),some b=>if clock=last then (match es.find? (λe=>e.2.2==b) with|some e=>if MN e.1 then some (.tuple #[e.1,e.2.1],U) else none|none=>none) else none
    |_,_=>none
   |_=>none
  |_=>none
 |.copy size d s=>match ev d,ev s with
  |.slice db dn _,.slice sb sn sc =>
   if min sn dn=0 then some (.int .i64 0,U) else
   match db,U.sl size (.slice sb (min sn dn) sc) with
   |some ⟨i,o,none⟩,some xs=>match U.get i with
    |some (.cells c e wr tight)=>if wr=true/\e.sz=size/\o+xs.length<=c.length/\xs.all cellOk=true then some (.int .i64 (min sn dn:Nat),U.upd i (.cells (Nh c o xs) e wr tight)) else none
    |_=>none
   |_,_=>none
  |_,_=>none
 |.clear z x=>match ev x with
  |.slice b n _ =>
   if n=0 then some (.tuple #[],U) else
   match b with
   |some ⟨i,o,none⟩=>match U.get i with
    |some (.cells c e wr tight)=>if wr=true/\o+n*z.length<=c.length/\z.all cellOk=true then some (.tuple #[],U.upd i (.cells (Nh c o (Ct n z)) e wr tight)) else none
    |_=>none
   |_=>none
  |_=>none
 |.toUnsafe x=>match ev x with
  |.pointer none=>some (.pointer none,U)
  |.pointer (some ⟨i,o,none⟩)=>match U.get i with
   |some (.cells c _ _ _)=>if o<c.length then some (.pointer (some ⟨i,o,none⟩),U) else none
   |_=>none
  |_=>none
 |.fromUnsafe u size x=>match ev x with
  |.pointer none=>some (.pointer none,U)
  |.pointer (some ⟨i,o,none⟩)=>match U.get i with
   |some (.cells c e true true)=>if o=0/\e.ty=u/\size<=c.length then some (.pointer (some ⟨i,o,none⟩),U) else none
   |_=>none
  |_=>none
 |.sliceData x=>match ev x with
  |.slice none _ _=>some (.pointer none,U)
  |.slice (some ⟨i,o,none⟩) _ cap=>if cap≠0/\(U.get i).isSome=true then some (.pointer (some ⟨i,o,none⟩),U) else none
  |_=>none
 |.unsafeStr e x n=>match ev x,ev n with
  |.pointer p,.int .i64 k =>
   if k=0 then some (.string ⟨#[]⟩,U) else
   match p with
   |some ⟨i,o,none⟩=>match U.get i with
    |some (.cells c el true tight) =>
     if 0<k/\k<=2 ^ 62/\el.ty=e/\o+k.toNat<=c.length then
      (match La ((c.drop o).take k.toNat) with
      |some s=>some (.string s,U.upd i (.cells c el false tight))
      |none=>none) else none
    |_=>none
   |_=>none
  |_,_=>none
 |.strBytes e x=>match ev x with
  |.string s=>if s.size<=2 ^ 62 then some (.slice (some ⟨U.n,0,none⟩) s.size s.size,U.push (.cells (s.data.toList.map λb=>.int .u8 b.toNat) ⟨1,e⟩ true false)) else none
  |_=>none
 |.bytesStr x=>match ev x with
  |.slice a n c=>match U.sl 1 (.slice a n c) with
   |some xs=>match La xs with|some s=>some (.string s,U)|none=>none
   |none=>none
  |_=>none
def Q8n (a b:Int):Int:=if b > a then b else a
theorem Q9h (a b:Int):Q8n (Q8n a b) b=Q8n a b:=by unfold Q8n;(repeat' split)<;>omega
def Qb (o:VOp) (ev:Operand->Value) (U:Heap):Option (Value×Heap) :=
 match o with
 |.move x=>some (ev x,U)
 |.pick c a b=>match ev c with|.bool t=>some (if t then ev a else ev b,U)|_=>none
 |.arith op x y=>match ev x,ev y with|.int k a,.int k' b=>if k=k' then some (.int k (Iu op k a b),U) else none|_,_=>none
 |.div op x y=>match ev x,ev y with|.int k a,.int k' b=>if k=k'/\b≠0 then some (.int k (Z60 op k a b),U) else none|_,_=>none
 |.bits op x y=>match ev x,ev y with|.int k a,.int k' b=>if k=k' then some (.int k (Qa op k a b),U) else none|_,_=>none
 |.shift op x y=>match ev x,ev y with|.int k a,.int _ b=>if 0<=b then some (.int k (Iv op k a b),U) else none|_,_=>none
 |.cmp op x y=>match ev x,ev y with|.int k a,.int k' b=>if k=k' then some (.bool (J06 op a b),U) else none|_,_=>none
 |.str op x y=>match ev x,ev y with
  |.string a,.string b=>match op with
   |.add=>if a.size+b.size<=2 ^ 62 then some (.string (a++b),U) else none
   |.eql=>some (.bool (a.data.toList==b.data.toList),U)
   |.neq=>some (.bool (!(a.data.toList==b.data.toList)),U)
   |.lss=>some (.bool (Op.bytesLess a.data.toList b.data.toList),U)
   |_=>none
  |_,_=>none
 |.eqB neg x y=>match ev x,ev y with|.bool a,.bool b=>some (.bool (if neg then !(a==b) else (a==b)),U)|_,_=>none
 |.un op x=>match op,ev x with
  |.not,.bool b=>some (.bool (!b),U)
  |.neg,.int k n=>some (.int k (k.wrap (0-n)),U)
  |.xor,.int k n=>some (.int k (Qa .xor k (if k.signed then -1 else k.max) n),U)
  |_,_=>none
 |.convI k x=>match ev x with|.int _ n=>some (.int k (k.wrap n),U)|_=>none
 |.convS x=>match ev x with|.string s=>some (.string s,U)|_=>none
 |.alloc t z=>some (.pointer (some ⟨U.n,0,none⟩),U.push (.cells z ⟨z.length,t⟩ true true))
 |.box t x=>match M8 (ev x) with
  |some vs=>some (.pointer (some ⟨U.n,0,none⟩),U.push (.cells vs ⟨vs.length,t⟩ true true))
  |none=>none
 |.build z parts=>match BB z (parts.map λp=>(p.1,p.2.1,ev p.2.2)) with|some cs=>some (.agg cs.toArray,U)|none=>none
 |.buildSlice esz z len parts=>match BB (Ct len z) (parts.map λp=>(p.1*esz.sz,esz.sz,ev p.2)) with
  |some cs=>some (.slice (some ⟨U.n,0,none⟩) len len,U.push (.cells cs esz true true))
  |none=>none
 |.load agg size a=>match ev a with
  |.pointer (some ⟨g,o,some _⟩)=>(match Z2j g with
   |some c=>if c.all J8 then (match Vq agg size c o with|some v=>some (v,U)|none=>none) else none
   |none=>none)
  |.pointer (some ⟨i,o,none⟩)=>match U.get i with
   |some (.cells c _ _ _)=>match Vq agg size c o with|some v=>some (v,U)|none=>none
   |_=>none
  |_=>none
 |.store size a v=>match ev a,M8 (ev v) with
  |.pointer (some ⟨i,o,none⟩),some vs=>match U.get i with
   |some (.cells c e wr tight)=>if wr=true/\vs.length=size/\o+size<=c.length/\vs.all cellOk=true then some (undef,U.upd i (.cells (Nh c o vs) e wr tight)) else none
   |_=>none
  |_,_=>none
 |.fieldAddr off a=>match ev a with
  |.pointer (some ⟨i,o,none⟩)=>some (.pointer (some ⟨i,o+off,none⟩),U)
  |_=>none
 |.field agg off size x=>match ev x with
  |.agg cs=>match Vq agg size cs.toList off with|some v=>some (v,U)|none=>none
  |_=>none
 |.indexAddr size x i=>match ev x,ev i with
  |.slice (some ⟨b,o,none⟩) n _,.int _ k=>if 0<=k/\k<n then some (.pointer (some ⟨b,o+k.toNat*size,none⟩),U) else none
  |_,_=>none
 |.indexAddrArr len size x i=>match ev x,ev i with
  |.pointer (some ⟨g,o,some s⟩),.int _ k=>if 0<=k/\k<len then some (.pointer (some ⟨g,o+k.toNat*size,some s⟩),U) else none
  |.pointer (some ⟨b,o,none⟩),.int _ k=>if 0<=k/\k<len then some (.pointer (some ⟨b,o+k.toNat*size,none⟩),U) else none
  |_,_=>none
 |.indexStr x i=>match ev x,ev i with
  |.string s,.int _ k=>if 0<=k then (match s.data.toList[k.toNat]? with|some b=>some (.int .u8 b.toNat,U)|none=>none) else none
  |_,_=>none
 |.indexArr len agg size x i=>match ev x,ev i with
  |.agg cs,.int _ k=>if 0<=k/\k<len then (match Vq agg size cs.toList (k.toNat*size) with|some v=>some (v,U)|none=>none) else none
  |_,_=>none
 |.slice size x lo hi mx =>
  match ev x with
  |.slice a n cap =>
   match Wt ev lo 0,Wt ev hi n,mx with
   |some l,some h,none=>VC size U (.slice a n cap) l h none
   |some l,some h,some _=>match Wt ev mx 0,hi with
    |some m,some _=>VC size U (.slice a n cap) l h (some m)
    |_,_=>none
   |_,_,_=>none
  |_=>none
 |.sliceStr x lo hi =>
  match ev x with
  |.string s =>
   match Wt ev lo 0,Wt ev hi s.size with
   |some l,some h=>if l<=h/\h<=s.size then some (.string (s.extract l h),U) else none
   |_,_=>none
  |_=>none
 |.makeSlice esz bytes z l c =>
  match ev l,ev c with
  |.int _ a,.int _ b=>if 0<=a/\a<=b/\b*bytes<=2 ^ 46/\b<=2 ^ 46 then some (.slice (some ⟨U.n,0,none⟩) a.toNat b.toNat,U.push (.cells (Ct b.toNat z) esz true true)) else none
  |_,_=>none
 |.len x=>match ev x with
  |.slice _ n _=>some (.int .i64 n,U)
  |_=>none
 |.lenStr x=>match ev x with
  |.string s=>some (.int .i64 s.size,U)
  |_=>none
 |.append esz bytes s x =>
  match U.sl esz.sz (ev x),ev x with
  |some xs,.slice _ m _=>if xs.all cellOk then UE esz bytes U (ev s) m xs else none
  |_,_=>none
 |.max4 x y z w=>match ev x,ev y,ev z,ev w with|.int k a,.int k2 b,.int k3 c,.int k4 d=>if k=k2/\k=k3/\k=k4 then some (.int k (Q8n (Q8n (Q8n a b) c) d),U) else none|_,_,_,_=>none
 |.max x y=>match ev x,ev y with|.int k a,.int k' b=>if k=k' then some (.int k (if b > a then b else a),U) else none|_,_=>none
 |.min x y=>match ev x,ev y with|.int k a,.int k' b=>if k=k' then some (.int k (if b<a then b else a),U) else none|_,_=>none
 |.makeFunc fn first cap=>some (.func fn (first.map ev).toArray (cap.map ev).toArray,U)
 |.iface t x=>match ev x with|.chan _=>none|v=>some (.iface t v,U)
 |.extract x i=>match ev x with
  |.tuple vs=>match vs.toList[i]? with|some v=>some (v,U)|none=>none
  |_=>none
 |.nilCheck x=>match ev x with
  |.pointer (some a)=>some (.pointer (some a),U)
  |.func (.func f) first cap=>some (.func (.func f) first cap,U)
  |_=>none
 |.ext o=>JA o ev U
 |.callF ..|.callV ..|.bad=>none
def Jk {α:Type}(o:Option α) (f:α->Prop):Prop:=match o with|some a=>f a|none=>False
def vif (b:Bool) (A B:Prop):Prop:=(b=true->A)/\(b=false->B)
def Z0e (v:Value) (A B:Prop):Prop:=match v with|.bool t=>vif t A B|_=>False
abbrev Ij:=List Value->Heap->(Value->Heap->Prop)->Prop
structure VSpecs where
 fn:FuncId->Option Ij
 yl:Nat->Option Ij
 it:FuncId->Option (Nat->Ij->Ij)
def vcall (S:VSpecs) (f:FuncId) (args:List Value) (U:Heap) (K:Value->Heap->Prop):Prop :=
 match S.fn f with
 |some s=>s args U K
 |none=>False
def Q5d (S:VSpecs) (i:Nat) (args:List Value) (U:Heap) (K:Value->Heap->Prop):Prop :=
 match S.yl i with
 |some s=>s args U K
 |none=>False
def Q3p (x:Value) (U:Heap) (K:Value->Heap->Prop):Prop :=
 match x with
 |.pointer (some ⟨i,0,none⟩)=>match U.get i with
  |some (.obj (.iter m since seen last) true)=>match U.mapAt m with
   |some (es,clock,_)=>(seen.isEmpty||es.isEmpty||es.any (λe=>decide (e.2.2<last)))=true/\es.all (λe=>MN e.1)=true /\
     (es.all (λe=>seen.contains e.2.2||decide (since<=e.2.2))=true->K (.tuple #[.bool false]) U) /\
     ∀ e∈es,seen.contains e.2.2=false->K (.tuple #[.bool true,e.1,e.2.1]) (U.upd i (.obj (.iter m since (seen++[e.2.2]) clock) true))
   |none=>False
  |_=>False
 |_=>False
def YR (env:Env) (d:Option Nat) (v:Value):Env :=
 match d with
 |some d=>env.set d v
 |none=>env
def vop (S:VSpecs) (o:VOp) (env:Env) (U:Heap) (K:Value->Heap->Prop):Prop :=
 match o with
 |.callF f args=>vcall S f (args.map (Q5 env)) U K
 |.callV f args=>match Q5 env f with
  |.func (.func g) first cap=>vcall S g (first.toList++args.map (Q5 env)++cap.toList) U K
  |.func (.yield i) _ _=>Q5d S i (args.map (Q5 env)) U K
  |_=>False
 |.ext (.nextMap x)=>Q3p (Q5 env x) U K
 |o=>Jk (Qb o (Q5 env) U) λp=>K p.1 p.2
def Wz (env:Env):Option (Nat×Bool)->Option Bool
 |none=>some true
 |some (d,want)=>match env.getD d undef with
  |.bool b=>some (b==want)
  |.tuple _=>some false
  |_=>none
def FP (S:VSpecs):List VOper->Env->Heap->(Env->Heap->Prop)->Prop
 |[],env,U,K=>K env U
 |o::rest,env,U,K=>Jk (Wz env o.guard) λb =>
   vif b (vop S o.op env U λv U'=>FP S rest (YR env o.dst v) U' K) (FP S rest (YR env o.dst undef) U K)
def Q6r:Value->Bool
 |.bool _|.int _ _|.string _|.pointer none|.slice none 0 0|.map none|.nilFunc|.nilIface=>true
 |.tuple vs=>vs.toList.all J8
 |_=>false
def Heap.Le (U U':Heap):Prop:=U.n<=U'.n/\∀ i b,U.get i=some b->U'.get i=some b
def TZ (A:(Value->Heap->Prop)->Prop) (R:Value->Heap->Prop):Prop:=∃ v U',A (λv' aN=>v'=v/\aN=U')/\R v U'
def YK (op:VOp) (ev:Operand->Value) (v:Value) (τ:Heap):Prop:=Jk (Qb op ev τ) λq=>q.1=v
def YT (r:Nat) (U:Heap):List (Nat×(Heap->Prop))->Prop
 |[]=>True
 |c::l=>(r<=c.1->c.2 U)/\YT r U l
def waits:List Nat->List DOper->Bool
 |_,[]=>true
 |xs,o::r=>((o.kind==2)||(Q9g o.op.opds++(o.guard.map (·.1)).toList).any (λx=>xs.contains x))&&waits (o.dst.toList++xs) r
def XD (S:VSpecs):List DOper->Env->List Heap->Heap->List (Nat×(Heap->Prop))->(Env->Heap->Prop)->Prop
 |[],env,_,U,_,K=>K env U
 |o::rest,env,hs,U,pend,K=>Jk (Wz env o.guard) λb =>
   vif b (if o.kind=2 then (TZ (λR=>vop S o.op env U R) λv U'=>YT hs.length U' pend/\XD S rest (YR env o.dst v) (hs++[U']) U' pend K) \/
      (waits o.dst.toList rest=true/\vop S o.op env U λv U'=>YT hs.length U' pend/\XD S rest (YR env o.dst v) (hs++[U']) U' pend K)
     else if o.kind=1 then Jk (Qb o.op (Q5 env) U) λp=>(∀ τ∈hs.drop o.kmin,YK o.op (Q5 env) p.1 τ) /\
      XD S rest (YR env o.dst p.1) hs U (if hs.length<=o.kmax then (o.kmax,YK o.op (Q5 env) p.1)::pend else pend) K
     else Jk (Qb o.op (Q5 env) U) λp=>XD S rest (YR env o.dst p.1) hs U pend K)
    (if o.kind=2 then YT hs.length U pend/\XD S rest (YR env o.dst undef) (hs++[U]) U pend K else XD S rest (YR env o.dst undef) hs U pend K)
def DropE (σ0:Heap) (env:Env) (U:Heap) (ah:Env) (U':Heap):Prop :=
 ∀ ρ0 w0 ρ w cs,HRel ρ0 σ0 w0->Ext ρ0 σ0 w0 ρ U w->HRel ρ U w->LRel ρ U.n env cs->∃ ρ',LRel ρ' U'.n ah cs/\HRel ρ' U' w/\Ext ρ0 σ0 w0 ρ' U' w
theorem DropE.refl (σ0:Heap) (env:Env) (U:Heap):DropE σ0 env U env U:=λ_ _ ρ _ _ _ hE hH hL=>⟨ρ,hL,hH,hE⟩
def Pb (S:VSpecs):List DSeg->Env->Heap->(Env->Heap->Prop)->Prop
 |[],env,U,K=>K env U
 |.one o::rest,env,U,K=>FP S [o] env U λenv U=>Pb S rest env U K
 |.alts l::rest,env,U,K=>∀ ops∈l,XD S ops env [U] U [] λbp σ1=>∃ aT σ2,DropE U bp σ1 aT σ2/\Pb S rest aT σ2 K
def C3 (live:List Nat) (env:Env):List Value:=live.map λi=>env.getD i poison
def Ky:List Nat->List Value->Env->Env
 |i::l,v::vs,env=>Ky l vs (env.set i v)
 |_,_,env=>env
def J0l (W:(Exit->Env->Heap->Prop)->Env->Heap->Prop) (Q:Exit->Env->Heap->Prop) (env:Env) (U:Heap):Prop :=
 ∃ (live:List Nat) (I:Nat->List Value->Heap->Prop) (n0:Nat),I n0 (C3 live env) U /\
  ∀ n vs U',I n vs U'->W (λe ah aN=>match e with
   |.normal=>∃ n',n'<n/\I n' (C3 live ah) aN
   |e=>Q e ah aN) (Ky live vs (List.replicate env.length poison)) U'
def J1s (R:Env->Heap->Prop) (Q:Exit->Env->Heap->Prop):Exit->Env->Heap->Prop
 |.normal,env,U=>R env U
 |e,env,U=>Q e env U
def Q5f (id:Nat) (Q:Exit->Env->Heap->Prop):Exit->Env->Heap->Prop
 |.exit gS,env,U=>if gS=id then Q .normal env U else Q (.exit gS) env U
 |e,env,U=>Q e env U
def Av:Env->List Nat->List Value->Env
 |env,p::ps,v::vs=>Av (env.set p v) ps vs
 |env,_,_=>env
def Z7b (env:Env) (r:Loop) (i:Nat) (K:Value->Heap->Prop):Exit->Env->Heap->Prop:=λe _ U =>
 U.get i=some (.obj (.lp env r .busy none) true)/\match e with
  |.normal=>K (.bool true) (U.upd i (.obj (.lp env r .ready none) true))
  |.ret=>K (.bool false) (U.upd i (.obj (.lp env r .done (some .ret)) true))
  |.exit id=>K (.bool false) (U.upd i (.obj (.lp env r .done (some (.exit id))) true))
  |_=>False
def Q5m (A B:(Exit->Env->Heap->Prop)->Env->Heap->Prop) (ps:List Nat) (env:Env) (r:Loop) (i:Nat):Ij:=λargs U K =>
 U.get i=some (.obj (.lp env r .ready none) true)/\args.length=ps.length /\
  A (J1s (λbp σ1=>σ1.get i=some (.obj (.lp env r .ready none) true)/\B (Z7b env r i K) bp (σ1.upd i (.obj (.lp env r .busy none) true))) (λ_ _ _=>False)) (Av env ps args) U
def Z2h (Q:Exit->Env->Heap->Prop) (env:Env) (i:Nat):Value->Heap->Prop:=λ_ U =>
 match U.get i with
 |some (.obj (.lp _ _ st pend) true)=>st≠.busy/\match pend with
  |none=>Q .normal env (U.kill i)
  |some .ret=>Q .ret env (U.kill i)
  |some (.exit id)=>Q (.exit id) env (U.kill i)
  |some _=>False
 |_=>False
def J1r (U:Heap):Option Nat->Prop
 |none=>True
 |some i=>∃ env r st pend,U.get i=some (.obj (.lp env r st pend) true)
def Q2w (S:VSpecs) (ro:Option Nat) (A B:Option Nat->(Exit->Env->Heap->Prop)->Env->Heap->Prop) (g:Value) (ps:List Nat) (Q:Exit->Env->Heap->Prop) (env:Env) (U:Heap):Prop :=
 match g with
 |.func (.func f) first cap=>match S.it f with
  |some T=>J1r U ro/\∀ r:Loop,T U.n (Q5m (A (some U.n)) (B (some U.n)) ps env r U.n) (first.toList++[.func (.yield U.n) #[] #[]]++cap.toList) (U.push (.obj (.lp env r .ready none) true)) (Z2h Q env U.n)
  |none=>False
 |_=>False
def vwp (S:VSpecs):VCode->Option Nat->(Exit->Env->Heap->Prop)->Env->Heap->Prop
 |.skip,_,Q,env,U=>Q .normal env U
 |.region ops,_,Q,env,U=>FP S ops env U λenv U=>Q .normal env U
 |.regionD aU,_,Q,env,U=>Pb S aU env U λenv U=>Q .normal env U
 |.seq a b,ro,Q,env,U=>vwp S a ro (J1s (vwp S b ro Q) Q) env U
 |.cond c a b,ro,Q,env,U=>Z0e (Q5 env c) (vwp S a ro Q env U) (vwp S b ro Q env U)
 |.block id b,ro,Q,env,U=>vwp S b ro (Q5f id Q) env U
 |.loop b,ro,Q,env,U=>J0l (vwp S b ro) Q env U
 |.rangeF g ps a b,ro,Q,env,U=>Q2w S ro (vwp S a) (vwp S b) (Q5 env g) ps Q env U
 |.exit id,_,Q,env,U=>Q (.exit id) env U
 |.ret,_,Q,env,U=>Q .ret env U
 |.bad,_,_,_,_=>False
inductive VResult where
 |tmp (t:Nat)
 |cell (a:Nat) (agg:Bool) (size:Nat)
def Yg (P:Program):ResultVar->Option VResult
 |.tmp t=>some (.tmp t)
 |.cell a t =>
  match P.info? t,P.underlying t with
  |some i,some d=>some (.cell a (DH d) i.size)
  |_,_=>none
def Di (P:Program) (rs:List ResultVar):Option (List VResult):=rs.mapM (Yg P)
def Y8 (env:Env) (U:Heap):VResult->Option Value
 |.tmp t=>some (env.getD t undef)
 |.cell a agg size=>(Qb (.load agg size (.tmp a)) (Q5 env) U).map (·.1)
def Yn (env:Env) (U:Heap) (rs:List VResult):Option Value :=
 match rs with
 |[r]=>Y8 env U r
 |rs=>(rs.mapM (Y8 env U)).map λvs=>.tuple vs.toArray
def Z9e (rs:List VResult) (R:Value->Heap->Prop):Exit->Env->Heap->Prop
 |.normal,env,U|.ret,env,U=>Jk (Yn env U rs) λv=>R v U
 |_,_,_=>False
theorem Ko (b:Nat):∀ (vs:List Value) (o:Nat) (w:World) (k:Nat),k≠b->(w.setCells b o vs).heap[k]?=w.heap[k]?
 |[],_,_,_,_=>rfl
 |v::r,o,w,k,h=>by
  rw[World.setCells,Ko b r (o+1) _ k h]
  grind [heap_setCell_other]
theorem V7 (b:Nat):∀ (vs:List Value) (o:Nat) (w:World),(w.setCells b o vs).heap.size=w.heap.size
 |[],_,_=>rfl
 |v::r,o,w=>by rw[World.setCells,V7 b r];exact World.size_setCell w _ _
theorem TV (b:Nat):∀ (vs:List Value) (o:Nat) (w:World),(w.setCells b o vs).os=w.os/\(w.setCells b o vs).tape=w.tape/\(w.setCells b o vs).output=w.output
 |[],_,_=>⟨rfl,rfl,rfl⟩
 |v::r,o,w=>by rw[World.setCells];exact TV b r (o+1) _
theorem MW (b:Nat):∀ (vs:List Value) (o:Nat) (w:World) (C:Array Value) (e:TypeId) (f:Nat×Nat),w.heap[b]?=some (.cells C e f) ->
  ∃ C',(w.setCells b o vs).heap[b]?=some (.cells C' e f)/\C'.size=C.size
 |[],_,_,C,_,_,h=>⟨C,h,rfl⟩
 |v::r,o,w,C,e,f,h=>by
  have h1:(w.setCell ⟨b,o,none⟩ v).heap[b]?=some (.cells (C.setIfInBounds o v) e f):=by simp only[World.setCell,Array.getElem?_modify,zq,h];simp
  obtain⟨C',h2,h3⟩:=MW b r (o+1) _ _ e f h1;exact⟨C',by rw[World.setCells];exact h2,by rw[h3];simp⟩
theorem VV (vs:List Value):∀ (c:List Value) (o:Nat),(Nh c o vs).length=c.length:=by
 induction vs with
 |nil=>intro c o;rfl
 |cons v r ih=>intro c o;rw[Nh,ih];simp
theorem MB (vs:List Value):∀ (c:List Value) (o k:Nat),(k<o\/o+vs.length<=k)->(Nh c o vs)[k]?=c[k]?:=by
 induction vs with
 |nil=>intro c o k _;rfl
 |cons v r ih =>intro c o k h;rw[Nh,ih _ _ _ (by simp at h;omega),List.getElem?_set_ne (by simp at h;omega)]
theorem Ow (vs:List Value):∀ (c:List Value) (o k:Nat),o+vs.length<=c.length->k<vs.length->(Nh c o vs)[o+k]?=vs[k]?:=by
 induction vs with
 |nil=>intro c o k _ h;simp at h
 |cons v r ih =>
  intro c o k h hk;simp at h hk;cases k with
  |zero=>rw[Nh,MB _ _ _ _ (by left;omega),zR,List.getElem?_set_self (by omega)];rfl
  |succ k =>rw[Nh,show o+(k+1)=o+1+k by omega,ih _ _ _ (by simp;omega) (by omega)];simp
theorem BRel.q0q {ρ:Plc}{n:Nat}{p:Pl}{w:World}{c:List Value}{esz:El}{wr tight:Bool}(h:BRel ρ n p w (.cells c esz wr tight)) (k:Nat) (hk:k<p.ext):(w.cell? ⟨p.blk,p.shift+k,none⟩).isSome=true:=by
 obtain⟨_,_,_,⟨C,e,f,h1,h2⟩,_⟩:=h;have h3:p.shift+k<C.size:=by omega
 simp[World.cell?,h1,h3]
theorem BRel.other {ρ ρ':Plc}{n n':Nat}{q:Pl}{w w':World}{b:Blk}(hn:n<=n') (hρ:∀ i,i<n->∀ p,ρ' i=some p->ρ i=some p) (B:Nat) (C:Array Value) (e:TypeId) (f:Nat×Nat) (hB:w.heap[B]?=some (.cells C e f))
  (aJ:0<q.ext->B≠q.blk) (hC:∃ C' f',w'.heap[B]?=some (.cells C' e f')/\C.size<=C'.size) (ho:∀ k,k≠B->k<w.heap.size->w'.heap[k]?=w.heap[k]?) (hq:q.blk<w.heap.size) (h:BRel ρ n q w b):BRel ρ' n' q w' b:=by
 by_cases hk:q.blk=B
 .have h0:q.ext=0:=by
   omega
  cases b with
  |cells c esz wr tight =>
   obtain⟨h1,h2,h3,⟨C0,e0,f0,h4,iM⟩,h5,h6⟩:=h;have hc:c=[]:=x3.1 (by omega);obtain⟨C',f',mC,o6⟩:=hC;have th:C0=C/\e0=e:=by simp_all
   obtain⟨rfl,rfl⟩:=th;refine⟨h1,h2,by omega,(by grind),λk v hv=>by simp[hc] at hv,(by simp_all)⟩
  |obj o wr=>have:=h.1;omega
 .exact h.mono hn hρ (ho _ hk hq)
theorem HRel0.store {ρ:Plc}{U:Heap}{w:World}(h:HRel0 ρ U w) {i:Nat}{p:Pl}{c:List Value}{esz:El}{tight:Bool}(hp:ρ i=some p) (hb:U.get i=some (.cells c esz true tight))
  {o:Nat}{vs cs:List Value}(hv:LRel ρ U.n vs cs) (ho:o+vs.length<=c.length) :
  HRel0 ρ (U.upd i (.cells (Nh c o vs) esz true tight)) (w.setCells p.blk (p.shift+o) cs)/\Ext ρ U w ρ (U.upd i (.cells (Nh c o vs) esz true tight)) (w.setCells p.blk (p.shift+o) cs):=by
 have hi:=U.lt hb;obtain⟨p',bu,hB⟩:=h.live i _ hb;obtain rfl:p=p':=osj (hp.symm.trans bu);obtain⟨h1,h2,h3,⟨C,e,f,h4,iM⟩,h5,h6⟩:=hB;obtain⟨C',mC,o6⟩:=MW p.blk cs (p.shift+o) w C e f h4;have cm:vs.length=cs.length:=hv.1;refine⟨⟨λj b hj=>?_,λj hj=>?_,λj q hq=>by rw[V7];exact h.lt j q hq,λj k q r b eo hq hr ck hw hx=>?_⟩,?_⟩
 .by_cases aP:j=i
  .subst aP;rw[Heap.q0d _ _ hi] at hj;obtain rfl:=osj hj;refine⟨p,hp,h1,h2,by rw[VV];exact h3,⟨C',e,f,mC,by omega,iM.2⟩,λk v hk=>?_,(by grind [World.frozen?_setCells])⟩;have cO:k<c.length:=by grind [List.getElem?_eq_some_iff,VV]
   by_cases bF:k<o\/o+vs.length<=k
   .rw[MB _ _ _ _ bF] at hk;obtain⟨u,hu,cF⟩:=h5 k v hk;exact⟨u,by grind [World.cell?_setCells_out],cF⟩
   .have mD:k=o+(k-o):=by omega
    rw[mD,Ow _ _ _ _ ho (by omega)] at hk;obtain⟨u,hu,cF⟩:=hv.get hk;have o7:k-o<cs.length:=(zi.1 hu).1;refine⟨u,?_,cF⟩;have:=World.cell?_setCells_in p.blk cs (p.shift+o) w (λj hj=>by
     rw[zo];exact BRel.q0q (ρ:=ρ) (n:=U.n) ⟨h1,h2,h3,⟨C,e,f,h4,iM⟩,h5,h6⟩ _ (by omega)) (k-o) o7
    grind
  .rw[Heap.q0b _ _ aP] at hj;obtain⟨q,hq,fe⟩:=h.live j b hj;refine⟨q,hq,fe.other (by exact z4 _) (λ_ _ _ h=>h) p.blk C e f h4 (λhx=>h.sep i j p q _ (Ne.symm aP) hp hq hb rfl hx) ⟨C',f,mC,by omega⟩ (by grind [Ko]) (h.lt j q hq)⟩
 .by_cases aP:j=i
  .grind [Heap.q0d]
  .rw[Heap.q0b _ _ aP] at hj;exact h.dead j hj
 .by_cases aP:j=i
  .subst aP;exact h.sep j k q r _ eo hq hr hb rfl hx
  .rw[Heap.q0b _ _ aP] at ck;exact h.sep j k q r b eo hq hr ck hw hx
 .obtain⟨e1,e2,e3⟩:=TV p.blk cs (p.shift+o) w;refine⟨e1,e2,e3,by rw[V7];exact z4 _,λB hB hW=>Ko _ _ _ _ _ (λe=>hW ⟨i,p,_,hp,hb,rfl,e.symm⟩),?_,z4 _,λ_ _ _ h=>h⟩;rintro B _ ⟨j,q,b,hq,bW,hw,rfl⟩;by_cases aP:j=i
  .subst aP;exact⟨j,q,_,hq,hb,rfl,rfl⟩
  .rw[Heap.q0b _ _ aP] at bW;exact⟨j,q,b,hq,bW,hw,rfl⟩
theorem HRel0.onto {ρ:Plc}{U:Heap}{w:World}(h:HRel0 ρ U w) {i:Nat}{p:Pl}{c:List Value}{esz:El}(hp:ρ i=some p) (hb:U.get i=some (.cells c esz true false))
  (o':Nat) {bE vs cs:List Value}(hold:∀ k v,bE[k]?=some v->∃ u,w.cell? ⟨p.blk,p.shift+o'+k,none⟩=some u/\VRel ρ U.n v u) (hv:LRel ρ U.n vs cs) (ho:o'+bE.length+vs.length<=p.ext) :
  ∃ ρ',ρ' U.n=some ⟨p.blk,p.shift+o',p.ext-o',esz,false⟩/\HRel0 ρ' ((U.kill i).push (.cells (bE++vs) esz true false)) (w.setCells p.blk (p.shift+o'+bE.length) cs) /\
   Ext ρ U w ρ' ((U.kill i).push (.cells (bE++vs) esz true false)) (w.setCells p.blk (p.shift+o'+bE.length) cs):=by
 have hi:=U.lt hb;obtain⟨p',bu,hB⟩:=h.live i _ hb;obtain rfl:p=p':=osj (hp.symm.trans bu);have dC:=hB;obtain⟨h1,h2,h3,⟨C,e,f,h4,iM⟩,h5,h6⟩:=hB;obtain⟨C',mC,o6⟩:=MW p.blk cs (p.shift+o'+bE.length) w C e f h4;have cm:vs.length=cs.length:=hv.1;let P':Pl:=⟨p.blk,p.shift+o',p.ext-o',esz,false⟩;let ρ':Plc:=(ρ.put i none).put U.n (some P');have gT:ρ' U.n=some P':=by simp[ρ',Plc.put]
 have gu:ρ' i=none:=by simp only[ρ',Plc.put];rw[z0 (by omega)];simp
 have fF:∀ j,j≠U.n->j≠i->ρ' j=ρ j:=λj h1 h2=>by simp[ρ',Plc.put,h1,h2]
 have aW:∀ j,j<U.n->∀ q,ρ' j=some q->ρ j=some q:=(by grind);refine⟨ρ',gT,⟨λj b hj=>?_,λj hj=>?_,λj q hq=>?_,λj k q r b eo hq hr ck hw hx=>?_⟩,?_⟩
 .by_cases aR:j=U.n
  .subst aR;have iN:((U.kill i).push (.cells (bE++vs) esz true false)).get U.n=some (.cells (bE++vs) esz true false):=Heap.q0a (U.kill i) _;rw[iN] at hj;obtain rfl:=osj hj;refine⟨P',gT,rfl,rfl,by simp[P'];omega,(by grind),λk v hk=>?_,λ_=>⟨(λh=>by cases h),λk hk=>?_⟩⟩
   .by_cases bF:k<bE.length
    .rw[xd bF] at hk;obtain⟨u,hu,cF⟩:=hold k v hk;exact⟨u,by grind [World.cell?_setCells_out],cF.mono (by simp) aW⟩
    .rw[xj (by omega)] at hk;obtain⟨u,hu,cF⟩:=hv.get hk;have o7:k-bE.length<cs.length:=(zi.1 hu).1;refine⟨u,?_,cF.mono (by simp) aW⟩;have:=World.cell?_setCells_in p.blk cs (p.shift+o'+bE.length) w (λj hj=>by
      rw[zo,zo];exact dC.q0q _ (by omega)) (k-bE.length) o7
     grind
   grind [World.frozen?_setCells]
  .have di:(U.kill i).get j=some b:=by rw[<-hj];exact(Heap.q0e (U.kill i) _ aR).symm
   by_cases aP:j=i
   .grind [Heap.q0h]
   .rw[Heap.q0c _ aP] at di;obtain⟨q,hq,fe⟩:=h.live j b di;exact⟨q,by rw[fF j aR aP];exact hq,fe.other (by simp) aW p.blk C e f h4 (λhx=>h.sep i j p q _ (Ne.symm aP) hp hq hb rfl hx) ⟨C',f,mC,by omega⟩ (by grind [Ko]) (h.lt j q hq)⟩
 .by_cases aR:j=U.n
  .subst aR;have iN:((U.kill i).push (.cells (bE++vs) esz true false)).get U.n=some (.cells (bE++vs) esz true false):=Heap.q0a (U.kill i) _;rw[iN] at hj;cases hj
  .have di:(U.kill i).get j=none:=by rw[<-hj];exact(Heap.q0e (U.kill i) _ aR).symm
   by_cases aP:j=i
   .subst aP;exact gu
   .rw[Heap.q0c _ aP] at di;rw[fF j aR aP];exact h.dead j di
 .rw[V7];by_cases aR:j=U.n
  .grind
  .by_cases aP:j=i
   .subst aP;rw[gu] at hq;cases hq
   .rw[fF j aR aP] at hq;exact h.lt j q hq
 .by_cases aR:j=U.n
  .subst aR;rw[gT] at hq;obtain rfl:=osj hq;by_cases ky:k=i
   .subst ky;rw[gu] at hr;cases hr
   .rw[fF k (Ne.symm eo) ky] at hr;exact h.sep i k p r _ (Ne.symm ky) hp hr hb rfl hx
  .have bN:(U.kill i).get j=some b:=by rw[<-ck];exact(Heap.q0e (U.kill i) _ aR).symm
   by_cases aP:j=i
   .subst aP;rw[gu] at hq;cases hq
   rw[Heap.q0c _ aP] at bN;rw[fF j aR aP] at hq;by_cases iO:k=U.n
   .subst iO;rw[gT] at hr;obtain rfl:=osj hr;have rT:0<p.ext:=by simp[P'] at hx;omega
    exact h.sep j i q p b aP hq hp bN hw rT
   .by_cases ky:k=i
    .subst ky;rw[gu] at hr;cases hr
    .rw[fF k iO ky] at hr;exact h.sep j k q r b eo hq hr bN hw hx
 .obtain⟨e1,e2,e3⟩:=TV p.blk cs (p.shift+o'+bE.length) w;refine⟨e1,e2,e3,by rw[V7];exact z4 _,λB hB hW=>Ko _ _ _ _ _ (λe=>hW ⟨i,p,_,hp,hb,rfl,e.symm⟩),?_,by simp,aW⟩;rintro B _ ⟨j,q,b,hq,bW,hw,rfl⟩;by_cases aR:j=U.n
  .subst aR;rw[gT] at hq;obtain rfl:=osj hq;exact⟨i,p,_,hp,hb,rfl,rfl⟩
  .have bN:(U.kill i).get j=some b:=by rw[<-bW];exact(Heap.q0e (U.kill i) _ aR).symm
   by_cases aP:j=i
   .subst aP;rw[gu] at hq;cases hq
   rw[Heap.q0c _ aP] at bN;rw[fF j aR aP] at hq;exact⟨j,q,b,hq,bN,hw,rfl⟩
section
variable {ρ:Plc}{U:Heap}{w:World}
theorem HRel.store (h:HRel ρ U w) {i:Nat}{p:Pl}{c:List Value}{esz:El}{tight:Bool}(hp:ρ i=some p) (hb:U.get i=some (.cells c esz true tight))
  {o:Nat}{vs cs:List Value}(hv:LRel ρ U.n vs cs) (ho:o+vs.length<=c.length) :
  HRel ρ (U.upd i (.cells (Nh c o vs) esz true tight)) (w.setCells p.blk (p.shift+o) cs)/\Ext ρ U w ρ (U.upd i (.cells (Nh c o vs) esz true tight)) (w.setCells p.blk (p.shift+o) cs) :=
 let ⟨h2,h3⟩:=h.core.store hp hb hv ho
 ⟨h.ext h2 h3,h3⟩
theorem HRel.onto (h:HRel ρ U w) {i:Nat}{p:Pl}{c:List Value}{esz:El}(hp:ρ i=some p) (hb:U.get i=some (.cells c esz true false))
  (o':Nat) {bE vs cs:List Value}(hold:∀ k v,bE[k]?=some v->∃ u,w.cell? ⟨p.blk,p.shift+o'+k,none⟩=some u/\VRel ρ U.n v u) (hv:LRel ρ U.n vs cs) (ho:o'+bE.length+vs.length<=p.ext) :
  ∃ ρ',ρ' U.n=some ⟨p.blk,p.shift+o',p.ext-o',esz,false⟩/\HRel ρ' ((U.kill i).push (.cells (bE++vs) esz true false)) (w.setCells p.blk (p.shift+o'+bE.length) cs) /\
   Ext ρ U w ρ' ((U.kill i).push (.cells (bE++vs) esz true false)) (w.setCells p.blk (p.shift+o'+bE.length) cs) :=
 let ⟨ρ',h1,h2,h3⟩:=h.core.onto hp hb o' hold hv ho
 ⟨ρ',h1,h.ext h2 h3,h3⟩
end
end Go.V
namespace Go.V
open Go
structure Like (ρ:Plc) (w w':World):Prop where
 size:w.heap.size<=w'.heap.size
 blk:∀ i p,ρ i=some p->w'.heap[p.blk]?=w.heap[p.blk]?
 tab:∀ g cs,Z2j g=some cs->w'.heap[g]?=w.heap[g]?
theorem Like.refl (ρ:Plc) (w:World):Like ρ w w:=⟨z4 _,λ_ _ _=>rfl,λ_ _ _=>rfl⟩
section inv
variable {ρ:Plc}{n:Nat}{c:Value}
theorem VRel.q0f {k:IntKind}{x:Int}(h:VRel ρ n (.int k x) c):c=.int k x:=by cases h;rfl
theorem VRel.q1c {b:Bool}(h:VRel ρ n (.bool b) c):c=.bool b:=by cases h;rfl
theorem VRel.q0o {s:ByteArray}(h:VRel ρ n (.string s) c):c=.string s:=by cases h;rfl
theorem VRel.q1j {l k:Nat}(h:VRel ρ n (.slice none l k) c):l=0/\k=0/\c=.slice none 0 0:=by cases h;exact⟨rfl,rfl,rfl⟩
theorem VRel.q0u {i o:Nat}{p:Pl}(hp:ρ i=some p) (h:VRel ρ n (.pointer (some ⟨i,o,none⟩)) c):(none:Option Nat)=none/\i<n/\c=.pointer (some ⟨p.blk,p.shift+o,none⟩):=by
 cases h with
 |ptr _ _ a hi h=>exact⟨rfl,hi,by rw[h p hp]⟩
theorem VRel.q1i {cs:Array Value}(h:VRel ρ n (.agg cs) c):∃ ds:Array Value,c=.agg ds/\LRel ρ n cs.toList ds.toList:=by
 cases h with
 |agg _ ds hc h=>exact⟨ds,rfl,LRel.of_array hc h⟩
theorem VRel.q1k {cs:Array Value}(h:VRel ρ n (.tuple cs) c):∃ ds:Array Value,c=.tuple ds/\LRel ρ n cs.toList ds.toList:=by
 cases h with
 |tuple _ ds hc h=>exact⟨ds,rfl,LRel.of_array hc h⟩
end inv
theorem V0 {ρ:Plc}{n:Nat}{v:Value}(h:J8 v=true):VRel ρ n v v:=by unfold J8 at h;split at h<;>first|constructor|cases h
theorem K0 {ρ:Plc}{n:Nat}{l:List Value}(h:l.all J8=true):LRel ρ n l l:=by
 refine⟨rfl,λi v c hv hc=>?_⟩
 grind [osj,V0,List.all_eq_true,List.mem_of_getElem?]
theorem G4 {ρ:Plc}{n:Nat}{v:Value}(h:MN v=true):VRel ρ n v v:=by
 unfold MN at h;split at h
 .rename_i cs;have:=VRel.q1l (K0 (ρ:=ρ) (n:=n) h);simpa using this
 .rename_i cs;have:=VRel.q0i (K0 (ρ:=ρ) (n:=n) h);simpa using this
 .exact V0 h
theorem Ye {ρ:Plc}{n:Nat}:VRel ρ n undef undef:=G4 rfl
theorem Vo {ρ:Plc}{n:Nat}{env:Env}{a:Act}(h:LRel ρ n env a.tmps.toList) {x:Operand}(hx:K6 x=true):VRel ρ n (Q5 env x) (a.eval x):=by
 cases x with
 |tmp t =>
  simp only[Q5,Act.eval];have e:List.length env=a.tmps.size:=by have:=h.1;omega
  rcases zf t (List.length env) with ht|ht
  .have pN:t<a.tmps.size:=by rw[<-e];exact ht
   have:=h.2 t env[t] a.tmps[t] (z3 ht) (by simp[pN]);simp_all
  .grind [Nat.not_lt,List.getElem?_eq_none,Ye]
 |const v=>exact G4 hx
 |global g=>exact .glob g 0 0
 |func f=>exact .func _ #[] #[] #[] #[] rfl rfl (λi h1=>by simp at h1) (λi h1=>by simp at h1)
theorem CJ {ρ:Plc}{w w':World}(hl:Like ρ w w') {i:Nat}{p:Pl}(hp:ρ i=some p) (o:Nat):w'.cell? ⟨p.blk,o,none⟩=w.cell? ⟨p.blk,o,none⟩ :=
 World.cell?_of_block (a:=⟨p.blk,o,none⟩) (hl.blk i p hp)
section
variable {P:Program}{ρ:Plc}{U:Heap}{w:World}
theorem Gn {t:TypeId}{d:TypeDesc}(h:P.underlying t=some d) (w:World):(isAgg t).run P w=.ok (DH d) w:=by cases d<;>simp[isAgg,run_underlying h,DH]
theorem Qp {t:TypeId}{i:TypeInfo}(h:P.info? t=some i) (w:World):(sizeOf t).run P w=.ok i.size w:=by simp[sizeOf,run_typeInfo w h]
theorem Ku (b o n:Nat):(⟨b,o,none⟩:Addr).add n=⟨b,o+n,none⟩:=by unfold Addr.add;split<;>simp_all
theorem Q5h (hH:HRel ρ U w) {t:TypeId}{ti:TypeInfo}{d:TypeDesc}(h1:P.info? t=some ti) (h2:P.underlying t=some d) {i o:Nat}{c:List Value}{esz:El}{wr tight:Bool}{v x:Value}
  (hb:U.get i=some (.cells c esz wr tight)) (hv:Vq (DH d) ti.size c o=some v) (hx:VRel ρ U.n (.pointer (some ⟨i,o,none⟩)) x) :
  ∃ u,VRel ρ U.n v u/\∀ w',Like ρ w w'->(Instr.loadAt t x).run P w'=.ok u w':=by
 obtain⟨p,hp,_,_,_,_,h5,_⟩:=hH.live i _ hb;obtain⟨_,_,rfl⟩:=hx.q0u hp;unfold Vq at hv;cases eX:DH d with
 |false =>
  simp[eX] at hv;obtain⟨u,hu,cF⟩:=h5 o v hv;refine⟨u,cF,λw' hl=>?_⟩;have:w'.cell? ⟨p.blk,p.shift+o,none⟩=some u:=by rw[CJ hl hp];exact hu
  simp[Instr.loadAt,Instr.sureAddr,loadVar,Gn h2,eX,this]
 |true =>
  simp only[eX,zq] at hv;split at hv
  .rename_i hlen;simp at hv;subst hv;have hex:∃ us:List Value,us.length=ti.size/\∀ k,k<ti.size->∃ u,us[k]?=some u/\w.cell? ⟨p.blk,p.shift+o+k,none⟩=some u/\∀ v,c[o+k]?=some v->VRel ρ U.n v u:=by
    refine⟨(List.range ti.size).map λk=>(w.cell? ⟨p.blk,p.shift+o+k,none⟩).getD undef,by simp,λk hk=>?_⟩;obtain⟨u,hu,cF⟩:=h5 (o+k) _ (z3 (by omega))
    grind
   obtain⟨us,tj,eK⟩:=hex;refine⟨.agg us.toArray,VRel.q1l ⟨by simp;omega,λk v u hk hu=>?_⟩,λw' hl=>?_⟩
   .grind
   .have cR:∀ j v,us[j]?=some v->w'.cell? ((⟨p.blk,p.shift+o,none⟩:Addr).add j)=some v:=λj v hj=>by
     have cS:j<ti.size:=by grind
     obtain⟨u',dE,dg,_⟩:=eK j cS;rw[hj] at dE;obtain rfl:=osj dE;rw[Ku,CJ hl hp];exact dg
    have:=run_loadCells_list (P:=P) w' ⟨p.blk,p.shift+o,none⟩ us cR;rw[tj] at this;simp[Instr.loadAt,Instr.sureAddr,loadVar,Gn h2,eX,Qp h1,this]
  .cases hv
theorem Q2v (hH:HRel ρ U w) {t:TypeId}{ti:TypeInfo}{d:TypeDesc}(h1:P.info? t=some ti) (h2:P.underlying t=some d) {g o s:Nat}{c:List Value}{v x:Value}
  (hb:Z2j g=some c) (aW:c.all J8=true) (hv:Vq (DH d) ti.size c o=some v) (hx:VRel ρ U.n (.pointer (some ⟨g,o,some s⟩)) x) :
  ∃ u,VRel ρ U.n v u/\∀ w',Like ρ w w'->(Instr.loadAt t x).run P w'=.ok u w':=by
 obtain⟨⟨e,f,hw⟩,_⟩:=hH.tab g c hb;obtain rfl:x=.pointer (some ⟨g,o,none⟩):=by cases hx;rfl
 have bH:∀ w',Like ρ w w'->∀ k,w'.cell? ⟨g,k,none⟩=c[k]?:=λw' hl k=>by have:=hl.tab g c hb;simp[World.cell?,this,hw]
 unfold Vq at hv;cases eX:DH d with
 |false =>
  simp[eX] at hv;refine⟨v,V0 (by grind),λw' hl=>?_⟩;have:w'.cell? ⟨g,o,none⟩=some v:=by rw[bH w' hl];exact hv
  simp[Instr.loadAt,Instr.sureAddr,loadVar,Gn h2,eX,this]
 |true =>
  simp only[eX,zq] at hv;split at hv
  .rename_i hlen;simp at hv;subst hv;have aj:((c.drop o).take ti.size).all J8=true:=(by grind);refine⟨_,VRel.q1l (K0 aj),λw' hl=>?_⟩;have cR:∀ j v,((c.drop o).take ti.size)[j]?=some v->w'.cell? ((⟨g,o,none⟩:Addr).add j)=some v:=(by grind [Ku]);have:=run_loadCells_list (P:=P) w' ⟨g,o,none⟩ _ cR;have bZ:((c.drop o).take ti.size).length=ti.size:=by grind
   rw[bZ] at this;simp[Instr.loadAt,Instr.sureAddr,loadVar,Gn h2,eX,Qp h1,this]
  .cases hv
theorem Q61 {t:TypeId}{ti:TypeInfo}{d:TypeDesc}(h1:P.info? t=some ti) (h2:P.underlying t=some d) {cs ds:Array Value}{o:Nat}{v:Value}{n:Nat}
  (hv:Vq (DH d) ti.size cs.toList o=some v) (hl:LRel ρ n cs.toList ds.toList):∃ u,VRel ρ n v u/\∀ w',(part t ds o).run P w'=.ok u w':=by
 unfold Vq at hv;cases eX:DH d with
 |false =>
  simp only[eX,zj,if_false] at hv;obtain⟨u,hu,cF⟩:=hl.get hv;refine⟨u,cF,λw'=>?_⟩;have:ds[o]?=some u:=by simpa using hu
  simp[part,Gn h2,eX,this]
 |true =>
  simp only[eX,zq] at hv;split at hv
  .rename_i hlen;simp at hv;subst hv;refine⟨.agg (ds.extract o (o+ti.size)),?_,λw'=>by simp[part,Gn h2,eX,Qp h1]⟩;have:LRel ρ n ((cs.toList.drop o).take ti.size) ((ds.toList.drop o).take ti.size):=by
    refine⟨by have:=hl.1;simp at this |-;omega,λk v u hk hu=>?_⟩;rw[xw] at hk hu;split at hk
    .rename_i cO;rw[z2 cO,zN] at hu;rw[zN] at hk;exact hl.2 _ v u hk hu
    .cases hk
   have h3:=VRel.q1l this;have h4:((ds.toList.drop o).take ti.size).toArray=ds.extract o (o+ti.size):=by
    grind
   rwa [h4] at h3
  .cases hv
end
end Go.V
namespace Go.V
open Go
theorem SA {ρ:Plc}{n:Nat}{v c:Value}{vs:List Value}(h:M8 v=some vs) (hv:VRel ρ n v c):LRel ρ n vs c.cells.toList:=by
 unfold M8 at h;split at h
 .obtain⟨ds,rfl,hl⟩:=hv.q1i;simp at h;subst h;exact hl
 .cases h
 .cases h
 .rename_i h1 h2 h3;simp at h;subst h;have hc:c.cells.toList=[c]:=by
   cases hv<;>first|rfl|(exact absurd rfl (h1 _))|(exact absurd rfl (h2 _))|(exact absurd rfl (h3 _))
  rw[hc];exact LRel.cons hv (LRel.nil _ _)
theorem Q7t (off:Nat):∀ (vs:List Value) (k:Nat) (cells:Array Value),
  (((vs.zipIdx k).foldl (λ(cs:Array Value) (p:Value×Nat)=>cs.setIfInBounds (off+p.2) p.1) cells)).toList=Nh cells.toList (off+k) vs:=by
 intro vs;induction vs with
 |nil=>intro k cells;rfl
 |cons v r ih =>intro k cells;simp only[List.zipIdx_cons,xT];rw[ih,Nh];simp[zo]
theorem Z2c {ρ:Plc}{n:Nat}:∀ (vs us c d:List Value) (o:Nat),LRel ρ n c d->LRel ρ n vs us->LRel ρ n (Nh c o vs) (Nh d o us):=by
 intro vs;induction vs with
 |nil=>intro us c d o hc hv;cases us with
  |nil=>exact hc
  |cons _ _=>have:=hv.1;simp at this
 |cons v r ih =>
  intro us c d o hc hv;cases us with
  |nil=>have:=hv.1;simp at this
  |cons u us =>rw[Nh,Nh];have h0:VRel ρ n v u:=hv.2 0 v u rfl rfl;have hr:LRel ρ n r us:=⟨by have:=hv.1;simpa using this,λi a b ha hb=>hv.2 (i+1) a b (by simpa using ha) (by simpa using hb)⟩;exact ih us _ _ _ (hc.set o h0) hr
theorem OH {ρ:Plc}{n:Nat}(place:Nat->Option (Nat×Nat)):∀ (l:List (Nat×Nat×Value)) (l':List (Nat×Value)) (c c':List Value) (cells:Array Value),
  l.length=l'.length->(∀ (k:Nat) (a:Nat×Nat×Value) (b:Nat×Value),l[k]?=some a->l'[k]?=some b->place b.1=some (a.1,a.2.1)/\VRel ρ n a.2.2 b.2) ->
  BB c l=some c'->LRel ρ n c cells.toList->∃ bA,Instr.fill place cells l'=some bA/\LRel ρ n c' bA.toList:=by
 intro l;induction l with
 |nil =>
  intro l' c c' cells hl _ hf hc;cases l' with
  |nil=>simp[BB] at hf;subst hf;exact⟨cells,rfl,hc⟩
  |cons _ _=>simp at hl
 |cons a r ih =>
  intro l' c c' cells hl hk hf hc;cases l' with
  |nil=>simp at hl
  |cons b r' =>
   obtain⟨o,s,v⟩:=a;obtain⟨j,u⟩:=b;obtain⟨hp,hv⟩:=hk 0 _ _ rfl rfl;simp only at hp hv;simp only[BB] at hf;split at hf
   .rename_i vs cq;split at hf
    .rename_i ak;obtain⟨hs,hle⟩:=ak;have ez:=SA cq hv;have aC:u.cells.size=s:=by have:=ez.1;simp at this;omega
     have hlen:cells.size=c.length:=by have:=hc.1;simp at this;omega
     obtain⟨bA,h1,h2⟩:=ih r' (Nh c o vs) c' (u.cells.zipIdx.foldl (λcs (c,j)=>cs.setIfInBounds (o+j) c) cells) (by simpa using hl)
      (λk a b ha hb=>hk (k+1) a b (by simpa using ha) (by simpa using hb)) hf (by
       have:=Q7t o u.cells.toList 0 cells;rw[<-Array.foldl_toList,Array.toList_zipIdx];rw[show (o+0)=o from rfl] at this;refine Eq.subst (motive:=λx=>LRel ρ n (Nh c o vs) x) this.symm ?_;exact Z2c _ _ _ _ _ hc ez)
     refine⟨bA,?_,h2⟩;simp only[Instr.fill,hp];simp_all
    .cases hf
   .cases hf
theorem Oz {ρ:Plc}{n:Nat}{env:Env}{ev:Operand->Value}(hE:∀ x,K6 x=true->VRel ρ n (Q5 env x) (ev x)) {l:List Operand}(h:l.all K6=true):LRel ρ n (l.map (Q5 env)) (l.map ev):=by
 refine⟨by simp,λi v c hv hc=>?_⟩
 grind
theorem Q0 {P:Program}{t:TypeId}{d:TypeDesc}(h:P.underlying t=some d) (w:World):(underlying t).run P w=.ok d w:=run_underlying h w
def Q2m (P:Program) (ρ:Plc) (U:Heap) (w:World) (v:Value) (s:Sem Next):Prop :=
 ∃ c,VRel ρ U.n v c/\∀ w',Like ρ w w'->s.run P w'=.ok (.value c) w'
theorem V3 {α β:Type}(f:α->Option β):∀ (l:List α) (r:List β),l.mapM f=some r->r.length=l.length/\∀ (i:Nat) (a:α),l[i]?=some a->∃ b,r[i]?=some b/\f a=some b:=by
 intro l;induction l with
 |nil=>intro r h;simp at h;subst h;exact⟨rfl,λi a h=>by simp at h⟩
 |cons a l ih =>
  intro r h;rw[zZ] at h;cases hf:f a with
  |none=>simp[hf] at h
  |some b =>
   cases hm:l.mapM f with
   |none=>simp[hf,hm] at h
   |some r' =>
    simp[hf,hm] at h;subst h;obtain⟨h1,h2⟩:=ih r' hm;refine⟨by simp[h1],λi x hx=>?_⟩;cases i with
    |zero=>simp at hx;subst hx;exact⟨b,rfl,hf⟩
    |succ i=>simp at hx;simpa using h2 i x hx
theorem Z1s {P:Program}{α β:Type}(g:α->Sem β) (f:α->β) (w:World):∀ (l:List α),(∀ a∈l,(g a).run P w=.ok (f a) w)->(l.mapM g).run P w=.ok (l.map f) w:=by
 intro l;induction l with
 |nil=>intro _;rfl
 |cons a l ih =>intro h;rw[zZ];simp[h a (by simp),ih (λb hb=>h b (by simp[hb]))]
theorem VS {P:Program}{t:TypeId}{z:List Value}(h:zeroOf P t=some z):∃ i zv,P.info? t=some i/\i.zero=some zv/\zv.cells.toList=z/\z.length=i.size/\z.all J8=true:=by
 unfold zeroOf at h;cases hi:P.info? t with
 |none=>simp[hi] at h
 |some i =>
  cases hz:i.zero with
  |none=>simp[hi,hz] at h
  |some zv =>simp[hi,hz] at h;obtain⟨h1,h2⟩:=h;subst h2;exact(by grind)
theorem Jz {P:Program}{t:TypeId}{i:TypeInfo}{zv:Value}(h:P.info? t=some i) (hz:i.zero=some zv) (w:World):(zeroValue t).run P w=.ok zv w:=by simp[zeroValue,run_typeInfo w h,hz]
section
variable {P:Program}{ρ:Plc}{U U':Heap}{w:World}{ev:Operand->Value}{env:Env}{v:Value}
theorem QI {s:Sem Next}{v c:Value}(h:∀ w',s.run P w'=.ok (.value c) w') (hc:VRel ρ U.n v c):Q2m P ρ U w v s:=⟨c,hc,λw' _=>h w'⟩
theorem Ha (op:BinOp) (t:TypeId) (x y:Operand) (yt:TypeId) (ty:TypeId) (pos:String) (after:Array Edge) (dst:Option Tmp) (g:Option (Nat×Bool)) {v c a b:Value}(hx:ev x=a) (hy:ev y=b)
  (rU:(∃ k n k' n',a=.int k n/\b=.int k' n')\/(∃ s s',a=.string s/\b=.string s')\/(∃ s s',a=.bool s/\b=.bool s'))
  (h:∀ w',(binOp op t a b).run P w'=.ok c w') (hc:VRel ρ U.n v c):Q2m P ρ U w v (execOp ev ⟨dst,.binOp op t x y yt,ty,pos,after,g⟩):=by
 refine QI (c:=c) (λw'=>?_) hc;have he:∀ w',(eqGuard op t x y a b).run P w'=.ok () w':=λw'=>by rcases rU with⟨k,n,k',n',rfl,rfl⟩|⟨s,s',rfl,rfl⟩|⟨s,s',rfl,rfl⟩<;>(unfold eqGuard;cases op<;>simp)
 simp only[execOp,hx,hy];simp[he,h]
theorem Ca {t:TypeId}(h:P.underlying t=some .bool) (a b:Bool) (d:Nat) (w:World):(Op.equalIn (d+1) t (.bool a) (.bool b)).run P w=.ok (a==b) w:=by simp only[Op.equalIn,zh,Q0 h,z9,x7]
theorem I1 {t:TypeId}(h:P.underlying t=some .bool) (a b:Bool) (w:World):(Op.equal t (.bool a) (.bool b)).run P w=.ok (a==b) w :=
 Ca h a b 9999 w
theorem VRel.q1f {n:Nat}{i o:Nat}{c:Value}(h:VRel ρ n (.pointer (some ⟨i,o,none⟩)) c):∃ a:Addr,c=.pointer (some a)/\i<n/\∀ p,ρ i=some p->a=⟨p.blk,p.shift+o,none⟩:=by
 cases h with
 |ptr _ _ a hi h=>exact⟨a,rfl,hi,h⟩
theorem VRel.q1a {n:Nat}{i o len cap:Nat}{c:Value}(h:VRel ρ n (.slice (some ⟨i,o,none⟩) len cap) c):∃ (a:Addr) (av:Nat),c=.slice (some a) len av/\i<n /\
  ∀ p,ρ i=some p->cap<=av/\(p.tight=true->av=cap)/\(av=0/\len=0\/∃ o',a=⟨p.blk,p.shift+o',none⟩/\o'+av*p.esz.sz<=p.ext/\(o'=o\/(len=0/\cap=0))):=by
 cases h with
 |sl _ _ _ _ a av hi h=>exact⟨a,av,rfl,hi,h⟩
theorem VRel.q2h {n:Nat}{i o len cap:Nat}{c:Value}(h:VRel ρ n (.slice (some ⟨i,o,some 0⟩) len cap) c):∃ a:Addr,c=.slice (some a) len cap/\i<n/\(∀ p,ρ i=some p->a=⟨p.blk,p.shift+o,none⟩/\o+cap*p.esz.sz<=p.ext)/\VRel ρ n (.slice (some ⟨i,o,none⟩) len cap) c:=by
 cases h with
 |slx _ _ _ _ a hi h=>exact⟨a,rfl,hi,h,.sl _ _ _ _ _ _ hi (by simp_all)⟩
theorem VRel.q1t {n:Nat}{a:Option Addr}{len cap:Nat}{c:Value}(h:VRel ρ n (.slice a len cap) c):∃ a' av,c=.slice a' len av:=by
 cases h with
 |sl _ _ _ _ a av hi h=>exact⟨_,av,rfl⟩
 |slx _ _ _ _ a hi h=>exact⟨_,_,rfl⟩
 |nilSl=>exact⟨_,_,rfl⟩
theorem VX {op:Option Operand}{d l:Nat}(hE:∀ x,K6 x=true->VRel ρ U.n (Q5 env x) (ev x)) (au:∀ x,op=some x->K6 x=true) (h:Wt (Q5 env) op d=some l) :
  (op=none/\l=d)\/∃ x k i,op=some x/\ev x=.int k i/\0<=i/\l=i.toNat:=by
 cases op with
 |none=>simp[Wt] at h;exact .inl ⟨rfl,h.symm⟩
 |some x =>
  have hr:=hE x (au x rfl);simp only[Wt] at h;split at h
  .rename_i k i heq;rw[heq] at hr;split at h
   .rename_i hi;simp at h;exact .inr ⟨x,k,i,rfl,hr.q0f,hi,h.symm⟩
   .cases h
  .cases h
theorem Jx (k:IntKind) (i:Int) (y:Nat) (code:BoundsCode) (h:0<=i) (h':i.toNat<=y) (w:World):(Instr.sliceBound (.int k i) y code).run P w=.ok i.toNat w:=by
 have:i<=y:=by omega
 simp[Instr.sliceBound,asIntOf,h,this]
theorem NV {lo hi:Option Operand}{isSlice:Bool}{n cap l h:Nat}(pO:(lo=none/\l=0)\/∃ x k i,lo=some x/\ev x=.int k i/\0<=i/\l=i.toNat)
  (kz:(hi=none/\h=n)\/∃ x k i,hi=some x/\ev x=.int k i/\0<=i/\h=i.toNat) (h1:l<=h) (h2:h<=cap) (w:World) :
  (Instr.sliceBounds isSlice n cap (lo.map ev) (hi.map ev) none).run P w=.ok (l,h,cap) w:=by
 rcases pO with⟨rfl,rfl⟩|⟨x,k,i,rfl,hx,o8,rfl⟩<;>rcases kz with⟨rfl,rfl⟩|⟨y,k',i',rfl,hy,iP,rfl⟩
 .simp[Instr.sliceBounds]
 .simp[Instr.sliceBounds,hy,Jx k' i' _ _ iP h2]
 .simp[Instr.sliceBounds,hx,Jx k i _ _ o8 h1]
 .simp[Instr.sliceBounds,hx,hy,Jx k i _ _ o8 h1,Jx k' i' _ _ iP h2]
set_option maxHeartbeats 1000000 in
theorem Q3z {o:Oper}{vo:VOp}(hc:Gf P o.op = some vo) (hq:vo.quiet = true) (hH:HRel ρ U w) (hE:∀ x, K6 x = true -> VRel ρ U.n (Q5 env x) (ev x))
    (h:Qb vo (Q5 env) U = some (v, U')):U' = U /\ Q2m P ρ U w v (execOp ev o):=by
  obtain ⟨dst, op, ty, pos, after, guard⟩:=o;simp only at hc;unfold Gf at hc;split at hc
  . cases hc
  rename_i au;simp only [xO, xg] at au;cases op <;> simp only [Op.operands] at au hc
  case move x =>
    have hx:=hE x (by simpa using au);simp at hc; subst hc;simp [Qb] at h;obtain ⟨rfl, rfl⟩:=h;exact ⟨rfl, QI (λw' => by simp [execOp]) hx⟩
  case assign x =>
    have hx:=hE x (by simpa using au);simp at hc; subst hc;simp [Qb] at h;obtain ⟨rfl, rfl⟩:=h;exact ⟨rfl, QI (λw' => by simp [execOp]) hx⟩
  case pick c a b =>
    simp at au;have hx:=hE c au.1;have ha:=hE a au.2.1;have hb:=hE b au.2.2;simp at hc; subst hc;simp only [Qb] at h;split at h
    . rename_i t heq
      rw [heq] at hx;simp at h;obtain ⟨h1, rfl⟩:=h;refine ⟨rfl, QI (c:=if t then ev a else ev b) (λw' => by simp [execOp, hx.q1c, asBool]) ?_⟩;rw [<- h1]; split <;> assumption
    . cases h
  case binOp iY t x y yt =>
    simp at au;have hx:=hE x au.1;have hy:=hE y au.2;split at hc
    .
      cases iY <;> simp at hc <;> subst hc <;> simp only [Qb] at h <;> split at h <;> first
        | (cases h; done)
        | (rename_i k a k' b h1 h2
           rw [h1] at hx; rw [h2] at hy;have ex:=hx.q0f;have ey:=hy.q0f;split at h
           . rename_i ak
             simp at h; obtain ⟨rfl, rfl⟩:=h;refine ⟨rfl, ?_⟩
             first
              | refine Ha _ t x y yt ty pos after dst guard ex ey (.inl ⟨_, _, _, _, rfl, rfl⟩) (λw' => ?_) (VRel.int _ _)
              | refine Ha _ t x y yt ty pos after dst guard ex ey (.inl ⟨_, _, _, _, rfl, rfl⟩) (λw' => ?_) (VRel.bool _)
             first
              | (obtain rfl:=ak; simp [binOp, Op.intArith, Iu]; done)
              | (obtain ⟨rfl, pP⟩:=ak; simp [binOp, Op.intDiv, Z60, pP]; done)
              | (obtain rfl:=ak; simp [binOp, Op.intBits, Qa]; done)
              | (obtain rfl:=ak; simp [binOp, Op.intCmp, J06]; done)
              | (simp [binOp, Op.shift, Iv, Int.not_lt.2 ak, Nat.min_def]; done)
           . cases h)
    .
      simp at hc; subst hc;simp only [Qb] at h;split at h
      . rename_i a b h1 h2
        rw [h1] at hx; rw [h2] at hy;have ex:=hx.q0o;have ey:=hy.q0o
        cases iY <;> simp only at h <;> first
          | (cases h; done)
          | (split at h
             . rename_i aH
               simp at h; obtain ⟨rfl, rfl⟩:=h;refine ⟨rfl, Ha _ t x y yt ty pos after dst guard ex ey (.inr (.inl ⟨_, _, rfl, rfl⟩)) (c:=.string (a ++ b)) (λw' => ?_) (VRel.string _)⟩;have:¬ (((a.size + b.size:Nat):Int) > IntKind.i64.max):=by
                 have:IntKind.i64.max = 9223372036854775807:=by decide
                 omega
               simp only [binOp, Op.stringOp, z0 this]; rfl
             . cases h)
          | (simp at h; obtain ⟨rfl, rfl⟩:=h
             exact ⟨rfl, Ha _ t x y yt ty pos after dst guard ex ey (.inr (.inl ⟨_, _, rfl, rfl⟩)) (λw' => by simp [binOp, Op.stringOp, ByteArray.toList_eq]) (VRel.bool _)⟩)
      . cases h
    .
      rename_i pQ
      cases iY <;> simp at hc <;> subst hc <;> simp only [Qb] at h <;> split at h <;> first
        | (cases h; done)
        | (rename_i a b h1 h2
           rw [h1] at hx; rw [h2] at hy;have ex:=hx.q1c;have ey:=hy.q1c;simp at h; obtain ⟨rfl, rfl⟩:=h;refine ⟨rfl, Ha _ t x y yt ty pos after dst guard ex ey (.inr (.inr ⟨_, _, rfl, rfl⟩)) (λw' => ?_) (VRel.bool _)⟩;simp [binOp, I1 pQ])
    . cases hc
  case unOp vK t x =>
    have hx:=hE x (by simpa using au);simp at hc; subst hc;simp only [Qb] at h
    split at h <;> first
      | (cases h; done)
      | (rename_i h1; rw [h1] at hx; simp at h; obtain ⟨rfl, rfl⟩:=h
         refine ⟨rfl, ?_⟩
         first
          | (have e:=hx.q1c; refine QI (λw' => ?_) (VRel.bool _); simp [execOp, e, Op.unary]; done)
          | (have e:=hx.q0f; refine QI (λw' => ?_) (VRel.int _ _); simp [execOp, e, Op.unary, Op.intArith]; done)
          | (have e:=hx.q0f; refine QI (λw' => ?_) (VRel.int _ _); simp [execOp, e, Op.unary, Op.intBits, Qa]; done))
  case convert s d x =>
    have hx:=hE x (by simpa using au);split at hc
    . rename_i k0 k hs hd
      simp at hc; subst hc;simp only [Qb] at h;split at h
      . rename_i h1; rw [h1] at hx; simp at h; obtain ⟨rfl, rfl⟩:=h
        exact ⟨rfl, QI (λw' => by simp [execOp, hx.q0f, convert, Q0 hs, Q0 hd, Conv.intToInt]) (VRel.int _ _)⟩
      . cases h
    . rename_i hs hd
      simp at hc; subst hc;simp only [Qb] at h;split at h
      . rename_i h1; rw [h1] at hx; simp at h; obtain ⟨rfl, rfl⟩:=h
        exact ⟨rfl, QI (λw' => by simp [execOp, hx.q0o, convert, Q0 hs, Q0 hd]) (VRel.string _)⟩
      . cases h
    . cases hc
  case alloc t =>
    cases hz:zeroOf P t <;> simp [hz] at hc;subst hc; cases hq
  case box t x => simp at hc; subst hc; cases hq
  case buildSlice t len parts =>
    split at hc
    . rename_i e _
      cases hz:zeroOf P e with
      | none => simp [hz] at hc
      | some z =>
        simp only [hz, zw, x9] at hc;split at hc
        . cases hc
        . simp at hc; subst hc; cases hq
    . cases hc
  case store t a x =>
    cases hi:P.info? t <;> simp [hi] at hc;subst hc; cases hq
  case makeSlice t l c =>
    split at hc
    . rename_i e _
      cases hi:P.info? e with
      | none => simp [hi] at hc
      | some ei =>
        cases hz:zeroOf P e with
        | none => simp [hi, hz] at hc
        | some z =>
          simp only [hi, hz, zw, x9] at hc;split at hc
          . cases hc
          . simp at hc; subst hc; cases hq
    . cases hc
  case load t a =>
    have ha:=hE a (by simpa using au);cases hi:P.info? t with
    | none => simp [hi] at hc
    | some ti =>
      cases hu:P.underlying t with
      | none => simp [hi, hu] at hc
      | some d =>
        simp [hi, hu] at hc; subst hc;simp only [Qb] at h;split at h
        . rename_i g o s h1
          rw [h1] at ha;split at h
          . rename_i c hb
            split at h
            . rename_i aj
              split at h
              . rename_i v0 hv
                simp at h; obtain ⟨rfl, rfl⟩:=h;obtain ⟨u, cF, hr⟩:=Q2v hH hi hu hb aj hv ha;exact ⟨rfl, u, cF, λw' hl => by simp [execOp, hr w' hl]⟩
              . cases h
            . cases h
          . cases h
        . rename_i i o h1
          rw [h1] at ha;split at h
          . rename_i c esz wr tight hb
            split at h
            . rename_i v0 hv
              simp at h; obtain ⟨rfl, rfl⟩:=h;obtain ⟨u, cF, hr⟩:=Q5h hH hi hu hb hv ha;exact ⟨rfl, u, cF, λw' hl => by simp [execOp, hr w' hl]⟩
            . cases h
          . cases h
        . cases h
  case fieldAddr t a f =>
    have ha:=hE a (by simpa using au);cases hf:Sr P t f with
    | none => simp [hf] at hc
    | some fd =>
      cases hi:P.info? fd.type with
      | none => simp [hf, hi] at hc
      | some fi =>
        simp only [hf, hi, zw, x9] at hc;split at hc
        . cases hc
        . rename_i aH
          simp at hc; subst hc;simp only [Qb] at h;split at h
          . rename_i i o h1
            rw [h1] at ha;simp at h; obtain ⟨rfl, rfl⟩:=h;unfold Sr at hf;split at hf
            . rename_i fs hu
              simp at aH;obtain ⟨ad, heq, aQ, aW⟩:=ha.q1f;cases hρ:ρ i with
              | none =>refine ⟨rfl, .pointer (some (ad.add fd.offset)), .ptr _ _ _ aQ (by simp_all), λw' _ => ?_⟩;simp [execOp, heq, Instr.fieldAt, Q0 hu, hf, Instr.sureAddr, fieldPlace, Qp hi, aH]
              | some p =>obtain rfl:=aW p hρ;refine ⟨rfl, .pointer (some ⟨p.blk, p.shift + (o + fd.offset), none⟩), .ptr _ _ _ aQ (by simp_all), λw' _ => ?_⟩;simp [execOp, heq, Instr.fieldAt, Q0 hu, hf, Instr.sureAddr, fieldPlace, Qp hi, aH, Ku, zo]
            . cases hf
          . cases h
  case field t x f =>
    have hx:=hE x (by simpa using au);cases hf:Sr P t f with
    | none => simp [hf] at hc
    | some fd =>
      cases hi:P.info? fd.type with
      | none => simp [hf, hi] at hc
      | some fi =>
        cases hu:P.underlying fd.type with
        | none => simp [hf, hi, hu] at hc
        | some d =>
          simp [hf, hi, hu] at hc; subst hc;simp only [Qb] at h;split at h
          . rename_i cs h1
            rw [h1] at hx;obtain ⟨ds, hds, hl⟩:=hx.q1i;split at h
            . rename_i v0 hv
              simp at h; obtain ⟨rfl, rfl⟩:=h;obtain ⟨u, cF, hr⟩:=Q61 hi hu hv hl;unfold Sr at hf;split at hf
              . rename_i fs pR
                exact ⟨rfl, u, cF, λw' _ => by simp [execOp, hds, Instr.field, Q0 pR, hf, asAgg, hr]⟩
              . cases hf
            . cases h
          . cases h
  case makeFunc fn first cap =>
    rw [Array.toList_append, List.all_append, z1] at au;cases fn <;> simp at hc;rename_i f;subst hc;simp only [Qb] at h;simp at h; obtain ⟨rfl, rfl⟩:=h;have h1:=Oz hE (l:=first.toList) au.1;have h2:=Oz hE (l:=cap.toList) au.2;refine ⟨rfl, QI (c:=.func (.func f) (first.map ev) (cap.map ev)) (λw' => by simp [execOp, Instr.makeFunc]) ?_⟩;refine .func _ _ _ _ _ (by simp) (by simp) (λi h3 h4 => ?_) (λi h3 h4 => ?_)
    . simp_all
    simp_all
  case build t parts =>
    cases hz:zeroOf P t with
    | none => simp [hz] at hc
    | some z =>
      obtain ⟨ti, zv, hi, dP, gv, _, iQ⟩:=VS hz;have aW:LRel ρ U.n z zv.cells.toList:=by rw [gv]; exact K0 iQ
      have kA:∀ q ∈ parts.toList, K6 q.2 = true:=(by grind);simp only [hz, zw, x9] at hc;split at hc
      . rename_i fs hu
        cases jC:fs.toList.mapM (λf => (P.info? f.type).map λi => (f.offset, i.size)) with
        | none => simp [jC] at hc
        | some places =>
          cases eA:parts.toList.mapM (λq => (places[q.1]?).map λos => (os.1, os.2, q.2)) with
          | none => simp [jC, eA] at hc
          | some ps =>
            simp [jC, eA] at hc; subst hc;simp only [Qb] at h;split at h
            . rename_i cs eB
              simp at h; obtain ⟨rfl, rfl⟩:=h;obtain ⟨eC, gH⟩:=V3 _ _ _ jC;obtain ⟨bZ, cX⟩:=V3 _ _ _ eA
              obtain ⟨bA, l4, jD⟩:=OH (ρ:=ρ) (n:=U.n) (λ(i:Nat) => places[i]?) _ ((parts.map λq => (q.1, ev q.2)).toList) z cs zv.cells (by simp [bZ])
                (by grind [Array.toList_map, Option.some.injEq, List.mem_of_getElem?]) eB aW
              refine ⟨rfl, .agg bA, by have:=VRel.q1l jD; simpa using this, λw' _ => ?_⟩;have aI:(fs.mapM λ(f:Field) => do pure (f.offset, <- sizeOf f.type)).run P w' = .ok places.toArray w':=by
                rw [Array.mapM_eq_mapM_toList];have o9:∀ f ∈ fs.toList, ((do pure (f.offset, <- sizeOf f.type):Sem (Nat × Nat))).run P w' = .ok (f.offset, ((P.info? f.type).map (·.size)).getD 0) w':=λf hf => by
                  obtain ⟨k, hk⟩:=List.getElem?_of_mem hf;obtain ⟨b, hb, ck⟩:=gH k f hk;cases kB:P.info? f.type with
                  | none => simp [kB] at ck
                  | some fi => simp [Qp kB]
                have:=Z1s (P:=P) _ _ w' fs.toList o9;simp only [Sem.run_map, this, z9];congr 2;apply zK;intro k;rw [xp];cases hk:fs.toList[k]? with
                | none =>
                  have:places.length <= k:=by simp_all
                  simp [zz this]
                | some f =>
                  obtain ⟨b, hb, ck⟩:=gH k f hk;cases kB:P.info? f.type with
                  | none => simp [kB] at ck
                  | some fi => simp [kB] at ck |-; rw [hb, <- ck]
              have gw:(λ(i:Nat) => places.toArray[i]?) = (λ(i:Nat) => places[i]?):=by funext i; simp
              simp only [execOp];simp only [Instr.build, zh, Jz hi dP, z9, Q0 hu, aI];simp_all
            . cases h
      . rename_i n e hu
        cases cz:P.info? e with
        | none => simp [cz] at hc
        | some ei =>
          simp [cz] at hc; subst hc;simp only [Qb] at h;split at h
          . rename_i cs eB
            simp at h; obtain ⟨rfl, rfl⟩:=h
            obtain ⟨bA, l4, jD⟩:=OH (ρ:=ρ) (n:=U.n) (λi => some (i * ei.size, ei.size)) _ ((parts.map λq => (q.1, ev q.2)).toList) z cs zv.cells (by simp)
              (by grind) eB aW
            refine ⟨rfl, .agg bA, by have:=VRel.q1l jD; simpa using this, λw' _ => ?_⟩;simp only [execOp];simp only [Instr.build, zh, Jz hi dP, z9, Q0 hu, Qp cz, l4];rfl
          . cases h
      . cases hc
  case index t x i =>
    simp at au;have hx:=hE x au.1;have hi:=hE i au.2;split at hc
    . rename_i hu
      simp at hc; subst hc;simp only [Qb] at h;split at h
      . rename_i s k n h1 h2
        rw [h1] at hx; rw [h2] at hi;split at h
        . rename_i hn
          split at h
          . rename_i b hb
            simp at h; obtain ⟨rfl, rfl⟩:=h;have ck:s[n.toNat]? = some b:=by rw [<- hb]; simp [getElem?_def]; split <;> rfl
            refine ⟨rfl, QI (λw' => ?_) (VRel.int _ _)⟩;simp [execOp, hx.q0o, hi.q0f, Instr.index, asIntOf, Q0 hu, hn, ck]
          . cases h
        . cases h
      . cases h
    . rename_i len e hu
      cases cz:P.info? e with
      | none => simp [cz] at hc
      | some ei =>
        cases iZ:P.underlying e with
        | none => simp [cz, iZ] at hc
        | some d =>
          simp [cz, iZ] at hc; subst hc;simp only [Qb] at h;split at h
          . rename_i cs k n h1 h2
            rw [h1] at hx; rw [h2] at hi;obtain ⟨ds, hds, hl⟩:=hx.q1i;split at h
            . rename_i hn
              split at h
              . rename_i v0 hv
                simp at h; obtain ⟨rfl, rfl⟩:=h;obtain ⟨u, cF, hr⟩:=Q61 cz iZ hv hl;refine ⟨rfl, u, cF, λw' _ => ?_⟩;simp [execOp, hds, hi.q0f, Instr.index, asIntOf, Q0 hu, hn, Qp cz, hr]
              . cases h
            . cases h
          . cases h
    . cases hc
  case indexAddr t x i =>
    simp at au;have hx:=hE x au.1;have hi:=hE i au.2;split at hc
    . rename_i e hu
      cases cz:P.info? e with
      | none => simp [cz] at hc
      | some ei =>
        simp [cz] at hc; subst hc;simp only [Qb] at h;split at h
        . rename_i b o n cap k j h1 h2
          rw [h1] at hx; rw [h2] at hi;split at h
          . rename_i hj
            simp at h; obtain ⟨rfl, rfl⟩:=h;obtain ⟨a, av, bc, aQ, aW⟩:=hx.q1a;refine ⟨rfl, .pointer (some (a.add (j.toNat * ei.size))), .ptr _ _ _ aQ (λp hp => ?_), λw' _ => ?_⟩
            . grind [Ku, Nat.add_assoc]
            . simp [execOp, bc, hi.q0f, Instr.indexAt, asIntOf, Q0 hu, hj, Qp cz]
          . cases h
        . cases h
    . rename_i len e hu
      cases cz:P.info? e with
      | none => simp [cz] at hc
      | some ei =>
        simp [cz] at hc; subst hc;simp only [Qb] at h;split at h
        . rename_i g o s k j h1 h2
          rw [h1] at hx; rw [h2] at hi;split at h
          . rename_i hj
            simp at h; obtain ⟨rfl, rfl⟩:=h;have bc:ev x = .pointer (some ⟨g, o, none⟩):=by generalize ev x = c at hx; cases hx; rfl
            refine ⟨rfl, .pointer (some ((⟨g, o, none⟩:Addr).add (j.toNat * ei.size))), by rw [Ku]; exact .glob _ _ _, λw' _ => ?_⟩;simp [execOp, bc, hi.q0f, Instr.indexAt, Instr.sureAddr, asIntOf, Q0 hu, hj, Qp cz]
          . cases h
        . rename_i b o k j h1 h2
          rw [h1] at hx; rw [h2] at hi;split at h
          . rename_i hj
            simp at h; obtain ⟨rfl, rfl⟩:=h;obtain ⟨a, bc, aQ, aW⟩:=hx.q1f;refine ⟨rfl, .pointer (some (a.add (j.toNat * ei.size))), .ptr _ _ _ aQ (λp hp => ?_), λw' _ => ?_⟩
            . grind [Ku, Nat.add_assoc]
            . simp [execOp, bc, hi.q0f, Instr.indexAt, Instr.sureAddr, asIntOf, Q0 hu, hj, Qp cz]
          . cases h
        . cases h
    . cases hc
  case slice t x lo hi mx =>
    have kC:K6 x = true:=by simp at au; exact au.1
    have f_:∀ y, lo = some y -> K6 y = true:=(by simp_all);have ga:∀ y, hi = some y -> K6 y = true:=λy hy => by subst hy; cases lo <;> simp at au <;> first | exact au.2.1 | exact au.2.2.1 | exact au.2.2 | exact au.2
    have hx:=hE x kC;split at hc
    . rename_i e hu
      cases cz:P.info? e with
      | none => simp [cz] at hc
      | some ei =>
        simp [cz] at hc; subst hc;cases mx with
        | some m => simp [VOp.quiet] at hq
        | none =>
          simp only [Qb] at h;split at h
          . rename_i a n cap h1
            rw [h1] at hx;split at h
            . rename_i l hh hl kz _
              have l5:=VX hE f_ hl;have l6:=VX hE ga kz;unfold VC at h;split at h
              . rename_i heq
                simp at heq; obtain ⟨rfl, rfl, rfl⟩:=heq;obtain ⟨_, _, bc⟩:=hx.q1j;split at h
                . rename_i ak
                  obtain ⟨rfl, rfl, _⟩:=ak;simp at h; obtain ⟨rfl, rfl⟩:=h;refine ⟨rfl, QI (λw' => ?_) VRel.nilSl⟩;have:=NV (P:=P) (isSlice:=true) (cap:=0) l5 l6 (z4 _) (z4 _) w';simp [execOp, bc, Instr.sliceAt, Instr.slice, Q0 hu, this, Qp cz]
                . cases h
              . rename_i i o n' i_ heq
                simp at heq; obtain ⟨rfl, rfl, rfl⟩:=heq;simp only at h;split at h
                . rename_i c esz wr tight hb
                  split at h
                  . rename_i ak
                    obtain ⟨mE, pS, tk⟩:=ak;simp at h; obtain ⟨rfl, rfl⟩:=h;obtain ⟨ad, av, bc, aQ, aW⟩:=hx.q1a;obtain ⟨p, hp, hB⟩:=hH.live i _ hb;have eY:=(aW p hp).1;have b6:=λw' => NV (P:=P) (isSlice:=true) (cap:=av) l5 l6 pS (zO tk eY) w';obtain ⟨-, o_, ⟨pa, mF⟩ | ⟨o', rfl, dR, ho⟩⟩:=aW p hp
                    . have bq:av = l:=by omega
                      refine ⟨rfl, .slice (some ad) (hh - l) (av - l), .sl _ _ _ _ _ _ aQ (λq hq => ⟨by omega, λ_ => by omega, .inl ⟨by omega, by omega⟩⟩), λw' _ => ?_⟩;simp only [execOp, bc, Instr.sliceAt, zh, Q0 hu, z9, Instr.slice, Option.map_none, b6, Qp cz];simp [bq]
                    have dS:p.esz.sz = ei.size:=by rw [hB.1]; exact mE
                    rw [dS] at dR;refine ⟨rfl, .slice (some (if av = l then ⟨p.blk, p.shift + o', none⟩ else ⟨p.blk, p.shift + (o' + l * ei.size), none⟩)) (hh - l) (av - l), .sl _ _ _ _ _ _ aQ (λq hq => ?_), λw' _ => ?_⟩
                    . obtain rfl:p = q:=osj (hp.symm.trans hq)
                      refine ⟨by omega, λht => by have:=o_ ht; omega, .inr ?_⟩;rw [dS];by_cases cm:av = l
                      . refine ⟨o', by rw [z2 cm], by rw [cm, wA]; omega, .inr (by omega)⟩
                      . refine ⟨o' + l * ei.size, by rw [z0 cm], ?_, ?_⟩
                        . have:av = l + (av - l):=by omega
                          rw [this, zE] at dR;omega
                        . rcases ho with rfl | ⟨h0, vL⟩
                          . exact .inl rfl
                          . exact .inr (by omega)
                    . simp only [execOp, bc, Instr.sliceAt, zh, Q0 hu, z9, Instr.slice, Option.map_none, b6, Qp cz]
                      by_cases cm:av = l
                      . simp [cm]
                      . simp [cm, Ku, zo]
                  . cases h
                . cases h
              . cases h
            . simp_all
            . cases h
          . cases h
    . rename_i hu
      split at hc
      . rename_i pT
        cases mx with
        | some m => simp at pT
        | none =>
          simp at hc; subst hc;simp only [Qb] at h;split at h
          . rename_i s h1
            rw [h1] at hx;split at h
            . rename_i l hh hl kz
              have l5:=VX hE f_ hl;have l6:=VX hE ga kz;split at h
              . rename_i ak
                simp at h; obtain ⟨rfl, rfl⟩:=h;refine ⟨rfl, QI (λw' => ?_) (VRel.string _)⟩;have:=NV (P:=P) (isSlice:=false) (cap:=s.size) l5 l6 ak.1 ak.2 w';simp [execOp, hx.q0o, Instr.sliceAt, Instr.slice, Q0 hu, this]
              . cases h
            . cases h
          . cases h
      . cases hc
    . cases hc
  case makeInterface t x =>
    have hx:=hE x (by simpa using au);cases hu:P.underlying t with
    | none => simp [hu] at hc
    | some d =>
      have tl:∀ ms, d ≠ .interface ms:=λms e => by subst e; simp [hu] at hc
      have dg:vo = .iface t x:=by simp_all
      subst dg;simp only [Qb] at h;split at h
      . cases h
      . simp at h; obtain ⟨rfl, rfl⟩:=h
        refine ⟨rfl, QI (λw' => ?_) (VRel.iface t _ _ hx)⟩;have:(Instr.makeInterface t (ev x)).run P w' = .ok (.iface t (ev x)) w':=by cases d <;> first | (exact absurd rfl (tl _)) | simp [Instr.makeInterface, Q0 hu]
        simp [execOp, this]
  case extract x i =>
    have hx:=hE x (by simpa using au);simp at hc; subst hc;simp only [Qb] at h;split at h
    . rename_i vs h1
      rw [h1] at hx;obtain ⟨ds, hds, hl⟩:=hx.q1k;split at h
      . rename_i v0 hv
        simp at h; obtain ⟨rfl, rfl⟩:=h;obtain ⟨u, hu, cF⟩:=hl.get hv;have dE:ds[i]? = some u:=by simpa using hu
        exact ⟨rfl, u, cF, λw' _ => by simp [execOp, hds, Instr.extract, dE]⟩
      . cases h
    . cases h
  case nilCheck x =>
    have hx:=hE x (by simpa using au);simp at hc; subst hc;simp only [Qb] at h;split at h
    . rename_i a h1
      rw [h1] at hx;simp at h; obtain ⟨rfl, rfl⟩:=h;have:∃ a', ev x = .pointer (some a'):=by generalize ev x = c at hx;cases hx <;> exact ⟨_, rfl⟩
      obtain ⟨a', jE⟩:=this;exact ⟨rfl, ev x, hx, λw' _ => by simp [execOp, jE]⟩
    . rename_i f first cap h1
      rw [h1] at hx;simp at h; obtain ⟨rfl, rfl⟩:=h;have:∃ g' c', ev x = .func (.func f) g' c':=by generalize ev x = c at hx;cases hx; exact ⟨_, _, rfl⟩
      obtain ⟨g', c', jE⟩:=this;exact ⟨rfl, ev x, hx, λw' _ => by simp [execOp, jE]⟩
    . cases h
  case call c =>
    split at hc
    . simp at hc; subst hc; simp [Qb] at h
    . simp at hc; subst hc; simp [Qb] at h
    . rename_i aK
      split at hc
      . rename_i t x ht aD
        have cG:c.args = #[x]:=by apply Array.ext'; simpa using aD
        have hx:=hE x (by simp [Call.operands, aK, cG] at au; exact au);split at hc
        . rename_i hu
          simp at hc; subst hc;simp only [Qb] at h;split at h
          . rename_i s h1
            rw [h1] at hx; simp at h; obtain ⟨rfl, rfl⟩:=h;refine ⟨rfl, QI (λw' => ?_) (VRel.int _ _)⟩;simp [execOp, resolve, aK, cG, invoke, builtin, Builtin.len_, ht, hx.q0o, Q0 hu, goInt]
          . cases h
        . rename_i e hu
          simp at hc; subst hc;simp only [Qb] at h;split at h
          . rename_i a n cap h1
            rw [h1] at hx; simp at h; obtain ⟨rfl, rfl⟩:=h;obtain ⟨a', av, bc⟩:=hx.q1t;refine ⟨rfl, QI (λw' => ?_) (VRel.int _ _)⟩;simp [execOp, resolve, aK, cG, invoke, builtin, Builtin.len_, ht, bc, Q0 hu, goInt]
          . cases h
        . cases hc
      . cases hc
    . rename_i aK
      split at hc
      . rename_i t u s x ht hu aD
        split at hc
        . rename_i e f _ _
          cases hi:P.info? e with
          | none => simp [hi] at hc
          | some ei =>
            cases hz:zeroOf P e with
            | none => simp [hi, hz] at hc
            | some z =>
              simp only [hi, hz, zw, x9] at hc;split at hc
              . cases hc
              . simp at hc; subst hc; cases hq
        . cases hc
      . cases hc
    . rename_i aK
      split at hc
      . rename_i x y aD
        have cG:c.args = #[x, y]:=by apply Array.ext'; simpa using aD
        simp [Call.operands, aK, cG] at au;have hx:=hE x au.1;have hy:=hE y au.2;simp at hc; subst hc;simp only [Qb] at h;split at h
        . rename_i k a k' b h1 h2
          rw [h1] at hx; rw [h2] at hy;split at h
          . simp at h; obtain ⟨rfl, rfl⟩:=h
            refine ⟨rfl, QI (λw' => ?_) (VRel.int _ _)⟩;simp [execOp, resolve, aK, cG, invoke, builtin, Builtin.max_, Builtin.max2, hx.q0f, hy.q0f]
          . cases h
        . cases h
      . rename_i x y z aD
        have cG:c.args = #[x, y, z]:=by apply Array.ext'; simpa using aD
        simp [Call.operands, aK, cG] at au;have hx:=hE x au.1;have hy:=hE y au.2.1;have hz:=hE z au.2.2;simp at hc; subst hc;simp only [Qb] at h;split at h
        . rename_i k a k2 b k3 c' k4 d h1 h2 h3 h4
          rw [h1] at hx; rw [h2] at hy; rw [h3] at hz;split at h
          . rename_i hk; obtain ⟨rfl, rfl, rfl⟩:=hk
            simp at h; obtain ⟨rfl, rfl⟩:=h;refine ⟨rfl, QI (λw' => ?_) (VRel.int _ _)⟩;have tm:=(Value.int.inj (h3.symm.trans h4)).2;subst tm;simp only [Q9h];simp [execOp, resolve, aK, cG, invoke, builtin, Builtin.max_, Builtin.max2, hx.q0f, hy.q0f, hz.q0f, Q8n]
          . cases h
        . cases h
      . rename_i x y z w aD
        have cG:c.args = #[x, y, z, w]:=by apply Array.ext'; simpa using aD
        simp [Call.operands, aK, cG] at au;have hx:=hE x au.1;have hy:=hE y au.2.1;have hz:=hE z au.2.2.1;have hw:=hE w au.2.2.2;simp at hc; subst hc;simp only [Qb] at h;split at h
        . rename_i k a k2 b k3 c' k4 d h1 h2 h3 h4
          rw [h1] at hx; rw [h2] at hy; rw [h3] at hz; rw [h4] at hw;split at h
          . rename_i hk; obtain ⟨rfl, rfl, rfl⟩:=hk
            simp at h; obtain ⟨rfl, rfl⟩:=h;refine ⟨rfl, QI (λw' => ?_) (VRel.int _ _)⟩;simp [execOp, resolve, aK, cG, invoke, builtin, Builtin.max_, Builtin.max2, hx.q0f, hy.q0f, hz.q0f, hw.q0f, Q8n]
          . cases h
        . cases h
      . cases hc
    . rename_i aK
      split at hc
      . rename_i x y aD
        have cG:c.args = #[x, y]:=by apply Array.ext'; simpa using aD
        simp [Call.operands, aK, cG] at au;have hx:=hE x au.1;have hy:=hE y au.2;simp at hc; subst hc;simp only [Qb] at h;split at h
        . rename_i k a k' b h1 h2
          rw [h1] at hx; rw [h2] at hy;split at h
          . simp at h; obtain ⟨rfl, rfl⟩:=h
            refine ⟨rfl, QI (λw' => ?_) (VRel.int _ _)⟩;simp [execOp, resolve, aK, cG, invoke, builtin, Builtin.min_, Builtin.min2, hx.q0f, hy.q0f]
          . cases h
        . cases h
      . cases hc
    . cases hc
  all_goals (first | (cases hc; done) | (split at hc <;> cases hc; done))
end
end Go.V
namespace Go.V
open Go
section
variable {P:Program}{ρ:Plc}{U U':Heap}{w:World}{ev:Operand->Value}{env:Env}{v:Value}
def Q0p (P:Program) (ρ:Plc) (U:Heap) (w:World) (v:Value) (U':Heap) (s:Sem Next):Prop :=
 ∃ c w' ρ',(s.run P w=.ok (.value c) w'\/(s.run P w=.ok .skip w'/\c=undef))/\VRel ρ' U'.n v c/\HRel ρ' U' w'/\Ext ρ U w ρ' U' w'
theorem Q1t (z:List Value) (hz:z≠[]):∀ n,(List.range (n*z.length)).map (λi=>z[i % z.length]!)=(List.replicate n z).flatten:=by
 intro n;have cT:0<z.length:=x4.2 hz;induction n with
 |zero=>simp
 |succ n ih =>
  rw[xn,List.flatten_cons,<-ih,Nat.succ_mul,xN,List.range_add,xi,x_];congr 1
  .apply zK
   grind [Nat.mod_eq_of_lt]
  .apply x8;intro i _;simp
theorem Gj (n:Nat) (z:List Value):Ct n z=(List.replicate n z).flatten:=by
 unfold Ct;split
 .simp_all
 .rfl
theorem Sz (zero:Array Value) (z:List Value) (h:zero.toList=z) (hz:z≠[]) (n:Nat):((Array.range (n*z.length)).map (λi=>zero[i % zero.size]!)).toList=Ct n z:=by
 rw[Gj,<-Q1t z hz n];subst h;simp
 grind
theorem Ev (n:Nat) (z:List Value):(Ct n z).length=n*z.length:=by rw[Gj];simp_all
theorem Q7y (n:Nat) (z:List Value) (h:z.all cellOk=true):(Ct n z).all cellOk=true:=by
 grind [Gj,List.all_eq_true,List.mem_flatten]
theorem SG (n:Nat) (z:List Value) (h:z.all J8=true):(Ct n z).all J8=true:=by rw[Gj,List.all_flatten];simp[List.all_replicate,h]
theorem Ce {lo:Option Operand}{yh ym:Operand}{n cap l h m:Nat}{kh km:IntKind}{ih im:Int}(pO:(lo=none/\l=0)\/∃ x k i,lo=some x/\ev x=.int k i/\0<=i/\l=i.toNat)
  (ja:ev yh=.int kh ih) (pb:0<=ih) (hh:h=ih.toNat) (jb:ev ym=.int km im) (pc:0<=im) (hm:m=im.toNat) (h1:l<=h) (h2:h<=m) (h3:m<=cap) (w:World) :
  (Instr.sliceBounds true n cap (lo.map ev) ((some yh).map ev) ((some ym).map ev)).run P w=.ok (l,h,m) w:=by
 subst hh;subst hm;rcases pO with⟨rfl,rfl⟩|⟨x,k,i,rfl,hx,o8,rfl⟩
 .simp[Instr.sliceBounds,ja,jb,Jx km im _ _ pc h3,Jx kh ih _ _ pb h2]
 .simp[Instr.sliceBounds,hx,ja,jb,Jx km im _ _ pc h3,Jx kh ih _ _ pb h2,Jx k i _ _ o8 h1]
theorem Q30 (hH:HRel ρ U w) {c:List Value}{C:Array Value}{esz:El}(hc:LRel ρ U.n c C.toList) {s:Sem Next}
  (hs:s.run P w=.ok (.value (.pointer (some ⟨w.heap.size,0,none⟩))) (w.alloc (.cells C esz.ty))) :
  Q0p P ρ U w (.pointer (some ⟨U.n,0,none⟩)) (U.push (.cells c esz true true)) s:=by
 have hl:c.length=C.size:=by have:=hc.1;simpa using this
 obtain⟨ρ',h1,h2,h3⟩:=hH.alloc c C esz.ty esz true rfl (by
  grind [Array.length_toList,List.take_length]) (by omega)
 refine⟨_,_,ρ',.inl hs,.ptr _ _ _ (by simp) (λp hp=>?_),h2,h3⟩;simp_all
theorem Ez (hH:HRel ρ U w) {c:List Value}{C:Array Value}{esz:El}{n cap:Nat}(hc:LRel ρ U.n c C.toList) (hn:cap*esz.sz<=C.size) {s:Sem Next}
  (hs:s.run P w=.ok (.value (.slice (some ⟨w.heap.size,0,none⟩) n cap)) (w.alloc (.cells C esz.ty))) :
  Q0p P ρ U w (.slice (some ⟨U.n,0,none⟩) n cap) (U.push (.cells c esz true true)) s:=by
 have hl:c.length=C.size:=by have:=hc.1;simpa using this
 obtain⟨ρ',h1,h2,h3⟩:=hH.alloc c C esz.ty esz true rfl (by
  grind [Array.length_toList,List.take_length]) (by omega)
 refine⟨_,_,ρ',.inl hs,.sl _ _ _ _ _ _ (by simp) (λp hp=>?_),h2,h3⟩;simp_all
theorem IE (hH:HRel ρ U w) {esz n cap:Nat}{a:Option Addr}{xs:List Value}{c:Value}(h:U.sl esz (.slice a n cap)=some xs) (hv:VRel ρ U.n (.slice a n cap) c) :
  xs.length=n*esz/\∃ us:List Value,LRel ρ U.n xs us/\(∃ a' av,c=.slice a' n av)/\∀ w',Like ρ w w'->(Builtin.firstCells esz n c).run P w'=.ok us.toArray w':=by
 unfold Heap.sl at h;split at h
 .rename_i heq;simp at heq;obtain⟨rfl,rfl,rfl⟩:=heq;simp at h;subst h;obtain⟨_,_,rfl⟩:=hv.q1j;exact⟨by simp,[],LRel.nil _ _,⟨_,_,rfl⟩,λw' _=>by simp[Builtin.firstCells]⟩
 .rename_i i o n' i_ heq;simp at heq;obtain⟨rfl,rfl,rfl⟩:=heq;split at h
  .rename_i c0 e wr tight hb;split at h
   .rename_i ak;obtain⟨mE,hlen⟩:=ak;simp at h;obtain⟨p,hp,_,_,_,_,h5,_⟩:=hH.live i _ hb;obtain⟨ad,av,rfl,aQ,aW⟩:=hv.q1a;have ft:xs.length=n*esz:=by rw[<-h];simp;omega
    obtain⟨_,_,⟨_,mF⟩|⟨o',rfl,_,ho⟩⟩:=aW p hp
    .subst mF;rw[Nat.zero_mul] at ft;obtain rfl:=x3.1 ft;refine⟨by simp,[],.nil _ _,⟨_,_,rfl⟩,λw' hl=>?_⟩;have:=run_loadCells_list (P:=P) w' ad [] (λj v hj=>by simp at hj);simp only[List.length_nil] at this;simp[Builtin.firstCells,this]
    refine⟨ft,?_⟩;have jF:n*esz=0\/o'=o:=by
     grind
    have hex:∀ k,k<n*esz->∃ u,w.cell? ⟨p.blk,p.shift+o'+k,none⟩=some u/\∀ v,xs[k]?=some v->VRel ρ U.n v u:=λk hk=>by
     have mG:o'=o:=jF.resolve_left (by omega);subst mG;obtain⟨u,hu,cF⟩:=h5 (o'+k) _ (z3 (by omega))
     grind
    let us:List Value:=(List.range (n*esz)).map λk=>(w.cell? ⟨p.blk,p.shift+o'+k,none⟩).getD undef;have mH:us.length=n*esz:=by simp[us]
    have eK:∀ k,k<n*esz->∀ u,w.cell? ⟨p.blk,p.shift+o'+k,none⟩=some u->us[k]?=some u:=λk hk u hu=>by simp[us,hk,hu]
    refine⟨us,⟨by omega,λk v u hk hu=>?_⟩,⟨_,_,rfl⟩,λw' hl=>?_⟩
    .grind
    .have cR:∀ j v,us[j]?=some v->w'.cell? ((⟨p.blk,p.shift+o',none⟩:Addr).add j)=some v:=λj v hj=>by
      have cS:j<n*esz:=by grind
      obtain⟨u',dE,_⟩:=hex j cS;rw[eK j cS u' dE] at hj;obtain rfl:=osj hj;rw[Ku,CJ hl hp];exact dE
     have:=run_loadCells_list (P:=P) w' ⟨p.blk,p.shift+o',none⟩ us cR;rw[mH] at this;simp[Builtin.firstCells,this]
   .cases h
  .cases h
 .cases h
theorem Q76 (fG bE:Nat) (h:bE<fG):Builtin.nextslicecap fG bE<=2*fG:=by
 unfold Builtin.nextslicecap;split
 .omega
 .split
  .omega
  .have key:∀ r c,c<=2*fG->256<=fG->Builtin.growBy fG r c<=2*fG:=by
    intro r;induction r with
    |zero=>intro c hc _;exact hc
    |succ r ih =>
     intro c hc h2;unfold Builtin.growBy;split
     .exact hc
     .exact ih _ (by omega) h2
   exact key 4 bE (by omega) (by omega)
theorem Q6o {n:Nat}{v c:Value}(h:cellOk v=true) (hv:VRel ρ n v c):c.oneCell'=true:=by cases hv<;>first|rfl|(simp[cellOk,poison] at h)
theorem Np {n:Nat}{vs cs:List Value}(h:vs.all cellOk=true) (hv:LRel ρ n vs cs):∀ c∈cs,c.oneCell'=true:=by
 intro c hc;obtain⟨k,hk⟩:=List.getElem?_of_mem hc;have cO:k<vs.length:=by have:=(zi.1 hk).1;have:=hv.1;omega
 exact Q6o (by simp_all) (hv.2 k _ _ (z3 cO) hk)
theorem YO {t u e f:TypeId}{ei:TypeInfo}(ht:P.underlying t=some (.slice e)) (hu:P.underlying u=some (.slice f)) (hi:P.info? e=some ei) (ty:TypeId) (base:Option Addr) (n cap m:Nat) (x:Value) (us:List Value)
  (hx:∃ a' av,x=.slice a' m av) (fv:(Builtin.firstCells ei.size m x).run P w=.ok us.toArray w) (aX:n+m<=cap) (w':World)
  (bn:(match base with|some a=>storeCells (a.add (n*ei.size)) us|none=>pure ()).run P w=.ok () w') :
  (Builtin.append_ #[t,u] ty #[.slice base n cap,x]).run P w=.ok (.slice base (n+m) cap) w':=by
 obtain⟨a',av,rfl⟩:=hx;unfold Builtin.append_;cases base with
 |none =>simp at bn;subst bn;simp[Q0 ht,Q0 hu,Qp hi,Builtin.lenOf,aX,fv]
 |some a =>simp at bn;simp[Q0 ht,Q0 hu,Qp hi,Builtin.lenOf,aX,fv,bn]
theorem Kg {t u e f:TypeId}{ei:TypeInfo}{zv:Value}(ht:P.underlying t=some (.slice e)) (hu:P.underlying u=some (.slice f)) (hi:P.info? e=some ei) (hz:ei.zero=some zv) (hb:ei.bytes≠0) (ty:TypeId) (base:Option Addr) (n cap m:Nat) (x:Value) (us os:List Value)
  (hx:∃ a' av,x=.slice a' m av) (fv:(Builtin.firstCells ei.size m x).run P w.drew=.ok us.toArray w.drew) (gU:(Builtin.firstCells ei.size n (.slice base n cap)).run P w.drew=.ok os.toArray w.drew)
  (aX:¬ n+m<=cap) (aH:(n+m)*ei.bytes<=2 ^ 46) :
  ∃ aZ,n+m<=aZ/\(Builtin.append_ #[t,u] ty #[.slice base n cap,x]).run P w =
   .ok (.slice (some ⟨w.heap.size,0,none⟩) (n+m) aZ) (w.drew.alloc (.cells ((os++us).toArray++Builtin.zeroCells zv.cells (aZ-(n+m))) e)):=by
 obtain⟨a',av,rfl⟩:=hx;refine⟨(Question.appendCap (n+m) cap e).cut (w.tape w.drawn (.appendCap (n+m) cap e)),by simp[Question.cut],?_⟩;have h1:¬ (2 ^ 48<Builtin.nextslicecap (n+m) cap*ei.bytes):=by have:=Q76 (n+m) cap (by omega);have h2:Builtin.nextslicecap (n+m) cap*ei.bytes<=2*(n+m)*ei.bytes:=zk _ this;rw[Nat.mul_assoc] at h2;omega
 have mI:∀ w:World,(typeInfo e).run P w=.ok ei w:=λw=>run_typeInfo w hi;have dP:∀ w:World,(zeroValue e).run P w=.ok zv w:=λw=>Jz hi hz w;unfold Builtin.append_;simp[Q0 ht,Q0 hu,Qp hi,Builtin.lenOf,aX,mI,hb,h1,Question.forced,gU,fv,dP,newRow];congr 2;apply Array.ext';simp
theorem KN (_hH:HRel ρ U w) (_hE:Ext ρ U w ρ U w) {σ1:Heap}{ρ1:Plc}(iR:HRel ρ1 σ1 w) (fw:Ext ρ U w ρ1 σ1 w) (fx:σ1.n=U.n) {bE xs os us:List Value}{zs:Array Value}{esz:El}{n aZ:Nat}
  (ho:LRel ρ U.n bE os) (hx:LRel ρ U.n xs us) (hlen:bE.length+xs.length=n*esz.sz) (eL:zs.size=(aZ-n)*esz.sz) (gx:n<=aZ) {s:Sem Next}
  (hs:s.run P w=.ok (.value (.slice (some ⟨w.heap.size,0,none⟩) n aZ)) (w.drew.alloc (.cells ((os++us).toArray++zs) esz.ty))) :
  Q0p P ρ U w (.slice (some ⟨U.n,0,none⟩) n n) (σ1.push (.cells (bE++xs) esz true false)) s:=by
 have hl:(bE++xs).length=(os++us).length:=by simp[ho.1,hx.1]
 have aG:LRel ρ1 σ1.n (bE++xs) (((os++us).toArray++zs).toList.take (bE++xs).length):=by
  have h1:((os++us).toArray++zs).toList.take (bE++xs).length=os++us:=by
   grind
  rw[h1];exact(ho.append hx).mono fw.n fw.pl
 have aH:((os++us).toArray++zs).size=n*esz.sz+(aZ-n)*esz.sz:=by simp_all
 have cm:(bE++xs).length<=((os++us).toArray++zs).size:=by rw[aH,zn];omega
 obtain⟨ρ',h1,h2,h3⟩:=(iR.drew).alloc (bE++xs) ((os++us).toArray++zs) esz.ty esz false rfl aG cm;have hh:w.drew.heap.size=w.heap.size:=rfl;rw[fx] at h1;refine⟨_,_,ρ',.inl hs,.sl _ _ _ _ _ _ (by simp[fx]) (λp hp=>?_),h2,(fw.trans (Ext.drew ρ1 σ1 w)).trans h3⟩;rw[h1] at hp;obtain rfl:=osj hp;refine⟨gx,⟨λh=>(by cases h),.inr ⟨0,rfl,?_,Or.inl rfl⟩⟩⟩;show 0+aZ*esz.sz<=((os++us).toArray++zs).size;rw[aH,<-zE];simp_all
theorem Q1c (hH:HRel ρ U w) {t u e f:TypeId}{ei:TypeInfo}{zv:Value}{z:List Value}(ht:P.underlying t=some (.slice e)) (hu:P.underlying u=some (.slice f)) (hi:P.info? e=some ei) (hz:ei.zero=some zv) (gv:zv.cells.toList=z) (eL:z.length=ei.size) (hb:ei.bytes≠0) (ty:TypeId)
  {s:Value}{a:Option Addr}{m kD:Nat}{xs:List Value}{cs cx:Value}(hs:VRel ρ U.n s cs) (hx:VRel ρ U.n (.slice a m kD) cx) (bj:U.sl z.length (.slice a m kD)=some xs) (au:xs.all cellOk=true)
  (h:UE ⟨z.length,e⟩ ei.bytes U s m xs=some (v,U')) {pU:Sem Next}(aV:∀ r w',(Builtin.append_ #[t,u] ty #[cs,cx]).run P w=.ok r w'->pU.run P w=.ok (.value r) w'):Q0p P ρ U w v U' pU:=by
 obtain⟨ft,us,ff,dT,fv⟩:=IE (P:=P) hH bj hx;rw[eL] at fv ft;have hL:=Like.refl ρ w;have jc:Like ρ w w.drew:=⟨z4 _,λ_ _ _=>rfl,λ_ _ _=>rfl⟩;have mH:us.length=m*ei.size:=by have:=ff.1;omega
 have hzero:∀ k,(Builtin.zeroCells zv.cells k).size=k*z.length:=(by grind [size_zeroCells]);unfold UE at h;split at h
 .
  obtain⟨_,_,rfl⟩:=hs.q1j;split at h
  .rename_i eM;subst eM;simp at h;obtain⟨rfl,rfl⟩:=h;have:us=[]:=x3.1 (by omega);subst this;have hr:=YO (w:=w) ht hu hi ty none 0 0 0 cx [] dT (fv w hL) (z4 _) w rfl;exact⟨_,w,ρ,.inl (aV _ _ hr),VRel.nilSl,hH,Ext.refl _ _ _⟩
  .rename_i eM;split at h
   .rename_i aH;simp at h;obtain⟨rfl,rfl⟩:=h;obtain⟨aZ,gx,hr⟩:=Kg (w:=w) ht hu hi hz hb ty none 0 0 m cx us [] dT (fv _ jc) (by simp[Builtin.firstCells]) (by omega) (by simpa using aH);simp only[zY,xF] at hr gx;have:=KN (P:=P) hH (Ext.refl _ _ _) hH (Ext.refl _ _ _) rfl (LRel.nil ρ U.n) ff (by simp;rw[ft,<-eL]) (esz:=⟨z.length,e⟩) (n:=m) (hzero (aZ-m)) gx (s:=pU) (by simpa using aV _ _ hr);simpa using this
   .cases h
 .
  rename_i i o n cap;obtain⟨ad,av,rfl,aQ,aW⟩:=hs.q1a;split at h
  .rename_i c e' wr tight aE;obtain⟨p,hp,hB⟩:=hH.live i _ aE;obtain⟨eY,o_,⟨pa,mF⟩|⟨o',rfl,dR,gV⟩⟩:=aW p hp
   .
    obtain rfl:cap=0:=by omega
    subst pa mF;split at h
    .rename_i ak;obtain⟨rfl,jG,fH⟩:=ak;dsimp only at fH h;split at h
     .rename_i eM;subst eM;simp at h;obtain⟨rfl,rfl⟩:=h;have:us=[]:=x3.1 (by omega);subst this;have hr:=YO (w:=w) ht hu hi ty (some ad) 0 0 0 cx [] dT (fv w hL) (z4 _) w rfl;exact⟨_,w,ρ,.inl (aV _ _ hr),hs,hH,Ext.refl _ _ _⟩
     .rename_i eM;split at h
      .omega
      .split at h
       .rename_i aH;have fy:U.sl z.length (.slice (some ⟨i,o,none⟩) 0 0)=some ((c.drop o).take (0*z.length)):=by
         have:o<=c.length:=by omega
         simp[Heap.sl,aE,this]
        obtain⟨_,os,jd,_,gU⟩:=IE (P:=P) hH fy hs;rw[eL] at gU;have hlen:((c.drop o).take (0*z.length)).length+xs.length=(0+m)*z.length:=by rw[ft,eL];simp
        obtain⟨aZ,gx,hr⟩:=Kg (w:=w) ht hu hi hz hb ty (some ad) 0 0 m cx us os dT (fv _ jc) (gU _ jc) (by omega) aH;split at h
        .grind [Prod.mk.inj,osj,KN,Ext.refl]
        .split at h
         .obtain⟨rfl,rfl⟩:=Prod.mk.inj (osj h);obtain⟨bz,aB⟩:=hH.kill i;exact KN hH (Ext.refl _ _ _) bz aB rfl jd ff hlen (hzero _) gx (aV _ _ hr)
         .cases h
       .cases h
    .cases h
   have dS:p.esz=e':=hB.1;split at h
   .rename_i ak;obtain⟨rfl,jG,fH⟩:=ak;rw[dS] at dR;dsimp only at dR fH h;split at h
    .
     rename_i eM;subst eM;simp at h;obtain⟨rfl,rfl⟩:=h;have:us=[]:=x3.1 (by omega);subst this;have hr:=YO (w:=w) ht hu hi ty (some ⟨p.blk,p.shift+o',none⟩) n av 0 cx [] dT (fv w hL) (by omega) w rfl;exact⟨_,w,ρ,.inl (aV _ _ hr),hs,hH,Ext.refl _ _ _⟩
    .rename_i eM;split at h
     .
      rename_i aX;split at h
      .rename_i hw;obtain⟨rfl,dU⟩:=hw;simp at h;obtain⟨rfl,rfl⟩:=h;have jF:o'=o:=by
        omega
       subst jF;have hmul:(n+m)*z.length=n*z.length+m*z.length:=zE _ _ _;have tn:m*ei.size=m*z.length:=by rw[eL]
       obtain⟨h2,h3⟩:=hH.store hp aE ff (o:=o'+n*z.length) (by omega)
       have bn:=run_storeCells_cells (P:=P) p.blk (p.shift+o'+n*z.length) us 0 w
        (λj hj=>by rw[zR,zo,zo];exact hB.q0q _ (by have:=hB.2.2.1;omega))
        (λj hj=>by rw[zR,zo,zo];exact(hB.2.2.2.2.2 rfl).2 _ (by have:=hB.2.2.1;omega))
        (Np au ff)
       have hr:=YO (w:=w) ht hu hi ty (some ⟨p.blk,p.shift+o',none⟩) n av m cx us dT (fv w hL) (by omega) _ (by
        simp only[Ku,<-eL];exact bn)
       refine⟨_,_,ρ,.inl (aV _ _ hr),.sl _ _ _ _ _ _ aQ (λq hq=>?_),by rw[zR,zo];exact h2,by grind⟩;simp_all
      .cases h
     .rename_i aX;split at h
      .rename_i aH;have hold:∀ k v,((c.drop o).take (n*z.length))[k]?=some v->∃ u,w.cell? ⟨p.blk,p.shift+o'+k,none⟩=some u/\VRel ρ U.n v u:=λk v hk=>by
        rw[xw] at hk;split at hk
        .rename_i cO;rw[zN] at hk;have jF:o'=o:=by
          grind
         subst jF;obtain⟨u,hu,cF⟩:=hB.2.2.2.2.1 _ v hk
         grind
        .cases hk
       have eD:((c.drop o).take (n*z.length)).length=n*z.length:=by simp;omega
       have fy:U.sl z.length (.slice (some ⟨i,o,none⟩) n cap)=some ((c.drop o).take (n*z.length)):=by simp[Heap.sl,aE,fH]
       obtain⟨_,os,jd,_,gU⟩:=IE (P:=P) hH fy hs;rw[eL] at gU;have hlen:((c.drop o).take (n*z.length)).length+xs.length=(n+m)*z.length:=by rw[eD,ft,zE,eL]
       split at h
       .
        rename_i fI;simp at h;obtain⟨rfl,rfl⟩:=h;have pV:av=cap:=o_ (by rw[hB.2.1];exact fI);subst pV;obtain⟨aZ,gx,hr⟩:=Kg (w:=w) ht hu hi hz hb ty (some ⟨p.blk,p.shift+o',none⟩) n av m cx us os dT (fv _ jc) (gU _ jc) aX aH
        grind [KN,Ext.refl]
       .rename_i fI;have tq:tight=false:=by simpa using fI
        subst tq;split at h
        .rename_i gG;subst gG;simp at h;obtain⟨rfl,rfl⟩:=h;by_cases fJ:n+m<=av
         .
          have hmul:av*z.length=(n+m)*z.length+(av-(n+m))*z.length:=by rw[<-zE];congr 1;omega
          have rV:(n+m)*z.length=n*z.length+m*z.length:=zE _ _ _;have tn:m*ei.size=m*z.length:=by rw[eL]
          obtain⟨ρ',h1,h2,h3⟩:=hH.onto hp aE o' hold ff (by rw[eD];omega)
          have bn:=run_storeCells_cells (P:=P) p.blk (p.shift+o'+n*z.length) us 0 w
           (λj hj=>by rw[zR,zo,zo];exact hB.q0q _ (by omega))
           (λj hj=>by rw[zR,zo,zo];exact(hB.2.2.2.2.2 rfl).2 _ (by omega))
           (Np au ff)
          have hr:=YO (w:=w) ht hu hi ty (some ⟨p.blk,p.shift+o',none⟩) n av m cx us dT (fv w hL) fJ _ (by
           simp only[Ku,<-eL];exact bn)
          refine⟨_,_,ρ',.inl (aV _ _ hr),.sl _ _ _ _ _ _ (by simp) (λq hq=>?_),by rw[zR];rw[eD] at h2;exact h2,by rw[zR];rw[eD] at h3;exact h3⟩;rw[h1] at hq;obtain rfl:=osj hq;refine⟨fJ,⟨λh=>(by cases h),.inr ⟨0,rfl,?_,Or.inl rfl⟩⟩⟩
          grind
         .obtain⟨aZ,gx,hr⟩:=Kg (w:=w) ht hu hi hz hb ty (some ⟨p.blk,p.shift+o',none⟩) n av m cx us os dT (fv _ jc) (gU _ jc) fJ aH;obtain⟨bz,aB⟩:=hH.kill i;exact KN hH (Ext.refl _ _ _) bz aB rfl jd ff hlen (hzero _) gx (aV _ _ hr)
        .cases h
      .cases h
   .cases h
  .cases h
 .
  rename_i i o n cap;obtain⟨ad,rfl,aQ,aW,bG⟩:=hs.q2h;split at h
  .rename_i c e' wr tight aE;obtain⟨p,hp,hB⟩:=hH.live i _ aE;obtain⟨rfl,dR⟩:=aW p hp;have dS:p.esz=e':=hB.1;split at h
   .rename_i ak;obtain⟨rfl,jG,fH,eM,aH⟩:=ak;rw[dS] at dR;dsimp only at dR fH h;simp at h;obtain⟨rfl,rfl⟩:=h;have eD:((c.drop o).take (n*z.length)).length=n*z.length:=by simp;omega
    have fy:U.sl z.length (.slice (some ⟨i,o,none⟩) n cap)=some ((c.drop o).take (n*z.length)):=by simp[Heap.sl,aE,fH]
    obtain⟨_,os,jd,_,gU⟩:=IE (P:=P) hH fy bG;rw[eL] at gU;have hlen:((c.drop o).take (n*z.length)).length+xs.length=(n+m)*z.length:=by rw[eD,ft,zE,eL]
    obtain⟨aZ,gx,hr⟩:=Kg (w:=w) ht hu hi hz hb ty (some ⟨p.blk,p.shift+o,none⟩) n cap m cx us os dT (fv _ jc) (gU _ jc) (by omega) aH
    grind [KN,Ext.refl]
   .cases h
  .cases h
 .cases h
set_option maxHeartbeats 1000000 in
theorem Q72 {o:Oper}{vo:VOp}(hc:Gf P o.op=some vo) (hq:vo.quiet=false) (hH:HRel ρ U w) (hE:∀ x,K6 x=true->VRel ρ U.n (Q5 env x) (ev x))
  (h:Qb vo (Q5 env) U=some (v,U')):Q0p P ρ U w v U' (execOp ev o):=by
 obtain⟨dst,op,ty,pos,after,guard⟩:=o;simp only at hc;unfold Gf at hc;split at hc
 .cases hc
 rename_i au;simp only[xO,xg] at au;cases op<;>simp only[Op.operands] at au hc
 case alloc t =>
  cases hz:zeroOf P t with
  |none=>simp[hz] at hc
  |some z =>simp[hz] at hc;subst hc;obtain⟨ti,zv,hi,dP,gv,_,iQ⟩:=VS hz;simp[Qb] at h;obtain⟨rfl,rfl⟩:=h;refine Q30 hH (C:=zv.cells) (esz:=⟨z.length,t⟩) (by rw[gv];exact K0 iQ) ?_;simp[execOp,Instr.alloc,Jz hi dP,newVar,newRow]
 case box t x =>
  have hx:=hE x (by simpa using au);simp at hc;subst hc;simp only[Qb] at h;split at h
  .rename_i vs cq;simp at h;obtain⟨rfl,rfl⟩:=h;refine Q30 hH (C:=(ev x).cells) (esz:=⟨vs.length,t⟩) (SA cq hx) ?_;simp[execOp,Instr.box,newVar,newRow]
  .cases h
 case buildSlice t len parts =>
  split at hc
  .rename_i e hu;cases hz:zeroOf P e with
   |none=>simp[hz] at hc
   |some z =>
    obtain⟨ti,zv,hi,dP,gv,eL,iQ⟩:=VS hz;simp only[hz,zw,x9] at hc;split at hc
    .cases hc
    .rename_i ak;simp at ak;obtain⟨gI,hlen⟩:=ak;simp at hc;subst hc;simp only[Qb] at h;split at h
     .rename_i cs eB;simp at h;obtain⟨rfl,rfl⟩:=h;have kA:∀ q∈parts.toList,K6 q.2=true:=(by grind);have kE:=Sz zv.cells z gv gI len
      obtain⟨bA,l4,jD⟩:=OH (ρ:=ρ) (n:=U.n) (λi=>some (i*z.length,z.length)) _ ((parts.map λq=>(q.1,ev q.2)).toList) (Ct len z) cs ((Array.range (len*z.length)).map (λi=>zv.cells[i % zv.cells.size]!)) (by simp)
       (by grind) eB (by rw[kE];exact K0 (SG _ _ iQ))
      have cm:cs.length=len*z.length:=by
       have h1:∀ (l:List (Nat×Nat×Value)) (c c':List Value),BB c l=some c'->c'.length=c.length:=by
        intro l;induction l with
        |nil=>intro c c' h;simp[BB] at h;rw[h]
        |cons a r ih =>
         intro c c' h;obtain⟨o1,s1,v1⟩:=a;simp only[BB] at h;split at h
         .grind [VV]
         .cases h
       rw[h1 _ _ _ eB,Ev]
      refine Ez hH (C:=bA) (esz:=⟨z.length,e⟩) jD (by have:=jD.1;simp_all) ?_;have hle:¬ (len*ti.size > 2 ^ 24):=by
       grind
      have pW:Instr.fill (λi=>some (i*ti.size,ti.size)) ((Array.range (len*ti.size)).map (λi=>zv.cells[i % zv.cells.size]!)) (parts.map λq=>(q.1,ev q.2)).toList=some bA:=by rw[<-eL];exact l4
      by_cases bq:len*ti.size=0
      .have jH:∀ f:Nat->Value,(Array.range 0).map f=#[]:=λf=>by simp
       simp only[execOp];simp only[Instr.buildSlice,zh,Q0 hu,z9,Qp hi,bq,zq,x7];rw[bq,jH] at pW;simp only[jH,pW];simp[newRow]
      .simp only[execOp];simp only[Instr.buildSlice,zh,Q0 hu,z9,Qp hi,z0 hle,z0 bq,Jz hi dP,x7,pW];simp[newRow]
     .cases h
  .cases hc
 case store t a x =>
  simp at au;have ha:=hE a au.1;have hx:=hE x au.2;cases hi:P.info? t with
  |none=>simp[hi] at hc
  |some ti =>
   simp[hi] at hc;subst hc;simp only[Qb] at h;split at h
   .rename_i i o vs h1 cq;rw[h1] at ha;split at h
    .rename_i c e wr tight hb;split at h
     .rename_i ak;obtain⟨rfl,mJ,je,gW⟩:=ak;simp at h;obtain⟨rfl,rfl⟩:=h;obtain⟨p,hp,hB⟩:=hH.live i _ hb;obtain⟨_,aQ,tv⟩:=ha.q0u hp;have hl:=SA cq hx;have aC:(ev x).cells.size=ti.size:=by have:=hl.1;simp at this;omega
      obtain⟨h2,h3⟩:=hH.store hp hb hl (o:=o) (by omega);refine⟨undef,_,ρ,.inr ⟨?_,rfl⟩,Ye,h2,h3⟩
      have hr:=run_storeCells_cells (P:=P) p.blk (p.shift+o) (ev x).cells.toList 0 w
       (λj hj=>by rw[zR,zo];exact hB.q0q _ (by have:=hB.2.2.1;simp at hj;omega))
       (λj hj=>by rw[zR,zo];exact(hB.2.2.2.2.2 rfl).2 _ (by have:=hB.2.2.1;simp at hj;omega))
       (Np gW hl)
      simp only[execOp];simp only[Instr.storeAt,tv,Instr.sureAddr,zh,x7,z9,storeVar,Qp hi];simp_all
     .cases h
    .cases h
   .cases h
 case makeSlice t l c =>
  simp at au;have hl:=hE l au.1;have eY:=hE c au.2;split at hc
  .rename_i e hu;cases hi:P.info? e with
   |none=>simp[hi] at hc
   |some ei =>
    cases hz:zeroOf P e with
    |none=>simp[hi,hz] at hc
    |some z =>
     obtain⟨ti,zv,cY,dP,gv,eL,iQ⟩:=VS hz;obtain rfl:ei=ti:=osj (hi.symm.trans cY);simp only[hi,hz,zw,x9] at hc;split at hc
     .cases hc
     .rename_i gI;simp at gI;simp at hc;subst hc;simp only[Qb] at h;split at h
      .rename_i k a k' b h1 h2;rw[h1] at hl;rw[h2] at eY;split at h
       .rename_i ak;obtain⟨vM,rU,pg,bN⟩:=ak;simp at h;obtain⟨rfl,rfl⟩:=h;have kE:=Sz zv.cells z gv gI b.toNat;have vN:(2:Int) ^ 46=70368744177664:=by decide
        have vO:(2:Int) ^ 48=281474976710656:=by decide
        have tw:IntKind.i64.wrap a=a:=IntWalk.i64_in _ (by omega);have tx:IntKind.i64.wrap b=b:=IntWalk.i64_in _ (by omega);refine Ez hH (C:=(Array.range (b.toNat*z.length)).map (λi=>zv.cells[i % zv.cells.size]!)) (esz:=⟨z.length,e⟩) (by rw[kE];exact K0 (SG _ _ iQ)) (by simp) ?_;have tz:((ei.bytes:Int)*b > 2 ^ 48)=False:=by
         grind
        have pX:(b<0)=False:=by rw[eq_iff_iff,iff_false];omega
        have mK:(a<0)=False:=by rw[eq_iff_iff,iff_false];omega
        have rW:(a > b)=False:=by rw[eq_iff_iff,iff_false];omega
        simp only[execOp];simp only[Instr.makeSlice,zh,Q0 hu,z9,hl.q0f,eY.q0f,asInt,asIntOf,x7,run_typeInfo w hi,tw,tx,tz,pX,mK,rW];simp only[decide_false,xy,Bool.false_or,zj,if_false,run_askRoom,zh,z9,Qp hi];rw[<-eL];by_cases bq:b.toNat*z.length=0
        .have jH:∀ f:Nat->Value,(Array.range 0).map f=#[]:=λf=>by simp
         simp only[bq,zq,jH];simp[newRow]
        .simp only[bq,if_false,Jz hi dP,zh,x7,z9];simp[newRow]
       .cases h
      .cases h
  .cases hc
 case slice t x lo hi mx =>
  have kC:K6 x=true:=by simp at au;exact au.1
  have f_:∀ y,lo=some y->K6 y=true:=(by simp_all);have ga:∀ y,hi=some y->K6 y=true:=(by simp_all);have pY:∀ y,mx=some y->K6 y=true:=(by simp_all);have hx:=hE x kC;split at hc
  .rename_i e hu;cases cz:P.info? e with
   |none=>simp[cz] at hc
   |some ei =>
    simp[cz] at hc;subst hc;cases mx with
    |none=>simp[VOp.quiet] at hq
    |some mo =>
     simp only[Qb] at h;split at h
     .rename_i a n cap h1;rw[h1] at hx;split at h
      .simp_all
      .rename_i l hh vP hl kz tA;split at h
       .rename_i m ho hm;have l5:=VX hE f_ hl;have l6:=VX hE ga kz;have tB:=VX hE pY hm;obtain⟨ym,km,im,tC,jb,pc,l7⟩:=tB.resolve_left (λhh=>by cases hh.1);obtain rfl:=osj tC;obtain⟨yh,kh,ih,tD,ja,pb,pZ⟩:=l6.resolve_left (λhh=>by cases hh.1);obtain rfl:=osj tD;have mL:=λ(av:Nat) (h1:l<=hh) (h2:hh<=m) (h3:m<=av) w'=>Ce (P:=P) (n:=n) (cap:=av) l5 ja pb pZ jb pc l7 h1 h2 h3 w';unfold VC at h;split at h
        .rename_i heq;simp at heq;obtain⟨rfl,rfl,rfl⟩:=heq;obtain⟨_,_,bc⟩:=hx.q1j;split at h
         .rename_i ak;obtain⟨rfl,rfl,eM⟩:=ak;simp at eM;simp at h;obtain⟨rfl,rfl⟩:=h;subst eM;refine⟨.slice none 0 0,w,ρ,.inl ?_,VRel.nilSl,hH,Ext.refl _ _ _⟩;have:=mL 0 (z4 _) (z4 _) (z4 _) w;simp only[xS] at this;simp[execOp,bc,Instr.sliceAt,Instr.slice,Q0 hu,this,Qp cz]
         .cases h
        .rename_i i o n' i_ heq;simp at heq;obtain⟨rfl,rfl,rfl⟩:=heq;simp only at h;split at h
         .rename_i c esz wr tight hb;split at h
          .rename_i ak;obtain⟨mE,pS,tE,eZ⟩:=ak;obtain⟨ad,av,bc,aQ,aW⟩:=hx.q1a;obtain⟨p,hp,hB⟩:=hH.live i _ hb;have eY:=(aW p hp).1;have b6:=mL av pS tE (zO eZ eY) w;simp only[xS] at b6;obtain⟨-,o_,⟨pa,mF⟩|⟨o',rfl,dR,gV⟩⟩:=aW p hp
           .split at h
            .rename_i fK;subst fK;simp at h;obtain⟨rfl,rfl⟩:=h;have p6:hh=m:=by omega
             subst p6;have gw:∀ j,j<U.n->∀ q,(ρ.put U.n (some ⟨p.blk,p.shift,0,esz,true⟩)) j=some q->ρ j=some q:=λj hj q hq=>by unfold Plc.put at hq;rwa [z0 (by omega)] at hq
             have bw:∀ j,j≠U.n->(ρ.put U.n (some ⟨p.blk,p.shift,0,esz,true⟩)) j=ρ j:=λj hj=>by simp[Plc.put,hj]
             have fg:(ρ.put U.n (some ⟨p.blk,p.shift,0,esz,true⟩)) U.n=some ⟨p.blk,p.shift,0,esz,true⟩:=by simp[Plc.put]
             have gG:∀ B,Wr (ρ.put U.n (some ⟨p.blk,p.shift,0,esz,true⟩)) (U.push (.cells [] esz false true)) B->Wr ρ U B:=by
              rintro B ⟨j,q,b,hq,bW,hw,rfl⟩;by_cases aR:j=U.n
              .subst aR;rw[Heap.q0a] at bW;obtain rfl:=osj bW;cases hw
              .rw[Heap.q0e _ _ aR] at bW;rw[bw j aR] at hq;exact⟨j,q,b,hq,bW,hw,rfl⟩
             refine⟨.slice (some ad) 0 0,w,ρ.put U.n (some ⟨p.blk,p.shift,0,esz,true⟩),.inl ?_,.sl _ _ _ _ _ _ (by simp) (λq hq=>?_),⟨⟨?_,?_,?_,?_⟩,λg cs hg=>⟨(hH.tab g cs hg).1,λhw=>(hH.tab g cs hg).2 (gG g hw)⟩⟩,
              ⟨rfl,rfl,rfl,z4 _,λ_ _ _=>rfl,λB _=>gG B,by simp,gw⟩⟩
             .simp[execOp,bc,Instr.sliceAt,Instr.slice,Q0 hu,b6,Qp cz]
             .omega
             .intro j b hj;by_cases aR:j=U.n
              .subst aR;rw[Heap.q0a] at hj;obtain rfl:=osj hj;obtain⟨C,e0,f0,hC,o6⟩:=hB.2.2.2.1;refine⟨_,fg,rfl,rfl,z4 _,⟨C,e0,f0,hC,?_⟩,λk v hk=>by simp at hk,λhw=>by cases hw⟩
               grind
              .rw[Heap.q0e _ _ aR] at hj;obtain⟨q,hq,fe⟩:=hH.live j b hj;exact⟨q,by rw[bw j aR];exact hq,fe.mono (by simp) gw rfl⟩
             .intro j hj;by_cases aR:j=U.n
              .grind [Heap.q0a]
              .rw[Heap.q0e _ _ aR] at hj;rw[bw j aR];exact hH.dead j hj
             .intro j q hq;by_cases aR:j=U.n
              .subst aR;rw[fg] at hq;obtain rfl:=osj hq;exact hH.lt i p hp
              .rw[bw j aR] at hq;exact hH.lt j q hq
             .intro j k q r b eo hq hr bW hw p7;by_cases aR:j=U.n
              .subst aR;rw[Heap.q0a] at bW;obtain rfl:=osj bW;cases hw
              .rw[Heap.q0e _ _ aR] at bW;rw[bw j aR] at hq;by_cases iO:k=U.n
               .grind
               .rw[bw k iO] at hr;exact hH.sep j k q r b eo hq hr bW hw p7
            .omega
           have dS:p.esz.sz=ei.size:=by rw[hB.1];exact mE
           rw[dS] at dR;split at h
           .rename_i fK;subst fK;simp at h;obtain⟨rfl,rfl⟩:=h;have p6:hh=m:=by omega
            subst p6;have gw:∀ j,j<U.n->∀ q,(ρ.put U.n (some ⟨p.blk,p.shift+o',0,esz,true⟩)) j=some q->ρ j=some q:=λj hj q hq=>by unfold Plc.put at hq;rwa [z0 (by omega)] at hq
            have bw:∀ j,j≠U.n->(ρ.put U.n (some ⟨p.blk,p.shift+o',0,esz,true⟩)) j=ρ j:=λj hj=>by simp[Plc.put,hj]
            have fg:(ρ.put U.n (some ⟨p.blk,p.shift+o',0,esz,true⟩)) U.n=some ⟨p.blk,p.shift+o',0,esz,true⟩:=by simp[Plc.put]
            have gG:∀ B,Wr (ρ.put U.n (some ⟨p.blk,p.shift+o',0,esz,true⟩)) (U.push (.cells [] esz false true)) B->Wr ρ U B:=by
             rintro B ⟨j,q,b,hq,bW,hw,rfl⟩;by_cases aR:j=U.n
             .subst aR;rw[Heap.q0a] at bW;obtain rfl:=osj bW;cases hw
             .rw[Heap.q0e _ _ aR] at bW;rw[bw j aR] at hq;exact⟨j,q,b,hq,bW,hw,rfl⟩
            refine⟨.slice (some ⟨p.blk,p.shift+o',none⟩) 0 0,w,ρ.put U.n (some ⟨p.blk,p.shift+o',0,esz,true⟩),.inl ?_,.sl _ _ _ _ _ _ (by simp) (λq hq=>?_),⟨⟨?_,?_,?_,?_⟩,λg cs hg=>⟨(hH.tab g cs hg).1,λhw=>(hH.tab g cs hg).2 (gG g hw)⟩⟩,
             ⟨rfl,rfl,rfl,z4 _,λ_ _ _=>rfl,λB _=>gG B,by simp,gw⟩⟩
            .simp[execOp,bc,Instr.sliceAt,Instr.slice,Q0 hu,b6,Qp cz]
            .omega
            .intro j b hj;by_cases aR:j=U.n
             .subst aR;rw[Heap.q0a] at hj;obtain rfl:=osj hj;obtain⟨C,e0,f0,hC,o6⟩:=hB.2.2.2.1;refine⟨_,fg,rfl,rfl,z4 _,⟨C,e0,f0,hC,?_⟩,λk v hk=>by simp at hk,λhw=>by cases hw⟩
              grind
             .rw[Heap.q0e _ _ aR] at hj;obtain⟨q,hq,fe⟩:=hH.live j b hj;exact⟨q,by rw[bw j aR];exact hq,fe.mono (by simp) gw rfl⟩
            .intro j hj;by_cases aR:j=U.n
             .grind [Heap.q0a]
             .rw[Heap.q0e _ _ aR] at hj;rw[bw j aR];exact hH.dead j hj
            .intro j q hq;by_cases aR:j=U.n
             .subst aR;rw[fg] at hq;obtain rfl:=osj hq;exact hH.lt i p hp
             .rw[bw j aR] at hq;exact hH.lt j q hq
            .intro j k q r b eo hq hr bW hw p7;by_cases aR:j=U.n
             .subst aR;rw[Heap.q0a] at bW;obtain rfl:=osj bW;cases hw
             .rw[Heap.q0e _ _ aR] at bW;rw[bw j aR] at hq;by_cases iO:k=U.n
              .grind
              .rw[bw k iO] at hr;exact hH.sep j k q r b eo hq hr bW hw p7
           rename_i fK;split at h
           .rename_i tF;obtain⟨_,rfl⟩:=tF;simp at h;obtain⟨rfl,rfl⟩:=h;have jF:o'=o:=by
             grind
            subst jF;refine⟨.slice (some ⟨p.blk,p.shift+(o'+l*ei.size),none⟩) (hh-l) (hh-l),w,ρ,.inl ?_,.slx _ _ _ _ _ aQ (λq hq=>?_),hH,Ext.refl _ _ _⟩
            .simp[execOp,bc,Instr.sliceAt,Instr.slice,Q0 hu,b6,Qp cz,fK,Ku,zo]
            .obtain rfl:p=q:=osj (hp.symm.trans hq);refine⟨rfl,?_⟩;rw[dS];have:av=l+((hh-l)+(av-hh)):=by omega
             grind [Nat.add_mul]
           .simp at h;obtain⟨rfl,rfl⟩:=h;refine⟨.slice (some ⟨p.blk,p.shift+(o'+l*ei.size),none⟩) (hh-l) (m-l),w,ρ,.inl ?_,.sl _ _ _ _ _ _ aQ (λq hq=>?_),hH,Ext.refl _ _ _⟩
            .simp[execOp,bc,Instr.sliceAt,Instr.slice,Q0 hu,b6,Qp cz,fK,Ku,zo]
            .obtain rfl:p=q:=osj (hp.symm.trans hq);refine⟨z4 _,λ_=>rfl,.inr ⟨o'+l*ei.size,rfl,?_,?_⟩⟩
             .rw[dS];have:av=l+((m-l)+(av-m)):=by omega
              grind [Nat.add_mul]
             omega
          .cases h
         .cases h
        .cases h
       .cases h
      .cases h
     .cases h
  .rename_i hu;split at hc
   .rename_i pT;cases mx with
    |some m=>simp at pT
    |none=>simp at hc;subst hc;simp[VOp.quiet] at hq
   .cases hc
  .cases hc
 case call c =>
  split at hc
  .simp at hc;subst hc;simp[VOp.quiet] at hq
  .simp at hc;subst hc;simp[VOp.quiet] at hq
  .split at hc
   .split at hc
    .simp at hc;subst hc;simp[VOp.quiet] at hq
    .simp at hc;subst hc;simp[VOp.quiet] at hq
    .cases hc
   .cases hc
  .rename_i aK;split at hc
   .rename_i t u s x ht pR aD;split at hc
    .rename_i e f hu l8;cases hi:P.info? e with
     |none=>simp[hi] at hc
     |some ei =>
      cases hz:zeroOf P e with
      |none=>simp[hi,hz] at hc
      |some z =>
       obtain⟨ti,zv,cY,dP,gv,eL,iQ⟩:=VS hz;obtain rfl:ei=ti:=osj (hi.symm.trans cY);simp only[hi,hz,zw,x9] at hc;split at hc
       .cases hc
       .rename_i ak;simp at ak;obtain⟨gI,tG⟩:=ak;simp at hc;subst hc;have cG:c.args=#[s,x]:=by apply Array.ext';simpa using aD
        simp[Call.operands,aK,cG] at au;have hs:=hE s au.1;have hx:=hE x au.2;have mM:(Builtin.append_ c.argTypes ty #[ev s,ev x])=(Builtin.append_ #[t,u] ty #[ev s,ev x]):=by unfold Builtin.append_;simp[ht,pR]
        have aV:∀ r w',(Builtin.append_ #[t,u] ty #[ev s,ev x]).run P w=.ok r w'->(execOp ev {dst:=dst,op:=.call c,type:=ty,pos:=pos,after:=after,guard:=guard}).run P w=.ok (.value r) w':=λr w' hr=>by simp[execOp,resolve,aK,cG,invoke,builtin,mM,hr]
        simp only[Qb] at h;split at h
        .rename_i xs a m kD bj mN;rw[mN] at hx;split at h
         .rename_i mO;rw[mN] at bj;exact Q1c hH hu l8 hi dP gv eL tG ty hs hx bj mO h aV
         .cases h
        .cases h
    .cases hc
   .cases hc
  .split at hc
   .simp at hc;subst hc;simp[VOp.quiet] at hq
   .simp at hc;subst hc;simp[VOp.quiet] at hq
   .simp at hc;subst hc;simp[VOp.quiet] at hq
   .cases hc
  .split at hc
   .simp at hc;subst hc;simp[VOp.quiet] at hq
   .cases hc
  .cases hc
 case move x=>simp at hc;subst hc;simp[VOp.quiet] at hq
 case assign x=>simp at hc;subst hc;simp[VOp.quiet] at hq
 case pick c a b=>simp at hc;subst hc;simp[VOp.quiet] at hq
 case unOp=>simp at hc;subst hc;simp[VOp.quiet] at hq
 case extract=>simp at hc;subst hc;simp[VOp.quiet] at hq
 case nilCheck=>simp at hc;subst hc;simp[VOp.quiet] at hq
 all_goals
  repeat' first
   |(cases hc;done)
   |(simp at hc;subst hc;simp[VOp.quiet] at hq;done)
   |split at hc
 all_goals simp only[zw,zS,reduceCtorEq,and_false,exists_false] at hc
 all_goals first
  |(obtain⟨_,_,rfl⟩:=hc;simp[VOp.quiet] at hq;done)
  |(obtain⟨_,_,hc⟩:=hc;simp at hc;subst hc;simp[VOp.quiet] at hq;done)
  |(obtain⟨_,_,_,_,hc⟩:=hc;simp at hc;subst hc;simp[VOp.quiet] at hq;done)
  |(obtain⟨_,_,_,_,_,_,hc⟩:=hc;simp at hc;subst hc;simp[VOp.quiet] at hq;done)
  |(obtain⟨d,_,hc⟩:=hc;cases d<;>simp at hc<;>subst hc<;>simp[VOp.quiet] at hq;done)
  |(obtain⟨_,_,_,_,hc⟩:=hc;split at hc<;>simp at hc;subst hc;simp[VOp.quiet] at hq;done)
end
end Go.V
namespace Go.V
open Go
section
variable {P:Program}{ρ:Plc}{U U':Heap}{w:World}{ev:Operand->Value}{env:Env}{v:Value}
theorem VRel.q0n {n:Nat}{c:Value}(h:VRel ρ n (.pointer none) c):c=.pointer none:=by cases h;rfl
theorem VRel.q1g {n:Nat}{a:Addr}{c:Value}(h:VRel ρ n (.pointer (some a)) c):∃ b,c=.pointer (some b):=by cases h<;>exact⟨_,rfl⟩
theorem VRel.q0r {n:Nat}{c:Value}(h:VRel ρ n (.map none) c):c=.map none:=by cases h;rfl
theorem VRel.q1h {n:Nat}{m:Nat}{c:Value}(h:VRel ρ n (.map (some m)) c):∃ r,c=.map (some r)/\m<n/\∀ p,ρ m=some p->r=p.blk:=by
 cases h with
 |map _ r hi h=>exact⟨r,rfl,hi,h⟩
theorem VRel.q0z {n:Nat}{c:Value}(h:VRel ρ n .nilFunc c):c=.nilFunc:=by cases h;rfl
theorem VRel.q1m {n:Nat}{f:Fn}{a b:Array Value}{c:Value}(h:VRel ρ n (.func f a b) c):∃ g a' b',c=.func g a' b':=by cases h<;>exact⟨_,_,_,rfl⟩
theorem VRel.q1p {n:Nat}{a:Addr}{l k:Nat}{c:Value}(h:VRel ρ n (.slice (some a) l k) c):∃ b k',c=.slice (some b) l k':=by cases h<;>exact⟨_,_,rfl⟩
theorem VRel.q0x {n:Nat}{l k:Nat}{c:Value}(h:VRel ρ n (.slice none l k) c):c=.slice none 0 0:=by cases h;rfl
theorem Q6i (neg:Bool) (t:TypeId) (x y:Operand) (yt:TypeId) (ty:TypeId) (pos:String) (after:Array Edge) (dst:Option Tmp) (g:Option (Nat×Bool)) {a b:Value}{r:Bool}(hx:ev x=a) (hy:ev y=b)
  (hg:∀ op w',(eqGuard op t x y a b).run P w'=.ok () w') (h:∀ w',(binOp (if neg then .neq else .eql) t a b).run P w'=.ok (.bool (if neg then !r else r)) w') :
  Q2m P ρ U w (.bool (if neg then !r else r)) (execOp ev ⟨dst,.binOp (if neg then .neq else .eql) t x y yt,ty,pos,after,g⟩):=by
 refine QI (c:=.bool (if neg then !r else r)) (λw'=>?_) (.bool _);simp only[execOp,hx,hy];simp[hg,h]
theorem Q0i (op:BinOp) (t:TypeId) (x y:Operand) {a b:Value}(h:(∀ p q,¬ (a=.nilIface/\b=.nilIface)/\¬ (a=.agg p/\b=.agg q))) (w':World):(eqGuard op t x y a b).run P w'=.ok () w':=by
 have key:∀ op,op=.eql\/op=.neq->(eqGuard op t x y a b).run P w'=.ok () w':=by
  intro op ho;unfold eqGuard;rcases ho with rfl|rfl
  all_goals
   simp only[xQ,zj,if_false];split
   .simp_all
   .simp_all
   .rfl
 cases op<;>first|exact key _ (.inl rfl)|exact key _ (.inr rfl)|rfl
theorem WH {t:TypeId}{a b:Value}{r:Bool}(h:∀ d w',(Op.equalIn (d+1) t a b).run P w'=.ok r w')
  (hb:∀ neg:Bool,binOp (if neg then .neq else .eql) t a b=(do let r <-Op.equal t a b;pure (.bool (if neg then !r else r)))) (neg:Bool) (w':World) :
  (binOp (if neg then .neq else .eql) t a b).run P w'=.ok (.bool (if neg then !r else r)) w':=by
 rw[hb,zh];have:(Op.equal t a b).run P w'=.ok r w':=h 9999 w';rw[this];rfl
theorem Q7z {kd:Nat}{t:TypeId}{a b c d:Value}{r:Bool}(hH:HRel ρ U w) (hk:(kd=0/\∃ e i,P.underlying t=some (.pointer e)/\P.info? e=some i)\/(kd=1/\∃ e,P.underlying t=some (.slice e)) \/
   (kd=2/\∃ k e,P.underlying t=some (.map k e))\/(kd=3/\∃ p q s,P.underlying t=some (.func p q s)))
  (ha:VRel ρ U.n a c) (hb:VRel ρ U.n b d) (h:WJ kd a b U=some r):(∀ (neg:Bool) w',(binOp (if neg then .neq else .eql) t c d).run P w'=.ok (.bool (if neg then !r else r)) w')/\(∀ p q,¬ (c=.nilIface/\d=.nilIface)/\¬ (c=.agg p/\d=.agg q)):=by
 unfold WJ at h;split at h
 .obtain rfl:=ha.q0n;obtain rfl:=hb.q0n;simp at h;subst h;rcases hk with⟨_,e,i,h1,h2⟩|⟨h0,_⟩|⟨h0,_⟩|⟨h0,_⟩<;>try (cases h0)
  exact⟨WH (λd w'=>by simp[Op.equalIn,Q0 h1]) (λneg=>by cases neg<;>rfl),by simp⟩
 .obtain rfl:=ha.q0n;obtain⟨q,rfl⟩:=hb.q1g;simp at h;subst h;rcases hk with⟨_,e,i,h1,h2⟩|⟨h0,_⟩|⟨h0,_⟩|⟨h0,_⟩<;>try (cases h0)
  exact⟨WH (λd w'=>by simp[Op.equalIn,Q0 h1]) (λneg=>by cases neg<;>rfl),by simp⟩
 .obtain⟨q,rfl⟩:=ha.q1g;obtain rfl:=hb.q0n;simp at h;subst h;rcases hk with⟨_,e,i,h1,h2⟩|⟨h0,_⟩|⟨h0,_⟩|⟨h0,_⟩<;>try (cases h0)
  exact⟨WH (λd w'=>by simp[Op.equalIn,Q0 h1]) (λneg=>by cases neg<;>rfl),by simp⟩
 .rename_i i o j q;split at h
  .rename_i hc;obtain⟨rfl,rfl,hs⟩:=hc;simp at h;subst h;rcases hk with⟨_,e,i',h1,h2⟩|⟨h0,_⟩|⟨h0,_⟩|⟨h0,_⟩<;>try (cases h0)
   obtain⟨blk,aE⟩:=Option.isSome_iff_exists.1 hs;obtain⟨p,hp,_⟩:=hH.live _ _ aE;obtain⟨_,_,rfl⟩:=ha.q0u hp;obtain⟨_,_,rfl⟩:=hb.q0u hp;exact⟨WH (λd w'=>by simp[Op.equalIn,Q0 h1,sizeOf,typeInfo,h2,run_sameAddr_same]) (λneg=>by cases neg<;>rfl),by simp⟩
  .cases h
 .obtain rfl:=ha.q0x;obtain rfl:=hb.q0x;simp at h;subst h;rcases hk with⟨h0,_⟩|⟨_,e,h1⟩|⟨h0,_⟩|⟨h0,_⟩<;>try (cases h0)
  exact⟨WH (λd w'=>by simp[Op.equalIn,Q0 h1]) (λneg=>by cases neg<;>rfl),by simp⟩
 .obtain rfl:=ha.q0x;obtain⟨_,_,rfl⟩:=hb.q1p;simp at h;subst h;rcases hk with⟨h0,_⟩|⟨_,e,h1⟩|⟨h0,_⟩|⟨h0,_⟩<;>try (cases h0)
  exact⟨WH (λd w'=>by simp[Op.equalIn,Q0 h1]) (λneg=>by cases neg<;>rfl),by simp⟩
 .obtain⟨_,_,rfl⟩:=ha.q1p;obtain rfl:=hb.q0x;simp at h;subst h;rcases hk with⟨h0,_⟩|⟨_,e,h1⟩|⟨h0,_⟩|⟨h0,_⟩<;>try (cases h0)
  exact⟨WH (λd w'=>by simp[Op.equalIn,Q0 h1]) (λneg=>by cases neg<;>rfl),by simp⟩
 .obtain rfl:=ha.q0r;obtain rfl:=hb.q0r;simp at h;subst h;rcases hk with⟨h0,_⟩|⟨h0,_⟩|⟨_,k,e,h1⟩|⟨h0,_⟩<;>try (cases h0)
  exact⟨WH (λd w'=>by simp[Op.equalIn,Q0 h1]) (λneg=>by cases neg<;>rfl),by simp⟩
 .obtain rfl:=ha.q0r;obtain⟨_,rfl,_⟩:=hb.q1h;simp at h;subst h;rcases hk with⟨h0,_⟩|⟨h0,_⟩|⟨_,k,e,h1⟩|⟨h0,_⟩<;>try (cases h0)
  exact⟨WH (λd w'=>by simp[Op.equalIn,Q0 h1]) (λneg=>by cases neg<;>rfl),by simp⟩
 .obtain⟨_,rfl,_⟩:=ha.q1h;obtain rfl:=hb.q0r;simp at h;subst h;rcases hk with⟨h0,_⟩|⟨h0,_⟩|⟨_,k,e,h1⟩|⟨h0,_⟩<;>try (cases h0)
  exact⟨WH (λd w'=>by simp[Op.equalIn,Q0 h1]) (λneg=>by cases neg<;>rfl),by simp⟩
 .obtain rfl:=ha.q0z;obtain rfl:=hb.q0z;simp at h;subst h;rcases hk with⟨h0,_⟩|⟨h0,_⟩|⟨h0,_⟩|⟨_,p,q,s,h1⟩<;>try (cases h0)
  exact⟨WH (λd w'=>by simp[Op.equalIn,Q0 h1]) (λneg=>by cases neg<;>rfl),by simp⟩
 .obtain rfl:=ha.q0z;obtain⟨_,_,_,rfl⟩:=hb.q1m;simp at h;subst h;rcases hk with⟨h0,_⟩|⟨h0,_⟩|⟨h0,_⟩|⟨_,p,q,s,h1⟩<;>try (cases h0)
  exact⟨WH (λd w'=>by simp[Op.equalIn,Q0 h1]) (λneg=>by cases neg<;>rfl),by simp⟩
 .obtain⟨_,_,_,rfl⟩:=ha.q1m;obtain rfl:=hb.q0z;simp at h;subst h;rcases hk with⟨h0,_⟩|⟨h0,_⟩|⟨h0,_⟩|⟨_,p,q,s,h1⟩<;>try (cases h0)
  exact⟨WH (λd w'=>by simp[Op.equalIn,Q0 h1]) (λneg=>by cases neg<;>rfl),by simp⟩
 .cases h
def Z7p (ρ:Plc) (n:Nat) (e:MapEntry) (kv:Yx):Prop:=e.key=kv.1/\e.born=kv.2.2/\VRel ρ n kv.2.1 e.val
def LERel (ρ:Plc) (n:Nat) (E:List MapEntry) (es:List Yx):Prop:=E.length=es.length/\∀ (k:Nat) (e:MapEntry) (kv:Yx),E[k]?=some e->es[k]?=some kv->Z7p ρ n e kv
theorem LERel.cons_inv {n:Nat}{E:List MapEntry}{es:List Yx}{kv:Yx}(h:LERel ρ n E (kv::es)):∃ e E',E=e::E'/\Z7p ρ n e kv/\LERel ρ n E' es:=by
 cases E with
 |nil=>have:=h.1;simp at this
 |cons e E'=>exact⟨e,E',rfl,h.2 0 e kv rfl rfl,by have:=h.1;simpa using this,λk a b ha hb=>h.2 (k+1) a b (by simpa using ha) (by simpa using hb)⟩
theorem ORel.q0p {n:Nat}{es:List Yx}{clock:Nat}{O:Obj}:ORel ρ n (.map es clock) O<->∃ entries,O=.map entries clock/\LERel ρ n entries.toList es:=by
 constructor
 .rintro⟨entries,h1,h2,h3⟩;refine⟨entries,h1,by simpa using h2,λk e kv he dV=>?_⟩;obtain⟨e',h4,h5,h6,h7⟩:=h3 k kv dV;have:e=e':=by
   simp_all
  subst this;exact⟨h5,h6,h7⟩
 .rintro⟨entries,h1,h2,h3⟩;refine⟨entries,h1,by simpa using h2,λk kv dV=>?_⟩;have hk:k<es.length:=(zi.1 dV).1;have mD:k<entries.toList.length:=by omega
  obtain⟨h4,h5,h6⟩:=h3 k entries.toList[k] kv (z3 mD) dV;simp_all
theorem Ks:∀ {s:List MK}{l:List Value},fits s l=true->l.length=s.length
 |[],[],_=>rfl
 |_::s,_::l,h=>by simp only[fits,z1] at h;simp[Ks h.2]
 |[],_::_,h=>by cases h
 |_::_,[],h=>by cases h
theorem G_:∀ {s r:List MK}{l:List Value},fits (s++r) l=true->fits s (l.take s.length)=true/\fits r (l.drop s.length)=true
 |[],r,l,h=>by simpa [fits] using h
 |k::s,r,[],h=>by cases h
 |k::s,r,v::l,h=>by simp only[xE,fits,z1] at h;obtain⟨h1,h2⟩:=G_ h.2;simp only[zr,xV,wC,fits,z1];exact⟨⟨h.1,h1⟩,h2⟩
theorem Hd:∀ (n:Nat) (l m:List Value),l.length=m.length->QP l m=(QP (l.take n) (m.take n)&&QP (l.drop n) (m.drop n))
 |0,l,m,_=>by simp[QP]
 |n+1,[],[],_=>by simp[QP]
 |n+1,a::l,b::m,h=>by simp only[QP,xV,wC];rw[Hd n l m (by simpa using h),Bool.and_assoc]
 |n+1,[],_::_,h=>by simp at h
 |n+1,_::_,[],h=>by simp at h
def mkT (P:Program) (t:TypeId) (cs:List Value):Value:=match P.underlying t with
 |some (.struct _)=>.agg cs.toArray
 |some (.array _ _)=>.agg cs.toArray
 |_=>cs.headD undef
theorem HW {m:Nat}{t:TypeId}{s:List MK}(hs:shp P m t=some s) (hc:P.cellsOf t=s.length) {xs:Array Value}{off:Nat}(hf:fits s ((xs.toList.drop off).take s.length)=true) (w:World) :
  (part t xs off).run P w=.ok (mkT P t ((xs.toList.drop off).take s.length)) w:=by
 cases m with
 |zero=>simp[shp] at hs
 |succ m =>
  simp only[shp] at hs;have plain:∀ kd,P.underlying t=some kd->(∀ n e,kd≠.array n e)->(∀ fs,kd≠.struct fs)->s.length=1->(part t xs off).run P w=.ok (mkT P t ((xs.toList.drop off).take s.length)) w:=λkd hu h1 h2 h3=>by
   have hl:=Ks hf;rw[h3] at hl |-;have ao:off<xs.size:=by
    grind
   have e:(xs.toList.drop off).take 1=[xs[off]]:=by
    grind [List.drop_eq_getElem_cons]
   rw[e];have:mkT P t [xs[off]]=xs[off]:=by unfold mkT;simp_all
   rw[this];cases kd<;>first|(exact absurd rfl (h1 _ _))|(exact absurd rfl (h2 _))|simp[part,isAgg,run_underlying hu,xC ao]
  have agg:∀ kd,P.underlying t=some kd->((∃ n e,kd=.array n e)\/∃ fs,kd=.struct fs)->(part t xs off).run P w=.ok (mkT P t ((xs.toList.drop off).take s.length)) w:=λkd hu hk=>by
   obtain⟨i,hi⟩:=info_of_underlying hu;have hl:(xs.extract off (off+P.cellsOf t))=((xs.toList.drop off).take s.length).toArray:=by
    grind
   rcases hk with⟨n,e,rfl⟩|⟨fs,rfl⟩<;>simp[part,isAgg,run_underlying hu,run_sizeOf w hi,hl,mkT,hu]
  cases hu:P.underlying t with
  |none=>rw[hu] at hs;cases hs
  |some kd =>
   rw[hu] at hs;cases kd
   case bool=>grind
   case int q=>grind
   case string=>grind
   case array n e=>exact agg _ hu (.inl ⟨_,_,rfl⟩)
   case struct fs=>exact agg _ hu (.inr ⟨_,rfl⟩)
   all_goals cases hs
theorem Q5o {g:TypeId->Option (List MK)}{m d:Nat}(hg:g=shp P m) (ih:∀ t s,shp P m t=some s->∀ (w:World) (cs ds:List Value),fits s cs=true->fits s ds=true->(Op.equalIn (d+m) t (mkT P t cs) (mkT P t ds)).run P w=.ok (QP cs ds) w) {xs ys:Array Value}(w:World) :
  ∀ (fs:List Field) (off:Nat) (ss:List MK),Q4b P g fs off=some ss->fits ss (xs.toList.drop off)=true->fits ss (ys.toList.drop off)=true->(Op.eqFields (d+m) xs ys fs).run P w=.ok (QP (xs.toList.drop off) (ys.toList.drop off)) w
 |[],off,ss,h,h1,h2=>by simp only[Q4b,x6] at h;subst h;have e1:=Ks h1;have e2:=Ks h2;rw[List.eq_nil_of_length_eq_zero e1];simp[Op.eqFields,QP]
 |f::r,off,ss,h,h1,h2=>by
  simp only[Q4b] at h;split at h
  .rename_i hn;obtain⟨hn,rfl⟩:=hn;split at h
   .rename_i s hs;split at h
    .rename_i hc;obtain⟨q,hq,rfl⟩:=zg.1 h;obtain⟨a1,a2⟩:=G_ h1;obtain⟨b1,b2⟩:=G_ h2;rw[List.drop_drop] at a2 b2;rw[hg] at hs;have p1:=HW hs hc a1 w;have p2:=HW hs hc b1 w;have p3:=ih f.type s hs w _ _ a1 b1;have hr:=Q5o hg ih w r (f.offset+s.length) q hq a2 b2;rw[Hd s.length _ _ (by rw[Ks h1,Ks h2]),List.drop_drop,List.drop_drop];simp only[Op.eqFields,hn,ne_eq,not_false_eq_true,zq,zh,p1,p2,p3,z9];cases hb:QP (List.take s.length (List.drop f.offset xs.toList)) (List.take s.length (List.drop f.offset ys.toList)) with
     |false=>simp
     |true=>simpa using hr
    .cases h
   .cases h
  .cases h
theorem AB {m d:Nat}{e:TypeId}{s:List MK}(hs:shp P m e=some s) (hc:P.cellsOf e=s.length) (ih:∀ (w:World) (cs ds:List Value),fits s cs=true->fits s ds=true->(Op.equalIn (d+m) e (mkT P e cs) (mkT P e ds)).run P w=.ok (QP cs ds) w) {xs ys:Array Value}(w:World) :
  ∀ (k i:Nat),fits (List.replicate k s).flatten (xs.toList.drop (i*s.length))=true->fits (List.replicate k s).flatten (ys.toList.drop (i*s.length))=true->(Op.eqItems (d+m) e (P.cellsOf e) xs ys (List.range' i k)).run P w=.ok (QP (xs.toList.drop (i*s.length)) (ys.toList.drop (i*s.length))) w
 |0,i,h1,h2=>by have e1:=Ks h1;have e2:=Ks h2;simp only[List.replicate_zero,List.flatten_nil,List.length_nil] at e1 e2;rw[List.eq_nil_of_length_eq_zero e1];simp[Op.eqItems,QP]
 |k+1,i,h1,h2=>by
  rw[xn,List.flatten_cons] at h1 h2;obtain⟨a1,a2⟩:=G_ h1;obtain⟨b1,b2⟩:=G_ h2;rw[List.drop_drop,<-Nat.succ_mul] at a2 b2;have p1:=HW hs hc a1 w;have p2:=HW hs hc b1 w;have p3:=ih w _ _ a1 b1;have hr:=AB hs hc ih w k (i+1) a2 b2;rw[Hd s.length _ _ (by rw[Ks h1,Ks h2]),List.drop_drop,List.drop_drop,<-Nat.succ_mul];rw[hc] at hr |-;simp only[List.range'_succ,Op.eqItems,zh,p1,p2,p3,z9];cases hb:QP (List.take s.length (List.drop (i*s.length) xs.toList)) (List.take s.length (List.drop (i*s.length) ys.toList)) with
  |false=>simp
  |true=>simpa using hr
theorem GR (d:Nat):∀ (m:Nat) (t:TypeId) (s:List MK),shp P m t=some s->∀ (w:World) (cs ds:List Value),fits s cs=true->fits s ds=true->(Op.equalIn (d+m) t (mkT P t cs) (mkT P t ds)).run P w=.ok (QP cs ds) w
 |0,t,s,h=>by simp[shp] at h
 |m+1,t,s,h=>by
  intro w cs ds h1 h2;simp only[shp] at h;have one:∀ {k:MK}{cs:List Value},fits [k] cs=true->∃ a,cs=[a]/\Z15 k a=true:=λ{k cs} h=>by
   cases cs with
   |nil=>cases h
   |cons a l =>
    cases l with
    |nil=>exact⟨a,rfl,by simpa [fits] using h⟩
    |cons b l=>simp[fits] at h
  cases hu:P.underlying t with
  |none=>rw[hu] at h;cases h
  |some kd =>
   rw[hu] at h;cases kd
   case bool =>
    obtain rfl:=osj h;obtain⟨a,rfl,ha⟩:=one h1;obtain⟨b,rfl,hb⟩:=one h2;cases a<;>first|(cases ha;done)|skip
    cases b<;>first|(cases hb;done)|skip
    simp only[mkT,hu,List.headD_cons,QP,MV,xH];exact run_equalIn_bool' w (d+m) t _ _ hu
   case int q =>
    obtain rfl:=osj h;obtain⟨a,rfl,ha⟩:=one h1;obtain⟨b,rfl,hb⟩:=one h2;cases a<;>first|(cases ha;done)|skip
    cases b<;>first|(cases hb;done)|skip
    simp only[Z15,z6] at ha hb;subst ha;subst hb;simp only[mkT,hu,List.headD_cons,QP,MV,xH]
    grind [run_equalIn_int]
   case string =>
    obtain rfl:=osj h;obtain⟨a,rfl,ha⟩:=one h1;obtain⟨b,rfl,hb⟩:=one h2;cases a<;>first|(cases ha;done)|skip
    cases b<;>first|(cases hb;done)|skip
    simp only[mkT,hu,List.headD_cons,QP,MV,xH]
    grind [ByteArray.toList_eq,run_equalIn_string]
   case array n e =>
    simp only at h;split at h
    .rename_i s' bg;split at h
     .rename_i hc;obtain rfl:=osj h;obtain⟨i,hi⟩:∃ i,P.info? e=some i:=by
       cases m with
       |zero=>simp[shp] at bg
       |succ m =>
        simp only[shp] at bg;cases iZ:P.underlying e with
        |none=>rw[iZ] at bg;cases bg
        |some _=>exact info_of_underlying iZ
      simp only[mkT,hu];rw[show d+(m+1)=(d+m)+1 from rfl,run_equalIn_array w (d+m) _ _ hu hi,List.range_eq_range'];have:=AB (d:=d) bg hc (GR d m e s' bg) (xs:=cs.toArray) (ys:=ds.toArray) w n 0 (by simpa using h1) (by simpa using h2);simpa using this
     .cases h
    .cases h
   case struct fs =>
    simp only at h;split at h
    .cases h
    .rename_i bn;have o9:P.fieldsOf t=fs:=by simp[Program.fieldsOf,hu]
     simp only[mkT,hu];rw[show d+(m+1)=(d+m)+1 from rfl,run_equalIn_struct w (d+m) t _ _ (by rw[o9];exact hu) (by simpa using bn),o9];have:=Q5o (d:=d) rfl (GR d m) (xs:=cs.toArray) (ys:=ds.toArray) w fs.toList 0 s h (by simpa using h1) (by simpa using h2);simpa using this
   all_goals cases h
theorem Cl {n:Nat}:∀ {s:List MK}{l m:List Value},fits s l=true->LRel ρ n l m->m=l
 |[],[],m,_,hr=>by have:=hr.1;grind
 |k::s,v::l,[],_,hr=>by have:=hr.1;simp at this
 |k::s,v::l,c::m,h,hr=>by
  simp only[fits,z1] at h;have h0:=hr.2 0 v c rfl rfl;have e:c=v:=by cases k<;>cases v<;>first|(cases h.1;done)|(cases h0;rfl)
  have kF:LRel ρ n l m:=⟨by have:=hr.1;simpa using this,λi a b ha hb=>hr.2 (i+1) a b (by simpa using ha) (by simpa using hb)⟩;rw[e,Cl h.2 kF]
 |[],_::_,_,h,_=>by cases h
 |_::_,[],_,h,_=>by cases h
def Z1y (P:Program) (t:TypeId):MK->TypeDesc->Prop
 |.int k,d=>d=.int k
 |.string,d=>d=.string
 |.bool,d=>d=.bool
 |.agg s,d=>shp P 8 t=some s/\((∃ fs,d=.struct fs)\/∃ n e,d=.array n e)
theorem BK {t:TypeId}{mk:MK}(h:Q0y P t=some mk):∃ d,P.underlying t=some d/\Z1y P t mk d:=by
 unfold Q0y at h;split at h
 .rename_i k hk;simp at h;subst h;exact⟨_,hk,rfl⟩
 .rename_i hk;simp at h;subst h;exact⟨_,hk,rfl⟩
 .rename_i hk;simp at h;subst h;exact⟨_,hk,rfl⟩
 .rename_i fs hk;obtain⟨s,hs,rfl⟩:=zg.1 h;exact⟨_,hk,hs,.inl ⟨fs,rfl⟩⟩
 .rename_i n e hk;obtain⟨s,hs,rfl⟩:=zg.1 h;exact⟨_,hk,hs,.inr ⟨n,e,rfl⟩⟩
 .cases h
theorem UY {n:Nat}{v c:Value}(h:J8 v=true) (hv:VRel ρ n v c):c=v:=by cases hv<;>first|rfl|(simp[J8,poison] at h)
theorem AF {mk:MK}{k c:Value}{n:Nat}(h:Xv mk k=true) (hv:VRel ρ n k c):c=k:=by
 unfold Xv at h;split at h<;>first|(cases h;done)|(exact UY rfl hv)|skip
 obtain⟨ds,rfl,hl⟩:=hv.q1i
 grind [Cl,Array.toList_inj]
def MK.plain:MK->Bool
 |.agg _=>false
 |_=>true
theorem Q7p {mk:MK}(hp:mk.plain=true) {t:TypeId}{d:TypeDesc}(hd:Z1y P t mk d) {a b:Value}(ha:Xv mk a=true) (hb:Xv mk b=true):Instr.sameNow d a b=some (Uj a b):=by
 cases mk
 case agg=>cases hp
 all_goals
  cases a<;>first|(cases ha;done)|skip
  cases b<;>first|(cases hb;done)|skip
  simp only[Z1y] at hd;subst hd
 .simp[Xv] at ha hb;subst ha;subst hb;simp[Instr.sameNow,Uj]
 .simp[Instr.sameNow,Uj,beq_toListBytes,ByteArray.toList_eq]
 .simp[Instr.sameNow,Uj]
theorem Im:∀ {s:List MK}{l m:List Value},fits s l=true->fits s m=true->QP l m=true->((m.zip l).all λp=>Instr.sameBits 9999 p.1 p.2)=true
 |[],[],[],_,_,_=>rfl
 |k::s,a::l,b::m,h1,h2,h3=>by
  simp only[fits,QP,z1] at h1 h2 h3;simp only[List.zip_cons_cons,zL,z1];refine⟨?_,Im h1.2 h2.2 h3.2⟩;obtain⟨h1,_⟩:=h1;obtain⟨h2,_⟩:=h2;obtain⟨h3,_⟩:=h3;cases k<;>cases a<;>first|(cases h1;done)|(cases b<;>first|(cases h2;done)|skip)
  .simp only[Z15,z6] at h1 h2;subst h1;subst h2;simp only[MV,zH] at h3;subst h3;simp[Instr.sameBits]
  .simp only[MV,zH] at h3;simp[Instr.sameBits,beq_toListBytes,ByteArray.toList_eq,h3]
  .simp only[MV,zH] at h3;subst h3;simp[Instr.sameBits]
 |[],_::_,_,h,_,_=>by cases h
 |[],[],_::_,_,h,_=>by cases h
 |_::_,[],_,h,_,_=>by cases h
 |_::_,_::_,[],_,h,_=>by cases h
theorem Tw {mk:MK}{a b:Value}(ha:Xv mk a=true) (hb:Xv mk b=true) (h:Uj a b=true):Instr.sameBits 10000 b a=true:=by
 cases mk
 case agg s =>
  cases a<;>first|(cases ha;done)|skip
  cases b<;>first|(cases hb;done)|skip
  rename_i x y;simp only[Xv] at ha hb;simp only[Uj] at h;simp only[Instr.sameBits,z1,zH];have h1:=Ks ha;have h2:=Ks hb
  grind [Im]
 all_goals
  cases a<;>first|(cases ha;done)|skip
  cases b<;>first|(cases hb;done)|skip
 .simp[Xv] at ha hb;subst ha;subst hb;simp[Uj] at h;subst h;simp[Instr.sameBits]
 .simp[Uj] at h;simp[Instr.sameBits,beq_toListBytes,ByteArray.toList_eq,h]
 .simp[Uj] at h;simp[Instr.sameBits,h]
theorem N6 {t:TypeId}{d:TypeDesc}(hd:P.underlying t=some d) {a:Value}(hm:(∃ k,d=.int k)\/d=.string\/d=.bool) (e:Bool) (n:Nat) (w':World):(Instr.checkKey e (n+1) t a).run P w'=.ok () w':=by simp only[Instr.checkKey,zh,Q0 hd,z9];rcases hm with⟨k,rfl⟩|rfl|rfl<;>rfl
theorem Q5p {e:Bool}{g:TypeId->Option (List MK)}{m d:Nat}(hg:g=shp P m) (ih:∀ t s,shp P m t=some s->∀ (w:World) (cs:List Value),fits s cs=true->(Instr.checkKey e (d+m) t (mkT P t cs)).run P w=.ok () w) {xs:Array Value}(w:World) :
  ∀ (fs:List Field) (off:Nat) (ss:List MK),Q4b P g fs off=some ss->fits ss (xs.toList.drop off)=true->(forIn fs PUnit.unit λf (_:PUnit)=>(do
   if f.name≠"_" then Instr.checkKey e (d+m) f.type (<-part f.type xs f.offset)
   pure (ForInStep.yield PUnit.unit):Sem (ForInStep PUnit))).run P w=.ok PUnit.unit w
 |[],off,ss,h,h1=>by simp
 |f::r,off,ss,h,h1=>by
  simp only[Q4b] at h;split at h
  .rename_i hn;obtain⟨hn,rfl⟩:=hn;split at h
   .rename_i s hs;split at h
    .rename_i hc;obtain⟨q,hq,rfl⟩:=zg.1 h;obtain⟨a1,a2⟩:=G_ h1;rw[List.drop_drop] at a2;rw[hg] at hs;have p1:=HW hs hc a1 w;have p3:=ih f.type s hs w _ a1;have hr:=Q5p hg ih w r (f.offset+s.length) q hq a2;simp_all
    .cases h
   .cases h
  .cases h
theorem CI (e:Bool) (d:Nat):∀ (m:Nat) (t:TypeId) (s:List MK),shp P m t=some s->∀ (w:World) (cs:List Value),fits s cs=true->(Instr.checkKey e (d+m) t (mkT P t cs)).run P w=.ok () w
 |0,t,s,h=>by simp[shp] at h
 |m+1,t,s,h=>by
  intro w cs h1;simp only[shp] at h;cases hu:P.underlying t with
  |none=>rw[hu] at h;cases h
  |some kd =>
   rw[hu] at h;cases kd
   case bool=>grind [N6]
   case int q=>grind [N6]
   case string=>rw[show d+(m+1)=(d+m)+1 from rfl];exact N6 hu (by simp) e (d+m) w
   case array n el =>
    simp only at h;split at h
    .rename_i s' bg;split at h
     .rename_i hc;obtain rfl:=osj h;obtain⟨i,hi⟩:∃ i,P.info? el=some i:=by
       cases m with
       |zero=>simp[shp] at bg
       |succ m =>
        simp only[shp] at bg;cases iZ:P.underlying el with
        |none=>rw[iZ] at bg;cases bg
        |some _=>exact info_of_underlying iZ
      simp only[mkT,hu];rw[show d+(m+1)=(d+m)+1 from rfl,Instr.checkKey];simp only[zh,run_underlying hu,z9];simp only[Std.Legacy.Range.forIn_eq_forIn_range',Std.Legacy.Range.size,Nat.sub_zero,Nat.add_one_sub_one,Nat.div_one]
      have key:∀ (k i:Nat),fits (List.replicate k s').flatten (cs.drop (i*s'.length))=true->(forIn (List.range' i k) PUnit.unit λi (_:PUnit)=>(do
        Instr.checkKey e (d+m) el (<-part el cs.toArray (i*(<-sizeOf el)))
        pure (ForInStep.yield PUnit.unit):Sem (ForInStep PUnit))).run P w=.ok PUnit.unit w:=by
       intro k;induction k with
       |zero=>intro i _;simp
       |succ k tH =>intro i hf;rw[xn,List.flatten_cons] at hf;obtain⟨a1,a2⟩:=G_ hf;rw[List.drop_drop,<-Nat.succ_mul] at a2;have p1:=HW (xs:=cs.toArray) (off:=i*s'.length) bg hc (by simpa using a1) w;have p2:=CI e d m el s' bg w _ a1;have hr:=tH (i+1) a2;simp only[List.range'_succ,List.forIn_cons,zh,run_sizeOf w hi,hc,z9,p1,p2,x7];exact hr
      simp_all
     .cases h
    .cases h
   case struct fs =>
    simp only at h;split at h
    .cases h
    .simp only[mkT,hu];rw[show d+(m+1)=(d+m)+1 from rfl,Instr.checkKey];simp only[zh,run_underlying hu,z9];rw[<-Array.forIn_toList];have:=Q5p (e:=e) (d:=d) rfl (CI e d m) (xs:=cs.toArray) w fs.toList 0 s h (by simpa using h1);simp_all
   all_goals cases h
theorem Q4c {t:TypeId}{d:TypeDesc}(hd:P.underlying t=some d) (hk:(∃ fs,d=.struct fs)\/∃ n e,d=.array n e) (a:Array Value):mkT P t a.toList=.agg a:=by unfold mkT;rcases hk with⟨fs,rfl⟩|⟨n,e,rfl⟩<;>simp[hd]
theorem Xy {mk:MK}{t:TypeId}{d:TypeDesc}(hd:P.underlying t=some d) (hm:Z1y P t mk d) {a:Value}(ha:Xv mk a=true) (e:Bool) (w':World):(Instr.checkKey e 10000 t a).run P w'=.ok () w':=by
 cases mk
 case agg s =>
  cases a<;>first|(cases ha;done)|skip
  rename_i x;have:=CI (P:=P) e 9992 8 t s hm.1 w' x.toList ha;rw[Q4c hd hm.2] at this;exact this
 all_goals (cases a<;>first|(cases ha;done)|(simp only[Z1y] at hm;subst hm;exact N6 hd (by simp) e 9999 w'))
theorem Q6z {mk:MK}(hp:mk.plain=true) {t:TypeId}{d:TypeDesc}(hd:Z1y P t mk d) {k:Value}(hk:Xv mk k=true) (nv:Value) (c:Nat) {n:Nat}:∀ (es:List Yx) (E:List MapEntry) (i:Nat),LERel ρ n E es->es.all (λe=>Xv mk e.1)=true ->
  (Zp k es=none/\Instr.findNow d k E i=some none/\J7 k nv c es=(es++[(k,nv,c)],c+1)) \/
  (∃ j e e',Zp k es=some e/\es[j]?=some e/\E[j]?=some e'/\Instr.findNow d k E i=some (some (i+j,e'.val))/\Uj k e.1=true/\J7 k nv c es=(es.set j (k,nv,e.2.2),c)):=by
 intro es;induction es with
 |nil =>
  intro E i hE _;have:E=[]:=by have:=hE.1;simpa using this
  subst this;exact .inl ⟨rfl,rfl,rfl⟩
 |cons kv es ih =>
  intro E i hE aj;obtain⟨e,E',rfl,he,bR⟩:=hE.cons_inv;simp only[zL,z1] at aj;have hs:Instr.sameNow d k e.key=some (Uj k kv.1):=by rw[he.1];exact Q7p hp hd hk aj.1
  cases hq:Uj k kv.1 with
  |true =>refine .inr ⟨0,kv,e,by simp[Zp,hq],rfl,rfl,?_,hq,by simp[J7,hq]⟩;simp[Instr.findNow,hs,hq]
  |false =>
   rcases ih E' (i+1) bR aj.2 with⟨h1,h2,h3⟩|⟨j,a,a',h1,h2,h3,h4,h5,h6⟩
   .refine .inl ⟨by simp[Zp,hq,h1],by simp[Instr.findNow,hs,hq,h2],by simp[J7,hq,h3]⟩
   .refine .inr ⟨j+1,a,a',by simp[Zp,hq,h1],by simpa using h2,by simpa using h3,?_,h5,by simp[J7,hq,h6]⟩;simp[Instr.findNow,hs,hq,h4];omega
theorem TT {t:TypeId}{d:TypeDesc}(hd:P.underlying t=some d) {k:Value}{E:List MapEntry}{r:Option (Nat×Value)}(h:Instr.findNow d k E 0=some r) (w':World):(Instr.findKey t k E).run P w'=.ok r w':=by simp[Instr.findKey,Q0 hd,h]
theorem Q8f {s:List MK}{t:TypeId}{d:TypeDesc}(hu:P.underlying t=some d) (hd:Z1y P t (.agg s) d) {k:Value}(hk:Xv (.agg s) k=true) (nv:Value) (c:Nat) {n:Nat}:∀ (es:List Yx) (E:List MapEntry) (i:Nat),LERel ρ n E es->es.all (λe=>Xv (.agg s) e.1)=true ->
  (Zp k es=none/\(∀ w',(Instr.findAsking t k E i).run P w'=.ok none w')/\J7 k nv c es=(es++[(k,nv,c)],c+1)) \/
  (∃ j e e',Zp k es=some e/\es[j]?=some e/\E[j]?=some e'/\(∀ w',(Instr.findAsking t k E i).run P w'=.ok (some (i+j,e'.val)) w')/\Uj k e.1=true/\J7 k nv c es=(es.set j (k,nv,e.2.2),c)):=by
 intro es;induction es with
 |nil =>
  intro E i hE _;have:E=[]:=by have:=hE.1;simpa using this
  subst this;exact .inl ⟨rfl,λw'=>by simp[Instr.findAsking],rfl⟩
 |cons kv es ih =>
  intro E i hE aj;obtain⟨e,E',rfl,he,bR⟩:=hE.cons_inv;simp only[zL,z1] at aj;have hs:∀ w',(Op.equal t k e.key).run P w'=.ok (Uj k kv.1) w':=λw'=>by
   rw[he.1];have h1:=aj.1;cases k<;>first|(cases hk;done)|skip
   rename_i x;generalize dV:kv.1=y at h1 |-;cases y<;>first|(cases h1;done)|skip
   rename_i y;have:=GR 9992 8 t s hd.1 w' x.toList y.toList hk h1;rw[Q4c hu hd.2,Q4c hu hd.2] at this;exact this
  cases hq:Uj k kv.1 with
  |true =>refine .inr ⟨0,kv,e,by simp[Zp,hq],rfl,rfl,λw'=>?_,hq,by simp[J7,hq]⟩;simp[Instr.findAsking,hs,hq]
  |false =>
   rcases ih E' (i+1) bR aj.2 with⟨h1,h2,h3⟩|⟨j,a,a',h1,h2,h3,h4,h5,h6⟩
   .refine .inl ⟨by simp[Zp,hq,h1],λw'=>by simp[Instr.findAsking,hs,hq,h2],by simp[J7,hq,h3]⟩
   .refine .inr ⟨j+1,a,a',by simp[Zp,hq,h1],by simpa using h2,by simpa using h3,λw'=>?_,h5,by simp[J7,hq,h6]⟩;simp[Instr.findAsking,hs,hq,h4];omega
theorem Q41 {t:TypeId}{s:List MK}{d:TypeDesc}(hd:Z1y P t (.agg s) d) {k:Value}{e:MapEntry}{E:List MapEntry}{i:Nat}:Instr.findNow d k (e::E) i=none:=by rcases hd.2 with⟨fs,rfl⟩|⟨n,el,rfl⟩<;>simp[Instr.findNow,Instr.sameNow]
theorem Nl {mk:MK}{t:TypeId}{d:TypeDesc}(hu:P.underlying t=some d) (hd:Z1y P t mk d) {k:Value}(hk:Xv mk k=true) (nv:Value) (c:Nat) {n:Nat}(es:List Yx) (E:List MapEntry) (hE:LERel ρ n E es) (aj:es.all (λe=>Xv mk e.1)=true) :
  (Zp k es=none/\(∀ w',(Instr.findKey t k E).run P w'=.ok none w')/\J7 k nv c es=(es++[(k,nv,c)],c+1)) \/
  (∃ j e e',Zp k es=some e/\es[j]?=some e/\E[j]?=some e'/\(∀ w',(Instr.findKey t k E).run P w'=.ok (some (0+j,e'.val)) w')/\Uj k e.1=true/\J7 k nv c es=(es.set j (k,nv,e.2.2),c)):=by
 cases hp:mk.plain with
 |true =>
  rcases Q6z hp hd hk nv c es E 0 hE aj with⟨h1,h2,h3⟩|⟨j,a,a',h1,h2,h3,h4,h5,h6⟩
  .grind [TT]
  .grind [TT]
 |false =>
  cases mk with
  |agg s =>
   have e1:∀ w',(Instr.findKey t k E).run P w'=(Instr.findAsking t k E 0).run P w':=λw'=>by
    cases E with
    |nil=>simp[Instr.findKey,Q0 hu,Instr.findNow,Instr.findAsking]
    |cons e E=>simp[Instr.findKey,Q0 hu,Q41 hd]
   rcases Q8f hu hd hk nv c es E 0 hE aj with⟨h1,h2,h3⟩|⟨j,a,a',h1,h2,h3,h4,h5,h6⟩
   .simp_all
   .grind
  |_=>cases hp
theorem Kq {m:Nat}{es:List Yx}{clock:Nat}{wr:Bool}(h:U.mapAt m=some (es,clock,wr)):U.get m=some (.obj (.map es clock) wr):=by
 unfold Heap.mapAt at h
 grind
theorem Kk (hH:HRel ρ U w) {m:Nat}{es:List Yx}{clock:Nat}{wr:Bool}(h:U.mapAt m=some (es,clock,wr)) {c:Value}(hv:VRel ρ U.n (.map (some m)) c) :
  ∃ p entries,c=.map (some p.blk)/\ρ m=some p/\w.heap[p.blk]?=some (.map entries clock)/\LERel ρ U.n entries.toList es:=by
 obtain⟨p,hp,_,O,h1,h2⟩:=hH.live m _ (Kq h);obtain⟨entries,rfl,h3⟩:=ORel.q0p.1 h2;obtain⟨r,rfl,_,hr⟩:=hv.q1h
 grind
theorem QX {w':World}{r:Nat}{O:Obj}(h:w'.heap[r]?=some O) (hc:∀ c e f,O≠.cells c e f):(getObj r).run P w'=.ok O w':=by cases O<;>first|(exact absurd rfl (hc _ _ _))|simp[getObj,Sem.run,h]
theorem Zw {w':World}{r:Nat}{O O':Obj}(h:w'.heap[r]?=some O) (hc:∀ c e f,O≠.cells c e f):(setObj r O').run P w'=.ok () (Cg w' r O'):=by cases O<;>first|(exact absurd rfl (hc _ _ _))|simp[setObj,Sem.run,h,Cg]
theorem Ir {xs:List Value}{s:ByteArray}(h:La xs=some s):∃ ns:List Int,xs=ns.map (Value.int .u8)/\s=⟨(ns.map λn=>n.toNat.toUInt8).toArray⟩:=by
 unfold La at h;rw[zg] at h;obtain⟨bs,h1,rfl⟩:=h;have key:∀ (xs:List Value) (bs:List UInt8),xs.mapM Q4w=some bs->∃ ns:List Int,xs=ns.map (Value.int .u8)/\bs=ns.map λn=>n.toNat.toUInt8:=by
  intro xs;induction xs with
  |nil=>intro bs h;simp at h;subst h;exact⟨[],rfl,rfl⟩
  |cons x xs ih =>
   intro bs h;rw[zZ] at h;cases hx:Q4w x with
   |none=>simp[hx] at h
   |some b =>
    cases hm:xs.mapM Q4w with
    |none=>simp[hx,hm] at h
    |some vQ =>
     simp[hx,hm] at h;obtain⟨ns,h1,h2⟩:=ih _ hm;unfold Q4w at hx;split at hx
     .rename_i n;simp at hx;exact⟨n::ns,by simp[h1],by rw[<-h,h2,<-hx];rfl⟩
     .cases hx
 simp_all
theorem Z1p {n:Nat}{ns:List Int}{us:List Value}(h:LRel ρ n (ns.map (Value.int .u8)) us):us=ns.map (Value.int .u8):=by
 apply zK;intro i;cases hi:(ns.map (Value.int .u8))[i]? with
 |none =>have h1:(ns.map (Value.int .u8)).length<=i:=List.getElem?_eq_none_iff.1 hi;exact List.getElem?_eq_none_iff.2 (by rw[<-h.1];exact h1)
 |some v =>
  obtain⟨c,hc,hv⟩:=h.get hi;rw[hc];rw[xp] at hi;cases hn:ns[i]? with
  |none=>rw[hn] at hi;cases hi
  |some x=>rw[hn] at hi;obtain rfl:=osj hi;rw[hv.q0f]
theorem Q73 (ns:List Int):∀ (acc:ByteArray),ns.foldl (λr n=>r.push (UInt8.ofNat n.toNat)) acc=⟨acc.data++(ns.map λn=>n.toNat.toUInt8).toArray⟩:=by
 induction ns with
 |nil=>intro acc;simp
 |cons n ns ih =>intro acc;rw[xT,ih];apply ByteArray.ext;simp[ByteArray.push]
theorem Z1b {n:Nat}(b:Nat):∀ (es:List Yx) (E:List MapEntry),LERel ρ n E es->∀ e,es.find? (λe=>e.2.2==b)=some e->∃ e',E.find? (λx=>x.born==b)=some e'/\Z7p ρ n e' e:=by
 intro es;induction es with
 |nil=>intro E _ e h;simp at h
 |cons kv es ih =>
  intro E hE e h;obtain⟨x,E',rfl,hx,bR⟩:=hE.cons_inv;cases hb:kv.2.2==b with
  |true =>simp only[List.find?_cons,hb] at h;obtain rfl:=osj h;exact⟨x,by simp only[List.find?_cons,hx.2.1,hb],hx⟩
  |false =>simp only[List.find?_cons,hb] at h;obtain⟨e',h1,h2⟩:=ih E' bR e h;exact⟨e',by simp only[List.find?_cons,hx.2.1,hb];exact h1,h2⟩
theorem Q84 {u:TypeId}(hc:P.cellsOf u≠0) (n off:Nat) (h0:off=0) (hn:P.cellsOf u<=n):liesAt P P.depth u (n / P.cellsOf u) off u 1=true:=by have hd:P.depth=(2*(P.types.size+Made.depth)+1)+1:=rfl;have h1:1<=n / P.cellsOf u:=(Nat.one_le_div_iff (by omega)).2 hn;subst h0;rw[hd];simp only[liesAt,zl];left;rw[hd];simp[rowAt,hc,sameLayout,h1]
set_option maxHeartbeats 1000000 in
theorem Q2u {o:Oper}{xo:XOp}(hc:FH P o.op=some xo) (hq:xo.quiet=true) (hH:HRel ρ U w) (hE:∀ x,K6 x=true->VRel ρ U.n (Q5 env x) (ev x))
  (h:JA xo (Q5 env) U=some (v,U')):U'=U/\Q2m P ρ U w v (execOp ev o):=by
 obtain⟨dst,op,ty,pos,after,guard⟩:=o;simp only at hc;unfold FH at hc;split at hc
 .cases hc
 rename_i au;simp only[xO,xg] at au;cases op<;>simp only[Op.operands] at au hc
 case binOp iY t x y yt =>
  simp at au;have hx:=hE x au.1;have hy:=hE y au.2
  have key:∀ (kd:Nat) (neg:Bool),iY=(if neg then .neq else .eql)->((kd=0/\∃ e i,P.underlying t=some (.pointer e)/\P.info? e=some i)\/(kd=1/\∃ e,P.underlying t=some (.slice e)) \/
   (kd=2/\∃ k e,P.underlying t=some (.map k e))\/(kd=3/\∃ p q s,P.underlying t=some (.func p q s)))->xo=.eqNil kd neg x y->U'=U/\Q2m P ρ U w v (execOp ev ⟨dst,.binOp iY t x y yt,ty,pos,after,guard⟩):=by
   intro kd neg kG hk l9;subst l9;simp only[JA] at h;split at h
   .rename_i r hs;simp at h;obtain⟨rfl,rfl⟩:=h;obtain⟨h1,h2⟩:=Q7z hH hk hx hy hs;rw[kG];exact⟨rfl,Q6i neg t x y yt ty pos after dst guard rfl rfl (by grind [Q0i]) (h1 neg)⟩
   .cases h
  have tI:∀ (neg:Bool),iY=(if neg then .neq else .eql)->((∃ fs,P.underlying t=some (.struct fs))\/∃ n e,P.underlying t=some (.array n e))->F6 P neg t x y=some xo->U'=U/\Q2m P ρ U w v (execOp ev ⟨dst,.binOp iY t x y yt,ty,pos,after,guard⟩):=by
   intro neg kG hk l9;unfold F6 at l9;split at l9
   .cases l9
   .rename_i rW;obtain⟨s,hs,rfl⟩:=zg.1 l9;simp only[JA] at h;split at h
    .rename_i a b ha hb;split at h
     .rename_i dU;simp at h;obtain⟨rfl,rfl⟩:=h;rw[ha] at hx;rw[hb] at hy;obtain⟨ca,vR,mP⟩:=hx.q1i;obtain⟨cb,vS,ph⟩:=hy.q1i;have ea:=Cl dU.1 mP;have eb:=Cl dU.2 ph;have e1:mkT P t a.toList=.agg a:=by
       unfold mkT;rcases hk with⟨fs,hu⟩|⟨n,e,hu⟩<;>simp[hu]
      have e2:mkT P t b.toList=.agg b:=by unfold mkT;rcases hk with⟨fs,hu⟩|⟨n,e,hu⟩<;>simp[hu]
      have aV:=λw'=>GR 9992 8 t s hs w' a.toList b.toList dU.1 dU.2;rw[e1,e2] at aV;have tJ:ev x=.agg a:=by simp_all
      have tK:ev y=.agg b:=by simp_all
      rw[kG];refine⟨rfl,Q6i neg t x y yt ty pos after dst guard tJ tK (by grind [run_eqGuard_agg]) (λw'=>?_)⟩;have hr:=aV w';cases neg
      .simp only[zj,if_false];rw[run_eql_struct w' t a b,show (10000:Nat)=9992+8 from rfl,hr];rfl
      .simp only[zq];rw[run_neq_struct w' t a b,show (10000:Nat)=9992+8 from rfl,hr];rfl
     .cases h
    .cases h
  split at hc
  .rename_i e hu;cases hi:P.info? e with
   |none=>simp[hi] at hc
   |some i =>simp[hi] at hc;exact(by simp_all)
  .rename_i e hu;cases hi:P.info? e with
   |none=>simp[hi] at hc
   |some i =>simp[hi] at hc;exact(by simp_all)
  .simp_all
  .simp_all
  .simp_all
  .simp_all
  .simp_all
  .simp_all
  .simp_all
  .simp_all
  .simp_all
  .simp_all
  .cases hc
 case makeMap t r=>cases r<;>simp at hc;subst hc;cases hq
 case mapUpdate t m k x =>
  split at hc
  .rename_i kt e hu;cases hk:Q0y P kt with
   |none=>simp[hk] at hc
   |some mk=>simp[hk] at hc;subst hc;cases hq
  .cases hc
 case insert t m k x =>
  split at hc
  .rename_i kt e hu;cases hk:Q0y P kt with
   |none=>simp[hk] at hc
   |some mk=>simp[hk] at hc;subst hc;cases hq
  .cases hc
 case mapEntry t m k =>
  split at hc
  .rename_i kt e hu;cases hk:Q0y P kt with
   |none=>simp[hk] at hc
   |some mk =>
    cases bS:P.info? e with
    |none=>simp[hk,bS] at hc
    |some inf =>
     cases hz:inf.zero with
     |none=>simp[hk,bS,hz] at hc
     |some z=>simp[hk,bS,hz] at hc;obtain⟨_,rfl⟩:=hc;cases hq
  .cases hc
 case entryStore t m s x=>simp at hc;subst hc;cases hq
 case range t x =>
  split at hc
  .simp at hc;subst hc;cases hq
  .simp at hc;subst hc;cases hq
  .cases hc
 case next x b=>cases b<;>(simp at hc;subst hc;cases hq)
 case lookup t x i jg =>
  simp at au;have hx:=hE x au.1;have hi:=hE i au.2;split at hc
  .rename_i kt e hu;cases hk:Q0y P kt with
   |none=>simp[hk] at hc
   |some mk =>
    cases bS:P.info? e with
    |none=>simp[hk,bS] at hc
    |some inf =>
     cases hz:inf.zero with
     |none=>simp[hk,bS,hz] at hc
     |some z =>
      simp[hk,bS,hz] at hc;obtain⟨kH,rfl⟩:=hc;obtain⟨d,hd,dW⟩:=BK hk;have kE:∀ w',(zeroValue e).run P w'=.ok z w':=λw'=>Jz bS hz w';have dP:VRel ρ U.n z z:=G4 kH;simp only[JA] at h;split at h
      .rename_i bF;have p8:ev i=Q5 env i:=AF bF hi;split at h
       .rename_i bc;rw[bc] at hx;obtain bT:=hx.q0r;simp at h;obtain⟨rfl,rfl⟩:=h;refine⟨rfl,if jg then .tuple #[z,.bool false] else z,?_,λw' _=>?_⟩
        .cases jg
         .exact dP
         .exact VRel.q0i (LRel.cons dP (LRel.cons (.bool _) (LRel.nil _ _)))
        .simp only[execOp];simp only[Instr.lookup,zh,Q0 hu,z9,bT,x7,p8,Xy hd dW bF];rw[TT hd (r:=none) rfl];cases jg<;>simp[kE]
       .rename_i m bc;rw[bc] at hx;split at h
        .rename_i es clock wr aI;split at h
         .rename_i aj;obtain⟨p,entries,bT,hp,aE,aG⟩:=Kk hH aI hx;have aV:∀ w',Like ρ w w'->(getObj p.blk).run P w'=.ok (.map entries clock) w':=λw' hl =>
           QX (by rw[hl.blk m p hp];exact aE) (λ_ _ _ e=>by cases e)
          rcases Nl hd dW bF (.bool true) 0 es entries.toList aG aj with⟨h1,h2,_⟩|⟨j,a,a',h1,h2,h3,h4,_,_⟩
          .rw[h1] at h;simp at h;obtain⟨rfl,rfl⟩:=h;refine⟨rfl,if jg then .tuple #[z,.bool false] else z,?_,λw' hl=>?_⟩
           .cases jg
            .exact dP
            .exact VRel.q0i (LRel.cons dP (LRel.cons (.bool _) (LRel.nil _ _)))
           .simp only[execOp];simp only[Instr.lookup,zh,Q0 hu,z9,bT,aV w' hl,x7,p8,Xy hd dW bF];simp_all
          .rw[h1] at h;simp at h;obtain⟨rfl,rfl⟩:=h;have mQ:=(aG.2 j a' a h3 h2).2.2;refine⟨rfl,if jg then .tuple #[a'.val,.bool true] else a'.val,?_,λw' hl=>?_⟩
           .cases jg
            .exact mQ
            .exact VRel.q0i (LRel.cons mQ (LRel.cons (.bool _) (LRel.nil _ _)))
           .simp only[execOp];simp only[Instr.lookup,zh,Q0 hu,z9,bT,aV w' hl,x7,p8,Xy hd dW bF];rw[h4];cases jg<;>simp
         .cases h
        .cases h
       .cases h
      .cases h
  .cases hc
 case entry x =>
  simp at au;have hx:=hE x au;simp at hc;subst hc;simp only[JA] at h;split at h
  .rename_i i bc;rw[bc] at hx;split at h
   .rename_i m since seen last wr hb;split at h
    .rename_i es clock kI b aI dF;split at h
     .rename_i cm;split at h
      .rename_i e cZ;split at h
       rotate_left
       .cases h
       rename_i aW;simp at h;obtain⟨rfl,rfl⟩:=h;obtain⟨p,hp,⟨_,dj⟩,O,hO,rm,rfl,pj⟩:=hH.live i _ hb;obtain⟨q,entries,gX,dm,aE,aG⟩:=Kk hH aI pj;simp at gX;obtain⟨_,_,bT⟩:=hx.q0u hp;rw[dj] at bT;obtain⟨e',l_,pn⟩:=Z1b b es entries.toList aG e cZ;rw[Array.find?_toList] at l_;have eE:(seen.toArray).back?=some b:=by simpa using dF
       have dV:VRel ρ U.n e.1 e'.key:=by rw[pn.1];exact G4 aW
       refine⟨rfl,.tuple #[e'.key,e'.val],VRel.q0i (LRel.cons dV (LRel.cons pn.2.2 (LRel.nil _ _))),λw' hl=>?_⟩;have h1:=QX (P:=P) (w':=w') (r:=p.blk) (by rw[hl.blk i p hp];exact hO) (λ_ _ _ e=>by cases e);have h2:=QX (P:=P) (w':=w') (r:=q.blk) (by rw[hl.blk m q dm];exact aE) (λ_ _ _ e=>by cases e);simp only[execOp];simp only[Instr.entry,bT,zY,zh,h1,z9,eE];rw[gX,];simp[h2,cm,l_]
      .cases h
     .cases h
    .cases h
   .cases h
  .cases h
 case convert s d x =>
  simp at au;have hx:=hE x au;split at hc
  .rename_i t hs hd;cases hi:P.info? t with
   |none=>simp[hi] at hc
   |some inf =>
    simp[hi] at hc;obtain⟨aH,rfl⟩:=hc;simp only[JA] at h;split at h
    .rename_i bc;rw[bc] at hx;obtain bT:=hx.q0n;simp at h;obtain⟨rfl,rfl⟩:=h;refine⟨rfl,QI (c:=.pointer none) (λw'=>?_) .nilPtr⟩;simp[execOp,bT,convert,Q0 hs,Q0 hd,Conv.unsafePointer]
    .rename_i i o bc;rw[bc] at hx;split at h
     .rename_i c e wr tight hb;split at h
      .rename_i ao;simp at h;obtain⟨rfl,rfl⟩:=h;obtain⟨p,hp,_,_,hl,⟨C,e',f,hC,p9,_⟩,_,_⟩:=hH.live i _ hb;obtain⟨_,_,bT⟩:=hx.q0u hp;refine⟨rfl,ev x,hx,λw' p_=>?_⟩;have dj:w'.shape? p.blk=some (e',C.size):=by
        have:w'.heap[p.blk]?=some (.cells C e' f):=by rw[p_.blk i p hp];exact hC
        simp[World.shape?,this]
       simp only[execOp,bT];have:=Go.Lib.run_to_unsafe (P:=P) w' (src:=s) (dst:=d) ⟨p.blk,p.shift+o,none⟩ hs hd hi (by simpa using aH) dj (by show p.shift+o<C.size;omega);simp[this]
      .cases h
     .cases h
    .cases h
  .rename_i u hs hd;cases hi:P.info? u with
   |none=>simp[hi] at hc
   |some inf =>
    simp[hi] at hc;obtain⟨⟨aH,tL⟩,rfl⟩:=hc;simp only[JA] at h;split at h
    .rename_i bc;rw[bc] at hx;obtain bT:=hx.q0n;simp at h;obtain⟨rfl,rfl⟩:=h;refine⟨rfl,QI (c:=.pointer none) (λw'=>?_) .nilPtr⟩;simp[execOp,bT,convert,Q0 hs,Q0 hd,Conv.unsafePointer]
    .rename_i i o bc;rw[bc] at hx;split at h
     .rename_i c e hb;split at h
      .rename_i ao;obtain⟨rfl,het,hle⟩:=ao;simp at h;obtain⟨rfl,rfl⟩:=h;obtain⟨p,hp,_,_,hl,⟨C,e',f,hC,p9,kJ⟩,_,h6⟩:=hH.live i _ hb;obtain⟨_,_,bT⟩:=hx.q0u hp;have tM:=(h6 rfl).1 rfl;refine⟨rfl,ev x,hx,λw' p_=>?_⟩;have dj:w'.shape? p.blk=some (u,C.size):=by
        have:w'.heap[p.blk]?=some (.cells C e' f):=by rw[p_.blk i p hp];exact hC
        simp[World.shape?,this,kJ,het]
       simp only[execOp,bT];rw[zR] at *
       have:=Go.Lib.run_from_unsafe (P:=P) w' (src:=s) (dst:=d) ⟨p.blk,p.shift,none⟩ hs hd hi dj (Q84 tL _ _ tM (by omega));simp[this]
      .cases h
     .cases h
    .cases h
  .rename_i e hs hd;split at hc
   .rename_i he;simp at hc;subst hc;simp only[JA] at h;split at h
    .rename_i a n c bc;rw[bc] at hx;split at h
     .rename_i xs bj;split at h
      .rename_i s' po;simp at h;obtain⟨rfl,rfl⟩:=h;obtain⟨ns,ma,rfl⟩:=Ir po;subst ma;obtain⟨hlen,us,eK,⟨a',av,bT⟩,aV⟩:=IE hH bj hx;have mR:=Z1p eK;refine⟨rfl,.string ⟨(ns.map λn=>n.toNat.toUInt8).toArray⟩,.string _,λw' hl=>?_⟩;have hr:=aV w' hl;rw[bT] at hr;simp only[execOp,bT];cases a' with
       |none =>
        simp[Builtin.firstCells] at hr;have:ns=[]:=by rw[mR] at hr;simpa using hr.symm
        subst this;simp[convert,Q0 hs,Q0 hd,Q0 he,Conv.bytesToString];rfl
       |some a' =>simp only[Builtin.firstCells,Nat.mul_one] at hr;rw[mR] at hr;have:=run_bytesToString (P:=P) w' a' n av ns hr;rw[Q73] at this;simp[convert,Q0 hs,Q0 hd,Q0 he,this]
      .cases h
     .cases h
    .cases h
   .cases hc
  .split at hc
   .simp at hc;subst hc;cases hq
   .cases hc
  .cases hc
 case call c =>
  split at hc
  .rename_i aK;split at hc
   .rename_i t x gb cG;split at hc
    .rename_i kt e hu;simp at hc;subst hc;have bB:c.args=#[x]:=Array.ext' (by simpa using cG);have hx:VRel ρ U.n (Q5 env x) (ev x):=hE x (by simpa [Call.operands,aK,bB] using au);simp only[JA] at h;split at h
     .rename_i bc;rw[bc] at hx;obtain bT:=hx.q0r;simp at h;obtain⟨rfl,rfl⟩:=h;refine⟨rfl,QI (c:=.int .i64 0) (λw'=>?_) (.int _ _)⟩;simp[execOp,resolve,aK,bB,invoke,builtin,Builtin.len_,gb,bT,Q0 hu,goInt]
     .rename_i m bc;rw[bc] at hx;split at h
      .rename_i es clock wr aI;simp at h;obtain⟨rfl,rfl⟩:=h;obtain⟨p,entries,bT,hp,aE,aG⟩:=Kk hH aI hx;refine⟨rfl,.int .i64 es.length,.int _ _,λw' hl=>?_⟩;have h1:=QX (P:=P) (w':=w') (r:=p.blk) (by rw[hl.blk m p hp];exact aE) (λ_ _ _ e=>by cases e);have h2:entries.size=es.length:=by have:=aG.1;simpa using this
       simp[execOp,resolve,aK,bB,invoke,builtin,Builtin.len_,gb,bT,Q0 hu,goInt,h1,h2]
      .cases h
     .cases h
    .cases hc
   .cases hc
  .split at hc
   .split at hc
    .rename_i kt e hu;cases hk:Q0y P kt with
     |none=>simp[hk] at hc
     |some mk=>simp[hk] at hc;subst hc;cases hq
    .cases hc
   .cases hc
  .split at hc
   .split at hc
    .rename_i e hu;cases hi:P.info? e with
     |none=>simp[hi] at hc
     |some inf=>simp[hi] at hc;subst hc;cases hq
    .cases hc
   .cases hc
  .split at hc
   .split at hc
    .rename_i e hu;cases hz:zeroOf P e with
     |none=>simp[hz] at hc
     |some z=>simp[hz] at hc;obtain⟨_,rfl⟩:=hc;cases hq
    .cases hc
   .cases hc
  .rename_i aK;split at hc
   .rename_i x cG;simp at hc;subst hc;have bB:c.args=#[x]:=Array.ext' (by simpa using cG);have hx:VRel ρ U.n (Q5 env x) (ev x):=hE x (by simpa [Call.operands,aK,bB] using au);simp only[JA] at h;split at h
    .rename_i bc;rw[bc] at hx;obtain bT:=hx.q0x;simp at h;obtain⟨rfl,rfl⟩:=h;refine⟨rfl,QI (c:=.pointer none) (λw'=>?_) .nilPtr⟩;simp[execOp,resolve,aK,bB,invoke,builtin,bT,Go.Lib.run_unsafeSliceData_nil]
    .rename_i i o n cap bc;rw[bc] at hx;split at h
     .rename_i cu;simp at h;obtain⟨rfl,rfl⟩:=h;obtain⟨cu,hs⟩:=cu;obtain⟨blk,aE⟩:=Option.isSome_iff_exists.1 hs;obtain⟨p,hp,_⟩:=hH.live _ _ aE;obtain⟨a,av,bT,aQ,aW⟩:=hx.q1a;obtain⟨h1,_,⟨pa,_⟩|⟨o',rfl,_,ho⟩⟩:=aW p hp
      .omega
      have gV:o'=o:=ho.resolve_right (λhh=>cu hh.2);subst gV;refine⟨rfl,.pointer (some ⟨p.blk,p.shift+o',none⟩),.ptr _ _ _ aQ (by simp_all),λw' _=>?_⟩;simp[execOp,resolve,aK,bB,invoke,builtin,bT,Go.Lib.run_unsafeSliceData_row w' _ _ _ n av (by omega)]
     .cases h
    .cases h
   .cases hc
  .split at hc
   .split at hc
    .split at hc
     .simp at hc;subst hc;cases hq
     .cases hc
    .cases hc
   .cases hc
  .cases hc
 all_goals cases hc
theorem getElem?_modify_list {α:Type}(l:List α) (j:Nat) (f:α->α) (k:Nat):(l.modify j f)[k]?=if j=k then (l[k]?).map f else l[k]?:=by
 grind
theorem Rr {n:Nat}{E:List MapEntry}{es:List Yx}(h:LERel ρ n E es) (j:Nat) (f:MapEntry->MapEntry) (kv:Yx) (hf:∀ e,E[j]?=some e->Z7p ρ n (f e) kv):LERel ρ n (E.modify j f) (es.set j kv):=by
 refine⟨by simp[h.1],λk e tN he dV=>?_⟩;rw[getElem?_modify_list] at he;rw[xq] at dV;by_cases eo:j=k
 .grind
 .simp only[eo,if_false] at he dV;exact h.2 k e tN he dV
theorem L3 {n:Nat}{E:List MapEntry}{es:List Yx}(h:LERel ρ n E es) {e:MapEntry}{kv:Yx}(he:Z7p ρ n e kv):LERel ρ n (E++[e]) (es++[kv]):=by
 refine⟨by simp[h.1],λk a b ha hb=>?_⟩;have hl:=h.1;rw[List.getElem?_append] at ha hb;split at ha<;>split at hb<;>try omega
 .exact h.2 k a b ha hb
 grind
theorem OC {γ:Sort _}(f:Option Addr->Value->γ) (g:Array Value->γ) (p:Option Addr) (l:Value):Builtin.unsafeString_.match_3 (motive:=λ_=>γ) #[.pointer p,l] f g=f p l:=rfl
theorem Q0s (ts:Array TypeId) (ty pt:TypeId) (h0:ts[0]?=some pt) (p:Option Addr) (w:World):(Builtin.unsafeString_ ts ty #[.pointer p,.int .i64 0]).run P w=.ok (.string .empty) w:=by
 have jh:IntKind.i64.max=9223372036854775807:=rfl;cases p with
 |none =>delta Builtin.unsafeString_;rw[OC];simp[asInt,asIntOf,jh,h0]
 |some a =>delta Builtin.unsafeString_;rw[OC];simp[asInt,asIntOf,jh,h0]
theorem Q1m:∀ (ns:List Int) (a:Addr) (acc:ByteArray) (w:World),(∀ j n,ns[j]?=some n->w.cell? (a.add j)=some (.int .u8 n)) ->
  (loadBytes a acc ns.length).run P w=.ok ⟨acc.data++(ns.map λn=>n.toNat.toUInt8).toArray⟩ w
 |[],a,acc,w,_=>by simp[loadBytes]
 |n::ns,a,acc,w,h=>by
  have h0:w.cell? a=some (.int .u8 n):=by have:=h 0 n rfl;simpa [Addr.add] using this
  have ih:=Q1m ns (a.add 1) (acc.push n.toNat.toUInt8) w (λj y hy=>by
   have:=h (j+1) y (by simpa using hy);have e:(a.add 1).add j=a.add (j+1):=by
    unfold Addr.add
    grind
   rw[e];exact this)
  simp only[zr,loadBytes,zh,run_load,h0,Result.andThen];simp_all
theorem OX {e:TypeId}(hc:P.cellsOf e=1) (count off n:Nat) (hn:off+n<=count):liesAt P P.depth e count off e n=true:=by have hd:P.depth=(2*(P.types.size+Made.depth)+1)+1:=rfl;rw[hd];simp only[liesAt,zl];left;rw[hd];simp[rowAt,hc,hn,sameLayout,Nat.mod_one]
theorem Z32 (ts:Array TypeId) (ty pt e:TypeId) (h0:ts[0]?=some pt) (hp:P.underlying pt=some (.pointer e)) (hc:P.cellsOf e=1) (a:Addr) (cells:Nat) (w:World) (dj:w.shape? a.block=some (e,cells)) (ns:List Int) (k:Int) (hk:0<k) (mb:ns.length=k.toNat) (hn:a.off+ns.length<=cells)
  (vT:k<=2 ^ 62) (bH:∀ j n,ns[j]?=some n->w.cell? (a.add j)=some (.int .u8 n)) :
  (Builtin.unsafeString_ ts ty #[.pointer (some a),.int .i64 k]).run P w=.ok (.string ⟨(ns.map λn=>n.toNat.toUInt8).toArray⟩) (w.freeze a k.toNat):=by
 have jh:IntKind.i64.max=9223372036854775807:=rfl;have vU:(2:Int) ^ 62=4611686018427387904:=by decide
 have ph:=Q1m (P:=P) ns a .empty w bH;have jI:=OX (P:=P) hc (cells / P.cellsOf e) a.off ns.length (by rw[hc];simpa using hn);have h1:¬ k<0:=by omega
 have h2:¬ (9223372036854775807:Int)<k:=by omega
 have h3:¬ k=0:=by omega
 rw[<-mb];rw[mb] at ph jI;delta Builtin.unsafeString_;rw[OC];simp[asInt,asIntOf,jh,h0,h1,h2,h3,variablesAt,dj,elemOf,Q0 hp,jI,ph,mb]
theorem HRel.freeze (hH:HRel ρ U w) {i:Nat}{p:Pl}{c:List Value}{e:El}{tight:Bool}(hp:ρ i=some p) (hb:U.get i=some (.cells c e true tight)) (off n:Nat) :
  HRel ρ (U.upd i (.cells c e false tight)) (w.freeze ⟨p.blk,off,none⟩ n)/\Ext ρ U w ρ (U.upd i (.cells c e false tight)) (w.freeze ⟨p.blk,off,none⟩ n):=by
 have hi:=U.lt hb;obtain⟨p',bu,hB⟩:=hH.live i _ hb;obtain rfl:p=p':=osj (hp.symm.trans bu);obtain⟨h1,h2,h3,⟨C,e',f,h4,iM⟩,h5,h6⟩:=hB;have dG:∀ k,k≠p.blk->(w.freeze ⟨p.blk,off,none⟩ n).heap[k]?=w.heap[k]?:=λk hk=>by
  unfold World.freeze
  grind
 have aH:(w.freeze ⟨p.blk,off,none⟩ n).heap.size=w.heap.size:=by
  unfold World.freeze;split
  .rfl
  .simp
 obtain⟨f',fh⟩:∃ f',(w.freeze ⟨p.blk,off,none⟩ n).heap[p.blk]?=some (.cells C e' f'):=by
  unfold World.freeze
  grind
 have bH:∀ o,(w.freeze ⟨p.blk,off,none⟩ n).cell? ⟨p.blk,o,none⟩=w.cell? ⟨p.blk,o,none⟩:=λo=>by simp[World.cell?,fh,h4]
 have qa:(w.freeze ⟨p.blk,off,none⟩ n).os=w.os/\(w.freeze ⟨p.blk,off,none⟩ n).tape=w.tape/\(w.freeze ⟨p.blk,off,none⟩ n).output=w.output:=by unfold World.freeze;split<;>exact⟨rfl,rfl,rfl⟩
 have hE:Ext ρ U w ρ (U.upd i (.cells c e false tight)) (w.freeze ⟨p.blk,off,none⟩ n):=by
  .refine⟨qa.1,qa.2.1,qa.2.2,by rw[aH];exact z4 _,λB hB hW=>dG B (λe=>hW ⟨i,p,_,hp,hb,rfl,e.symm⟩),?_,z4 _,λ_ _ _ h=>h⟩;rintro B _ ⟨j,q,b,hq,bW,hw,rfl⟩;by_cases aP:j=i
   .subst aP;exact⟨j,q,_,hq,hb,rfl,rfl⟩
   .rw[Heap.q0b _ _ aP] at bW;exact⟨j,q,b,hq,bW,hw,rfl⟩
 refine⟨hH.ext ⟨λj b hj=>?_,λj hj=>?_,λj q hq=>by rw[aH];exact hH.lt j q hq,λj k q r b eo hq hr ck hw hx=>?_⟩ hE,hE⟩
 .by_cases aP:j=i
  .subst aP;rw[Heap.q0d _ _ hi] at hj;obtain rfl:=osj hj;exact⟨p,hp,h1,h2,h3,⟨C,e',f',fh,iM⟩,(by simp_all),λh=>by cases h⟩
  .rw[Heap.q0b _ _ aP] at hj;obtain⟨q,hq,fe⟩:=hH.live j b hj;exact⟨q,hq,fe.other (z4 _) (λ_ _ _ h=>h) p.blk C e' f h4 (λhx=>hH.sep i j p q _ (Ne.symm aP) hp hq hb rfl hx) ⟨C,f',fh,z4 _⟩ (λk hk _=>dG k hk) (hH.lt j q hq)⟩
 .by_cases aP:j=i
  .grind [Heap.q0d]
  .rw[Heap.q0b _ _ aP] at hj;exact hH.dead j hj
 .by_cases aP:j=i
  .subst aP;rw[Heap.q0d _ _ hi] at ck;obtain rfl:=osj ck;cases hw
  .rw[Heap.q0b _ _ aP] at ck;exact hH.sep j k q r b eo hq hr ck hw hx
theorem HRel.freezeOut (hH:HRel ρ U w) {i:Nat}{p:Pl}{c:List Value}{e:El}{tight:Bool}(hp:ρ i=some p) (hb:U.get i=some (.cells c e true tight)) {C:Array Value}{e':TypeId}{f:Nat×Nat}(hC:w.heap[p.blk]?=some (.cells C e' f)) (hf:f.1=f.2) :
  HRel ρ U (w.freeze ⟨p.blk,C.size,none⟩ 1)/\Ext ρ U w ρ U (w.freeze ⟨p.blk,C.size,none⟩ 1):=by
 have dG:∀ k,k≠p.blk->(w.freeze ⟨p.blk,C.size,none⟩ 1).heap[k]?=w.heap[k]?:=λk hk=>by
  unfold World.freeze
  grind
 have aH:(w.freeze ⟨p.blk,C.size,none⟩ 1).heap.size=w.heap.size:=by unfold World.freeze;rw[z0 (by omega)];simp
 have fh:(w.freeze ⟨p.blk,C.size,none⟩ 1).heap[p.blk]?=some (.cells C e' (C.size,C.size+1)):=by
  unfold World.freeze
  grind
 have bH:∀ o,(w.freeze ⟨p.blk,C.size,none⟩ 1).cell? ⟨p.blk,o,none⟩=w.cell? ⟨p.blk,o,none⟩:=λo=>by simp[World.cell?,fh,hC]
 have hE:Ext ρ U w ρ U (w.freeze ⟨p.blk,C.size,none⟩ 1):=by refine⟨?_,?_,?_,by rw[aH];exact z4 _,λB hB hW=>dG B (λe=>hW ⟨i,p,_,hp,hb,rfl,e.symm⟩),λ_ _ h=>h,z4 _,λ_ _ _ h=>h⟩<;>(unfold World.freeze;rw[z0 (by omega)])
 refine⟨hH.ext ⟨λj b hj=>?_,hH.dead,λj q hq=>by rw[aH];exact hH.lt j q hq,hH.sep⟩ hE,hE⟩;obtain⟨q,hq,fe⟩:=hH.live j b hj;refine⟨q,hq,?_⟩;by_cases hk:q.blk=p.blk
 .cases b with
  |cells c0 e0 tO t0 =>
   obtain⟨h1,h2,h3,⟨C0,e1,f1,h4,h5⟩,h6,h7⟩:=fe;rw[hk,hC] at h4;obtain⟨rfl,rfl,rfl⟩:=(by simpa using h4:C=C0/\e'=e1/\f=f1);refine⟨h1,h2,h3,(by simp_all),λk v hv=>?_,λhw=>⟨(h7 hw).1,λk mD=>?_⟩⟩
   .rw[hk,bH,<-hk];exact h6 k v hv
   .unfold World.frozen?
    grind
  |obj o tO =>obtain⟨_,O,h4,h5⟩:=fe;rw[hk,hC] at h4;obtain rfl:=osj h4;exact absurd h5 ORel.q1s
 .exact fe.mono (z4 _) (λ_ _ _ h=>h) (dG _ hk)
theorem Q42 (hH:HRel ρ U w) {s:ByteArray}{st d e:TypeId}(hs:P.underlying st=some .string) (hd:P.underlying d=some (.slice e)) (he:P.underlying e=some (.int .u8)) {s0:Sem Next}(h0:s0=(do let v <-convert st d (.string s);pure (.value v))) :
  Q0p P ρ U w (.slice (some ⟨U.n,0,none⟩) s.size s.size) (U.push (.cells (s.data.toList.map λb=>.int .u8 b.toNat) ⟨1,e⟩ true false)) s0:=by
 obtain⟨cap,cu⟩:∃ cap,cap=(Question.appendCap s.size 0 e).cut (w.tape w.drawn (.appendCap s.size 0 e)):=⟨_,rfl⟩;have hle:s.size<=cap:=by rw[cu];simp[Question.cut]
 let C:Array Value:=(s.data.map λb=>Value.int .u8 b.toNat)++Array.replicate (cap-s.size) (.int .u8 0);have p9:C.size=cap:=by have:s.data.size=s.size:=rfl;simp[C,this];omega
 have mS:=hH.drew;have aG:LRel ρ U.n (s.data.toList.map λb=>Value.int .u8 b.toNat) (C.toList.take (s.data.toList.map λb=>Value.int .u8 b.toNat).length):=by
  have:C.toList.take (s.data.toList.map λb=>Value.int .u8 b.toNat).length=s.data.toList.map λb=>Value.int .u8 b.toNat:=by simp[C]
  rw[this];exact K0 (z8.2 λx hx=>by obtain⟨b,_,rfl⟩:=zC.1 hx;rfl)
 obtain⟨ρ',h1,h2,h3⟩:=mS.alloc (s.data.toList.map λb=>Value.int .u8 b.toNat) C e ⟨1,e⟩ false rfl aG (by
  simp_all)
 have aE:(w.drew.alloc (.cells C e)).heap[w.drew.heap.size]?=some (.cells C e (0,0)):=by show (w.drew.heap.push _)[w.drew.heap.size]?=_;rw[Array.getElem?_push_size]
 obtain⟨h4,h5⟩:=h2.freezeOut (i:=U.n) h1 (Heap.q0a _ _) aE rfl;refine⟨.slice (some ⟨w.heap.size,0,none⟩) s.size cap,_,ρ',.inl ?_,.sl _ _ _ _ _ _ (by simp) (λp hp=>?_),h4,((Ext.drew ρ U w).trans h3).trans h5⟩
 .subst h0;have dj:(w.drew.alloc (.cells C e)).shape? w.drew.heap.size=some (e,C.size):=by
   unfold World.shape?;rw[aE]
  have hq:(Question.appendCap s.size 0 e).forced=false:=rfl;have rX:w.drew.heap.size=w.heap.size:=rfl;simp only[convert,zh,Q0 hs,Q0 hd,Q0 he,z9,Conv.stringToBytes,run_choose_drew,hq,zj,if_false,<-cu,newRow,run_newObj_alloc,x7,markStringish,run_shape,rX];rw[rX] at dj;have qb:(w.drew.alloc (.cells ((s.data.map λb=>Value.int .u8 b.toNat)++Array.replicate (cap-s.size) (.int .u8 0)) e)).shape? w.heap.size=some (e,C.size):=dj;rw[qb];rfl
 simp_all
set_option maxHeartbeats 1000000 in
theorem IG {k nv:Value}{c:Nat}:∀ {es:List Yx}{e:Yx},Zp k es=some e->∃ j,es[j]?=some e/\J7 k nv c es=(es.set j (k,nv,e.2.2),c)/\Lb k es=es.eraseIdx j
 |[],e,h=>by cases h
 |a::es,e,h=>by
  simp only[Zp] at h;split at h
  .rename_i he;obtain rfl:=osj h;exact⟨0,rfl,by simp[J7,he],by simp[Lb,he]⟩
  .rename_i he;obtain⟨j,h1,h2,h3⟩:=IG (nv:=nv) (c:=c) h;exact⟨j+1,by simpa using h1,by simp[J7,he,h2],by simp[Lb,he,h3]⟩
theorem Ax {k:Value}:∀ {es:List Yx},Zp k es=none->Lb k es=es
 |[],_=>rfl
 |a::es,h=>by
  simp only[Zp] at h;split at h
  .cases h
  .rename_i he;simp[Lb,he,Ax h]
def J08:Value->Nat
 |.int _ n=>n.natAbs
 |_=>0
theorem Q5e {e:Yx}:∀ {es:List Yx},e∈es->J08 e.2.1<=(es.map λx=>J08 x.2.1).sum
 |a::es,h=>by
  rw[xr,List.sum_cons];rcases zB.1 h with rfl|h
  .omega
  .have:=Q5e h;omega
theorem Z0p (es:List Yx):∃ nv:Value,∀ e∈es,e.2.1≠nv :=
 ⟨.int .i64 ((es.map λx=>J08 x.2.1).sum+1:Nat),λe he h=>by
  have h1:=Q5e he;rw[h] at h1;simp only[J08] at h1;omega⟩
theorem Z4a {es:List Yx}{i j:Nat}{x y:Yx}(hi:i<es.length) (_hj:j<es.length) (h:es.set i x=es.set j y) (hx:∀ e∈es,e.2.1≠x.2.1):i=j:=by
 grind [List.getElem?_set_self,List.getElem?_set_ne,List.getElem?_eq_getElem,osj,List.getElem_mem]
theorem Q3s {n:Nat}{E:List MapEntry}{es:List Yx}(h:LERel ρ n E es) (j:Nat):LERel ρ n (E.eraseIdx j) (es.eraseIdx j):=by
 refine⟨by rw[List.length_eraseIdx,List.length_eraseIdx,h.1],λk e kv he dV=>?_⟩;rw[List.getElem?_eraseIdx] at he dV;split at he
 .rename_i ao;rw[z2 ao] at dV;exact h.2 _ _ _ he dV
 .rename_i ao;rw[z0 ao] at dV;exact h.2 _ _ _ he dV
theorem Q4y {o:Oper}{xo:XOp}(hc:FH P o.op = some xo) (hq:xo.quiet = false) (hH:HRel ρ U w) (hE:∀ x, K6 x = true -> VRel ρ U.n (Q5 env x) (ev x))
    (h:JA xo (Q5 env) U = some (v, U')):Q0p P ρ U w v U' (execOp ev o):=by
  obtain ⟨dst, op, ty, pos, after, guard⟩:=o;simp only at hc;unfold FH at hc;split at hc
  . cases hc
  rename_i au;simp only [xO, xg] at au;cases op <;> simp only [Op.operands] at au hc
  case binOp iY t x y yt =>
    have nA:∀ neg, F6 P neg t x y = some xo -> False:=λneg hx => by
      unfold F6 at hx;split at hx
      . cases hx
      . obtain ⟨s, _, rfl⟩:=zg.1 hx; cases hq
    split at hc <;> first
      | exact (nA _ hc).elim
      | (simp at hc; subst hc; cases hq; done)
      | (rename_i e hu
         cases hi:P.info? e with
         | none => simp [hi] at hc
         | some i => simp [hi] at hc; obtain ⟨_, rfl⟩:=hc; cases hq)
      | cases hc
  case makeMap t r =>
    cases r with
    | some _ => cases hc
    | none =>
      simp at hc; subst hc;simp [JA] at h;obtain ⟨rfl, rfl⟩:=h;obtain ⟨ρ', h1, h2, h3⟩:=hH.newObj (.map [] 0) (.map #[] 0) (ORel.q0p.2 ⟨#[], rfl, rfl, λk e kv he => by simp at he⟩);refine ⟨.map (some w.heap.size), _, ρ', .inl ?_, .map _ _ (by simp) (λp hp => ?_), h2, h3⟩
      . simp [execOp, Instr.makeMap]
      . simp_all
  case lookup t x i jg =>
    split at hc
    . rename_i kt e hu
      cases hk:Q0y P kt with
      | none => simp [hk] at hc
      | some mk =>
        cases bS:P.info? e with
        | none => simp [hk, bS] at hc
        | some inf =>
          cases hz:inf.zero with
          | none => simp [hk, bS, hz] at hc
          | some z => simp [hk, bS, hz] at hc; obtain ⟨_, rfl⟩:=hc; cases hq
    . cases hc
  case mapUpdate t m k x =>
    simp at au;have hm:=hE m au.1;have fL:=hE k au.2.1;have hx:=hE x au.2.2;split at hc
    . rename_i kt e hu
      cases hk:Q0y P kt with
      | none => simp [hk] at hc
      | some mk =>
        simp [hk] at hc; subst hc;obtain ⟨d, hd, dW⟩:=BK hk;simp only [JA] at h;split at h
        . rename_i i gJ
          rw [gJ] at hm;split at h
          . rename_i es clock aI
            split at h
            . rename_i ak
              simp only [z1] at ak;obtain ⟨bF, aj⟩:=ak;simp at h; obtain ⟨rfl, rfl⟩:=h;obtain ⟨p, entries, eZ, hp, aE, aG⟩:=Kk hH aI hm;have e9:ev k = Q5 env k:=AF bF fL;have bI:(getObj p.blk).run P w = .ok (.map entries clock) w:=(by grind [QX]);have a7:∀ O', (setObj p.blk O').run P w = .ok () (Cg w p.blk O'):=(by grind [Zw]);rcases Nl hd dW bF (Q5 env x) clock es entries.toList aG aj with ⟨h1, h2, h3⟩ | ⟨j, a, a', h1, h2, h3, h4, h5, h6⟩
              . rw [h3]
                obtain ⟨k1, k2⟩:=hH.setObj (i:=i) (p:=p) hp (Kq aI) (o':=.map (es ++ [(Q5 env k, Q5 env x, clock)]) (clock + 1))
                  (O':=.map (entries.push { key:=ev k, val:=ev x, born:=clock }) (clock + 1)) (ORel.q0p.2 ⟨_, rfl, by
                    rw [Array.toList_push];exact L3 aG ⟨e9, rfl, hx⟩⟩)
                refine ⟨undef, _, ρ, .inr ⟨?_, rfl⟩, Ye, k1, k2⟩;simp only [execOp];simp only [Instr.mapUpdate, zh, Q0 hu, z9, eZ, bI, e9, Xy hd dW bF];simp_all
              . rw [h6]
                have gY:((entries[j]?).map (·.key)).getD (Q5 env k) = a.1:=by
                  rw [<- Array.getElem?_toList, h3];simp [(aG.2 j a' a h3 h2).1]
                have fj:Xv mk a.1 = true:=(by grind)
                obtain ⟨k1, k2⟩:=hH.setObj (i:=i) (p:=p) hp (Kq aI) (o':=.map (es.set j (Q5 env k, Q5 env x, a.2.2)) clock)
                  (O':=.map (entries.modify (0 + j) λe => { e with key:=Q5 env k, val:=ev x }) clock) (ORel.q0p.2 ⟨_, rfl, by
                    rw [Array.toList_modify, zY];exact Rr aG j _ _ (λe he => by
                      obtain rfl:a' = e:=osj (h3.symm.trans he);exact ⟨rfl, (aG.2 j a' a h3 h2).2.1, hx⟩)⟩)
                refine ⟨undef, _, ρ, .inr ⟨?_, rfl⟩, Ye, k1, k2⟩;simp only [execOp];simp only [Instr.mapUpdate, zh, Q0 hu, z9, eZ, bI, e9, Xy hd dW bF];rw [h4];simp only [z9, zh, zY, gY];have bn:(Instr.keyThatStays a.1 (Q5 env k)).run P w = .ok (Q5 env k) w:=by unfold Instr.keyThatStays;rw [z2 (Tw bF fj h5)];rfl
                simp_all
            . cases h
          . cases h
        . cases h
    . cases hc
  case insert t m k x =>
    simp at au;have hm:=hE m au.1;have fL:=hE k au.2.1;have hx:=hE x au.2.2;split at hc
    . rename_i kt e hu
      cases hk:Q0y P kt with
      | none => simp [hk] at hc
      | some mk =>
        simp [hk] at hc; subst hc;obtain ⟨d, hd, dW⟩:=BK hk;simp only [JA] at h;split at h
        . rename_i i gJ
          rw [gJ] at hm;split at h
          . rename_i es clock aI
            split at h
            . rename_i ak
              simp only [z1] at ak;obtain ⟨bF, aj⟩:=ak;simp at h; obtain ⟨rfl, rfl⟩:=h;obtain ⟨p, entries, eZ, hp, aE, aG⟩:=Kk hH aI hm;have e9:ev k = Q5 env k:=AF bF fL;have bI:(getObj p.blk).run P w = .ok (.map entries clock) w:=(by grind [QX]);have a7:∀ O', (setObj p.blk O').run P w = .ok () (Cg w p.blk O'):=(by grind [Zw]);rcases Nl hd dW bF (Q5 env x) clock es entries.toList aG aj with ⟨h1, h2, h3⟩ | ⟨j, a, a', h1, h2, h3, h4, h5, h6⟩
              . rw [h3]
                obtain ⟨k1, k2⟩:=hH.setObj (i:=i) (p:=p) hp (Kq aI) (o':=.map (es ++ [(Q5 env k, Q5 env x, clock)]) (clock + 1))
                  (O':=.map (entries.push { key:=ev k, val:=ev x, born:=clock }) (clock + 1)) (ORel.q0p.2 ⟨_, rfl, by
                    rw [Array.toList_push];exact L3 aG ⟨e9, rfl, hx⟩⟩)
                refine ⟨undef, _, ρ, .inr ⟨?_, rfl⟩, Ye, k1, k2⟩;simp only [execOp];simp only [Instr.mapUpdate, zh, Q0 hu, z9, eZ, bI, e9, Xy hd dW bF];simp_all
              . rw [h6]
                have gY:((entries[j]?).map (·.key)).getD (Q5 env k) = a.1:=by
                  rw [<- Array.getElem?_toList, h3];simp [(aG.2 j a' a h3 h2).1]
                have fj:Xv mk a.1 = true:=(by grind)
                obtain ⟨k1, k2⟩:=hH.setObj (i:=i) (p:=p) hp (Kq aI) (o':=.map (es.set j (Q5 env k, Q5 env x, a.2.2)) clock)
                  (O':=.map (entries.modify (0 + j) λe => { e with key:=Q5 env k, val:=ev x }) clock) (ORel.q0p.2 ⟨_, rfl, by
                    rw [Array.toList_modify, zY];exact Rr aG j _ _ (λe he => by
                      obtain rfl:a' = e:=osj (h3.symm.trans he);exact ⟨rfl, (aG.2 j a' a h3 h2).2.1, hx⟩)⟩)
                refine ⟨undef, _, ρ, .inr ⟨?_, rfl⟩, Ye, k1, k2⟩;simp only [execOp];simp only [Instr.mapUpdate, zh, Q0 hu, z9, eZ, bI, e9, Xy hd dW bF];rw [h4];simp only [z9, zh, zY, gY];have bn:(Instr.keyThatStays a.1 (Q5 env k)).run P w = .ok (Q5 env k) w:=by unfold Instr.keyThatStays;rw [z2 (Tw bF fj h5)];rfl
                simp_all
            . cases h
          . cases h
        . cases h
    . cases hc
  case mapEntry t m k =>
    simp at au;have hm:=hE m au.1;have fL:=hE k au.2;split at hc
    . rename_i kt e hu
      cases hk:Q0y P kt with
      | none => simp [hk] at hc
      | some mk =>
      cases bS:P.info? e with
      | none => simp [hk, bS] at hc
      | some inf =>
      cases hz:inf.zero with
      | none => simp [hk, bS, hz] at hc
      | some z =>
        simp [hk, bS, hz] at hc;obtain ⟨kH, rfl⟩:=hc;obtain ⟨d, hd, dW⟩:=BK hk;have kE:∀ w', (zeroValue e).run P w' = .ok z w':=λw' => Jz bS hz w';have dP:VRel ρ U.n z z:=G4 kH;simp only [JA] at h;split at h
        . rename_i i gJ
          rw [gJ] at hm;split at h
          . rename_i es clock aI
            split at h
            . rename_i ak
              simp only [z1] at ak;obtain ⟨bF, aj⟩:=ak;obtain ⟨p, entries, eZ, hp, aE, aG⟩:=Kk hH aI hm;have e9:ev k = Q5 env k:=AF bF fL;have bI:(getObj p.blk).run P w = .ok (.map entries clock) w:=(by grind [QX]);have a7:∀ O', (setObj p.blk O').run P w = .ok () (Cg w p.blk O'):=(by grind [Zw]);split at h
              . rename_i e0 hf
                simp at h; obtain ⟨rfl, rfl⟩:=h;rcases Nl hd dW bF e0.2.1 clock es entries.toList aG aj with ⟨h1, h2, h3⟩ | ⟨j, a, a', h1, h2, h3, h4, h5, h6⟩
                . rw [hf] at h1; cases h1
                . obtain rfl:e0 = a:=by rw [hf] at h1; exact osj h1
                  rw [h6];have qc:entries[j]? = some a':=by simp_all
                  have gY:((entries[j]?).map (·.key)).getD (Q5 env k) = e0.1:=by
                    rw [qc]; simp [(aG.2 j a' e0 h3 h2).1]
                  have qd:((entries[j]?).map λx => (x.born:Int)).getD 0 = (e0.2.2:Int):=by rw [qc]; simp [(aG.2 j a' e0 h3 h2).2.1]
                  have fj:Xv mk e0.1 = true:=(by grind);have mQ:=(aG.2 j a' e0 h3 h2).2.2
                  obtain ⟨k1, k2⟩:=hH.setObj (i:=i) (p:=p) hp (Kq aI) (o':=.map (es.set j (Q5 env k, e0.2.1, e0.2.2)) clock)
                    (O':=.map (entries.modify (0 + j) λe => { e with key:=Q5 env k }) clock) (ORel.q0p.2 ⟨_, rfl, by
                      rw [Array.toList_modify, zY];exact Rr aG j _ _ (λe he => by
                        obtain rfl:a' = e:=osj (h3.symm.trans he);exact ⟨rfl, (aG.2 j a' e0 h3 h2).2.1, mQ⟩)⟩)
                  refine ⟨.tuple #[a'.val, .int .i64 e0.2.2], _, ρ, .inl ?_, VRel.q0i (LRel.cons mQ (LRel.cons (.int _ _) (LRel.nil _ _))), k1, k2⟩;simp only [execOp];simp only [Instr.mapEntry, zh, Q0 hu, z9, eZ, bI, e9, Xy hd dW bF];rw [h4];simp only [z9, zh, zY, gY, qd];have bn:(Instr.keyThatStays e0.1 (Q5 env k)).run P w = .ok (Q5 env k) w:=by unfold Instr.keyThatStays;rw [z2 (Tw bF fj h5)];rfl
                  rw [bn];simp only [z9, a7, x7];rfl
              . rename_i hf
                simp at h; obtain ⟨rfl, rfl⟩:=h;rcases Nl hd dW bF z clock es entries.toList aG aj with ⟨h1, h2, h3⟩ | ⟨j, a, a', h1, h2, h3, h4, h5, h6⟩
                . rw [h3]
                  obtain ⟨k1, k2⟩:=hH.setObj (i:=i) (p:=p) hp (Kq aI) (o':=.map (es ++ [(Q5 env k, z, clock)]) (clock + 1))
                    (O':=.map (entries.push { key:=Q5 env k, val:=z, born:=clock }) (clock + 1)) (ORel.q0p.2 ⟨_, rfl, by
                      rw [Array.toList_push];exact L3 aG ⟨rfl, rfl, dP⟩⟩)
                  refine ⟨.tuple #[z, .int .i64 clock], _, ρ, .inl ?_, VRel.q0i (LRel.cons dP (LRel.cons (.int _ _) (LRel.nil _ _))), k1, k2⟩;simp only [execOp];simp only [Instr.mapEntry, zh, Q0 hu, z9, eZ, bI, e9, Xy hd dW bF];rw [h2];simp only [z9, zh, kE, a7, x7];rfl
                . rw [hf] at h1; cases h1
            . cases h
          . cases h
        . cases h
    . cases hc
  case entryStore t m s x =>
    simp at au;have hm:=hE m au.1;have hs:=hE s au.2.1;have hx:=hE x au.2.2;simp at hc; subst hc;simp only [JA] at h;split at h
    . rename_i i n gJ qe
      rw [gJ] at hm;rw [qe] at hs;split at h
      . rename_i es clock aI
        split at h
        . rename_i j kB
          split at h
          . rename_i e0 rY
            simp at h; obtain ⟨rfl, rfl⟩:=h;obtain ⟨p, entries, eZ, hp, aE, aG⟩:=Kk hH aI hm;have mT:ev s = .int .i64 n:=UY rfl hs;have bI:(getObj p.blk).run P w = .ok (.map entries clock) w:=(by grind [QX]);have a7:∀ O', (setObj p.blk O').run P w = .ok () (Cg w p.blk O'):=(by grind [Zw]);have mU:entries.toList.map (λx => (x.born:Int)) = es.map (λe => (e.2.2:Int)):=by
              refine zK λq => ?_;rw [xp, xp];cases h1:entries.toList[q]? with
              | none =>
                have:es[q]? = none:=by rw [List.getElem?_eq_none_iff] at h1 |-; rw [<- aG.1]; exact h1
                rw [this]; rfl
              | some a =>
                cases h2:es[q]? with
                | none => rw [List.getElem?_eq_none_iff, <- aG.1, <- List.getElem?_eq_none_iff, h1] at h2; cases h2
                | some b => simp [(aG.2 q a b h1 h2).2.1]
            have qf:entries.findIdx? (λe => (e.born:Int) == n) = some j:=by
              have e1:entries.toList.findIdx? (λe => (e.born:Int) == n) = (entries.toList.map (λx => (x.born:Int))).findIdx? (λb => b == n):=by rw [List.findIdx?_map]; rfl
              have e2:es.findIdx? (λe => (e.2.2:Int) == n) = (es.map (λe => (e.2.2:Int))).findIdx? (λb => b == n):=by rw [List.findIdx?_map]; rfl
              have e3:entries.findIdx? (λe => (e.born:Int) == n) = entries.toList.findIdx? (λe => (e.born:Int) == n):=by rw [<- List.findIdx?_toArray, Array.toArray_toList]
              rw [e3, e1, mU, <- e2, kB]
            have cS:j < entries.toList.length:=by rw [aG.1]; grind
            have qc:=z3 cS
            obtain ⟨k1, k2⟩:=hH.setObj (i:=i) (p:=p) hp (Kq aI) (o':=.map (es.set j (e0.1, Q5 env x, e0.2.2)) clock)
              (O':=.map (entries.modify j λe => { e with val:=ev x }) clock) (ORel.q0p.2 ⟨_, rfl, by
                rw [Array.toList_modify];exact Rr aG j _ _ (λe he => by
                  have hr:=aG.2 j e e0 he rY;exact ⟨hr.1, hr.2.1, hx⟩)⟩)
            refine ⟨undef, _, ρ, .inr ⟨?_, rfl⟩, Ye, k1, k2⟩;simp only [execOp];simp only [Instr.entryStore, eZ, zh, bI, z9, mT];simp [asInt, asIntOf, qf, a7]
          . cases h
        . cases h
      . cases h
    . cases h
  case range t x =>
    simp at au;have hx:=hE x au;split at hc
    . rename_i kt e hu
      simp at hc; subst hc;simp only [JA] at h;split at h
      . rename_i m bc
        rw [bc] at hx;split at h
        . rename_i es clock wr aI
          simp at h; obtain ⟨rfl, rfl⟩:=h;obtain ⟨p, entries, eZ, hp, aE, aG⟩:=Kk hH aI hx;rw [eZ] at hx;obtain ⟨ρ', h1, h2, h3⟩:=hH.newObj (.iter m clock [] clock) (.mapIter (some p.blk) clock #[] clock) ⟨p.blk, rfl, hx⟩;have bI:(getObj p.blk).run P w = .ok (.map entries clock) w:=(by grind [QX]);refine ⟨.pointer (some ⟨w.heap.size, 0, none⟩), _, ρ', .inl ?_, .ptr _ _ _ (by simp) (λq hq => ?_), h2, h3⟩
          . simp [execOp, Instr.range, Q0 hu, eZ, bI]
          simp_all
        . cases h
      . cases h
    . rename_i hu
      simp at hc; subst hc;simp only [JA] at h;split at h
      . rename_i s bc
        rw [bc] at hx;simp at h; obtain ⟨rfl, rfl⟩:=h;have bj:ev x = .string s:=UY rfl hx;obtain ⟨ρ', h1, h2, h3⟩:=hH.newObj (.siter s 0) (.stringIter s 0) rfl;refine ⟨.pointer (some ⟨w.heap.size, 0, none⟩), _, ρ', .inl ?_, .ptr _ _ _ (by simp) (λq hq => ?_), h2, h3⟩
        . simp [execOp, Instr.range, Q0 hu, bj]
        simp_all
      . cases h
    . cases hc
  case next x b =>
    cases b with
    | false => simp at hc; subst hc; simp [JA] at h
    | true =>
      simp at au hc;subst hc;have hx:=hE x au;simp only [JA] at h;split at h
      . rename_i i bc
        rw [bc] at hx;split at h
        . rename_i s ps hb
          obtain ⟨p, hp, ⟨_, dj⟩, O, hO, rfl⟩:=hH.live i _ hb;obtain ⟨_, _, bT⟩:=hx.q0u hp;rw [dj, zY] at bT;have bI:(getObj p.blk).run P w = .ok (.stringIter s ps) w:=(by grind [QX]);have a7:∀ O', (setObj p.blk O').run P w = .ok () (Cg w p.blk O'):=(by grind [Zw]);split at h
          . rename_i b qg
            split at h
            . rename_i ao
              simp at h; obtain ⟨rfl, rfl⟩:=h;obtain ⟨eA, mc⟩:=zi.1 qg;have hps':ps < s.size:=eA;have ck:s[ps]'hps' = b:=mc;obtain ⟨k1, k2⟩:=hH.setObj hp hb (o':=.siter s (ps + 1)) (O':=.stringIter s (ps + 1)) rfl;refine ⟨.tuple #[.bool true, .int .i64 ps, .int .i32 b.toNat], _, ρ, .inl ?_, VRel.q0i (LRel.cons (.bool _) (LRel.cons (.int _ _) (LRel.cons (.int _ _) (LRel.nil _ _)))), k1, k2⟩;simp only [execOp, Instr.next, bT, zh, bI, z9, z2 hps', decode_ascii s ps hps' (by rw [ck]; exact ao), a7];simp [goInt, ck]
            . cases h
          . rename_i qg
            simp at h; obtain ⟨rfl, rfl⟩:=h;have hps':¬ ps < s.size:=by have:=List.getElem?_eq_none_iff.1 qg;intro h; have h':ps < s.data.toList.length:=h; omega
            refine ⟨.tuple #[.bool false], w, ρ, .inl ?_, VRel.q0i (LRel.cons (.bool _) (LRel.nil _ _)), hH, Ext.refl _ _ _⟩;simp only [execOp, Instr.next, bT, zh, bI, z9, z0 hps'];simp
        . cases h
      . cases h
  case entry x => simp at hc; subst hc; cases hq
  case convert s d x =>
    split at hc
    . rename_i t hs hd
      cases hi:P.info? t with
      | none => simp [hi] at hc
      | some inf => simp [hi] at hc; obtain ⟨_, rfl⟩:=hc; cases hq
    . rename_i u hs hd
      cases hi:P.info? u with
      | none => simp [hi] at hc
      | some inf => simp [hi] at hc; obtain ⟨_, rfl⟩:=hc; cases hq
    . split at hc
      . simp at hc; subst hc; cases hq
      . cases hc
    . rename_i e hs hd
      split at hc
      . rename_i he
        simp at hc; subst hc;simp only [JA] at h;split at h
        . rename_i s' bc
          split at h
          . simp at h; obtain ⟨rfl, rfl⟩:=h
            have hx:=hE x (by simpa using au);rw [bc] at hx;refine Q42 hH hs hd he ?_;simp only [execOp, hx.q0o]
          . cases h
        . cases h
      . cases hc
    . cases hc
  case call c =>
    split at hc
    . split at hc
      . split at hc
        . simp at hc; subst hc; cases hq
        . cases hc
      . cases hc
    . rename_i aK
      split at hc
      . rename_i t mm kk gb cG
        split at hc
        . rename_i kt e hu
          cases hk:Q0y P kt with
          | none => simp [hk] at hc
          | some mk =>
            simp [hk] at hc; subst hc;obtain ⟨d, hd, dW⟩:=BK hk;have bB:c.args = #[mm, kk]:=Array.ext' (by simpa using cG);have cK:K6 mm = true /\ K6 kk = true:=by simpa [Call.operands, aK, bB] using au
            have hm:=hE mm cK.1;have fL:=hE kk cK.2;simp only [JA] at h;split at h
            . rename_i i gJ
              rw [gJ] at hm;split at h
              . rename_i es clock aI
                split at h
                . rename_i ak
                  simp only [z1] at ak;obtain ⟨bF, aj⟩:=ak;simp at h; obtain ⟨rfl, rfl⟩:=h;obtain ⟨p, entries, eZ, hp, aE, aG⟩:=Kk hH aI hm;have e9:ev kk = Q5 env kk:=AF bF fL;have bI:(getObj p.blk).run P w = .ok (.map entries clock) w:=(by grind [QX]);have a7:∀ O', (setObj p.blk O').run P w = .ok () (Cg w p.blk O'):=(by grind [Zw]);obtain ⟨nv, pq⟩:=Z0p es;rcases Nl hd dW bF nv clock es entries.toList aG aj with ⟨h1, h2, h3⟩ | ⟨j, a, a', h1, h2, h3, h4, h5, h6⟩
                  . rw [Ax h1]
                    obtain ⟨k1, k2⟩:=hH.setObj (i:=i) (p:=p) hp (Kq aI) (o':=.map es clock) (O':=.map entries clock) (ORel.q0p.2 ⟨_, rfl, aG⟩);refine ⟨.tuple #[], _, ρ, .inl ?_, VRel.q0i (LRel.nil _ _), k1, k2⟩;simp only [execOp];simp [resolve, aK, bB, invoke, builtin, Builtin.delete_, gb, Q0 hu, eZ, bI, e9, Xy hd dW bF, h2, a7]
                  . obtain ⟨j0, g1, g2, g3⟩:=IG (nv:=nv) (c:=clock) h1
                    have hj:j = j0:=by
                      rw [g2] at h6;have hs:=congrArg (λx:List Yx × Nat => x.1) h6
                      grind [Z4a, List.getElem?_eq_some_iff]
                    subst hj;rw [g3];obtain ⟨k1, k2⟩:=hH.setObj (i:=i) (p:=p) hp (Kq aI) (o':=.map (es.eraseIdx j) clock) (O':=.map (entries.eraseIdxIfInBounds (0 + j)) clock) (ORel.q0p.2 ⟨_, rfl, by
                      have cS:j < entries.size:=by
                        grind
                      rw [zY];have e:(entries.eraseIdxIfInBounds j).toList = entries.toList.eraseIdx j:=by simp
                      grind [Q3s]⟩)
                    refine ⟨.tuple #[], _, ρ, .inl ?_, VRel.q0i (LRel.nil _ _), k1, k2⟩;simp only [execOp];simp [resolve, aK, bB, invoke, builtin, Builtin.delete_, gb, Q0 hu, eZ, bI, e9, Xy hd dW bF, h4, a7]
                . cases h
              . cases h
            . cases h
        . cases hc
      . cases hc
    . rename_i aK
      split at hc
      . rename_i t dd ss gb cG
        split at hc
        . rename_i e hu
          cases hi:P.info? e with
          | none => simp [hi] at hc
          | some inf =>
            simp [hi] at hc; subst hc;have bB:c.args = #[dd, ss]:=Array.ext' (by simpa using cG);have cK:K6 dd = true /\ K6 ss = true:=by simpa [Call.operands, aK, bB] using au
            have hd:=hE dd cK.1;have hs:=hE ss cK.2;simp only [JA] at h;split at h
            . rename_i db dn dc sb sn sc qh qe
              rw [qh] at hd; rw [qe] at hs;obtain ⟨da, tP, qi⟩:=hd.q1t;obtain ⟨sa, mV, mT⟩:=hs.q1t;split at h
              . rename_i h0
                simp at h; obtain ⟨rfl, rfl⟩:=h;refine ⟨.int .i64 0, w, ρ, .inl ?_, .int _ _, hH, Ext.refl _ _ _⟩;simp only [execOp];have rZ:Nat.min sn dn = 0:=h0;cases sa <;> cases da <;> simp [resolve, aK, bB, invoke, builtin, Builtin.copy_, gb, qi, mT, Q0 hu, Qp hi, Builtin.lenOf, rZ, Builtin.firstCells, loadCells, loadCellsFrom, storeCells, goInt]
              . rename_i h0
                split at h
                . rename_i i o xs bj
                  split at h
                  . rename_i cc e' wr tight hb
                    split at h
                    . rename_i ak
                      obtain ⟨rfl, mE, je, gW⟩:=ak;simp at h; obtain ⟨rfl, rfl⟩:=h;have bg:VRel ρ U.n (.slice sb (min sn dn) sc) (.slice sa (min sn dn) mV):=by
                        rw [mT] at hs;cases hs with
                        | nilSl => exact absurd (by simp) h0
                        | slx _ _ _ _ _ gZ dX => exact .slx _ _ _ _ _ gZ dX
                        | sl i2 o2 _ _ a2 _ gZ dX =>
                          refine .sl _ _ _ _ _ _ gZ λp hp => ?_;obtain ⟨k1, k2, ⟨k0, vV⟩ | ⟨o', k3, k4, k5⟩⟩:=dX p hp
                          . omega
                          exact (by simp_all)
                      obtain ⟨ft, us, eK, _, aV⟩:=IE hH bj bg;have hr:=aV w (Like.refl ρ w);have qf:(Builtin.firstCells inf.size (min sn dn) (.slice sa sn mV)).run P w = .ok us.toArray w:=by rw [<- hr]; cases sa <;> rfl
                      obtain ⟨p, hp, hB⟩:=hH.live i _ hb;rw [qi] at hd;obtain ⟨a2, i_, mW, aQ, aW⟩:=hd.q1a;simp at mW;obtain ⟨rfl, rfl⟩:=mW;obtain ⟨_, _, ⟨_, gI⟩ | ⟨o', qj, _, mG⟩⟩:=aW p hp
                      . exact absurd (by rw [gI]; simp) h0
                      have ho:o' = o:=mG.resolve_right (λhh => h0 (by rw [hh.1]; simp));subst ho;obtain ⟨h2, h3⟩:=hH.store hp hb eK (o:=o') (by omega);refine ⟨.int .i64 (min sn dn:Nat), _, ρ, .inl ?_, .int _ _, h2, h3⟩;have o7:us.length = xs.length:=eK.1.symm
                      have bn:=run_storeCells_cells (P:=P) p.blk (p.shift + o') us 0 w
                        (λj hj => by rw [zR, zo]; exact hB.q0q _ (by have:=hB.2.2.1; omega))
                        (λj hj => by rw [zR, zo]; exact (hB.2.2.2.2.2 rfl).2 _ (by have:=hB.2.2.1; omega))
                        (Np gW eK)
                      rw [zR] at bn;have qk:Nat.min sn dn = min sn dn:=rfl;simp only [execOp];simp [resolve, aK, bB, invoke, builtin, Builtin.copy_, gb, qi, mT, Q0 hu, Qp hi, Builtin.lenOf, qk, qf, qj, bn, goInt]
                    . cases h
                  . cases h
                . cases h
            . cases h
        . cases hc
      . cases hc
    . rename_i aK
      split at hc
      . rename_i t x gb cG
        split at hc
        . rename_i e hu
          cases hz:zeroOf P e with
          | none => simp [hz] at hc
          | some z =>
            simp [hz] at hc;obtain ⟨gI, rfl⟩:=hc;obtain ⟨inf, zv, bS, dP, gv, vW, iQ⟩:=VS hz;have bB:c.args = #[x]:=Array.ext' (by simpa using cG);have cK:K6 x = true:=by simpa [Call.operands, aK, bB] using au
            have hx:=hE x cK;simp only [JA] at h;split at h
            . rename_i b n cap bc
              rw [bc] at hx;obtain ⟨a, tQ, bT⟩:=hx.q1t;split at h
              . rename_i h0
                simp at h; obtain ⟨rfl, rfl⟩:=h;subst h0;refine ⟨.tuple #[], w, ρ, .inl ?_, VRel.q0i (LRel.nil _ _), hH, Ext.refl _ _ _⟩;simp only [execOp];cases a <;> simp [resolve, aK, bB, invoke, builtin, Builtin.clear_, gb, bT, Q0 hu]
              . rename_i h0
                split at h
                . rename_i i o
                  split at h
                  . rename_i cc e' wr tight hb
                    split at h
                    . rename_i ak
                      obtain ⟨rfl, je, gW⟩:=ak;simp at h; obtain ⟨rfl, rfl⟩:=h;have eK:LRel ρ U.n (Ct n z) (Ct n z):=K0 (SG n z iQ);have fz:=Ev n z;have bU:(Ct n z).all cellOk = true:=Q7y n z gW;obtain ⟨p, hp, hB⟩:=hH.live i _ hb;rw [bT] at hx;obtain ⟨a2, i_, mW, aQ, aW⟩:=hx.q1a;simp at mW;obtain ⟨rfl, rfl⟩:=mW;obtain ⟨_, _, ⟨_, gI⟩ | ⟨o', qj, _, mG⟩⟩:=aW p hp
                      . exact absurd gI h0
                      have ho:o' = o:=mG.resolve_right (λhh => h0 hh.1);subst ho;obtain ⟨h2, h3⟩:=hH.store hp hb eK (o:=o') (by omega);refine ⟨.tuple #[], _, ρ, .inl ?_, VRel.q0i (LRel.nil _ _), h2, h3⟩
                      have bn:=run_storeCells_cells (P:=P) p.blk (p.shift + o') (Ct n z) 0 w
                        (λj hj => by rw [zR, zo]; exact hB.q0q _ (by have:=hB.2.2.1; omega))
                        (λj hj => by rw [zR, zo]; exact (hB.2.2.2.2.2 rfl).2 _ (by have:=hB.2.2.1; omega))
                        (Np bU eK)
                      rw [zR] at bn;have tR:(Builtin.zeroCells zv.cells n).toList = Ct n z:=by have:=Sz zv.cells z gv (by intro hh; rw [hh] at gI; exact gI rfl) n;simpa [Builtin.zeroCells, <- gv] using this
                      simp only [execOp];obtain ⟨n', rfl⟩:∃ k, n = k + 1:=⟨n - 1, by omega⟩;simp [resolve, aK, bB, invoke, builtin, Builtin.clear_, gb, bT, Q0 hu, Jz bS dP, tR, qj, bn]
                    . cases h
                  . cases h
                . cases h
            . cases h
        . cases hc
      . cases hc
    . split at hc
      . simp at hc; subst hc; cases hq
      . cases hc
    . rename_i aK
      split at hc
      . rename_i t x nn gb cG
        split at hc
        . rename_i e hu
          split at hc
          . rename_i pV
            simp at hc; subst hc;have bB:c.args = #[x, nn]:=Array.ext' (by simpa using cG);have cK:K6 x = true /\ K6 nn = true:=by simpa [Call.operands, aK, bB] using au
            have hx:=hE x cK.1;have hn:=hE nn cK.2;simp only [JA] at h;split at h
            . rename_i q k bc aJ
              rw [bc] at hx; rw [aJ] at hn;have gx:=hn.q0f;split at h
              . rename_i h0
                simp at h; obtain ⟨rfl, rfl⟩:=h;subst h0;refine ⟨.string ⟨#[]⟩, w, ρ, .inl ?_, .string _, hH, Ext.refl _ _ _⟩;have dm:∃ q', ev x = .pointer q':=by
                  cases q with
                  | none => exact ⟨none, hx.q0n⟩
                  | some a => obtain ⟨b, hb⟩:=hx.q1g; exact ⟨_, hb⟩
                obtain ⟨q', dm⟩:=dm;simp [execOp, resolve, aK, bB, invoke, builtin, dm, gx, Q0s c.argTypes ty t gb q' w];rfl
              . rename_i h0
                split at h
                . rename_i i o
                  split at h
                  . rename_i cc el tight hb
                    split at h
                    . rename_i ak
                      obtain ⟨g9, r4, het, je⟩:=ak;split at h
                      . rename_i s' po
                        simp at h; obtain ⟨rfl, rfl⟩:=h;obtain ⟨ns, ma, rfl⟩:=Ir po;obtain ⟨p, hp, h1, h2, h3, ⟨C, e', f, hC, p9, kJ⟩, h5, h6⟩:=hH.live i _ hb;obtain ⟨_, _, bT⟩:=hx.q0u hp;have kK:ns.length = k.toNat:=by have:=congrArg List.length ma;simp at this; omega
                        have bH:∀ j n, ns[j]? = some n -> w.cell? ((⟨p.blk, p.shift + o, none⟩:Addr).add j) = some (.int .u8 n):=λj n hj => by
                          have cS:j < ns.length:=(zi.1 hj).1;have eY:cc[o + j]? = some (.int .u8 n):=by
                            have:((cc.drop o).take k.toNat)[j]? = some (.int .u8 n):=by rw [ma, xp, hj]; rfl
                            rwa [xw, z2 (by omega), zN] at this
                          obtain ⟨u, dE, cF⟩:=h5 (o + j) _ eY;have fM:(⟨p.blk, p.shift + o, none⟩:Addr).add j = ⟨p.blk, p.shift + (o + j), none⟩:=by unfold Addr.add; split <;> simp_all <;> omega
                          rw [fM, dE, cF.q0f]
                        have dj:w.shape? p.blk = some (e, C.size):=by simp [World.shape?, hC, kJ, het]
                        have hr:=Z32 (P:=P) c.argTypes ty t e gb hu pV ⟨p.blk, p.shift + o, none⟩ C.size w dj ns k g9 kK (by show p.shift + o + ns.length <= C.size; omega) r4 bH;obtain ⟨k1, k2⟩:=hH.freeze hp hb (p.shift + o) k.toNat;refine ⟨.string ⟨(ns.map λn => n.toNat.toUInt8).toArray⟩, _, ρ, .inl ?_, .string _, k1, k2⟩;simp [execOp, resolve, aK, bB, invoke, builtin, bT, gx, hr]
                      . cases h
                    . cases h
                  . cases h
                . cases h
            . cases h
          . cases hc
        . cases hc
      . cases hc
    . cases hc
  all_goals cases hc
theorem Z0c {o:Oper}{vo:VOp}(hc:NG P o.op=vo) (hq:vo.quiet=true) (hH:HRel ρ U w) (hE:∀ x,K6 x=true->VRel ρ U.n (Q5 env x) (ev x))
  (h:Qb vo (Q5 env) U=some (v,U')):U'=U/\Q2m P ρ U w v (execOp ev o):=by
 unfold NG at hc;split at hc
 .grind [Q3z]
 .split at hc
  .rename_i x hx;subst hc;exact Q2u hx hq hH hE h
  .subst hc;simp[Qb] at h
theorem Z1a {o:Oper}{vo:VOp}(hc:NG P o.op=vo) (hq:vo.quiet=false) (hH:HRel ρ U w) (hE:∀ x,K6 x=true->VRel ρ U.n (Q5 env x) (ev x))
  (h:Qb vo (Q5 env) U=some (v,U')):Q0p P ρ U w v U' (execOp ev o):=by
 unfold NG at hc;split at hc
 .grind [Q72]
 .split at hc
  .rename_i x hx;subst hc;exact Q4y hx hq hH hE h
  .subst hc;simp[Qb] at h
end
end Go.V