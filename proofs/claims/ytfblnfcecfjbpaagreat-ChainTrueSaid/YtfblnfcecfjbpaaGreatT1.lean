/- A framework for walks, contracts of functions, and their proofs: part 1. -/
import Derived.WalkKit
import Derived.Lib.Builder
import Derived.Lib.UnsafeStr
import Derived.DeepKeys
abbrev Go.z1:=@List.getElem?_eq_getElem
abbrev Go.z6:=@Bool.and_eq_true
abbrev Go.z7:=@if_pos
abbrev Go.z8:=@if_neg
abbrev Go.zd:=@List.getD_eq_getElem?_getD
abbrev Go.ze:=@Nat.le_refl
abbrev Go.zf:=@List.all_eq_true
abbrev Go.zg:=@List.getElem?_eq_some_iff
abbrev Go.zh:=@Go.Result.andThen_ok
abbrev Go.zi:=@List.mem_cons_of_mem
abbrev Go.zj:=@_root_.cond_true
abbrev Go.zk:=@List.getElem?_eq_none
abbrev Go.zl:=@Nat.lt_or_ge
abbrev Go.zm:=@decide_eq_true_eq
abbrev Go.zn:=@List.mem_cons
abbrev Go.zo:=@List.mem_singleton
abbrev Go.zp:=@List.getElem_mem
abbrev Go.zq:=@Int.toNat_natCast
abbrev Go.zr:=@Nat.mul_le_mul_right
abbrev Go.zt:=@Nat.add_assoc
abbrev Go.zu:=@List.mem_cons_self
abbrev Go.zw:=@Option.map_eq_some_iff
abbrev Go.zx:=@List.take_of_length_le
abbrev Go.zy:=@Bool.or_eq_true
abbrev Go.zz:=@List.getElem?_drop
abbrev Go.zA:=@Go.Sem.run_bind
abbrev Go.zB:=@if_true
abbrev Go.zC:=@Bool.false_eq_true
abbrev Go.zD:=@List.mem_range
abbrev Go.zE:=@List.mem_map
abbrev Go.zF:=@List.mem_of_getElem?
abbrev Go.zG:=@Nat.le_of_ble_eq_true
abbrev Go.zH:=@Nat.add_mul
abbrev Go.zI:=@List.length_append
abbrev Go.zJ:=@List.map_cons
abbrev Go.zK:=@Nat.add_zero
abbrev Go.zL:=@Nat.blt_eq
abbrev Go.zM:=@Nat.eq_of_beq_eq_true
abbrev Go.zN:=@Option.bind_eq_bind
abbrev Go.zO:=@List.getElem?_take
abbrev Go.zP:=@of_decide_eq_true
abbrev Go.zQ:=@List.mem_append
abbrev Go.zR:=@List.cons.inj
abbrev Go.zS:=@_root_.cond_false
abbrev Go.zT:=@beq_iff_eq
abbrev Go.zU:=@List.getElem?_map
abbrev Go.zV:=@List.ext_getElem?
abbrev Go.zW:=@List.all_cons
abbrev Go.zX:=@List.mem_filter
abbrev Go.zY:=@Nat.le_trans
abbrev Go.zZ:=@List.append_assoc
abbrev Go.z_:=@Option.map_some
abbrev Go.x3:=@Nat.zero_add
abbrev Go.x4:=@List.length_eq_zero_iff
abbrev Go.x5:=@List.drop_zero
abbrev Go.x6:=@Option.some.injEq
abbrev Go.x7:=@of_decide_eq_false
abbrev Go.x8:=@List.length_eq_one_iff
abbrev Go.x9:=@Array.getElem?_eq_some_iff
abbrev Go.xc:=@List.map_congr_left
abbrev Go.xd:=@Option.bind_eq_some_iff
abbrev Go.xe:=@Go.Sem.run_pure
abbrev Go.xg:=@Array.getElem?_eq_getElem
abbrev Go.xh:=@List.length_cons
abbrev Go.xi:=@Nat.lt_of_lt_of_le
abbrev Go.xj:=@List.nil_append
abbrev Go.xk:=@Int.eq_ofNat_of_zero_le
abbrev Go.xl:=@List.mem_iff_getElem?
abbrev Go.xm:=@Bool.not_eq_false'
abbrev Go.xn:=@List.getElem?_append_left
abbrev Go.xp:=@List.mapM_cons
abbrev Go.xq:=@List.getElem?_append_right
abbrev Go.xr:=@List.length_singleton
abbrev Go.xt:=@List.nodup_cons
abbrev Go.xu:=@List.any_eq_true
abbrev Go.xw:=@Option.bind_some
abbrev Go.xx:=@List.length_pos_iff
abbrev Go.xy:=@List.replicate_succ
abbrev Go.xA:=@decide_eq_false_iff_not
abbrev Go.xB:=@List.cons_append
abbrev Go.xC:=@Bool.not_eq_true
abbrev Go.xD:=@List.any_eq_false
abbrev Go.xE:=@List.length_take
abbrev Go.xF:=@Nat.one_mul
abbrev Go.xG:=@beq_eq_false_iff_ne
abbrev Go.xH:=@List.getElem?_set
abbrev Go.xI:=@List.sum_cons
abbrev Go.xJ:=@List.append_nil
abbrev Go.xK:=@decide_eq_false
abbrev Go.xL:=@Nat.min_eq_left
abbrev Go.xM:=@Nat.lt_of_le_of_lt
abbrev Go.xN:=@List.map_append
abbrev Go.xO:=@Bool.and_true
abbrev Go.xP:=@Nat.add_comm
abbrev Go.xQ:=@Nat.sub_self
abbrev Go.xR:=@Nat.mod_eq_of_lt
abbrev Go.xS:=@List.getElem_map
abbrev Go.xT:=@List.take_append_drop
abbrev Go.xU:=@List.length_replicate
abbrev Go.xV:=@List.mem_append_right
abbrev Go.xW:=@Nat.shiftRight_eq_div_pow
abbrev Go.xX:=@List.mem_append_left
abbrev Go.xY:=@Bool.or_false
abbrev Go.xZ:=@List.length_drop
abbrev Go.x_:=@Nat.mul_comm
abbrev Go.w5:=@List.foldl_cons
abbrev Go.w6:=@List.perm_ext_iff_of_nodup
abbrev Go.wA:=@Bool.not_true
abbrev Go.wB:=@Bool.not_eq_false
abbrev Go.wC:=@List.take_succ_cons
abbrev Go.wD:=@List.length_set
abbrev Go.wE:=@Nat.mod_lt
abbrev Go.wF:=@List.take_zero
abbrev Go.wG:=@List.drop_succ_cons
abbrev Go.wH:=@List.drop_eq_getElem_cons
abbrev Go.wI:=@Option.map_none
abbrev Go.wJ:=@decide_eq_true
abbrev Go.wK:=@List.getElem?_replicate
abbrev Go.wL:=@Nat.lt_irrefl
abbrev Go.wM:=@Nat.not_lt
abbrev Go.wN:=@List.pairwise_cons
abbrev Go.wO:=@List.pairwise_map
abbrev Go.wP:=@List.length_range
abbrev Go.wQ:=@List.map_map
abbrev Go.wR:=@List.filter_cons
abbrev Go.wS:=@Nat.mul_add
abbrev Go.wT:=@Nat.mul_one
theorem Go.osj.{u} {α:Type u} {a b:α}:some a=some b->a=b:=Option.some.inj
namespace Go.V
open Go
def Q19:Nat->Option (List Value):=λ_=>none
structure El where
 sz:Nat
 ty:Nat
 deriving DecidableEq,Inhabited
inductive VObj where
 |map (es:List (Value×Value×Nat)) (clock:Nat)
 |iter (m since:Nat) (seen:List Nat) (last:Nat)
 |lp (env:List Value) (r:Loop) (st:LoopState) (pend:Option Code)
 deriving Inhabited
inductive Blk where
 |cells (c:List Value) (esz:El) (wr tight:Bool)
 |obj (o:VObj) (wr:Bool)
 deriving Inhabited
def Blk.wr:Blk->Bool
 |.cells _ _ w _=>w
 |.obj _ w=>w
structure Heap where
 get:Nat->Option Blk
 n:Nat
 wf:∀ i,n<=i->get i=none
theorem Heap.lt (M:Heap) {i:Nat}{b:Blk}(h:M.get i=some b):i<M.n:=by
 rcases zl i M.n with h'|h'
 .exact h'
 .rw[M.wf i h'] at h;cases h
def Heap.push (M:Heap) (b:Blk):Heap where
 get i:=if i=M.n then some b else M.get i
 n:=M.n+1
 wf i h:=by rw[z8 (by omega)];exact M.wf i (by omega)
def Heap.upd (M:Heap) (i:Nat) (b:Blk):Heap where
 get j:=if j=i/\i<M.n then some b else M.get j
 n:=M.n
 wf j h:=by rw[z8 (by omega)];exact M.wf j h
def Heap.kill (M:Heap) (i:Nat):Heap where
 get j:=if j=i then none else M.get j
 n:=M.n
 wf j h:=by split;rfl;exact M.wf j h
@[simp] theorem Heap.push_n (M:Heap) (b:Blk):(M.push b).n=M.n+1:=rfl
@[simp] theorem Heap.q2q (M:Heap) (i:Nat) (b:Blk):(M.upd i b).n=M.n:=rfl
@[simp] theorem Heap.kill_n (M:Heap) (i:Nat):(M.kill i).n=M.n:=rfl
theorem Heap.q0a (M:Heap) (b:Blk):(M.push b).get M.n=some b:=by simp[Heap.push]
theorem Heap.q0e (M:Heap) (b:Blk) {i:Nat}(h:i≠M.n):(M.push b).get i=M.get i:=by simp[Heap.push,h]
theorem Heap.q0i (M:Heap) (b:Blk) {i:Nat}(h:i<M.n):(M.push b).get i=M.get i:=M.q0e b (Nat.ne_of_lt h)
theorem Heap.q0c (M:Heap) (b:Blk) {i:Nat}(h:i<M.n):(M.upd i b).get i=some b:=by simp[Heap.upd,h]
theorem Heap.q0b (M:Heap) (b:Blk) {i j:Nat}(h:j≠i):(M.upd i b).get j=M.get j:=by simp[Heap.upd,h]
theorem Heap.q0g (M:Heap) (i:Nat):(M.kill i).get i=none:=by simp[Heap.kill]
theorem Heap.q0d (M:Heap) {i j:Nat}(h:j≠i):(M.kill i).get j=M.get j:=by simp[Heap.kill,h]
structure Pl where
 blk:Nat
 shift:Nat
 ext:Nat
 esz:El
 tight:Bool
abbrev Plc:=Nat->Option Pl
def poison:Value:=.chan none
inductive VRel (ρ:Plc) (n:Nat):Value->Value->Prop
 |poison (c:Value):VRel ρ n poison c
 |bool (b:Bool):VRel ρ n (.bool b) (.bool b)
 |int (k:IntKind) (x:Int):VRel ρ n (.int k x) (.int k x)
 |string (s:ByteArray):VRel ρ n (.string s) (.string s)
 |nilPtr:VRel ρ n (.pointer none) (.pointer none)
 |nilSl:VRel ρ n (.slice none 0 0) (.slice none 0 0)
 |nilMap:VRel ρ n (.map none) (.map none)
 |nilFunc:VRel ρ n .nilFunc .nilFunc
 |nilIface:VRel ρ n .nilIface .nilIface
 |glob (g o s:Nat):VRel ρ n (.pointer (some ⟨g,o,some s⟩)) (.pointer (some ⟨g,o,none⟩))
 |ptr (i o:Nat) (a:Addr) (hi:i<n) (h:∀ p,ρ i=some p->a=⟨p.blk,p.shift+o,none⟩):VRel ρ n (.pointer (some ⟨i,o,none⟩)) (.pointer (some a))
 |sl (i o len cap:Nat) (a:Addr) (au:Nat) (hi:i<n)
   (h:∀ p,ρ i=some p->cap<=au/\(p.tight=true->au=cap)/\(au=0/\len=0\/∃ o',a=⟨p.blk,p.shift+o',none⟩/\o'+au*p.esz.sz<=p.ext/\(o'=o\/(len=0/\cap=0)))) :
   VRel ρ n (.slice (some ⟨i,o,none⟩) len cap) (.slice (some a) len au)
 |slx (i o len cap:Nat) (a:Addr) (hi:i<n) (h:∀ p,ρ i=some p->a=⟨p.blk,p.shift+o,none⟩/\o+cap*p.esz.sz<=p.ext) :
   VRel ρ n (.slice (some ⟨i,o,some 0⟩) len cap) (.slice (some a) len cap)
 |map (i r:Nat) (hi:i<n) (h:∀ p,ρ i=some p->r=p.blk):VRel ρ n (.map (some i)) (.map (some r))
 |yield (i r:Nat) (hi:i<n) (h:∀ p,ρ i=some p->r=p.blk):VRel ρ n (.func (.yield i) #[] #[]) (.func (.yield r) #[] #[])
 |iface (t:TypeId) (v c:Value) (h:VRel ρ n v c):VRel ρ n (.iface t v) (.iface t c)
 |func (fn:FuncId) (fs gs cs ds:Array Value) (hf:fs.size=gs.size) (hc:cs.size=ds.size)
   (h1:∀ i (h1:i<fs.size) (h2:i<gs.size),VRel ρ n fs[i] gs[i]) (h2:∀ i (h1:i<cs.size) (h2:i<ds.size),VRel ρ n cs[i] ds[i]):VRel ρ n (.func (.func fn) fs cs) (.func (.func fn) gs ds)
 |agg (cs ds:Array Value) (hc:cs.size=ds.size) (h:∀ i (h1:i<cs.size) (h2:i<ds.size),VRel ρ n cs[i] ds[i]):VRel ρ n (.agg cs) (.agg ds)
 |tuple (cs ds:Array Value) (hc:cs.size=ds.size) (h:∀ i (h1:i<cs.size) (h2:i<ds.size),VRel ρ n cs[i] ds[i]):VRel ρ n (.tuple cs) (.tuple ds)
theorem VRel.mono {ρ ρ':Plc}{n n':Nat}(hn:n<=n') (hρ:∀ i,i<n->∀ p,ρ' i=some p->ρ i=some p) {v c:Value}(h:VRel ρ n v c):VRel ρ' n' v c:=by
 induction h with
 |poison c=>exact .poison c
 |bool b=>exact .bool b
 |int k x=>exact .int k x
 |string s=>exact .string s
 |nilPtr=>exact .nilPtr
 |nilSl=>exact .nilSl
 |nilMap=>exact .nilMap
 |nilFunc=>exact .nilFunc
 |nilIface=>exact .nilIface
 |glob g o s=>exact .glob g o s
 |ptr i o a hi h=>exact .ptr i o a (by omega) λp hp=>h p (hρ i hi p hp)
 |sl i o len cap a au hi h=>exact .sl i o len cap a au (by omega) λp hp=>h p (hρ i hi p hp)
 |slx i o len cap a hi h=>exact .slx i o len cap a (by omega) λp hp=>h p (hρ i hi p hp)
 |map i r hi h=>exact .map i r (by omega) λp hp=>h p (hρ i hi p hp)
 |yield i r hi h=>exact .yield i r (by omega) λp hp=>h p (hρ i hi p hp)
 |iface t v c _ ih=>exact .iface t v c ih
 |func fn fs gs cs ds hf hc _ _ lK lL=>exact .func fn fs gs cs ds hf hc lK lL
 |agg cs ds hc _ ih=>exact .agg cs ds hc ih
 |tuple cs ds hc _ ih=>exact .tuple cs ds hc ih
def LRel (ρ:Plc) (n:Nat) (vs cs:List Value):Prop:=vs.length=cs.length/\∀ (i:Nat) (v c:Value),vs[i]?=some v->cs[i]?=some c->VRel ρ n v c
theorem LRel.mono {ρ ρ':Plc}{n n':Nat}(hn:n<=n') (hρ:∀ i,i<n->∀ p,ρ' i=some p->ρ i=some p) {v c:List Value}(h:LRel ρ n v c):LRel ρ' n' v c :=
 ⟨h.1,λi v c hv hc=>(h.2 i v c hv hc).mono hn hρ⟩
theorem LRel.nil (ρ:Plc) (n:Nat):LRel ρ n [] []:=⟨rfl,λi v c h _=>by simp at h⟩
theorem LRel.cons {ρ:Plc}{n:Nat}{v c:Value}{vs cs:List Value}(h:VRel ρ n v c) (hs:LRel ρ n vs cs):LRel ρ n (v::vs) (c::cs):=by
 refine⟨by simp[hs.1],λi v' c' hv hc=>?_⟩;cases i with
 |zero=>simp at hv hc;subst hv;subst hc;exact h
 |succ i=>simp at hv hc;exact hs.2 i v' c' hv hc
theorem LRel.get {ρ:Plc}{n:Nat}{vs cs:List Value}(h:LRel ρ n vs cs) {i:Nat}{v:Value}(hv:vs[i]?=some v):∃ c,cs[i]?=some c/\VRel ρ n v c:=by
 have ah:i<vs.length:=(zg.1 hv).1;have b8:i<cs.length:=by have:=h.1;omega
 exact⟨cs[i],z1 b8,h.2 i v _ hv (z1 b8)⟩
theorem LRel.set {ρ:Plc}{n:Nat}{vs cs:List Value}(h:LRel ρ n vs cs) (i:Nat) {v c:Value}(hv:VRel ρ n v c):LRel ρ n (vs.set i v) (cs.set i c):=by
 refine⟨by simp[h.1],λj v' c' h1 h2=>?_⟩;rw[xH] at h1 h2;by_cases cj:i=j
 .subst cj;simp only[zB] at h1 h2;split at h1<;>split at h2<;>simp at h1 h2;subst h1;subst h2;exact hv
 .simp only[cj,if_false] at h1 h2;exact h.2 j v' c' h1 h2
theorem LRel.append {ρ:Plc}{n:Nat}{vs cs cS cs':List Value}(h:LRel ρ n vs cs) (h':LRel ρ n cS cs'):LRel ρ n (vs++cS) (cs++cs'):=by
 refine⟨by simp[h.1,h'.1],λi v c hv hc=>?_⟩;have e:=h.1;rw[List.getElem?_append] at hv hc;split at hv<;>split at hc<;>try omega
 .exact h.2 i v c hv hc
 .rw[e] at hv;exact h'.2 _ v c hv hc
theorem VRel.q1n {ρ:Plc}{n:Nat}{cs ds:List Value}(h:LRel ρ n cs ds):VRel ρ n (.agg cs.toArray) (.agg ds.toArray) :=
 .agg _ _ (by simpa using h.1) λi h1 h2=>h.2 i _ _ (by simp) (by simp)
theorem VRel.q0j {ρ:Plc}{n:Nat}{cs ds:List Value}(h:LRel ρ n cs ds):VRel ρ n (.tuple cs.toArray) (.tuple ds.toArray) :=
 .tuple _ _ (by simpa using h.1) λi h1 h2=>h.2 i _ _ (by simp) (by simp)
theorem LRel.of_array {ρ:Plc}{n:Nat}{cs ds:Array Value}(hc:cs.size=ds.size) (h:∀ i (h1:i<cs.size) (h2:i<ds.size),VRel ρ n cs[i] ds[i]):LRel ρ n cs.toList ds.toList:=by refine⟨by simpa using hc,λi v c hv cI=>?_⟩;obtain⟨h1,rfl⟩:=zg.1 hv;obtain⟨h2,rfl⟩:=zg.1 cI;exact h i (by simpa using h1) (by simpa using h2)
def ORel (ρ:Plc) (n:Nat):VObj->Obj->Prop
 |.map es clock,o=>∃ entries,o=.map entries clock/\entries.size=es.length /\
   ∀ (k:Nat) (kv:Value×Value×Nat),es[k]?=some kv->∃ e:MapEntry,entries[k]?=some e/\e.key=kv.1/\e.born=kv.2.2/\VRel ρ n kv.2.1 e.val
 |.iter m since seen last,o=>∃ rm,o=.mapIter (some rm) since seen.toArray last/\VRel ρ n (.map (some m)) (.map (some rm))
 |.lp env r st pend,o=>o=.loop {r with state:=st,pending:=pend}/\LRel ρ n env r.tmps.toList
def BRel (ρ:Plc) (n:Nat) (p:Pl) (w:World):Blk->Prop
 |.cells c esz wr tight=>p.esz=esz/\p.tight=tight/\c.length<=p.ext /\
   (∃ C e f,w.heap[p.blk]?=some (.cells C e f)/\p.shift+p.ext<=C.size/\e=esz.ty) /\
   (∀ (k:Nat) (v:Value),c[k]?=some v->∃ u,w.cell? ⟨p.blk,p.shift+k,none⟩=some u/\VRel ρ n v u) /\
   (wr=true->(tight=true->p.shift=0)/\∀ k,k<p.ext->w.frozen? ⟨p.blk,p.shift+k,none⟩=false)
 |.obj o _=>(p.ext=1/\p.shift=0)/\∃ O,w.heap[p.blk]?=some O/\ORel ρ n o O
structure HRel0 (ρ:Plc) (M:Heap) (w:World):Prop where
 live:∀ i b,M.get i=some b->∃ p,ρ i=some p/\BRel ρ M.n p w b
 dead:∀ i,M.get i=none->ρ i=none
 lt:∀ i p,ρ i=some p->p.blk<w.heap.size
 sep:∀ i j p q b,i≠j->ρ i=some p->ρ j=some q->M.get i=some b->b.wr=true->0<q.ext->p.blk≠q.blk
theorem HRel0.idlt {ρ:Plc}{M:Heap}{w:World}(h:HRel0 ρ M w) {i:Nat}{p:Pl}(hp:ρ i=some p):i<M.n:=by
 cases hb:M.get i with
 |none=>rw[h.dead i hb] at hp;cases hp
 |some b=>exact M.lt hb
def Wr (ρ:Plc) (M:Heap) (B:Nat):Prop:=∃ i p b,ρ i=some p/\M.get i=some b/\b.wr=true/\p.blk=B
structure Ext (ρ:Plc) (M:Heap) (w:World) (ρ':Plc) (M':Heap) (w':World):Prop where
 os:w'.os=w.os
 tape:w'.tape=w.tape
 output:w'.output=w.output
 size:w.heap.size<=w'.heap.size
 keep:∀ B,B<w.heap.size->¬ Wr ρ M B->w'.heap[B]?=w.heap[B]?
 wr:∀ B,B<w.heap.size->Wr ρ' M' B->Wr ρ M B
 n:M.n<=M'.n
 pl:∀ i,i<M.n->∀ p,ρ' i=some p->ρ i=some p
theorem Ext.refl (ρ:Plc) (M:Heap) (w:World):Ext ρ M w ρ M w :=
 ⟨rfl,rfl,rfl,ze _,λ_ _ _=>rfl,λ_ _ h=>h,ze _,λ_ _ _ h=>h⟩
theorem Ext.trans {ρ ρ' eZ:Plc}{M M' aE:Heap}{w w' pq:World}(h:Ext ρ M w ρ' M' w') (k:Ext ρ' M' w' eZ aE pq):Ext ρ M w eZ aE pq where
 os:=k.os.trans h.os
 tape:=k.tape.trans h.tape
 output:=k.output.trans h.output
 size:=zY h.size k.size
 keep B hB hW:=(k.keep B (xi hB h.size) (λhw=>hW (h.wr B hB hw))).trans (h.keep B hB hW)
 wr B hB hW:=h.wr B hB (k.wr B (xi hB h.size) hW)
 n:=zY h.n k.n
 pl i hi p hp:=h.pl i hi p (k.pl i (xi hi h.n) p hp)
theorem Ext.lrel {ρ ρ':Plc}{M M':Heap}{w w':World}(h:Ext ρ M w ρ' M' w') {v c:List Value}(hv:LRel ρ M.n v c):LRel ρ' M'.n v c:=hv.mono h.n h.pl
theorem ORel.mono {ρ ρ':Plc}{n n':Nat}(hn:n<=n') (hρ:∀ i,i<n->∀ p,ρ' i=some p->ρ i=some p) {o:VObj}{O:Obj}(h:ORel ρ n o O):ORel ρ' n' o O:=by
 cases o with
 |map es clock =>obtain⟨entries,h1,h2,h3⟩:=h;exact⟨entries,h1,h2,λk kv hk=>let ⟨e,he,h4,h5,hv⟩:=h3 k kv hk;⟨e,he,h4,h5,hv.mono hn hρ⟩⟩
 |iter m since seen last=>obtain⟨rm,h1,h2⟩:=h;exact⟨rm,h1,h2.mono hn hρ⟩
 |lp env r st pend=>exact⟨h.1,h.2.mono hn hρ⟩
theorem ORel.q1w {ρ:Plc}{n:Nat}{o:VObj}{C:Array Value}{e:TypeId}{f:Nat×Nat}:¬ ORel ρ n o (.cells C e f):=by
 cases o with
 |map es clock=>rintro⟨_,h,_⟩;cases h
 |iter m since seen last=>rintro⟨_,h,_⟩;cases h
 |lp env r st pend=>rintro⟨h,_⟩;cases h
theorem ORel.q0m {ρ:Plc}{n:Nat}{o:VObj}{d:Option (List Deferred)}:¬ ORel ρ n o (.deferred d):=by
 cases o with
 |map es clock=>rintro⟨_,h,_⟩;cases h
 |iter m since seen last=>rintro⟨_,h,_⟩;cases h
 |lp env r st pend=>rintro⟨h,_⟩;cases h
theorem BRel.mono {ρ ρ':Plc}{n n':Nat}(hn:n<=n') (hρ:∀ i,i<n->∀ p,ρ' i=some p->ρ i=some p) {p:Pl}{w w':World}(hw:w'.heap[p.blk]?=w.heap[p.blk]?) {b:Blk}(h:BRel ρ n p w b):BRel ρ' n' p w' b:=by
 cases b with
 |cells c esz wr tight =>
  obtain⟨h1,h2,h3,h4,h5,h6⟩:=h;refine⟨h1,h2,h3,by rw[hw];exact h4,λk v hk=>?_,λgi=>⟨(h6 gi).1,λk hk=>?_⟩⟩
  .obtain⟨u,hu,hv⟩:=h5 k v hk;exact⟨u,by rw[World.cell?_of_block (a:=⟨p.blk,p.shift+k,none⟩) hw];exact hu,hv.mono hn hρ⟩
  .rw[World.frozen?_of_block (a:=⟨p.blk,p.shift+k,none⟩) hw];exact(h6 gi).2 k hk
 |obj o wr =>obtain⟨h0,O,h1,h2⟩:=h;exact⟨h0,O,by rw[hw];exact h1,h2.mono hn hρ⟩
theorem HRel0.world {ρ:Plc}{M:Heap}{w w':World}(h:HRel0 ρ M w) (hs:w.heap.size<=w'.heap.size) (hb:∀ i p,ρ i=some p->w'.heap[p.blk]?=w.heap[p.blk]?):HRel0 ρ M w' where
 live i b hi:=by obtain⟨p,hp,hB⟩:=h.live i b hi;exact⟨p,hp,hB.mono (ze _) (λ_ _ _ h=>h) (hb i p hp)⟩
 dead:=h.dead
 lt i p hp:=xi (h.lt i p hp) hs
 sep:=h.sep
theorem HRel0.drew {ρ:Plc}{M:Heap}{w:World}(h:HRel0 ρ M w):HRel0 ρ M w.drew:=h.world (ze _) (λ_ _ _=>rfl)
theorem Ext.drew (ρ:Plc) (M:Heap) (w:World):Ext ρ M w ρ M w.drew :=
 ⟨rfl,rfl,rfl,ze _,λ_ _ _=>rfl,λ_ _ h=>h,ze _,λ_ _ _ h=>h⟩
def Plc.put (ρ:Plc) (i:Nat) (p:Option Pl):Plc:=λj=>if j=i then p else ρ j
theorem HRel0.alloc {ρ:Plc}{M:Heap}{w:World}(h:HRel0 ρ M w) (c:List Value) (C:Array Value) (e:TypeId) (esz:El) (tight:Bool) (he:e=esz.ty)
  (hc:LRel ρ M.n c (C.toList.take c.length)) (hl:c.length<=C.size) :
  ∃ ρ',ρ' M.n=some ⟨w.heap.size,0,C.size,esz,tight⟩/\HRel0 ρ' (M.push (.cells c esz true tight)) (w.alloc (.cells C e))/\Ext ρ M w ρ' (M.push (.cells c esz true tight)) (w.alloc (.cells C e)):=by
 have hold:∀ k,k<w.heap.size->(w.alloc (.cells C e)).heap[k]?=w.heap[k]?:=λk hk=>by show (w.heap.push _)[k]?=_;rw[Array.getElem?_push,z8 (by omega)]
 have aF:(w.alloc (.cells C e)).heap.size=w.heap.size+1:=World.size_alloc w _;have aQ:∀ i,i<M.n->∀ p,(ρ.put M.n (some ⟨w.heap.size,0,C.size,esz,tight⟩)) i=some p->ρ i=some p:=λi hi p hp=>by unfold Plc.put at hp;rwa [z8 (by omega)] at hp
 refine⟨ρ.put M.n (some ⟨w.heap.size,0,C.size,esz,tight⟩),by simp[Plc.put],⟨?_,?_,?_,?_⟩,⟨rfl,rfl,rfl,by omega,λB hB _=>hold B hB,?_,by simp,aQ⟩⟩
 .intro i b hb;by_cases hi:i=M.n
  .subst hi;rw[Heap.q0a] at hb;obtain rfl:=osj hb;refine⟨⟨w.heap.size,0,C.size,esz,tight⟩,by simp[Plc.put],rfl,rfl,hl,⟨C,e,(0,0),?_,by simp,he⟩,λk v hk=>?_,λ_=>⟨λ_=>rfl,λk _=>?_⟩⟩
   .show (w.heap.push _)[w.heap.size]?=_;simp
   .obtain⟨u,hu,hv⟩:=hc.get hk;have bn:k<c.length:=(zg.1 hk).1;refine⟨u,?_,hv.mono (by simp) aQ⟩;rw[x3,World.cell?_alloc_new];rw[zO,z7 bn] at hu;simpa using hu
   .rw[x3];exact World.frozen?_alloc_new w C e k
  .rw[Heap.q0e _ _ hi] at hb;obtain⟨p,hp,hB⟩:=h.live i b hb;exact⟨p,by simp[Plc.put,hi,hp],hB.mono (by simp) aQ (hold _ (h.lt i p hp))⟩
 .intro i hi;by_cases aO:i=M.n
  .subst aO;rw[Heap.q0a] at hi;cases hi
  .rw[Heap.q0e _ _ aO] at hi;simp[Plc.put,aO,h.dead i hi]
 .intro i p hp;by_cases hi:i=M.n
  .subst hi;simp[Plc.put] at hp;subst hp;simp
  .simp[Plc.put,hi] at hp;have:=h.lt i p hp;omega
 .intro i j p q b cj hp hq hb hw hx;by_cases hi:i=M.n
  .subst hi;simp[Plc.put] at hp;subst hp;simp[Plc.put,Ne.symm cj] at hq;have:=h.lt j q hq;intro e;simp at e;omega
  .simp[Plc.put,hi] at hp;rw[Heap.q0e _ _ hi] at hb;by_cases hj:j=M.n
   .subst hj;simp[Plc.put] at hq;subst hq;have:=h.lt i p hp;intro e;simp at e;omega
   .simp[Plc.put,hj] at hq;exact h.sep i j p q b cj hp hq hb hw hx
 .rintro B hB ⟨i,p,b,hp,hb,hw,rfl⟩;by_cases hi:i=M.n
  .subst hi;simp[Plc.put] at hp;subst hp;simp at hB
  .simp[Plc.put,hi] at hp;rw[Heap.q0e _ _ hi] at hb;exact⟨i,p,b,hp,hb,hw,rfl⟩
theorem HRel0.newObj {ρ:Plc}{M:Heap}{w:World}(h:HRel0 ρ M w) (o:VObj) (O:Obj) (ho:ORel ρ M.n o O) :
  ∃ ρ',ρ' M.n=some ⟨w.heap.size,0,1,default,true⟩/\HRel0 ρ' (M.push (.obj o true)) (w.alloc O)/\Ext ρ M w ρ' (M.push (.obj o true)) (w.alloc O):=by
 have hold:∀ k,k<w.heap.size->(w.alloc O).heap[k]?=w.heap[k]?:=λk hk=>by show (w.heap.push _)[k]?=_;rw[Array.getElem?_push,z8 (by omega)]
 have aF:(w.alloc O).heap.size=w.heap.size+1:=World.size_alloc w _;have aQ:∀ i,i<M.n->∀ p,(ρ.put M.n (some ⟨w.heap.size,0,1,default,true⟩)) i=some p->ρ i=some p:=λi hi p hp=>by unfold Plc.put at hp;rwa [z8 (by omega)] at hp
 refine⟨ρ.put M.n (some ⟨w.heap.size,0,1,default,true⟩),by simp[Plc.put],⟨?_,?_,?_,?_⟩,⟨rfl,rfl,rfl,by omega,λB hB _=>hold B hB,?_,by simp,aQ⟩⟩
 .intro i b hb;by_cases hi:i=M.n
  .subst hi;rw[Heap.q0a] at hb;obtain rfl:=osj hb;refine⟨⟨w.heap.size,0,1,default,true⟩,by simp[Plc.put],⟨rfl,rfl⟩,O,?_,ho.mono (by simp) aQ⟩;show (w.heap.push _)[w.heap.size]?=_;simp
  .rw[Heap.q0e _ _ hi] at hb;obtain⟨p,hp,hB⟩:=h.live i b hb;exact⟨p,by simp[Plc.put,hi,hp],hB.mono (by simp) aQ (hold _ (h.lt i p hp))⟩
 .intro i hi;by_cases aO:i=M.n
  .subst aO;rw[Heap.q0a] at hi;cases hi
  .rw[Heap.q0e _ _ aO] at hi;simp[Plc.put,aO,h.dead i hi]
 .intro i p hp;by_cases hi:i=M.n
  .subst hi;simp[Plc.put] at hp;subst hp;simp
  .simp[Plc.put,hi] at hp;have:=h.lt i p hp;omega
 .intro i j p q b cj hp hq hb hw hx;by_cases hi:i=M.n
  .subst hi;simp[Plc.put] at hp;subst hp;simp[Plc.put,Ne.symm cj] at hq;have:=h.lt j q hq;intro e;simp at e;omega
  .simp[Plc.put,hi] at hp;rw[Heap.q0e _ _ hi] at hb;by_cases hj:j=M.n
   .subst hj;simp[Plc.put] at hq;subst hq;have:=h.lt i p hp;intro e;simp at e;omega
   .simp[Plc.put,hj] at hq;exact h.sep i j p q b cj hp hq hb hw hx
 .rintro B hB ⟨i,p,b,hp,hb,hw,rfl⟩;by_cases hi:i=M.n
  .subst hi;simp[Plc.put] at hp;subst hp;simp at hB
  .simp[Plc.put,hi] at hp;rw[Heap.q0e _ _ hi] at hb;exact⟨i,p,b,hp,hb,hw,rfl⟩
def HM (w:World) (b:Nat) (O:Obj):World:={w with heap:=w.heap.setIfInBounds b O}
theorem K7 (w:World) (b:Nat) (O:Obj) (k:Nat) (h:k≠b):(HM w b O).heap[k]?=w.heap[k]?:=by simp only[HM];rw[Array.getElem?_setIfInBounds_ne (Ne.symm h)]
theorem IU (w:World) (b:Nat) (O:Obj) (h:b<w.heap.size):(HM w b O).heap[b]?=some O:=by simp only[HM];rw[Array.getElem?_setIfInBounds_self_of_lt h]
theorem D7 (w:World) (b:Nat) (O:Obj):(HM w b O).heap.size=w.heap.size:=by simp[HM]
theorem HRel0.setObj {ρ:Plc}{M:Heap}{w:World}(h:HRel0 ρ M w) {i:Nat}{p:Pl}{o:VObj}(hp:ρ i=some p) (hb:M.get i=some (.obj o true)) {o':VObj}{O':Obj}(ho:ORel ρ M.n o' O') :
  HRel0 ρ (M.upd i (.obj o' true)) (HM w p.blk O')/\Ext ρ M w ρ (M.upd i (.obj o' true)) (HM w p.blk O'):=by
 have hi:=M.lt hb;obtain⟨p',bw,h0,O,h1,h2⟩:=h.live i _ hb;obtain rfl:p=p':=osj (hp.symm.trans bw);have ah:=h.lt i p hp;refine⟨⟨λj b hj=>?_,λj hj=>?_,λj q hq=>by rw[D7];exact h.lt j q hq,λj k q r b ew hq hr bM hw hx=>?_⟩,?_⟩
 .by_cases aM:j=i
  .subst aM;rw[Heap.q0c _ _ hi] at hj;obtain rfl:=osj hj;exact⟨p,hp,h0,O',IU _ _ _ ah,ho⟩
  .rw[Heap.q0b _ _ aM] at hj;obtain⟨q,hq,fD⟩:=h.live j b hj;refine⟨q,hq,?_⟩;by_cases hk:q.blk=p.blk
   .have hx:q.ext=0:=by
     rcases Nat.eq_zero_or_pos q.ext with h'|h'
     .exact h'
     .exact absurd hk.symm (h.sep i j p q _ (Ne.symm aM) hp hq hb rfl h')
    cases b with
    |cells c esz wr tight =>obtain⟨_,_,_,⟨C,e,f,k1,_⟩,_⟩:=fD;rw[hk,h1] at k1;obtain rfl:=osj k1;exact absurd h2 ORel.q1w
    |obj o2 wr=>have:=fD.1;omega
   .exact fD.mono (ze _) (λ_ _ _ h=>h) (K7 _ _ _ _ hk)
 .by_cases aM:j=i
  .subst aM;rw[Heap.q0c _ _ hi] at hj;cases hj
  .rw[Heap.q0b _ _ aM] at hj;exact h.dead j hj
 .by_cases aM:j=i
  .subst aM;exact h.sep j k q r _ ew hq hr hb rfl hx
  .rw[Heap.q0b _ _ aM] at bM;exact h.sep j k q r b ew hq hr bM hw hx
 .refine⟨rfl,rfl,rfl,by rw[D7];exact ze _,λB hB hW=>K7 _ _ _ _ (λe=>hW ⟨i,p,_,hp,hb,rfl,e.symm⟩),?_,ze _,λ_ _ _ h=>h⟩;rintro B _ ⟨j,q,b,hq,b6,hw,rfl⟩;by_cases aM:j=i
  .subst aM;exact⟨j,q,_,hq,hb,rfl,rfl⟩
  .rw[Heap.q0b _ _ aM] at b6;exact⟨j,q,b,hq,b6,hw,rfl⟩
theorem HRel0.q0m {ρ:Plc}{M:Heap}{w:World}(h:HRel0 ρ M w) {D:Nat}{d:Option (List Deferred)}(hD:w.heap[D]?=some (.deferred d)) (i:Nat) (p:Pl) (hp:ρ i=some p):p.blk≠D:=by
 rintro rfl;cases hb:M.get i with
 |none=>rw[h.dead i hb] at hp;cases hp
 |some b =>
  obtain⟨p',bw,hB⟩:=h.live i b hb;obtain rfl:p=p':=osj (hp.symm.trans bw);cases b with
  |cells c esz wr tight =>obtain⟨_,_,_,⟨C,e,f,k1,_⟩,_⟩:=hB;rw[hD] at k1;cases k1
  |obj o wr =>obtain⟨_,O,k1,k2⟩:=hB;rw[hD] at k1;obtain rfl:=osj k1;exact ORel.q0m k2
theorem HRel0.kill {ρ:Plc}{M:Heap}{w:World}(h:HRel0 ρ M w) (i:Nat):HRel0 (ρ.put i none) (M.kill i) w/\Ext ρ M w (ρ.put i none) (M.kill i) w:=by
 have aQ:∀ j,∀ p,(ρ.put i none) j=some p->ρ j=some p/\j≠i:=λj p hp=>by unfold Plc.put at hp;split at hp<;>simp_all
 refine⟨⟨λj b hb=>?_,λj hj=>?_,λj p hp=>h.lt j p (aQ j p hp).1,λj k p q b ew hp hq hb hw hx=>?_⟩,⟨rfl,rfl,rfl,ze _,λ_ _ _=>rfl,?_,ze _,λj _ p hp=>(aQ j p hp).1⟩⟩
 .by_cases aM:j=i
  .subst aM;rw[Heap.q0g] at hb;cases hb
  .rw[Heap.q0d _ aM] at hb;obtain⟨p,hp,hB⟩:=h.live j b hb;exact⟨p,by simp[Plc.put,aM,hp],hB.mono (ze _) (λk _ p hp=>(aQ k p hp).1) rfl⟩
 .by_cases aM:j=i
  .simp[Plc.put,aM]
  .rw[Heap.q0d _ aM] at hj;simp[Plc.put,aM,h.dead j hj]
 .obtain⟨bw,aM⟩:=aQ j p hp;rw[Heap.q0d _ aM] at hb;exact h.sep j k p q b ew bw (aQ k q hq).1 hb hw hx
 .rintro B _ ⟨j,p,b,hp,hb,hw,rfl⟩;obtain⟨bw,aM⟩:=aQ j p hp;rw[Heap.q0d _ aM] at hb;exact⟨j,p,b,bw,hb,hw,rfl⟩
def GTabs (ρ:Plc) (M:Heap) (w:World):Prop:=∀ g cs,Q19 g=some cs->(∃ e f,w.heap[g]?=some (.cells cs.toArray e f))/\¬ Wr ρ M g
theorem GTabs.lt {ρ:Plc}{M:Heap}{w:World}(h:GTabs ρ M w) {g:Nat}{cs:List Value}(hg:Q19 g=some cs):g<w.heap.size:=by obtain⟨⟨e,f,h1⟩,_⟩:=h g cs hg;exact(x9.1 h1).1
theorem GTabs.ext {ρ ρ':Plc}{M M':Heap}{w w':World}(h:GTabs ρ M w) (k:Ext ρ M w ρ' M' w'):GTabs ρ' M' w':=λg cs hg=>by obtain⟨⟨e,f,h1⟩,h2⟩:=h g cs hg;have hl:=h.lt hg;exact⟨⟨e,f,by rw[k.keep g hl h2];exact h1⟩,λhw=>h2 (k.wr g hl hw)⟩
structure HRel (ρ:Plc) (M:Heap) (w:World):Prop where
 core:HRel0 ρ M w
 tab:GTabs ρ M w
section
variable {ρ:Plc}{M:Heap}{w:World}
theorem HRel.ext {ρ':Plc}{M':Heap}{w':World}(h:HRel ρ M w) (h':HRel0 ρ' M' w') (k:Ext ρ M w ρ' M' w'):HRel ρ' M' w':=⟨h',h.tab.ext k⟩
theorem HRel.live (h:HRel ρ M w):∀ i b,M.get i=some b->∃ p,ρ i=some p/\BRel ρ M.n p w b:=h.core.live
theorem HRel.dead (h:HRel ρ M w):∀ i,M.get i=none->ρ i=none:=h.core.dead
theorem HRel.lt (h:HRel ρ M w):∀ i p,ρ i=some p->p.blk<w.heap.size:=h.core.lt
theorem HRel.sep (h:HRel ρ M w):∀ i j p q b,i≠j->ρ i=some p->ρ j=some q->M.get i=some b->b.wr=true->0<q.ext->p.blk≠q.blk:=h.core.sep
theorem HRel.idlt (h:HRel ρ M w) {i:Nat}{p:Pl}(hp:ρ i=some p):i<M.n:=h.core.idlt hp
theorem HRel.world {w':World}(h:HRel ρ M w) (hs:w.heap.size<=w'.heap.size) (hb:∀ i p,ρ i=some p->w'.heap[p.blk]?=w.heap[p.blk]?) (ht:∀ g cs,Q19 g=some cs->w'.heap[g]?=w.heap[g]?):HRel ρ M w' :=
 ⟨h.core.world hs hb,λg cs hg=>by
  obtain⟨⟨e,f,h1⟩,h2⟩:=h.tab g cs hg;exact⟨⟨e,f,by rw[ht g cs hg];exact h1⟩,h2⟩⟩
theorem HRel.drew (h:HRel ρ M w):HRel ρ M w.drew:=⟨h.core.drew,h.tab⟩
theorem HRel.alloc (h:HRel ρ M w) (c:List Value) (C:Array Value) (e:TypeId) (esz:El) (tight:Bool) (he:e=esz.ty)
  (hc:LRel ρ M.n c (C.toList.take c.length)) (hl:c.length<=C.size) :
  ∃ ρ',ρ' M.n=some ⟨w.heap.size,0,C.size,esz,tight⟩/\HRel ρ' (M.push (.cells c esz true tight)) (w.alloc (.cells C e))/\Ext ρ M w ρ' (M.push (.cells c esz true tight)) (w.alloc (.cells C e)) :=
 let ⟨ρ',h1,h2,h3⟩:=h.core.alloc c C e esz tight he hc hl
 ⟨ρ',h1,h.ext h2 h3,h3⟩
theorem HRel.newObj (h:HRel ρ M w) (o:VObj) (O:Obj) (ho:ORel ρ M.n o O) :
  ∃ ρ',ρ' M.n=some ⟨w.heap.size,0,1,default,true⟩/\HRel ρ' (M.push (.obj o true)) (w.alloc O)/\Ext ρ M w ρ' (M.push (.obj o true)) (w.alloc O) :=
 let ⟨ρ',h1,h2,h3⟩:=h.core.newObj o O ho
 ⟨ρ',h1,h.ext h2 h3,h3⟩
theorem HRel.setObj (h:HRel ρ M w) {i:Nat}{p:Pl}{o:VObj}(hp:ρ i=some p) (hb:M.get i=some (.obj o true)) {o':VObj}{O':Obj}(ho:ORel ρ M.n o' O') :
  HRel ρ (M.upd i (.obj o' true)) (HM w p.blk O')/\Ext ρ M w ρ (M.upd i (.obj o' true)) (HM w p.blk O') :=
 let ⟨h2,h3⟩:=h.core.setObj hp hb ho
 ⟨h.ext h2 h3,h3⟩
theorem HRel.q0m (h:HRel ρ M w) {D:Nat}{d:Option (List Deferred)}(hD:w.heap[D]?=some (.deferred d)) (i:Nat) (p:Pl) (hp:ρ i=some p):p.blk≠D:=h.core.q0m hD i p hp
theorem HRel.kill (h:HRel ρ M w) (i:Nat):HRel (ρ.put i none) (M.kill i) w/\Ext ρ M w (ρ.put i none) (M.kill i) w :=
 let ⟨h2,h3⟩:=h.core.kill i
 ⟨h.ext h2 h3,h3⟩
end
end Go.V
namespace Go.V
open Go
abbrev Env:=List Value
inductive MK where
 |int (k:IntKind)
 |string
 |bool
 |agg (s:List MK)
 deriving Inhabited
inductive XOp where
 |eqNil (kd:Nat) (neg:Bool) (x y:Operand)
 |makeMap
 |lookup (mk:MK) (zero:Value) (ok:Bool) (x i:Operand)
 |mapUpdate (mk:MK) (m k v:Operand)
 |delete (mk:MK) (m k:Operand)
 |mapEntry (mk:MK) (zero:Value) (m k:Operand)
 |entryStore (m s v:Operand)
 |lenMap (x:Operand)
 |rangeMap (x:Operand)
 |nextMap (x:Operand)
 |entry (x:Operand)
 |copy (size:Nat) (d s:Operand)
 |clear (z:List Value) (x:Operand)
 |toUnsafe (x:Operand)
 |fromUnsafe (u size:Nat) (x:Operand)
 |sliceData (x:Operand)
 |unsafeStr (e:Nat) (x n:Operand)
 |bytesStr (x:Operand)
 |strBytes (e:Nat) (x:Operand)
 |eqAgg (neg:Bool) (s:List MK) (x y:Operand)
 deriving Inhabited
inductive VOp where
 |move (x:Operand)
 |pick (c a b:Operand)
 |arith (op:BinOp) (x y:Operand)
 |div (op:BinOp) (x y:Operand)
 |bits (op:BinOp) (x y:Operand)
 |shift (op:BinOp) (x y:Operand)
 |cmp (op:BinOp) (x y:Operand)
 |str (op:BinOp) (x y:Operand)
 |eqB (neg:Bool) (x y:Operand)
 |un (op:UnOp) (x:Operand)
 |convI (k:IntKind) (x:Operand)
 |convS (x:Operand)
 |alloc (t:Nat) (z:List Value)
 |box (t:Nat) (x:Operand)
 |build (z:List Value) (parts:List (Nat×Nat×Operand))
 |buildSlice (esz:El) (z:List Value) (len:Nat) (parts:List (Nat×Operand))
 |load (agg:Bool) (size:Nat) (a:Operand)
 |store (size:Nat) (a v:Operand)
 |fieldAddr (off:Nat) (a:Operand)
 |field (agg:Bool) (off size:Nat) (x:Operand)
 |indexAddr (size:Nat) (x i:Operand)
 |indexAddrArr (len size:Nat) (x i:Operand)
 |indexStr (x i:Operand)
 |indexArr (len:Nat) (agg:Bool) (size:Nat) (x i:Operand)
 |slice (size:Nat) (x:Operand) (lo hi mx:Option Operand)
 |sliceStr (x:Operand) (lo hi:Option Operand)
 |makeSlice (esz:El) (bytes:Nat) (z:List Value) (l c:Operand)
 |len (x:Operand)
 |lenStr (x:Operand)
 |append (esz:El) (bytes:Nat) (s x:Operand)
 |max (x y:Operand)
 |max4 (x y z w:Operand)
 |min (x y:Operand)
 |makeFunc (fn:Fn) (first cap:List Operand)
 |iface (t:TypeId) (x:Operand)
 |extract (x:Operand) (i:Nat)
 |nilCheck (x:Operand)
 |callF (f:FuncId) (args:List Operand)
 |callV (f:Operand) (args:List Operand)
 |ext (o:XOp)
 |bad
 deriving Inhabited
structure VOper where
 dst:Option Nat
 op:VOp
 guard:Option (Nat×Bool)
 deriving Inhabited
structure DOper where
 dst:Option Nat
 op:VOp
 guard:Option (Nat×Bool)
 kind:Nat
 kmin:Nat
 kmax:Nat
 deriving Inhabited
inductive DSeg where
 |one (o:VOper)
 |alts (l:List (List DOper))
 deriving Inhabited
inductive VCode where
 |skip
 |region (ops:List VOper)
 |regionD (aS:List DSeg)
 |rangeF (g:Operand) (ps:List Nat) (a b:VCode)
 |seq (a b:VCode)
 |cond (c:Operand) (a b:VCode)
 |block (id:Nat) (b:VCode)
 |loop (b:VCode)
 |exit (id:Nat)
 |ret
 |bad
 deriving Inhabited
def QN:Value->Bool
 |.bool _|.int _ _|.string _|.pointer none|.slice none 0 0|.map none|.nilFunc|.nilIface=>true
 |_=>false
def Vx:Value->Bool
 |.agg cs=>cs.toList.all QN
 |.tuple cs=>cs.toList.all QN
 |v=>QN v
def X8:Operand->Bool
 |.tmp _=>true
 |.const v=>Vx v
 |.global _=>true
 |.func _=>true
def N7:TypeDesc->Bool
 |.struct _|.array _ _=>true
 |_=>false
def zeroOf (P:Program) (t:TypeId):Option (List Value):=do
 let i <-P.info? t;let z <-i.zero;let cs:=z.cells.toList
 if cs.length==i.size&&cs.all QN then some cs else none
def Bs (P:Program) (t:TypeId) (f:Nat):Option Field :=
 match P.underlying t with
 |some (.struct fs)=>fs[f]?
 |_=>none
def Uf (P:Program) (o:Op):Option VOp :=
 if !(o.operands.toList.all X8) then none else
 match o with
 |.move x|.assign x=>some (.move x)
 |.pick c a b=>some (.pick c a b)
 |.binOp op t x y _ =>
  match P.underlying t with
  |some (.int _) =>
   match op with
   |.add|.sub|.mul=>some (.arith op x y)
   |.quo|.rem=>some (.div op x y)
   |.and|.or|.xor|.andNot=>some (.bits op x y)
   |.shl|.shr=>some (.shift op x y)
   |_=>some (.cmp op x y)
  |some .string=>some (.str op x y)
  |some .bool=>match op with|.eql=>some (.eqB false x y)|.neq=>some (.eqB true x y)|_=>none
  |_=>none
 |.unOp op _ x=>some (.un op x)
 |.convert s d x =>
  match P.underlying s,P.underlying d with
  |some (.int _),some (.int k)=>some (.convI k x)
  |some .string,some .string=>some (.convS x)
  |_,_=>none
 |.alloc t=>do some (.alloc t (<-zeroOf P t))
 |.box t x=>some (.box t x)
 |.build t parts=>do
  let z <-zeroOf P t
  match P.underlying t with
  |some (.struct fs)=>do
   let places <-fs.toList.mapM λf=>(P.info? f.type).map λi=>(f.offset,i.size);let ps <-parts.toList.mapM λq=>(places[q.1]?).map λos=>(os.1,os.2,q.2)
   some (.build z ps)
  |some (.array _ e)=>do
   let ei <-P.info? e
   some (.build z (parts.toList.map λq=>(q.1*ei.size,ei.size,q.2)))
  |_=>none
 |.buildSlice t len parts =>
  match P.underlying t with
  |some (.slice e)=>do
   let z <-zeroOf P e
   if z.length==0||4096<len*z.length then none
   some (.buildSlice ⟨z.length,e⟩ z len parts.toList)
  |_=>none
 |.load t a=>do
  let i <-P.info? t;let d <-P.underlying t
  some (.load (N7 d) i.size a)
 |.store t a v=>do
  let i <-P.info? t
  some (.store i.size a v)
 |.fieldAddr t a f=>do
  let fd <-Bs P t f;let fi <-P.info? fd.type
  if fi.size==0 then none
  some (.fieldAddr fd.offset a)
 |.field t x f=>do
  let fd <-Bs P t f;let fi <-P.info? fd.type;let d <-P.underlying fd.type
  some (.field (N7 d) fd.offset fi.size x)
 |.indexAddr t x i =>
  match P.underlying t with
  |some (.slice e)=>do let ei <-P.info? e;some (.indexAddr ei.size x i)
  |some (.array n e)=>do let ei <-P.info? e;some (.indexAddrArr n ei.size x i)
  |_=>none
 |.index t x i =>
  match P.underlying t with
  |some .string=>some (.indexStr x i)
  |some (.array n e)=>do let ei <-P.info? e;let d <-P.underlying e;some (.indexArr n (N7 d) ei.size x i)
  |_=>none
 |.slice t x lo hi mx =>
  match P.underlying t with
  |some (.slice e)=>do let ei <-P.info? e;some (.slice ei.size x lo hi mx)
  |some .string=>if mx.isNone then some (.sliceStr x lo hi) else none
  |_=>none
 |.makeSlice t l c =>
  match P.underlying t with
  |some (.slice e)=>do
   let ei <-P.info? e;let z <-zeroOf P e
   if z.length==0 then none
   some (.makeSlice ⟨z.length,e⟩ ei.bytes z l c)
  |_=>none
 |.makeFunc fn first cap=>match fn with|.func _=>some (.makeFunc fn first.toList cap.toList)|_=>none
 |.makeInterface t x=>do
  let d <-P.underlying t
  match d with
  |.interface _=>none
  |_=>some (.iface t x)
 |.extract x i=>some (.extract x i)
 |.nilCheck x=>some (.nilCheck x)
 |.call c =>
  match c.callee with
  |.value (.func f)=>some (.callF f c.args.toList)
  |.value f=>some (.callV f c.args.toList)
  |.builtin .len =>
   match c.argTypes[0]?,c.args.toList with
   |some t,[x] =>
    match P.underlying t with
    |some .string=>some (.lenStr x)
    |some (.slice _)=>some (.len x)
    |_=>none
   |_,_=>none
  |.builtin .append =>
   match c.argTypes[0]?,c.argTypes[1]?,c.args.toList with
   |some t,some u,[s,x] =>
    match P.underlying t,P.underlying u with
    |some (.slice e),some (.slice _)=>do
     let ei <-P.info? e;let z <-zeroOf P e
     if z.length==0||ei.bytes==0 then none
     some (.append ⟨z.length,e⟩ ei.bytes s x)
    |_,_=>none
   |_,_,_=>none
  |.builtin .max=>match c.args.toList with|[x,y]=>some (.max x y)|[x,y,z]=>some (.max4 x y z z)|[x,y,z,w]=>some (.max4 x y z w)|_=>none
  |.builtin .min=>match c.args.toList with|[x,y]=>some (.min x y)|_=>none
  |_=>none
 |_=>none
def CB (P:Program) (g:TypeId->Option (List MK)):List Field->Nat->Option (List MK)
 |[],_=>some []
 |f::r,off=>if f.name≠"_"/\f.offset=off then (match g f.type with
  |some s=>if P.cellsOf f.type=s.length then (CB P g r (off+s.length)).map λq=>s++q else none
  |none=>none) else none
def shp (P:Program):Nat->TypeId->Option (List MK)
 |0,_=>none
 |d+1,t=>match P.underlying t with
  |some .bool=>some [.bool]
  |some (.int q)=>some [.int q]
  |some .string=>some [.string]
  |some (.array n e)=>(match shp P d e with
   |some s=>if P.cellsOf e=s.length then some (List.replicate n s).flatten else none
   |none=>none)
  |some (.struct fs)=>if P.stoodInHeld t=true then none else CB P (shp P d) fs.toList 0
  |_=>none
def Eo:MK->Value->Bool
 |.int q,.int q' _=>decide (q'=q)
 |.string,.string _=>true
 |.bool,.bool _=>true
 |_,_=>false
def fits:List MK->List Value->Bool
 |[],[]=>true
 |k::ks,v::vs=>Eo k v&&fits ks vs
 |_,_=>false
def Kq:Value->Value->Bool
 |.int _ a,.int _ b=>a==b
 |.bool a,.bool b=>a==b
 |.string a,.string b=>a.data.toList==b.data.toList
 |_,_=>false
def Qo:List Value->List Value->Bool
 |a::l,b::m=>Kq a b&&Qo l m
 |_,_=>true
def Tl (P:Program) (neg:Bool) (t:TypeId) (x y:Operand):Option XOp :=
 if P.eqGuardType P.depth t=true then none else (shp P 8 t).map λs=>.eqAgg neg s x y
theorem ER {P:Program}{neg:Bool}{t:TypeId}{x y:Operand}{o:XOp}(h:Tl P neg t x y=some o):∃ s,o=.eqAgg neg s x y:=by
 unfold Tl at h;split at h
 .cases h
 .obtain⟨s,_,rfl⟩:=zw.1 h;exact⟨s,rfl⟩
def SJ (P:Program) (t:TypeId):Option MK :=
 match P.underlying t with
 |some (.int k)=>some (.int k)
 |some .string=>some .string
 |some .bool=>some .bool
 |some (.struct _)=>(shp P 8 t).map .agg
 |some (.array _ _)=>(shp P 8 t).map .agg
 |_=>none
def Te (P:Program) (o:Op):Option XOp :=
 if !(o.operands.toList.all X8) then none else
 match o with
 |.binOp op t x y _ =>
  match op,P.underlying t with
  |.eql,some (.pointer e)=>do let i <-P.info? e;if i.size==0 then none else some (.eqNil 0 false x y)
  |.neq,some (.pointer e)=>do let i <-P.info? e;if i.size==0 then none else some (.eqNil 0 true x y)
  |.eql,some (.slice _)=>some (.eqNil 1 false x y)
  |.eql,some (.map _ _)=>some (.eqNil 2 false x y)
  |.eql,some (.func _ _ _)=>some (.eqNil 3 false x y)
  |.neq,some (.slice _)=>some (.eqNil 1 true x y)
  |.neq,some (.map _ _)=>some (.eqNil 2 true x y)
  |.neq,some (.func _ _ _)=>some (.eqNil 3 true x y)
  |.eql,some (.struct _)=>Tl P false t x y
  |.neq,some (.struct _)=>Tl P true t x y
  |.eql,some (.array _ _)=>Tl P false t x y
  |.neq,some (.array _ _)=>Tl P true t x y
  |_,_=>none
 |.makeMap _ none=>some .makeMap
 |.lookup t x i ok =>
  match P.underlying t with
  |some (.map k e)=>do
   let mk <-SJ P k;let inf <-P.info? e;let z <-inf.zero
   if Vx z then some (.lookup mk z ok x i) else none
  |_=>none
 |.mapUpdate t m k v =>
  match P.underlying t with
  |some (.map kt _)=>do some (.mapUpdate (<-SJ P kt) m k v)
  |_=>none
 |.insert t m k v =>
  match P.underlying t with
  |some (.map kt _)=>do some (.mapUpdate (<-SJ P kt) m k v)
  |_=>none
 |.mapEntry t m k =>
  match P.underlying t with
  |some (.map kt e)=>do
   let mk <-SJ P kt;let inf <-P.info? e;let z <-inf.zero
   if Vx z then some (.mapEntry mk z m k) else none
  |_=>none
 |.entryStore _ m s v=>some (.entryStore m s v)
 |.range t x =>
  match P.underlying t with
  |some (.map _ _)=>some (.rangeMap x)
  |_=>none
 |.next x false=>some (.nextMap x)
 |.entry x=>some (.entry x)
 |.convert s d x =>
  match P.underlying s,P.underlying d with
  |some (.pointer t),some .unsafePointer=>do let i <-P.info? t;if i.size==0 then none else some (.toUnsafe x)
  |some .unsafePointer,some (.pointer u)=>do let i <-P.info? u;if i.size==0||P.cellsOf u==0 then none else some (.fromUnsafe u (P.cellsOf u) x)
  |some (.slice e),some .string=>match P.underlying e with|some (.int .u8)=>some (.bytesStr x)|_=>none
  |some .string,some (.slice e)=>match P.underlying e with|some (.int .u8)=>some (.strBytes e x)|_=>none
  |_,_=>none
 |.call c =>
  match c.callee with
  |.builtin .len =>
   match c.argTypes[0]?,c.args.toList with
   |some t,[x]=>match P.underlying t with|some (.map _ _)=>some (.lenMap x)|_=>none
   |_,_=>none
  |.builtin .delete =>
   match c.argTypes[0]?,c.args.toList with
   |some t,[m,k]=>match P.underlying t with|some (.map kt _)=>do some (.delete (<-SJ P kt) m k)|_=>none
   |_,_=>none
  |.builtin .copy =>
   match c.argTypes[0]?,c.args.toList with
   |some t,[d,s]=>match P.underlying t with|some (.slice e)=>do let i <-P.info? e;some (.copy i.size d s)|_=>none
   |_,_=>none
  |.builtin .clear =>
   match c.argTypes[0]?,c.args.toList with
   |some t,[x]=>match P.underlying t with
    |some (.slice e)=>do
     let z <-zeroOf P e
     if z.length==0 then none
     some (.clear z x)
    |_=>none
   |_,_=>none
  |.builtin .unsafeSliceData=>match c.args.toList with|[x]=>some (.sliceData x)|_=>none
  |.builtin .unsafeString =>
   match c.argTypes[0]?,c.args.toList with
   |some t,[x,n]=>match P.underlying t with|some (.pointer e)=>if P.cellsOf e=1 then some (.unsafeStr e x n) else none|_=>none
   |_,_=>none
  |_=>none
 |_=>none
def Kh (P:Program) (o:Op):VOp :=
 match Uf P o with
 |some v=>v
 |none=>match Te P o with
  |some x=>.ext x
  |none=>.bad
def Jc (P:Program) (ops:Array Oper) (o:Oper):Option VOper:=do
 let v:=Kh P o.op
 match o.guard with
 |none=>some ⟨o.dst,v,none⟩
 |some (j,want)=>do
  let oj <-ops[j]?;let d <-oj.dst
  some ⟨o.dst,v,some (d,want)⟩
def XOp.quiet:XOp->Bool
 |.makeMap|.mapUpdate ..|.mapEntry ..|.entryStore ..|.delete ..|.rangeMap _|.nextMap _|.copy ..|.clear ..|.unsafeStr ..|.strBytes ..=>false
 |_=>true
def VOp.quiet:VOp->Bool
 |.ext o=>o.quiet
 |.alloc ..|.box ..|.buildSlice ..|.store ..|.makeSlice ..|.append ..=>false
 |.slice _ _ _ _ (some _)=>false
 |_=>true
def VOp.kind:VOp->Nat
 |.callF ..|.callV ..=>2
 |.load ..=>1
 |.slice _ _ _ _ none=>1
 |.ext (.eqNil ..)|.ext (.lookup ..)|.ext (.lenMap _)|.ext (.entry _)|.ext (.toUnsafe _)|.ext (.fromUnsafe ..)|.ext (.sliceData _)|.ext (.bytesStr _)=>1
 |o=>if o.quiet then 0 else 2
def Q70 (acc:List Nat) (es:List Nat):Nat:=es.foldl (λs e=>s ||| 2 ^ e ||| acc.getD e 0) 0
def Z2v:List (List Nat)->List Nat->List Nat
 |[],acc=>acc
 |es::r,acc=>Z2v r (acc++[Q70 acc es])
def XOp.opds:XOp->List Operand
 |.eqNil _ _ x y=>[x,y]
 |.eqAgg _ _ x y=>[x,y]
 |.makeMap=>[]
 |.lookup _ _ _ x i=>[x,i]
 |.mapUpdate _ m k v=>[m,k,v]
 |.delete _ m k=>[m,k]
 |.mapEntry _ _ m k=>[m,k]
 |.entryStore m s v=>[m,s,v]
 |.lenMap x|.rangeMap x|.nextMap x|.entry x|.toUnsafe x|.fromUnsafe _ _ x|.sliceData x|.bytesStr x=>[x]
 |.copy _ d s=>[d,s]
 |.clear _ x=>[x]
 |.unsafeStr _ x n=>[x,n]
 |.strBytes _ x=>[x]
def VOp.opds:VOp->List Operand
 |.move x|.un _ x|.convI _ x|.convS x|.box _ x|.load _ _ x|.fieldAddr _ x|.field _ _ _ x|.len x|.lenStr x|.iface _ x|.extract x _|.nilCheck x=>[x]
 |.pick c a b=>[c,a,b]
 |.arith _ x y|.div _ x y|.bits _ x y|.shift _ x y|.cmp _ x y|.str _ x y|.eqB _ x y|.store _ x y|.indexAddr _ x y|.indexAddrArr _ _ x y|.indexStr x y|.indexArr _ _ _ x y|.makeSlice _ _ _ x y
 |.append _ _ x y|.max x y|.min x y=>[x,y]
 |.max4 x y z w=>[x,y,z,w]
 |.alloc ..|.bad=>[]
 |.build _ ps=>ps.map λp=>p.2.2
 |.buildSlice _ _ _ ps=>ps.map λp=>p.2
 |.slice _ x a b c=>x::(a.toList++b.toList++c.toList)
 |.sliceStr x a b=>x::(a.toList++b.toList)
 |.makeFunc _ a b=>a++b
 |.callF _ bQ=>bQ
 |.callV f bQ=>f::bQ
 |.ext o=>o.opds
def Ov (l:List Operand):List Nat:=l.filterMap fun|.tmp t=>some t|_=>none
def Ha (o:Oper):List Nat:=(o.after.toList.filter (Region.binds .any)).map (·.on)
def Vj (v:VOper):List Nat:=v.dst.toList++Ov v.op.opds++(v.guard.map (·.1)).toList
def Q3q (a b:List Nat×Option Nat):Bool:=(match a.2 with|some d=>b.1.contains d|none=>false)||(match b.2 with|some d=>a.1.contains d|none=>false)
structure DInfo where
 an:List Nat
 ed:List (List Nat)
 nm:List (List Nat×Option Nat)
 ks:List Nat
def Kp (ops:List Oper) (vs:List VOper):DInfo:=⟨Z2v (ops.map Ha) [],ops.map Ha,vs.map λv=>(Vj v,v.dst),vs.map (·.op.kind)⟩
def DInfo.lt (d:DInfo) (i j:Nat):Bool:=(d.an.getD j 0).testBit i
def DInfo.k (d:DInfo) (i:Nat):Nat:=d.ks.getD i 0
def DInfo.rank (d:DInfo):Nat->Nat
 |0=>0
 |i+1=>if d.k i=2 then d.rank i+1 else d.rank i
def DInfo.kmin (d:DInfo) (i:Nat):Nat:=((List.range d.ks.length).filter λl=>d.k l==2&&d.lt l i).length
def DInfo.kmax (d:DInfo) (i:Nat):Nat:=((List.range d.ks.length).filter λl=>d.k l==2&&!(d.lt i l)).length
def DInfo.touch (d:DInfo) (i j:Nat):Bool:=Q3q (d.nm.getD i ([],none)) (d.nm.getD j ([],none))
def DInfo.okE (d:DInfo) (j:Nat):Bool:=(d.ed.getD j []).all λe=>decide (e<j)
def DInfo.okP (d:DInfo) (j:Nat):Bool:=(List.range j).all λi =>
 if d.lt i j then (d.ed.getD j []).any (λe=>e==i||decide (i<e)&&d.lt i e) else !(d.touch i j)&&!(d.k i==2&&d.k j==2)
def DInfo.okK (d:DInfo) (j:Nat):Bool:=!(d.k j==1) ||
 (decide (d.kmin j<=d.rank j/\d.rank j<=d.kmax j)&&(decide (d.kmax j<=d.rank d.ks.length)&&(List.range d.ks.length).all λl=>!(d.k l==2)||(d.lt l j==decide (d.rank l<d.kmin j)&&d.lt j l==decide (d.kmax j<=d.rank l))))
def DInfo.ok (d:DInfo):Bool:=(List.range d.ks.length).all λj=>d.okE j&&(d.okP j&&d.okK j)
def DInfo.opers (d:DInfo):List VOper->Nat->List DOper
 |[],_=>[]
 |v::r,i=>⟨v.dst,v.op,v.guard,v.op.kind,d.kmin i,d.kmax i⟩::d.opers r (i+1)
def DInfo.okB (d:DInfo):Bool:=decide (d.an.length=d.ks.length)&&(List.range d.ks.length).all λj=>d.okE j&&(decide (d.an.getD j 0<2 ^ j) &&
 (List.range j).all λi=>!(d.lt i j)||(d.ed.getD j []).any (λe=>e==i||decide (i<e)&&d.lt i e))
def exts (lt:Nat->Nat->Bool):Nat->List Nat->List (List Nat)
 |_,[]=>[[]]
 |0,_=>[]
 |n+1,l=>l.flatMap λk=>if l.all (λi=>i==k||!(lt i k)) then (exts lt n (l.erase k)).map (k::·) else []
def Z5s (ed:List (List Nat)) (ks idx:List Nat):Nat->List Nat->List Nat->List Nat
 |0,acc,_=>acc
 |f+1,acc,kq=>match idx.find? (λi=>!(acc.contains i)&&((ed.getD i []).all (λe=>!(idx.contains e)||acc.contains e)&&(!(ks.getD i 0==2)||kq.head?==some i))) with
  |none=>acc
  |some i=>Z5s ed ks idx f (acc++[i]) (if ks.getD i 0==2 then kq.tail else kq)
def Q5m (ed:List (List Nat)) (ks idx:List Nat):Nat->List Nat->List Nat->List Nat
 |0,acc,_=>acc
 |f+1,acc,kq=>match idx.find? (λi=>!(acc.contains i)&&((ed.getD i []).all (λe=>!(idx.contains e)||acc.contains e)&&!(ks.getD i 0==2))) with
  |some i=>Q5m ed ks idx f (acc++[i]) kq
  |none=>match idx.find? (λi=>!(acc.contains i)&&((ed.getD i []).all (λe=>!(idx.contains e)||acc.contains e)&&kq.head?==some i)) with
   |none=>acc
   |some i=>Q5m ed ks idx f (acc++[i]) kq.tail
def Q78:VOp->Bool
 |.callF ..=>true
 |_=>false
def Z38 (b:Bool) (ed:List (List Nat)) (ks idx:List Nat) (n:Nat) (q:List Nat):List Nat:=if b then Q5m ed ks idx n [] q else Z5s ed ks idx n [] q
def Q6g (d:DInfo) (pm:List Nat) (p:Nat):List Nat :=
 ((d.ed.getD (pm.getD p 0) []).filter pm.contains).map (λe=>pm.idxOf e) ++
  (if d.k (pm.getD p 0)==2 then ((List.range p).filter λq=>d.k (pm.getD q 0)==2).getLast?.toList else [])
def VX (vs:List VOper) (pm:List Nat):List VOper:=pm.map λi=>vs.getD i default
def Ce (d:DInfo) (vs:List VOper) (pm:List Nat):DInfo :=
 let ed:=(List.range pm.length).map (Q6g d pm)
 ⟨Z2v ed [],ed,(VX vs pm).map λv=>(Vj v,v.dst),(VX vs pm).map (·.op.kind)⟩
def Z1b (d:DInfo) (vs:List VOper) (idx s pm:List Nat):Bool :=
 idx.all pm.contains&&(pm.all idx.contains&&(decide pm.Nodup&&(decide (pm.filter (λi=>d.k i==2)=s)&&(Ce d vs pm).ok)))
def Z2w (d:DInfo) (vs:List VOper) (s n:Nat):Option DSeg :=
 if n=1 then some (.one (vs.getD s default)) else
 let idx:=List.range' s n;let ss:=exts d.lt n (idx.filter λi=>d.k i==2);let ps:=ss.map λq=>(q,Z38 (decide (3<=(idx.filter λi=>Q78 (vs.getD i default).op).length)) d.ed d.ks idx n q)
 if ps.all λsp=>Z1b d vs idx sp.1 sp.2 then some (.alts (ps.map λsp=>(Ce d vs sp.2).opers (VX vs sp.2) 0)) else none
def cutAt (d:DInfo) (t:Nat):Bool:=(List.range' t (d.ks.length-t)).all λp=>(List.range t).all λi=>d.lt i p
def OD (d:DInfo) (vs:List VOper):Nat->Nat->Option (List DSeg)
 |0,s=>if s=d.ks.length then some [] else none
 |f+1,s=>if s=d.ks.length then some [] else
  match (List.range' (s+1) (d.ks.length-s)).find? (cutAt d) with
  |none=>none
  |some t=>match Z2w d vs s (t-s),OD d vs f t with
   |some x,some r=>some (x::r)
   |_,_=>none
def Q5i (d:DInfo) (vs:List VOper):Option (List DSeg):=if d.okB then OD d vs d.ks.length 0 else none
def GV (d:DInfo) (vs:List VOper):Bool :=
 d.okB&&(vs.all (λv=>!(v.op.kind==2))&&Z1b d vs (List.range' 0 d.ks.length) [] (List.range' 0 d.ks.length))
def comp (P:Program):Code->Option VCode
 |.skip=>some .skip
 |.region _ ops false=>do some (.region (<-ops.toList.mapM (Jc P ops)))
 |.region _ ops true=>do
  let l <-ops.toList.mapM (Jc P ops)
  if GV (Kp ops.toList l) l then some (.region l) else
  match Q5i (Kp ops.toList l) l with
  |some aS=>some (.regionD aS)
  |none=>some .bad
 |.seq a b=>do some (.seq (<-comp P a) (<-comp P b))
 |.cond c a b=>do if X8 c then some (.cond c (<-comp P a) (<-comp P b)) else some .bad
 |.block id b=>do some (.block id (<-comp P b))
 |.loop b=>do some (.loop (<-comp P b))
 |.rangeFunc g ps a b=>do if X8 g then some (.rangeF g ps.toList (<-comp P a) (<-comp P b)) else some .bad
 |.exit id=>some (.exit id)
 |.ret=>some .ret
 |_=>some .bad
def Q3 (env:Env):Operand->Value
 |.tmp t=>env.getD t undef
 |.const v=>v
 |.global g=>.pointer (some ⟨g,0,some 0⟩)
 |.func f=>.func (.func f) #[] #[]
def Re:BinOp->IntKind->Int->Int->Int
 |.add,k,a,b=>k.wrap (a+b)
 |.sub,k,a,b=>k.wrap (a-b)
 |_,k,a,b=>k.wrap (a*b)
def Q7n:BinOp->IntKind->Int->Int->Int
 |.quo,k,a,b=>k.wrap (a.tdiv b)
 |_,_,a,b=>a.tmod b
def Q8 (op:BinOp) (k:IntKind) (x y:Int):Int :=
 let a:=BitVec.ofInt k.bits x;let b:=BitVec.ofInt k.bits y
 match op with
 |.and=>k.wrap (a &&& b).toNat
 |.or=>k.wrap (a ||| b).toNat
 |.xor=>k.wrap (a ^^^ b).toNat
 |_=>k.wrap (a &&& ~~~b).toNat
def Rn:BinOp->IntKind->Int->Int->Int
 |.shl,k,x,y=>k.wrap (x*2 ^ (Nat.min y.toNat k.bits))
 |_,k,x,y=>x.fdiv (2 ^ (Nat.min y.toNat k.bits))
def Z1i:BinOp->Int->Int->Bool
 |.eql,a,b=>a==b
 |.neq,a,b=>a != b
 |.lss,a,b=>decide (a<b)
 |.leq,a,b=>decide (a<=b)
 |.gtr,a,b=>decide (a > b)
 |_,a,b=>decide (a>=b)
def cellOk:Value->Bool
 |.agg _|.tuple _|.chan _=>false
 |_=>true
def KN:Value->Option (List Value)
 |.agg cs=>some cs.toList
 |.chan _|.tuple _=>none
 |v=>some [v]
def Yq (c:List Value) (o:Nat):List Value->List Value
 |[]=>c
 |v::vs=>Yq (c.set o v) (o+1) vs
def Mw (c:List Value):List (Nat×Nat×Value)->Option (List Value)
 |[]=>some c
 |(o,s,v)::rest =>
  match KN v with
  |some vs=>if vs.length=s/\o+s<=c.length then Mw (Yq c o vs) rest else none
  |none=>none
def HE (n:Nat):List Value->List Value
 |[x]=>List.replicate n x
 |z=>(List.replicate n z).flatten
def Xl (agg:Bool) (size:Nat) (c:List Value) (o:Nat):Option Value :=
 if agg then (if o+size<=c.length then some (.agg ((c.drop o).take size).toArray) else none) else c[o]?
def Heap.sl (M:Heap) (esz:Nat):Value->Option (List Value)
 |.slice none 0 0=>some []
 |.slice (some ⟨i,o,none⟩) n _ =>
  match M.get i with
  |some (.cells c e _ _)=>if e.sz=esz/\o+n*esz<=c.length then some ((c.drop o).take (n*esz)) else none
  |_=>none
 |_=>none
def YD (esz:El) (bytes:Nat) (M:Heap) (s:Value) (m:Nat) (xs:List Value):Option (Value×Heap) :=
 match s with
 |.slice none 0 0 =>
  if m=0 then some (s,M) else
  if m*bytes<=2 ^ 46 then some (.slice (some ⟨M.n,0,none⟩) m m,M.push (.cells xs esz true false)) else none
 |.slice (some ⟨i,o,none⟩) n cap =>
  match M.get i with
  |some (.cells c e wr tight) =>
   if e=esz/\n<=cap/\o+n*esz.sz<=c.length then
    if m=0 then some (s,M) else
    if n+m<=cap then
     (if wr=true/\o+(n+m)*esz.sz<=c.length then some (.slice (some ⟨i,o,none⟩) (n+m) cap,M.upd i (.cells (Yq c (o+n*esz.sz) xs) e wr tight)) else none)
    else if (n+m)*bytes<=2 ^ 46 then
     (if tight then some (.slice (some ⟨M.n,0,none⟩) (n+m) (n+m),M.push (.cells ((c.drop o).take (n*esz.sz)++xs) esz true false))
     else if wr then some (.slice (some ⟨M.n,0,none⟩) (n+m) (n+m),(M.kill i).push (.cells ((c.drop o).take (n*esz.sz)++xs) esz true false))
     else none)
    else none
   else none
  |_=>none
 |.slice (some ⟨i,o,some 0⟩) n cap =>
  match M.get i with
  |some (.cells c e _ _) =>
   if e=esz/\n=cap/\o+n*esz.sz<=c.length/\m≠0/\(n+m)*bytes<=2 ^ 46 then
    some (.slice (some ⟨M.n,0,none⟩) (n+m) (n+m),M.push (.cells ((c.drop o).take (n*esz.sz)++xs) esz true false))
   else none
  |_=>none
 |_=>none
def J8 (ev:Operand->Value):Option Operand->Nat->Option Nat
 |none,d=>some d
 |some x,_=>match ev x with
  |.int _ i=>if 0<=i then some i.toNat else none
  |_=>none
def WU (size:Nat) (M:Heap) (s:Value) (l h:Nat) (m:Option Nat):Option (Value×Heap) :=
 match s with
 |.slice none 0 0=>if l=0/\h=0/\(m.getD 0)=0 then some (.slice none 0 0,M) else none
 |.slice (some ⟨i,o,none⟩) _ cap =>
  match M.get i with
  |some (.cells _ e _ t) =>
   match m with
   |none=>if e.sz=size/\l<=h/\h<=cap then some (.slice (some ⟨i,o+l*size,none⟩) (h-l) (cap-l),M) else none
   |some m =>
    if e.sz=size/\l<=h/\h<=m/\m<=cap then
     if m=l then some (.slice (some ⟨M.n,0,none⟩) 0 0,M.push (.cells [] e false true))
     else if t=false/\h=m then some (.slice (some ⟨i,o+l*size,some 0⟩) (h-l) (m-l),M)
     else some (.slice (some ⟨i,o+l*size,none⟩) (h-l) (m-l),M)
    else none
  |_=>none
 |_=>none
def Zn:MK->Value->Bool
 |.int k,.int k' _=>decide (k=k')
 |.string,.string _|.bool,.bool _=>true
 |.agg s,.agg cs=>fits s cs.toList
 |_,_=>false
def XF:Value->Value->Bool
 |.agg a,.agg b=>Qo a.toList b.toList
 |.int _ a,.int _ b=>a==b
 |.string a,.string b=>a.data.toList==b.data.toList
 |.bool a,.bool b=>a==b
 |_,_=>false
abbrev JD:=Value×Value×Nat
def Qj (k:Value):List JD->Option JD
 |[]=>none
 |e::es=>if XF k e.1 then some e else Qj k es
def Qu (k v:Value) (clock:Nat):List JD->List JD×Nat
 |[]=>([(k,v,clock)],clock+1)
 |e::es=>if XF k e.1 then ((k,v,e.2.2)::es,clock) else (e::(Qu k v clock es).1,(Qu k v clock es).2)
def H2 (k:Value):List JD->List JD
 |[]=>[]
 |e::es=>if XF k e.1 then es else e::H2 k es
def Heap.mapAt (M:Heap) (m:Nat):Option (List JD×Nat×Bool):=match M.get m with
 |some (.obj (.map es clock) wr)=>some (es,clock,wr)
 |_=>none
def Cl:Value->Option UInt8
 |.int .u8 n=>some n.toNat.toUInt8
 |_=>none
def H4 (l:List Value):Option ByteArray:=(l.mapM Cl).map λbs=>⟨bs.toArray⟩
def Jf:Nat->Value->Value->Heap->Option Bool
 |0,.pointer none,.pointer none,_=>some true
 |0,.pointer none,.pointer (some _),_=>some false
 |0,.pointer (some _),.pointer none,_=>some false
 |0,.pointer (some ⟨i,o,none⟩),.pointer (some ⟨j,q,none⟩),M=>if i=j/\o=q/\(M.get i).isSome=true then some true else none
 |1,.slice none _ _,.slice none _ _,_=>some true
 |1,.slice none _ _,.slice (some _) _ _,_=>some false
 |1,.slice (some _) _ _,.slice none _ _,_=>some false
 |2,.map none,.map none,_=>some true
 |2,.map none,.map (some _),_=>some false
 |2,.map (some _),.map none,_=>some false
 |3,.nilFunc,.nilFunc,_=>some true
 |3,.nilFunc,.func _ _ _,_=>some false
 |3,.func _ _ _,.nilFunc,_=>some false
 |_,_,_,_=>none
def Zg (o:XOp) (ev:Operand->Value) (M:Heap):Option (Value×Heap) :=
 match o with
 |.eqNil kd neg x y=>match Jf kd (ev x) (ev y) M with|some b=>some (.bool (if neg then !b else b),M)|none=>none
 |.eqAgg neg s x y=>match ev x,ev y with
  |.agg a,.agg b=>if fits s a.toList=true/\fits s b.toList=true then some (.bool (if neg then !(Qo a.toList b.toList) else Qo a.toList b.toList),M) else none
  |_,_=>none
 |.makeMap=>some (.map (some M.n),M.push (.obj (.map [] 0) true))
 |.lookup mk z ok x i =>
  let k:=ev i
  if Zn mk k then
   match ev x with
   |.map none=>some (if ok then .tuple #[z,.bool false] else z,M)
   |.map (some m)=>match M.mapAt m with
    |some (es,_,_)=>if es.all (λe=>Zn mk e.1) then
      (match Qj k es with
      |some e=>some (if ok then .tuple #[e.2.1,.bool true] else e.2.1,M)
      |none=>some (if ok then .tuple #[z,.bool false] else z,M)) else none
    |none=>none
   |_=>none
  else none
 |.mapUpdate mk m k v=>match ev m with
  |.map (some i)=>match M.mapAt i with
   |some (es,clock,true)=>if Zn mk (ev k)&&es.all (λe=>Zn mk e.1) then some (undef,M.upd i (.obj (.map (Qu (ev k) (ev v) clock es).1 (Qu (ev k) (ev v) clock es).2) true)) else none
   |_=>none
  |_=>none
 |.delete mk m k=>match ev m with
  |.map (some i)=>match M.mapAt i with
   |some (es,clock,true)=>if Zn mk (ev k)&&es.all (λe=>Zn mk e.1) then some (.tuple #[],M.upd i (.obj (.map (H2 (ev k) es) clock) true)) else none
   |_=>none
  |_=>none
 |.mapEntry mk z m k=>match ev m with
  |.map (some i)=>match M.mapAt i with
   |some (es,clock,true)=>if Zn mk (ev k)&&es.all (λe=>Zn mk e.1) then
     (match Qj (ev k) es with
     |some e=>some (.tuple #[e.2.1,.int .i64 e.2.2],M.upd i (.obj (.map (Qu (ev k) e.2.1 clock es).1 (Qu (ev k) e.2.1 clock es).2) true))
     |none=>some (.tuple #[z,.int .i64 clock],M.upd i (.obj (.map (Qu (ev k) z clock es).1 (Qu (ev k) z clock es).2) true))) else none
   |_=>none
  |_=>none
 |.entryStore m s v=>match ev m,ev s with
  |.map (some i),.int .i64 n=>match M.mapAt i with
   |some (es,clock,true)=>(match es.findIdx? (λe=>(e.2.2:Int)==n) with
    |some j=>(match es[j]? with
     |some e=>some (undef,M.upd i (.obj (.map (es.set j (e.1,ev v,e.2.2)) clock) true))
     |none=>none)
    |none=>none)
   |_=>none
  |_,_=>none
 |.lenMap x=>match ev x with
  |.map none=>some (.int .i64 0,M)
  |.map (some m)=>match M.mapAt m with
   |some (es,_,_)=>some (.int .i64 es.length,M)
   |none=>none
  |_=>none
 |.rangeMap x=>match ev x with
  |.map (some m)=>match M.mapAt m with
   |some (_,clock,_)=>some (.pointer (some ⟨M.n,0,none⟩),M.push (.obj (.iter m clock [] clock) true))
   |none=>none
  |_=>none
 |.nextMap _=>none
 |.entry x=>match ev x with
  |.pointer (some ⟨i,0,none⟩)=>match M.get i with
   |some (.obj (.iter m _ seen last) _)=>match M.mapAt m,seen.getLast? with
    |some (es,clock,_),some b=>if clock=last then (match es.find? (λe=>e.2.2==b) with|some e=>if Vx e.1 then some (.tuple #[e.1,e.2.1],M) else none|none=>none) else none
    |_,_=>none
   |_=>none
  |_=>none
 |.copy size d s=>match ev d,ev s with
  |.slice db dn _,.slice sb sn sc =>
   if min sn dn=0 then some (.int .i64 0,M) else
   match db,M.sl size (.slice sb (min sn dn) sc) with
   |some ⟨i,o,none⟩,some xs=>match M.get i with
    |some (.cells c e wr tight)=>if wr=true/\e.sz=size/\o+xs.length<=c.length/\xs.all cellOk=true then some (.int .i64 (min sn dn:Nat),M.upd i (.cells (Yq c o xs) e wr tight)) else none
    |_=>none
   |_,_=>none
  |_,_=>none
 |.clear z x=>match ev x with
  |.slice b n _ =>
   if n=0 then some (.tuple #[],M) else
   match b with
   |some ⟨i,o,none⟩=>match M.get i with
    |some (.cells c e wr tight)=>if wr=true/\o+n*z.length<=c.length/\z.all cellOk=true then some (.tuple #[],M.upd i (.cells (Yq c o (HE n z)) e wr tight)) else none
    |_=>none
   |_=>none
  |_=>none
 |.toUnsafe x=>match ev x with
  |.pointer none=>some (.pointer none,M)
  |.pointer (some ⟨i,o,none⟩)=>match M.get i with
   |some (.cells c _ _ _)=>if o<c.length then some (.pointer (some ⟨i,o,none⟩),M) else none
   |_=>none
  |_=>none
 |.fromUnsafe u size x=>match ev x with
  |.pointer none=>some (.pointer none,M)
  |.pointer (some ⟨i,o,none⟩)=>match M.get i with
   |some (.cells c e true true)=>if o=0/\e.ty=u/\size<=c.length then some (.pointer (some ⟨i,o,none⟩),M) else none
   |_=>none
  |_=>none
 |.sliceData x=>match ev x with
  |.slice none _ _=>some (.pointer none,M)
  |.slice (some ⟨i,o,none⟩) _ cap=>if cap≠0/\(M.get i).isSome=true then some (.pointer (some ⟨i,o,none⟩),M) else none
  |_=>none
 |.unsafeStr e x n=>match ev x,ev n with
  |.pointer p,.int .i64 k =>
   if k=0 then some (.string ⟨#[]⟩,M) else
   match p with
   |some ⟨i,o,none⟩=>match M.get i with
    |some (.cells c el true tight) =>
     if 0<k/\k<=2 ^ 62/\el.ty=e/\o+k.toNat<=c.length then
      (match H4 ((c.drop o).take k.toNat) with
      |some s=>some (.string s,M.upd i (.cells c el false tight))
      |none=>none) else none
    |_=>none
   |_=>none
  |_,_=>none
 |.strBytes e x=>match ev x with
  |.string s=>if s.size<=2 ^ 62 then some (.slice (some ⟨M.n,0,none⟩) s.size s.size,M.push (.cells (s.data.toList.map λb=>.int .u8 b.toNat) ⟨1,e⟩ true false)) else none
  |_=>none
 |.bytesStr x=>match ev x with
  |.slice a n c=>match M.sl 1 (.slice a n c) with
   |some xs=>match H4 xs with|some s=>some (.string s,M)|none=>none
   |none=>none
  |_=>none
def Fl (a b:Int):Int:=if b > a then b else a
theorem IE (a b:Int):Fl (Fl a b) b=Fl a b:=by unfold Fl;(repeat' split)<;>omega
def Q7 (o:VOp) (ev:Operand->Value) (M:Heap):Option (Value×Heap) :=
 match o with
 |.move x=>some (ev x,M)
 |.pick c a b=>match ev c with|.bool t=>some (if t then ev a else ev b,M)|_=>none
 |.arith op x y=>match ev x,ev y with|.int k a,.int k' b=>if k=k' then some (.int k (Re op k a b),M) else none|_,_=>none
 |.div op x y=>match ev x,ev y with|.int k a,.int k' b=>if k=k'/\b≠0 then some (.int k (Q7n op k a b),M) else none|_,_=>none
 |.bits op x y=>match ev x,ev y with|.int k a,.int k' b=>if k=k' then some (.int k (Q8 op k a b),M) else none|_,_=>none
 |.shift op x y=>match ev x,ev y with|.int k a,.int _ b=>if 0<=b then some (.int k (Rn op k a b),M) else none|_,_=>none
 |.cmp op x y=>match ev x,ev y with|.int k a,.int k' b=>if k=k' then some (.bool (Z1i op a b),M) else none|_,_=>none
 |.str op x y=>match ev x,ev y with
  |.string a,.string b=>match op with
   |.add=>if a.size+b.size<=2 ^ 62 then some (.string (a++b),M) else none
   |.eql=>some (.bool (a.data.toList==b.data.toList),M)
   |.neq=>some (.bool (!(a.data.toList==b.data.toList)),M)
   |.lss=>some (.bool (Op.bytesLess a.data.toList b.data.toList),M)
   |_=>none
  |_,_=>none
 |.eqB neg x y=>match ev x,ev y with|.bool a,.bool b=>some (.bool (if neg then !(a==b) else (a==b)),M)|_,_=>none
 |.un op x=>match op,ev x with
  |.not,.bool b=>some (.bool (!b),M)
  |.neg,.int k n=>some (.int k (k.wrap (0-n)),M)
  |.xor,.int k n=>some (.int k (Q8 .xor k (if k.signed then -1 else k.max) n),M)
  |_,_=>none
 |.convI k x=>match ev x with|.int _ n=>some (.int k (k.wrap n),M)|_=>none
 |.convS x=>match ev x with|.string s=>some (.string s,M)|_=>none
 |.alloc t z=>some (.pointer (some ⟨M.n,0,none⟩),M.push (.cells z ⟨z.length,t⟩ true true))
 |.box t x=>match KN (ev x) with
  |some vs=>some (.pointer (some ⟨M.n,0,none⟩),M.push (.cells vs ⟨vs.length,t⟩ true true))
  |none=>none
 |.build z parts=>match Mw z (parts.map λp=>(p.1,p.2.1,ev p.2.2)) with|some cs=>some (.agg cs.toArray,M)|none=>none
 |.buildSlice esz z len parts=>match Mw (HE len z) (parts.map λp=>(p.1*esz.sz,esz.sz,ev p.2)) with
  |some cs=>some (.slice (some ⟨M.n,0,none⟩) len len,M.push (.cells cs esz true true))
  |none=>none
 |.load agg size a=>match ev a with
  |.pointer (some ⟨g,o,some _⟩)=>(match Q19 g with
   |some c=>if c.all QN then (match Xl agg size c o with|some v=>some (v,M)|none=>none) else none
   |none=>none)
  |.pointer (some ⟨i,o,none⟩)=>match M.get i with
   |some (.cells c _ _ _)=>match Xl agg size c o with|some v=>some (v,M)|none=>none
   |_=>none
  |_=>none
 |.store size a v=>match ev a,KN (ev v) with
  |.pointer (some ⟨i,o,none⟩),some vs=>match M.get i with
   |some (.cells c e wr tight)=>if wr=true/\vs.length=size/\o+size<=c.length/\vs.all cellOk=true then some (undef,M.upd i (.cells (Yq c o vs) e wr tight)) else none
   |_=>none
  |_,_=>none
 |.fieldAddr off a=>match ev a with
  |.pointer (some ⟨i,o,none⟩)=>some (.pointer (some ⟨i,o+off,none⟩),M)
  |_=>none
 |.field agg off size x=>match ev x with
  |.agg cs=>match Xl agg size cs.toList off with|some v=>some (v,M)|none=>none
  |_=>none
 |.indexAddr size x i=>match ev x,ev i with
  |.slice (some ⟨b,o,none⟩) n _,.int _ k=>if 0<=k/\k<n then some (.pointer (some ⟨b,o+k.toNat*size,none⟩),M) else none
  |_,_=>none
 |.indexAddrArr len size x i=>match ev x,ev i with
  |.pointer (some ⟨g,o,some s⟩),.int _ k=>if 0<=k/\k<len then some (.pointer (some ⟨g,o+k.toNat*size,some s⟩),M) else none
  |.pointer (some ⟨b,o,none⟩),.int _ k=>if 0<=k/\k<len then some (.pointer (some ⟨b,o+k.toNat*size,none⟩),M) else none
  |_,_=>none
 |.indexStr x i=>match ev x,ev i with
  |.string s,.int _ k=>if 0<=k then (match s.data.toList[k.toNat]? with|some b=>some (.int .u8 b.toNat,M)|none=>none) else none
  |_,_=>none
 |.indexArr len agg size x i=>match ev x,ev i with
  |.agg cs,.int _ k=>if 0<=k/\k<len then (match Xl agg size cs.toList (k.toNat*size) with|some v=>some (v,M)|none=>none) else none
  |_,_=>none
 |.slice size x lo hi mx =>
  match ev x with
  |.slice a n cap =>
   match J8 ev lo 0,J8 ev hi n,mx with
   |some l,some h,none=>WU size M (.slice a n cap) l h none
   |some l,some h,some _=>match J8 ev mx 0,hi with
    |some m,some _=>WU size M (.slice a n cap) l h (some m)
    |_,_=>none
   |_,_,_=>none
  |_=>none
 |.sliceStr x lo hi =>
  match ev x with
  |.string s =>
   match J8 ev lo 0,J8 ev hi s.size with
   |some l,some h=>if l<=h/\h<=s.size then some (.string (s.extract l h),M) else none
   |_,_=>none
  |_=>none
 |.makeSlice esz bytes z l c =>
  match ev l,ev c with
  |.int _ a,.int _ b=>if 0<=a/\a<=b/\b*bytes<=2 ^ 46/\b<=2 ^ 46 then some (.slice (some ⟨M.n,0,none⟩) a.toNat b.toNat,M.push (.cells (HE b.toNat z) esz true true)) else none
  |_,_=>none
 |.len x=>match ev x with
  |.slice _ n _=>some (.int .i64 n,M)
  |_=>none
 |.lenStr x=>match ev x with
  |.string s=>some (.int .i64 s.size,M)
  |_=>none
 |.append esz bytes s x =>
  match M.sl esz.sz (ev x),ev x with
  |some xs,.slice _ m _=>if xs.all cellOk then YD esz bytes M (ev s) m xs else none
  |_,_=>none
 |.max4 x y z w=>match ev x,ev y,ev z,ev w with|.int k a,.int k2 b,.int k3 c,.int k4 d=>if k=k2/\k=k3/\k=k4 then some (.int k (Fl (Fl (Fl a b) c) d),M) else none|_,_,_,_=>none
 |.max x y=>match ev x,ev y with|.int k a,.int k' b=>if k=k' then some (.int k (if b > a then b else a),M) else none|_,_=>none
 |.min x y=>match ev x,ev y with|.int k a,.int k' b=>if k=k' then some (.int k (if b<a then b else a),M) else none|_,_=>none
 |.makeFunc fn first cap=>some (.func fn (first.map ev).toArray (cap.map ev).toArray,M)
 |.iface t x=>match ev x with|.chan _=>none|v=>some (.iface t v,M)
 |.extract x i=>match ev x with
  |.tuple vs=>match vs.toList[i]? with|some v=>some (v,M)|none=>none
  |_=>none
 |.nilCheck x=>match ev x with
  |.pointer (some a)=>some (.pointer (some a),M)
  |.func (.func f) first cap=>some (.func (.func f) first cap,M)
  |_=>none
 |.ext o=>Zg o ev M
 |.callF ..|.callV ..|.bad=>none
def QX {α:Type}(o:Option α) (f:α->Prop):Prop:=match o with|some a=>f a|none=>False
def vif (b:Bool) (A B:Prop):Prop:=(b=true->A)/\(b=false->B)
def Ln (v:Value) (A B:Prop):Prop:=match v with|.bool t=>vif t A B|_=>False
abbrev HX:=List Value->Heap->(Value->Heap->Prop)->Prop
structure VSpecs where
 fn:FuncId->Option HX
 yl:Nat->Option HX
 it:FuncId->Option (Nat->HX->HX)
def vcall (S:VSpecs) (f:FuncId) (args:List Value) (M:Heap) (K:Value->Heap->Prop):Prop :=
 match S.fn f with
 |some s=>s args M K
 |none=>False
def Ad (S:VSpecs) (i:Nat) (args:List Value) (M:Heap) (K:Value->Heap->Prop):Prop :=
 match S.yl i with
 |some s=>s args M K
 |none=>False
def Cg (x:Value) (M:Heap) (K:Value->Heap->Prop):Prop :=
 match x with
 |.pointer (some ⟨i,0,none⟩)=>match M.get i with
  |some (.obj (.iter m since seen last) true)=>match M.mapAt m with
   |some (es,clock,_)=>(seen.isEmpty||es.isEmpty||es.any (λe=>decide (e.2.2<last)))=true/\es.all (λe=>Vx e.1)=true /\
     (es.all (λe=>seen.contains e.2.2||decide (since<=e.2.2))=true->K (.tuple #[.bool false]) M) /\
     ∀ e∈es,seen.contains e.2.2=false->K (.tuple #[.bool true,e.1,e.2.1]) (M.upd i (.obj (.iter m since (seen++[e.2.2]) clock) true))
   |none=>False
  |_=>False
 |_=>False
def Xe (env:Env) (d:Option Nat) (v:Value):Env :=
 match d with
 |some d=>env.set d v
 |none=>env
def vop (S:VSpecs) (o:VOp) (env:Env) (M:Heap) (K:Value->Heap->Prop):Prop :=
 match o with
 |.callF f args=>vcall S f (args.map (Q3 env)) M K
 |.callV f args=>match Q3 env f with
  |.func (.func g) first cap=>vcall S g (first.toList++args.map (Q3 env)++cap.toList) M K
  |.func (.yield i) _ _=>Ad S i (args.map (Q3 env)) M K
  |_=>False
 |.ext (.nextMap x)=>Cg (Q3 env x) M K
 |o=>QX (Q7 o (Q3 env) M) λp=>K p.1 p.2
def Ja (env:Env):Option (Nat×Bool)->Option Bool
 |none=>some true
 |some (d,want)=>match env.getD d undef with
  |.bool b=>some (b==want)
  |.tuple _=>some false
  |_=>none
def BH (S:VSpecs):List VOper->Env->Heap->(Env->Heap->Prop)->Prop
 |[],env,M,K=>K env M
 |o::rest,env,M,K=>QX (Ja env o.guard) λb =>
   vif b (vop S o.op env M λv M'=>BH S rest (Xe env o.dst v) M' K) (BH S rest (Xe env o.dst undef) M K)
def E0:Value->Bool
 |.bool _|.int _ _|.string _|.pointer none|.slice none 0 0|.map none|.nilFunc|.nilIface=>true
 |.tuple vs=>vs.toList.all QN
 |_=>false
def Heap.Le (M M':Heap):Prop:=M.n<=M'.n/\∀ i b,M.get i=some b->M'.get i=some b
def Dq (A:(Value->Heap->Prop)->Prop) (R:Value->Heap->Prop):Prop:=∃ v M',A (λv' aE=>v'=v/\aE=M')/\R v M'
def JW (op:VOp) (ev:Operand->Value) (v:Value) (U:Heap):Prop:=QX (Q7 op ev U) λq=>q.1=v
def JX (r:Nat) (M:Heap):List (Nat×(Heap->Prop))->Prop
 |[]=>True
 |c::l=>(r<=c.1->c.2 M)/\JX r M l
def waits:List Nat->List DOper->Bool
 |_,[]=>true
 |xs,o::r=>((o.kind==2)||(Ov o.op.opds++(o.guard.map (·.1)).toList).any (λx=>xs.contains x))&&waits (o.dst.toList++xs) r
def Zq (S:VSpecs):List DOper->Env->List Heap->Heap->List (Nat×(Heap->Prop))->(Env->Heap->Prop)->Prop
 |[],env,_,M,_,K=>K env M
 |o::rest,env,hs,M,pend,K=>QX (Ja env o.guard) λb =>
   vif b (if o.kind=2 then (Dq (λR=>vop S o.op env M R) λv M'=>JX hs.length M' pend/\Zq S rest (Xe env o.dst v) (hs++[M']) M' pend K) \/
      (waits o.dst.toList rest=true/\vop S o.op env M λv M'=>JX hs.length M' pend/\Zq S rest (Xe env o.dst v) (hs++[M']) M' pend K)
     else if o.kind=1 then QX (Q7 o.op (Q3 env) M) λp=>(∀ U∈hs.drop o.kmin,JW o.op (Q3 env) p.1 U) /\
      Zq S rest (Xe env o.dst p.1) hs M (if hs.length<=o.kmax then (o.kmax,JW o.op (Q3 env) p.1)::pend else pend) K
     else QX (Q7 o.op (Q3 env) M) λp=>Zq S rest (Xe env o.dst p.1) hs M pend K)
    (if o.kind=2 then JX hs.length M pend/\Zq S rest (Xe env o.dst undef) (hs++[M]) M pend K else Zq S rest (Xe env o.dst undef) hs M pend K)
def DropE (σ0:Heap) (env:Env) (M:Heap) (af:Env) (M':Heap):Prop :=
 ∀ ρ0 w0 ρ w cs,HRel ρ0 σ0 w0->Ext ρ0 σ0 w0 ρ M w->HRel ρ M w->LRel ρ M.n env cs->∃ ρ',LRel ρ' M'.n af cs/\HRel ρ' M' w/\Ext ρ0 σ0 w0 ρ' M' w
theorem DropE.refl (σ0:Heap) (env:Env) (M:Heap):DropE σ0 env M env M:=λ_ _ ρ _ _ _ hE hH hL=>⟨ρ,hL,hH,hE⟩
def M_ (S:VSpecs):List DSeg->Env->Heap->(Env->Heap->Prop)->Prop
 |[],env,M,K=>K env M
 |.one o::rest,env,M,K=>BH S [o] env M λenv M=>M_ S rest env M K
 |.alts l::rest,env,M,K=>∀ ops∈l,Zq S ops env [M] M [] λbA σ1=>∃ aU M2,DropE M bA σ1 aU M2/\M_ S rest aU M2 K
def D8 (live:List Nat) (env:Env):List Value:=live.map λi=>env.getD i poison
def Xj:List Nat->List Value->Env->Env
 |i::l,v::vs,env=>Xj l vs (env.set i v)
 |_,_,env=>env
def Q9h (W:(Exit->Env->Heap->Prop)->Env->Heap->Prop) (Q:Exit->Env->Heap->Prop) (env:Env) (M:Heap):Prop :=
 ∃ (live:List Nat) (I:Nat->List Value->Heap->Prop) (n0:Nat),I n0 (D8 live env) M /\
  ∀ n vs M',I n vs M'->W (λe af aE=>match e with
   |.normal=>∃ n',n'<n/\I n' (D8 live af) aE
   |e=>Q e af aE) (Xj live vs (List.replicate env.length poison)) M'
def Z5u (R:Env->Heap->Prop) (Q:Exit->Env->Heap->Prop):Exit->Env->Heap->Prop
 |.normal,env,M=>R env M
 |e,env,M=>Q e env M
def SC (id:Nat) (Q:Exit->Env->Heap->Prop):Exit->Env->Heap->Prop
 |.exit iG,env,M=>if iG=id then Q .normal env M else Q (.exit iG) env M
 |e,env,M=>Q e env M
def PA:Env->List Nat->List Value->Env
 |env,p::ps,v::vs=>PA (env.set p v) ps vs
 |env,_,_=>env
def Q9r (env:Env) (r:Loop) (i:Nat) (K:Value->Heap->Prop):Exit->Env->Heap->Prop:=λe _ M =>
 M.get i=some (.obj (.lp env r .busy none) true)/\match e with
  |.normal=>K (.bool true) (M.upd i (.obj (.lp env r .ready none) true))
  |.ret=>K (.bool false) (M.upd i (.obj (.lp env r .done (some .ret)) true))
  |.exit id=>K (.bool false) (M.upd i (.obj (.lp env r .done (some (.exit id))) true))
  |_=>False
def Aj (A B:(Exit->Env->Heap->Prop)->Env->Heap->Prop) (ps:List Nat) (env:Env) (r:Loop) (i:Nat):HX:=λargs M K =>
 M.get i=some (.obj (.lp env r .ready none) true)/\args.length=ps.length /\
  A (Z5u (λbA σ1=>σ1.get i=some (.obj (.lp env r .ready none) true)/\B (Q9r env r i K) bA (σ1.upd i (.obj (.lp env r .busy none) true))) (λ_ _ _=>False)) (PA env ps args) M
def Q0d (Q:Exit->Env->Heap->Prop) (env:Env) (i:Nat):Value->Heap->Prop:=λ_ M =>
 match M.get i with
 |some (.obj (.lp _ _ st pend) true)=>st≠.busy/\match pend with
  |none=>Q .normal env (M.kill i)
  |some .ret=>Q .ret env (M.kill i)
  |some (.exit id)=>Q (.exit id) env (M.kill i)
  |some _=>False
 |_=>False
def Z5q (M:Heap):Option Nat->Prop
 |none=>True
 |some i=>∃ env r st pend,M.get i=some (.obj (.lp env r st pend) true)
def Lc (S:VSpecs) (ro:Option Nat) (A B:Option Nat->(Exit->Env->Heap->Prop)->Env->Heap->Prop) (g:Value) (ps:List Nat) (Q:Exit->Env->Heap->Prop) (env:Env) (M:Heap):Prop :=
 match g with
 |.func (.func f) first cap=>match S.it f with
  |some T=>Z5q M ro/\∀ r:Loop,T M.n (Aj (A (some M.n)) (B (some M.n)) ps env r M.n) (first.toList++[.func (.yield M.n) #[] #[]]++cap.toList) (M.push (.obj (.lp env r .ready none) true)) (Q0d Q env M.n)
  |none=>False
 |_=>False
def vwp (S:VSpecs):VCode->Option Nat->(Exit->Env->Heap->Prop)->Env->Heap->Prop
 |.skip,_,Q,env,M=>Q .normal env M
 |.region ops,_,Q,env,M=>BH S ops env M λenv M=>Q .normal env M
 |.regionD aS,_,Q,env,M=>M_ S aS env M λenv M=>Q .normal env M
 |.seq a b,ro,Q,env,M=>vwp S a ro (Z5u (vwp S b ro Q) Q) env M
 |.cond c a b,ro,Q,env,M=>Ln (Q3 env c) (vwp S a ro Q env M) (vwp S b ro Q env M)
 |.block id b,ro,Q,env,M=>vwp S b ro (SC id Q) env M
 |.loop b,ro,Q,env,M=>Q9h (vwp S b ro) Q env M
 |.rangeF g ps a b,ro,Q,env,M=>Lc S ro (vwp S a) (vwp S b) (Q3 env g) ps Q env M
 |.exit id,_,Q,env,M=>Q (.exit id) env M
 |.ret,_,Q,env,M=>Q .ret env M
 |.bad,_,_,_,_=>False
inductive VResult where
 |tmp (t:Nat)
 |cell (a:Nat) (agg:Bool) (size:Nat)
def JC (P:Program):ResultVar->Option VResult
 |.tmp t=>some (.tmp t)
 |.cell a t =>
  match P.info? t,P.underlying t with
  |some i,some d=>some (.cell a (N7 d) i.size)
  |_,_=>none
def UD (P:Program) (rs:List ResultVar):Option (List VResult):=rs.mapM (JC P)
def Ju (env:Env) (M:Heap):VResult->Option Value
 |.tmp t=>some (env.getD t undef)
 |.cell a agg size=>(Q7 (.load agg size (.tmp a)) (Q3 env) M).map (·.1)
def Zv (env:Env) (M:Heap) (rs:List VResult):Option Value :=
 match rs with
 |[r]=>Ju env M r
 |rs=>(rs.mapM (Ju env M)).map λvs=>.tuple vs.toArray
def Q9e (rs:List VResult) (R:Value->Heap->Prop):Exit->Env->Heap->Prop
 |.normal,env,M|.ret,env,M=>QX (Zv env M rs) λv=>R v M
 |_,_,_=>False
theorem Xn (b:Nat):∀ (vs:List Value) (o:Nat) (w:World) (k:Nat),k≠b->(w.setCells b o vs).heap[k]?=w.heap[k]?
 |[],_,_,_,_=>rfl
 |v::r,o,w,k,h=>by rw[World.setCells,Xn b r (o+1) _ k h];exact heap_setCell_other w ⟨b,o,none⟩ k v h
theorem Wo (b:Nat):∀ (vs:List Value) (o:Nat) (w:World),(w.setCells b o vs).heap.size=w.heap.size
 |[],_,_=>rfl
 |v::r,o,w=>by rw[World.setCells,Wo b r];exact World.size_setCell w _ _
theorem GN (b:Nat):∀ (vs:List Value) (o:Nat) (w:World),(w.setCells b o vs).os=w.os/\(w.setCells b o vs).tape=w.tape/\(w.setCells b o vs).output=w.output
 |[],_,_=>⟨rfl,rfl,rfl⟩
 |v::r,o,w=>by rw[World.setCells];exact GN b r (o+1) _
theorem Vp (b:Nat):∀ (vs:List Value) (o:Nat) (w:World) (C:Array Value) (e:TypeId) (f:Nat×Nat),w.heap[b]?=some (.cells C e f) ->
  ∃ C',(w.setCells b o vs).heap[b]?=some (.cells C' e f)/\C'.size=C.size
 |[],_,_,C,_,_,h=>⟨C,h,rfl⟩
 |v::r,o,w,C,e,f,h=>by
  have h1:(w.setCell ⟨b,o,none⟩ v).heap[b]?=some (.cells (C.setIfInBounds o v) e f):=by simp only[World.setCell,Array.getElem?_modify,zB,h];simp
  obtain⟨C',h2,h3⟩:=Vp b r (o+1) _ _ e f h1;exact⟨C',by rw[World.setCells];exact h2,by rw[h3];simp⟩
theorem JT (vs:List Value):∀ (c:List Value) (o:Nat),(Yq c o vs).length=c.length:=by
 induction vs with
 |nil=>intro c o;rfl
 |cons v r ih=>intro c o;rw[Yq,ih];simp
theorem Yd (vs:List Value):∀ (c:List Value) (o k:Nat),(k<o\/o+vs.length<=k)->(Yq c o vs)[k]?=c[k]?:=by
 induction vs with
 |nil=>intro c o k _;rfl
 |cons v r ih =>intro c o k h;rw[Yq,ih _ _ _ (by simp at h;omega),List.getElem?_set_ne (by simp at h;omega)]
theorem Rw (vs:List Value):∀ (c:List Value) (o k:Nat),o+vs.length<=c.length->k<vs.length->(Yq c o vs)[o+k]?=vs[k]?:=by
 induction vs with
 |nil=>intro c o k _ h;simp at h
 |cons v r ih =>
  intro c o k h hk;simp at h hk;cases k with
  |zero=>rw[Yq,Yd _ _ _ _ (by left;omega),zK,List.getElem?_set_self (by omega)];rfl
  |succ k =>rw[Yq,show o+(k+1)=o+1+k by omega,ih _ _ _ (by simp;omega) (by omega)];simp
theorem BRel.q0s {ρ:Plc}{n:Nat}{p:Pl}{w:World}{c:List Value}{esz:El}{wr tight:Bool}(h:BRel ρ n p w (.cells c esz wr tight)) (k:Nat) (hk:k<p.ext):(w.cell? ⟨p.blk,p.shift+k,none⟩).isSome=true:=by
 obtain⟨_,_,_,⟨C,e,f,h1,h2⟩,_⟩:=h;have h3:p.shift+k<C.size:=by omega
 simp[World.cell?,h1,h3]
theorem BRel.other {ρ ρ':Plc}{n n':Nat}{q:Pl}{w w':World}{b:Blk}(hn:n<=n') (hρ:∀ i,i<n->∀ p,ρ' i=some p->ρ i=some p) (B:Nat) (C:Array Value) (e:TypeId) (f:Nat×Nat) (hB:w.heap[B]?=some (.cells C e f))
  (az:0<q.ext->B≠q.blk) (hC:∃ C' f',w'.heap[B]?=some (.cells C' e f')/\C.size<=C'.size) (ho:∀ k,k≠B->k<w.heap.size->w'.heap[k]?=w.heap[k]?) (hq:q.blk<w.heap.size) (h:BRel ρ n q w b):BRel ρ' n' q w' b:=by
 by_cases hk:q.blk=B
 .have h0:q.ext=0:=by
   rcases Nat.eq_zero_or_pos q.ext with h'|h'
   .exact h'
   .exact absurd hk.symm (az h')
  cases b with
  |cells c esz wr tight =>
   obtain⟨h1,h2,h3,⟨C0,e0,f0,h4,g_⟩,h5,h6⟩:=h;have hc:c=[]:=x4.1 (by omega);obtain⟨C',f',lM,mR⟩:=hC;have tk:C0=C/\e0=e:=by rw[hk,hB] at h4;simp at h4;exact⟨h4.1.symm,h4.2.1.symm⟩
   obtain⟨rfl,rfl⟩:=tk;refine⟨h1,h2,by omega,⟨C',e0,f',by rw[hk];exact lM,by omega,g_.2⟩,λk v hv=>by simp[hc] at hv,λhw=>⟨(h6 hw).1,λk hk=>by omega⟩⟩
  |obj o wr=>have:=h.1;omega
 .exact h.mono hn hρ (ho _ hk hq)
theorem HRel0.store {ρ:Plc}{M:Heap}{w:World}(h:HRel0 ρ M w) {i:Nat}{p:Pl}{c:List Value}{esz:El}{tight:Bool}(hp:ρ i=some p) (hb:M.get i=some (.cells c esz true tight))
  {o:Nat}{vs cs:List Value}(hv:LRel ρ M.n vs cs) (ho:o+vs.length<=c.length) :
  HRel0 ρ (M.upd i (.cells (Yq c o vs) esz true tight)) (w.setCells p.blk (p.shift+o) cs)/\Ext ρ M w ρ (M.upd i (.cells (Yq c o vs) esz true tight)) (w.setCells p.blk (p.shift+o) cs):=by
 have hi:=M.lt hb;obtain⟨p',bw,hB⟩:=h.live i _ hb;obtain rfl:p=p':=osj (hp.symm.trans bw);obtain⟨h1,h2,h3,⟨C,e,f,h4,g_⟩,h5,h6⟩:=hB;obtain⟨C',lM,mR⟩:=Vp p.blk cs (p.shift+o) w C e f h4;have b9:vs.length=cs.length:=hv.1;refine⟨⟨λj b hj=>?_,λj hj=>?_,λj q hq=>by rw[Wo];exact h.lt j q hq,λj k q r b ew hq hr bM hw hx=>?_⟩,?_⟩
 .by_cases aM:j=i
  .subst aM;rw[Heap.q0c _ _ hi] at hj;obtain rfl:=osj hj;refine⟨p,hp,h1,h2,by rw[JT];exact h3,⟨C',e,f,lM,by omega,g_.2⟩,λk v hk=>?_,λ_=>⟨(h6 rfl).1,λk hk=>by rw[World.frozen?_setCells];exact(h6 rfl).2 k hk⟩⟩;have bn:k<c.length:=by have:=(zg.1 hk).1;rwa [JT] at this
   by_cases bR:k<o\/o+vs.length<=k
   .rw[Yd _ _ _ _ bR] at hk;obtain⟨u,hu,cJ⟩:=h5 k v hk;exact⟨u,by rw[World.cell?_setCells_out _ _ _ _ _ (λ_ _=>by show p.shift+k<p.shift+o\/_;simp;omega)];exact hu,cJ⟩
   .have nr:k=o+(k-o):=by omega
    rw[nr,Rw _ _ _ _ ho (by omega)] at hk;obtain⟨u,hu,cJ⟩:=hv.get hk;have mS:k-o<cs.length:=(zg.1 hu).1;refine⟨u,?_,cJ⟩;have:=World.cell?_setCells_in p.blk cs (p.shift+o) w (λj hj=>by
     rw[zt];exact BRel.q0s (ρ:=ρ) (n:=M.n) ⟨h1,h2,h3,⟨C,e,f,h4,g_⟩,h5,h6⟩ _ (by omega)) (k-o) mS
    rw[show p.shift+o+(k-o)=p.shift+k by omega] at this;rw[this,<-z1 mS,hu]
  .rw[Heap.q0b _ _ aM] at hj;obtain⟨q,hq,fD⟩:=h.live j b hj;refine⟨q,hq,fD.other (by exact ze _) (λ_ _ _ h=>h) p.blk C e f h4 (λhx=>h.sep i j p q _ (Ne.symm aM) hp hq hb rfl hx) ⟨C',f,lM,by omega⟩ (λk hk _=>Xn _ _ _ _ _ hk) (h.lt j q hq)⟩
 .by_cases aM:j=i
  .subst aM;rw[Heap.q0c _ _ hi] at hj;cases hj
  .rw[Heap.q0b _ _ aM] at hj;exact h.dead j hj
 .by_cases aM:j=i
  .subst aM;exact h.sep j k q r _ ew hq hr hb rfl hx
  .rw[Heap.q0b _ _ aM] at bM;exact h.sep j k q r b ew hq hr bM hw hx
 .obtain⟨e1,e2,e3⟩:=GN p.blk cs (p.shift+o) w;refine⟨e1,e2,e3,by rw[Wo];exact ze _,λB hB hW=>Xn _ _ _ _ _ (λe=>hW ⟨i,p,_,hp,hb,rfl,e.symm⟩),?_,ze _,λ_ _ _ h=>h⟩;rintro B _ ⟨j,q,b,hq,b6,hw,rfl⟩;by_cases aM:j=i
  .subst aM;exact⟨j,q,_,hq,hb,rfl,rfl⟩
  .rw[Heap.q0b _ _ aM] at b6;exact⟨j,q,b,hq,b6,hw,rfl⟩
theorem HRel0.onto {ρ:Plc}{M:Heap}{w:World}(h:HRel0 ρ M w) {i:Nat}{p:Pl}{c:List Value}{esz:El}(hp:ρ i=some p) (hb:M.get i=some (.cells c esz true false))
  (o':Nat) {aW vs cs:List Value}(hold:∀ k v,aW[k]?=some v->∃ u,w.cell? ⟨p.blk,p.shift+o'+k,none⟩=some u/\VRel ρ M.n v u) (hv:LRel ρ M.n vs cs) (ho:o'+aW.length+vs.length<=p.ext) :
  ∃ ρ',ρ' M.n=some ⟨p.blk,p.shift+o',p.ext-o',esz,false⟩/\HRel0 ρ' ((M.kill i).push (.cells (aW++vs) esz true false)) (w.setCells p.blk (p.shift+o'+aW.length) cs) /\
   Ext ρ M w ρ' ((M.kill i).push (.cells (aW++vs) esz true false)) (w.setCells p.blk (p.shift+o'+aW.length) cs):=by
 have hi:=M.lt hb;obtain⟨p',bw,hB⟩:=h.live i _ hb;obtain rfl:p=p':=osj (hp.symm.trans bw);have dH:=hB;obtain⟨h1,h2,h3,⟨C,e,f,h4,g_⟩,h5,h6⟩:=hB;obtain⟨C',lM,mR⟩:=Vp p.blk cs (p.shift+o'+aW.length) w C e f h4;have b9:vs.length=cs.length:=hv.1;let P':Pl:=⟨p.blk,p.shift+o',p.ext-o',esz,false⟩;let ρ':Plc:=(ρ.put i none).put M.n (some P');have hU:ρ' M.n=some P':=by simp[ρ',Plc.put]
 have gj:ρ' i=none:=by simp only[ρ',Plc.put];rw[z8 (by omega)];simp
 have fE:∀ j,j≠M.n->j≠i->ρ' j=ρ j:=λj h1 h2=>by simp[ρ',Plc.put,h1,h2]
 have aQ:∀ j,j<M.n->∀ q,ρ' j=some q->ρ j=some q:=λj hj q hq=>by
  by_cases aM:j=i
  .subst aM;rw[gj] at hq;cases hq
  .rwa [fE j (by omega) aM] at hq
 refine⟨ρ',hU,⟨λj b hj=>?_,λj hj=>?_,λj q hq=>?_,λj k q r b ew hq hr bM hw hx=>?_⟩,?_⟩
 .by_cases aP:j=M.n
  .subst aP;have dA:((M.kill i).push (.cells (aW++vs) esz true false)).get M.n=some (.cells (aW++vs) esz true false):=Heap.q0a (M.kill i) _;rw[dA] at hj;obtain rfl:=osj hj;refine⟨P',hU,rfl,rfl,by simp[P'];omega,⟨C',e,f,lM,by simp[P'];omega,g_.2⟩,λk v hk=>?_,λ_=>⟨(λh=>by cases h),λk hk=>?_⟩⟩
   .by_cases bR:k<aW.length
    .rw[xn bR] at hk;obtain⟨u,hu,cJ⟩:=hold k v hk;exact⟨u,by rw[World.cell?_setCells_out _ _ _ _ _ (λ_ _=>by left;simp[P'];omega)];exact hu,cJ.mono (by simp) aQ⟩
    .rw[xq (by omega)] at hk;obtain⟨u,hu,cJ⟩:=hv.get hk;have mS:k-aW.length<cs.length:=(zg.1 hu).1;refine⟨u,?_,cJ.mono (by simp) aQ⟩;have:=World.cell?_setCells_in p.blk cs (p.shift+o'+aW.length) w (λj hj=>by
      rw[zt,zt];exact dH.q0s _ (by omega)) (k-aW.length) mS
     rw[show p.shift+o'+aW.length+(k-aW.length)=P'.shift+k by simp[P'];omega] at this;rw[this,<-z1 mS,hu]
   .rw[World.frozen?_setCells,show P'.shift+k=p.shift+(o'+k) by simp[P'];omega];exact(h6 rfl).2 _ (by simp[P'] at hk;omega)
  .have cA:(M.kill i).get j=some b:=by rw[<-hj];exact(Heap.q0e (M.kill i) _ aP).symm
   by_cases aM:j=i
   .subst aM;rw[Heap.q0g] at cA;cases cA
   .rw[Heap.q0d _ aM] at cA;obtain⟨q,hq,fD⟩:=h.live j b cA;exact⟨q,by rw[fE j aP aM];exact hq,fD.other (by simp) aQ p.blk C e f h4 (λhx=>h.sep i j p q _ (Ne.symm aM) hp hq hb rfl hx) ⟨C',f,lM,by omega⟩ (λk hk _=>Xn _ _ _ _ _ hk) (h.lt j q hq)⟩
 .by_cases aP:j=M.n
  .subst aP;have dA:((M.kill i).push (.cells (aW++vs) esz true false)).get M.n=some (.cells (aW++vs) esz true false):=Heap.q0a (M.kill i) _;rw[dA] at hj;cases hj
  .have cA:(M.kill i).get j=none:=by rw[<-hj];exact(Heap.q0e (M.kill i) _ aP).symm
   by_cases aM:j=i
   .subst aM;exact gj
   .rw[Heap.q0d _ aM] at cA;rw[fE j aP aM];exact h.dead j cA
 .rw[Wo];by_cases aP:j=M.n
  .subst aP;rw[hU] at hq;obtain rfl:=osj hq;exact h.lt i p hp
  .by_cases aM:j=i
   .subst aM;rw[gj] at hq;cases hq
   .rw[fE j aP aM] at hq;exact h.lt j q hq
 .by_cases aP:j=M.n
  .subst aP;rw[hU] at hq;obtain rfl:=osj hq;by_cases kJ:k=i
   .subst kJ;rw[gj] at hr;cases hr
   .rw[fE k (Ne.symm ew) kJ] at hr;exact h.sep i k p r _ (Ne.symm kJ) hp hr hb rfl hx
  .have cw:(M.kill i).get j=some b:=by rw[<-bM];exact(Heap.q0e (M.kill i) _ aP).symm
   by_cases aM:j=i
   .subst aM;rw[gj] at hq;cases hq
   rw[Heap.q0d _ aM] at cw;rw[fE j aP aM] at hq;by_cases jk:k=M.n
   .subst jk;rw[hU] at hr;obtain rfl:=osj hr;have nu:0<p.ext:=by simp[P'] at hx;omega
    exact h.sep j i q p b aM hq hp cw hw nu
   .by_cases kJ:k=i
    .subst kJ;rw[gj] at hr;cases hr
    .rw[fE k jk kJ] at hr;exact h.sep j k q r b ew hq hr cw hw hx
 .obtain⟨e1,e2,e3⟩:=GN p.blk cs (p.shift+o'+aW.length) w;refine⟨e1,e2,e3,by rw[Wo];exact ze _,λB hB hW=>Xn _ _ _ _ _ (λe=>hW ⟨i,p,_,hp,hb,rfl,e.symm⟩),?_,by simp,aQ⟩;rintro B _ ⟨j,q,b,hq,b6,hw,rfl⟩;by_cases aP:j=M.n
  .subst aP;rw[hU] at hq;obtain rfl:=osj hq;exact⟨i,p,_,hp,hb,rfl,rfl⟩
  .have cw:(M.kill i).get j=some b:=by rw[<-b6];exact(Heap.q0e (M.kill i) _ aP).symm
   by_cases aM:j=i
   .subst aM;rw[gj] at hq;cases hq
   rw[Heap.q0d _ aM] at cw;rw[fE j aP aM] at hq;exact⟨j,q,b,hq,cw,hw,rfl⟩
section
variable {ρ:Plc}{M:Heap}{w:World}
theorem HRel.store (h:HRel ρ M w) {i:Nat}{p:Pl}{c:List Value}{esz:El}{tight:Bool}(hp:ρ i=some p) (hb:M.get i=some (.cells c esz true tight))
  {o:Nat}{vs cs:List Value}(hv:LRel ρ M.n vs cs) (ho:o+vs.length<=c.length) :
  HRel ρ (M.upd i (.cells (Yq c o vs) esz true tight)) (w.setCells p.blk (p.shift+o) cs)/\Ext ρ M w ρ (M.upd i (.cells (Yq c o vs) esz true tight)) (w.setCells p.blk (p.shift+o) cs) :=
 let ⟨h2,h3⟩:=h.core.store hp hb hv ho
 ⟨h.ext h2 h3,h3⟩
theorem HRel.onto (h:HRel ρ M w) {i:Nat}{p:Pl}{c:List Value}{esz:El}(hp:ρ i=some p) (hb:M.get i=some (.cells c esz true false))
  (o':Nat) {aW vs cs:List Value}(hold:∀ k v,aW[k]?=some v->∃ u,w.cell? ⟨p.blk,p.shift+o'+k,none⟩=some u/\VRel ρ M.n v u) (hv:LRel ρ M.n vs cs) (ho:o'+aW.length+vs.length<=p.ext) :
  ∃ ρ',ρ' M.n=some ⟨p.blk,p.shift+o',p.ext-o',esz,false⟩/\HRel ρ' ((M.kill i).push (.cells (aW++vs) esz true false)) (w.setCells p.blk (p.shift+o'+aW.length) cs) /\
   Ext ρ M w ρ' ((M.kill i).push (.cells (aW++vs) esz true false)) (w.setCells p.blk (p.shift+o'+aW.length) cs) :=
 let ⟨ρ',h1,h2,h3⟩:=h.core.onto hp hb o' hold hv ho
 ⟨ρ',h1,h.ext h2 h3,h3⟩
end
end Go.V
namespace Go.V
open Go
structure Like (ρ:Plc) (w w':World):Prop where
 size:w.heap.size<=w'.heap.size
 blk:∀ i p,ρ i=some p->w'.heap[p.blk]?=w.heap[p.blk]?
 tab:∀ g cs,Q19 g=some cs->w'.heap[g]?=w.heap[g]?
theorem Like.refl (ρ:Plc) (w:World):Like ρ w w:=⟨ze _,λ_ _ _=>rfl,λ_ _ _=>rfl⟩
section inv
variable {ρ:Plc}{n:Nat}{c:Value}
theorem VRel.q0h {k:IntKind}{x:Int}(h:VRel ρ n (.int k x) c):c=.int k x:=by cases h;rfl
theorem VRel.q1d {b:Bool}(h:VRel ρ n (.bool b) c):c=.bool b:=by cases h;rfl
theorem VRel.q0o {s:ByteArray}(h:VRel ρ n (.string s) c):c=.string s:=by cases h;rfl
theorem VRel.q1l {l k:Nat}(h:VRel ρ n (.slice none l k) c):l=0/\k=0/\c=.slice none 0 0:=by cases h;exact⟨rfl,rfl,rfl⟩
theorem VRel.q0x {i o:Nat}{p:Pl}(hp:ρ i=some p) (h:VRel ρ n (.pointer (some ⟨i,o,none⟩)) c):(none:Option Nat)=none/\i<n/\c=.pointer (some ⟨p.blk,p.shift+o,none⟩):=by
 cases h with
 |ptr _ _ a hi h=>exact⟨rfl,hi,by rw[h p hp]⟩
theorem VRel.q1j {cs:Array Value}(h:VRel ρ n (.agg cs) c):∃ ds:Array Value,c=.agg ds/\LRel ρ n cs.toList ds.toList:=by
 cases h with
 |agg _ ds hc h=>exact⟨ds,rfl,LRel.of_array hc h⟩
theorem VRel.q1m {cs:Array Value}(h:VRel ρ n (.tuple cs) c):∃ ds:Array Value,c=.tuple ds/\LRel ρ n cs.toList ds.toList:=by
 cases h with
 |tuple _ ds hc h=>exact⟨ds,rfl,LRel.of_array hc h⟩
end inv
theorem Wc {ρ:Plc}{n:Nat}{v:Value}(h:QN v=true):VRel ρ n v v:=by unfold QN at h;split at h<;>first|constructor|cases h
theorem Xc {ρ:Plc}{n:Nat}{l:List Value}(h:l.all QN=true):LRel ρ n l l:=by refine⟨rfl,λi v c hv hc=>?_⟩;obtain rfl:v=c:=osj (hv.symm.trans hc);exact Wc (zf.1 h v (zF hv))
theorem Ug {ρ:Plc}{n:Nat}{v:Value}(h:Vx v=true):VRel ρ n v v:=by
 unfold Vx at h;split at h
 .rename_i cs;have:=VRel.q1n (Xc (ρ:=ρ) (n:=n) h);simpa using this
 .rename_i cs;have:=VRel.q0j (Xc (ρ:=ρ) (n:=n) h);simpa using this
 .exact Wc h
theorem JB {ρ:Plc}{n:Nat}:VRel ρ n undef undef:=Ug rfl
theorem Wa {ρ:Plc}{n:Nat}{env:Env}{a:Act}(h:LRel ρ n env a.tmps.toList) {x:Operand}(hx:X8 x=true):VRel ρ n (Q3 env x) (a.eval x):=by
 cases x with
 |tmp t =>
  simp only[Q3,Act.eval];have e:List.length env=a.tmps.size:=by have:=h.1;rw[Array.length_toList] at this;exact this
  rcases zl t (List.length env) with ht|ht
  .have mT:t<a.tmps.size:=by rw[<-e];exact ht
   have:=h.2 t env[t] a.tmps[t] (z1 ht) (by simp[mT]);simpa [List.getD,ht,mT,Array.getD] using this
  .have mT:¬ t<a.tmps.size:=by rw[<-e];exact wM.2 ht
   simp[List.getD,zk ht,Array.getD,mT];exact JB
 |const v=>exact Ug hx
 |global g=>exact .glob g 0 0
 |func f=>exact .func _ #[] #[] #[] #[] rfl rfl (λi h1=>by simp at h1) (λi h1=>by simp at h1)
theorem H_ {ρ:Plc}{w w':World}(hl:Like ρ w w') {i:Nat}{p:Pl}(hp:ρ i=some p) (o:Nat):w'.cell? ⟨p.blk,o,none⟩=w.cell? ⟨p.blk,o,none⟩ :=
 World.cell?_of_block (a:=⟨p.blk,o,none⟩) (hl.blk i p hp)
section
variable {P:Program}{ρ:Plc}{M:Heap}{w:World}
theorem VI {t:TypeId}{d:TypeDesc}(h:P.underlying t=some d) (w:World):(isAgg t).run P w=.ok (N7 d) w:=by cases d<;>simp[isAgg,run_underlying h,N7]
theorem Qb {t:TypeId}{i:TypeInfo}(h:P.info? t=some i) (w:World):(sizeOf t).run P w=.ok i.size w:=by simp[sizeOf,run_typeInfo w h]
theorem XB (b o n:Nat):(⟨b,o,none⟩:Addr).add n=⟨b,o+n,none⟩:=by unfold Addr.add;split<;>simp_all
theorem CT (hH:HRel ρ M w) {t:TypeId}{ti:TypeInfo}{d:TypeDesc}(h1:P.info? t=some ti) (h2:P.underlying t=some d) {i o:Nat}{c:List Value}{esz:El}{wr tight:Bool}{v x:Value}
  (hb:M.get i=some (.cells c esz wr tight)) (hv:Xl (N7 d) ti.size c o=some v) (hx:VRel ρ M.n (.pointer (some ⟨i,o,none⟩)) x) :
  ∃ u,VRel ρ M.n v u/\∀ w',Like ρ w w'->(Instr.loadAt t x).run P w'=.ok u w':=by
 obtain⟨p,hp,_,_,_,_,h5,_⟩:=hH.live i _ hb;obtain⟨_,_,rfl⟩:=hx.q0x hp;unfold Xl at hv;cases fx:N7 d with
 |false =>
  simp[fx] at hv;obtain⟨u,hu,cJ⟩:=h5 o v hv;refine⟨u,cJ,λw' hl=>?_⟩;have:w'.cell? ⟨p.blk,p.shift+o,none⟩=some u:=by rw[H_ hl hp];exact hu
  simp[Instr.loadAt,Instr.sureAddr,loadVar,VI h2,fx,this]
 |true =>
  simp only[fx,zB] at hv;split at hv
  .rename_i hlen;simp at hv;subst hv;have hex:∃ us:List Value,us.length=ti.size/\∀ k,k<ti.size->∃ u,us[k]?=some u/\w.cell? ⟨p.blk,p.shift+o+k,none⟩=some u/\∀ v,c[o+k]?=some v->VRel ρ M.n v u:=by
    refine⟨(List.range ti.size).map λk=>(w.cell? ⟨p.blk,p.shift+o+k,none⟩).getD undef,by simp,λk hk=>?_⟩;obtain⟨u,hu,cJ⟩:=h5 (o+k) _ (z1 (by omega));rw[<-zt] at hu;refine⟨u,by simp[hk,hu],hu,λv hv=>?_⟩;rw[z1 (by omega)] at hv;obtain rfl:=osj hv;exact cJ
   obtain⟨us,tl,dp⟩:=hex;refine⟨.agg us.toArray,VRel.q1n ⟨by simp;omega,λk v u hk hu=>?_⟩,λw' hl=>?_⟩
   .have bn:k<ti.size:=by have:=(zg.1 hu).1;omega
    rw[zO,z7 bn,zz] at hk;obtain⟨u',cy,_,gP⟩:=dp k bn;rw[hu] at cy;obtain rfl:=osj cy;exact gP v hk
   .have cQ:∀ j v,us[j]?=some v->w'.cell? ((⟨p.blk,p.shift+o,none⟩:Addr).add j)=some v:=λj v hj=>by
     have bV:j<ti.size:=by have:=(zg.1 hj).1;omega
     obtain⟨u',cy,cI,_⟩:=dp j bV;rw[hj] at cy;obtain rfl:=osj cy;rw[XB,H_ hl hp];exact cI
    have:=run_loadCells_list (P:=P) w' ⟨p.blk,p.shift+o,none⟩ us cQ;rw[tl] at this;simp[Instr.loadAt,Instr.sureAddr,loadVar,VI h2,fx,Qb h1,this]
  .cases hv
theorem L0 (hH:HRel ρ M w) {t:TypeId}{ti:TypeInfo}{d:TypeDesc}(h1:P.info? t=some ti) (h2:P.underlying t=some d) {g o s:Nat}{c:List Value}{v x:Value}
  (hb:Q19 g=some c) (aQ:c.all QN=true) (hv:Xl (N7 d) ti.size c o=some v) (hx:VRel ρ M.n (.pointer (some ⟨g,o,some s⟩)) x) :
  ∃ u,VRel ρ M.n v u/\∀ w',Like ρ w w'->(Instr.loadAt t x).run P w'=.ok u w':=by
 obtain⟨⟨e,f,hw⟩,_⟩:=hH.tab g c hb;obtain rfl:x=.pointer (some ⟨g,o,none⟩):=by cases hx;rfl
 have a8:∀ w',Like ρ w w'->∀ k,w'.cell? ⟨g,k,none⟩=c[k]?:=λw' hl k=>by have:=hl.tab g c hb;simp[World.cell?,this,hw]
 unfold Xl at hv;cases fx:N7 d with
 |false =>
  simp[fx] at hv;refine⟨v,Wc (zf.1 aQ v (zF hv)),λw' hl=>?_⟩;have:w'.cell? ⟨g,o,none⟩=some v:=by rw[a8 w' hl];exact hv
  simp[Instr.loadAt,Instr.sureAddr,loadVar,VI h2,fx,this]
 |true =>
  simp only[fx,zB] at hv;split at hv
  .rename_i hlen;simp at hv;subst hv;have ae:((c.drop o).take ti.size).all QN=true:=zf.2 λx hx=>zf.1 aQ x (List.mem_of_mem_drop (List.mem_of_mem_take hx));refine⟨_,VRel.q1n (Xc ae),λw' hl=>?_⟩;have cQ:∀ j v,((c.drop o).take ti.size)[j]?=some v->w'.cell? ((⟨g,o,none⟩:Addr).add j)=some v:=λj v hj=>by
    rw[XB,a8 w' hl];rw[zO] at hj;split at hj
    .rw[zz] at hj;exact hj
    .cases hj
   have:=run_loadCells_list (P:=P) w' ⟨g,o,none⟩ _ cQ;have ck:((c.drop o).take ti.size).length=ti.size:=by rw[xE,xZ];omega
   rw[ck] at this;simp[Instr.loadAt,Instr.sureAddr,loadVar,VI h2,fx,Qb h1,this]
  .cases hv
theorem A5 {t:TypeId}{ti:TypeInfo}{d:TypeDesc}(h1:P.info? t=some ti) (h2:P.underlying t=some d) {cs ds:Array Value}{o:Nat}{v:Value}{n:Nat}
  (hv:Xl (N7 d) ti.size cs.toList o=some v) (hl:LRel ρ n cs.toList ds.toList):∃ u,VRel ρ n v u/\∀ w',(part t ds o).run P w'=.ok u w':=by
 unfold Xl at hv;cases fx:N7 d with
 |false =>
  simp only[fx,zC,if_false] at hv;obtain⟨u,hu,cJ⟩:=hl.get hv;refine⟨u,cJ,λw'=>?_⟩;have:ds[o]?=some u:=by simpa using hu
  simp[part,VI h2,fx,this]
 |true =>
  simp only[fx,zB] at hv;split at hv
  .rename_i hlen;simp at hv;subst hv;refine⟨.agg (ds.extract o (o+ti.size)),?_,λw'=>by simp[part,VI h2,fx,Qb h1]⟩;have:LRel ρ n ((cs.toList.drop o).take ti.size) ((ds.toList.drop o).take ti.size):=by
    refine⟨by have:=hl.1;simp at this |-;omega,λk v u hk hu=>?_⟩;rw[zO] at hk hu;split at hk
    .rename_i bn;rw[z7 bn,zz] at hu;rw[zz] at hk;exact hl.2 _ v u hk hu
    .cases hk
   have h3:=VRel.q1n this;have h4:((ds.toList.drop o).take ti.size).toArray=ds.extract o (o+ti.size):=by apply Array.ext';simp[Array.toList_extract,List.extract_eq_take_drop]
   rwa [h4] at h3
  .cases hv
end
end Go.V
namespace Go.V
open Go
theorem Bk {ρ:Plc}{n:Nat}{v c:Value}{vs:List Value}(h:KN v=some vs) (hv:VRel ρ n v c):LRel ρ n vs c.cells.toList:=by
 unfold KN at h;split at h
 .obtain⟨ds,rfl,hl⟩:=hv.q1j;simp at h;subst h;exact hl
 .cases h
 .cases h
 .rename_i h1 h2 h3;simp at h;subst h;have hc:c.cells.toList=[c]:=by
   cases hv<;>first|rfl|(exact absurd rfl (h1 _))|(exact absurd rfl (h2 _))|(exact absurd rfl (h3 _))
  rw[hc];exact LRel.cons hv (LRel.nil _ _)
theorem Ey (off:Nat):∀ (vs:List Value) (k:Nat) (cells:Array Value),
  (((vs.zipIdx k).foldl (λ(cs:Array Value) (p:Value×Nat)=>cs.setIfInBounds (off+p.2) p.1) cells)).toList=Yq cells.toList (off+k) vs:=by
 intro vs;induction vs with
 |nil=>intro k cells;rfl
 |cons v r ih =>intro k cells;simp only[List.zipIdx_cons,w5];rw[ih,Yq];simp[zt]
theorem Q1t {ρ:Plc}{n:Nat}:∀ (vs us c d:List Value) (o:Nat),LRel ρ n c d->LRel ρ n vs us->LRel ρ n (Yq c o vs) (Yq d o us):=by
 intro vs;induction vs with
 |nil=>intro us c d o hc hv;cases us with
  |nil=>exact hc
  |cons _ _=>have:=hv.1;simp at this
 |cons v r ih =>
  intro us c d o hc hv;cases us with
  |nil=>have:=hv.1;simp at this
  |cons u us =>rw[Yq,Yq];have h0:VRel ρ n v u:=hv.2 0 v u rfl rfl;have hr:LRel ρ n r us:=⟨by have:=hv.1;simpa using this,λi a b ha hb=>hv.2 (i+1) a b (by simpa using ha) (by simpa using hb)⟩;exact ih us _ _ _ (hc.set o h0) hr
theorem Sb {ρ:Plc}{n:Nat}(place:Nat->Option (Nat×Nat)):∀ (l:List (Nat×Nat×Value)) (l':List (Nat×Value)) (c c':List Value) (cells:Array Value),
  l.length=l'.length->(∀ (k:Nat) (a:Nat×Nat×Value) (b:Nat×Value),l[k]?=some a->l'[k]?=some b->place b.1=some (a.1,a.2.1)/\VRel ρ n a.2.2 b.2) ->
  Mw c l=some c'->LRel ρ n c cells.toList->∃ bB,Instr.fill place cells l'=some bB/\LRel ρ n c' bB.toList:=by
 intro l;induction l with
 |nil =>
  intro l' c c' cells hl _ hf hc;cases l' with
  |nil=>simp[Mw] at hf;subst hf;exact⟨cells,rfl,hc⟩
  |cons _ _=>simp at hl
 |cons a r ih =>
  intro l' c c' cells hl hk hf hc;cases l' with
  |nil=>simp at hl
  |cons b r' =>
   obtain⟨o,s,v⟩:=a;obtain⟨j,u⟩:=b;obtain⟨hp,hv⟩:=hk 0 _ _ rfl rfl;simp only at hp hv;simp only[Mw] at hf;split at hf
   .rename_i vs cK;split at hf
    .rename_i ak;obtain⟨hs,hle⟩:=ak;have eL:=Bk cK hv;have aB:u.cells.size=s:=by have:=eL.1;simp at this;omega
     have hlen:cells.size=c.length:=by have:=hc.1;simp at this;omega
     obtain⟨bB,h1,h2⟩:=ih r' (Yq c o vs) c' (u.cells.zipIdx.foldl (λcs (c,j)=>cs.setIfInBounds (o+j) c) cells) (by simpa using hl)
      (λk a b ha hb=>hk (k+1) a b (by simpa using ha) (by simpa using hb)) hf (by
       have:=Ey o u.cells.toList 0 cells;rw[<-Array.foldl_toList,Array.toList_zipIdx];rw[show (o+0)=o from rfl] at this;refine Eq.subst (motive:=λx=>LRel ρ n (Yq c o vs) x) this.symm ?_;exact Q1t _ _ _ _ _ hc eL)
     refine⟨bB,?_,h2⟩;simp only[Instr.fill,hp];rw[z8 (by simp;omega)];exact h1
    .cases hf
   .cases hf
theorem Ru {ρ:Plc}{n:Nat}{env:Env}{ev:Operand->Value}(hE:∀ x,X8 x=true->VRel ρ n (Q3 env x) (ev x)) {l:List Operand}(h:l.all X8=true):LRel ρ n (l.map (Q3 env)) (l.map ev):=by
 refine⟨by simp,λi v c hv hc=>?_⟩;rw[zU] at hv hc;cases hx:l[i]? with
 |none=>simp[hx] at hv
 |some x =>simp[hx] at hv hc;subst hv;subst hc;exact hE x (zf.1 h x (zF hx))
theorem Q0 {P:Program}{t:TypeId}{d:TypeDesc}(h:P.underlying t=some d) (w:World):(underlying t).run P w=.ok d w:=run_underlying h w
def SY (P:Program) (ρ:Plc) (M:Heap) (w:World) (v:Value) (s:Sem Next):Prop :=
 ∃ c,VRel ρ M.n v c/\∀ w',Like ρ w w'->s.run P w'=.ok (.value c) w'
theorem Wb {α β:Type}(f:α->Option β):∀ (l:List α) (r:List β),l.mapM f=some r->r.length=l.length/\∀ (i:Nat) (a:α),l[i]?=some a->∃ b,r[i]?=some b/\f a=some b:=by
 intro l;induction l with
 |nil=>intro r h;simp at h;subst h;exact⟨rfl,λi a h=>by simp at h⟩
 |cons a l ih =>
  intro r h;rw[xp] at h;cases hf:f a with
  |none=>simp[hf] at h
  |some b =>
   cases hm:l.mapM f with
   |none=>simp[hf,hm] at h
   |some r' =>
    simp[hf,hm] at h;subst h;obtain⟨h1,h2⟩:=ih r' hm;refine⟨by simp[h1],λi x hx=>?_⟩;cases i with
    |zero=>simp at hx;subst hx;exact⟨b,rfl,hf⟩
    |succ i=>simp at hx;simpa using h2 i x hx
theorem Q0e {P:Program}{α β:Type}(g:α->Sem β) (f:α->β) (w:World):∀ (l:List α),(∀ a∈l,(g a).run P w=.ok (f a) w)->(l.mapM g).run P w=.ok (l.map f) w:=by
 intro l;induction l with
 |nil=>intro _;rfl
 |cons a l ih =>intro h;rw[xp];simp[h a (by simp),ih (λb hb=>h b (by simp[hb]))]
theorem WZ {P:Program}{t:TypeId}{z:List Value}(h:zeroOf P t=some z):∃ i zv,P.info? t=some i/\i.zero=some zv/\zv.cells.toList=z/\z.length=i.size/\z.all QN=true:=by
 unfold zeroOf at h;cases hi:P.info? t with
 |none=>simp[hi] at h
 |some i =>
  cases hz:i.zero with
  |none=>simp[hi,hz] at h
  |some zv =>simp[hi,hz] at h;obtain⟨h1,h2⟩:=h;subst h2;exact⟨i,zv,rfl,hz,rfl,by simpa using h1.1,by simpa using h1.2⟩
theorem Z2 {P:Program}{t:TypeId}{i:TypeInfo}{zv:Value}(h:P.info? t=some i) (hz:i.zero=some zv) (w:World):(zeroValue t).run P w=.ok zv w:=by simp[zeroValue,run_typeInfo w h,hz]
section
variable {P:Program}{ρ:Plc}{M M':Heap}{w:World}{ev:Operand->Value}{env:Env}{v:Value}
theorem Qm {s:Sem Next}{v c:Value}(h:∀ w',s.run P w'=.ok (.value c) w') (hc:VRel ρ M.n v c):SY P ρ M w v s:=⟨c,hc,λw' _=>h w'⟩
theorem NI (op:BinOp) (t:TypeId) (x y:Operand) (yt:TypeId) (ty:TypeId) (pos:String) (after:Array Edge) (dst:Option Tmp) (g:Option (Nat×Bool)) {v c a b:Value}(hx:ev x=a) (hy:ev y=b)
  (r6:(∃ k n k' n',a=.int k n/\b=.int k' n')\/(∃ s s',a=.string s/\b=.string s')\/(∃ s s',a=.bool s/\b=.bool s'))
  (h:∀ w',(binOp op t a b).run P w'=.ok c w') (hc:VRel ρ M.n v c):SY P ρ M w v (execOp ev ⟨dst,.binOp op t x y yt,ty,pos,after,g⟩):=by
 refine Qm (c:=c) (λw'=>?_) hc;have he:∀ w',(eqGuard op t x y a b).run P w'=.ok () w':=λw'=>by rcases r6 with⟨k,n,k',n',rfl,rfl⟩|⟨s,s',rfl,rfl⟩|⟨s,s',rfl,rfl⟩<;>(unfold eqGuard;cases op<;>simp)
 simp only[execOp,hx,hy];simp[he,h]
theorem Hc {t:TypeId}(h:P.underlying t=some .bool) (a b:Bool) (d:Nat) (w:World):(Op.equalIn (d+1) t (.bool a) (.bool b)).run P w=.ok (a==b) w:=by simp only[Op.equalIn,zA,Q0 h,zh,xe]
theorem To {t:TypeId}(h:P.underlying t=some .bool) (a b:Bool) (w:World):(Op.equal t (.bool a) (.bool b)).run P w=.ok (a==b) w :=
 Hc h a b 9999 w
theorem VRel.q1h {n:Nat}{i o:Nat}{c:Value}(h:VRel ρ n (.pointer (some ⟨i,o,none⟩)) c):∃ a:Addr,c=.pointer (some a)/\i<n/\∀ p,ρ i=some p->a=⟨p.blk,p.shift+o,none⟩:=by
 cases h with
 |ptr _ _ a hi h=>exact⟨a,rfl,hi,h⟩
theorem VRel.q1b {n:Nat}{i o len cap:Nat}{c:Value}(h:VRel ρ n (.slice (some ⟨i,o,none⟩) len cap) c):∃ (a:Addr) (au:Nat),c=.slice (some a) len au/\i<n /\
  ∀ p,ρ i=some p->cap<=au/\(p.tight=true->au=cap)/\(au=0/\len=0\/∃ o',a=⟨p.blk,p.shift+o',none⟩/\o'+au*p.esz.sz<=p.ext/\(o'=o\/(len=0/\cap=0))):=by
 cases h with
 |sl _ _ _ _ a au hi h=>exact⟨a,au,rfl,hi,h⟩
theorem VRel.q2p {n:Nat}{i o len cap:Nat}{c:Value}(h:VRel ρ n (.slice (some ⟨i,o,some 0⟩) len cap) c):∃ a:Addr,c=.slice (some a) len cap/\i<n/\(∀ p,ρ i=some p->a=⟨p.blk,p.shift+o,none⟩/\o+cap*p.esz.sz<=p.ext)/\VRel ρ n (.slice (some ⟨i,o,none⟩) len cap) c:=by
 cases h with
 |slx _ _ _ _ a hi h=>exact⟨a,rfl,hi,h,.sl _ _ _ _ _ _ hi λp hp=>⟨ze _,λ_=>rfl,.inr ⟨o,(h p hp).1,(h p hp).2,.inl rfl⟩⟩⟩
theorem VRel.q1y {n:Nat}{a:Option Addr}{len cap:Nat}{c:Value}(h:VRel ρ n (.slice a len cap) c):∃ a' au,c=.slice a' len au:=by
 cases h with
 |sl _ _ _ _ a au hi h=>exact⟨_,au,rfl⟩
 |slx _ _ _ _ a hi h=>exact⟨_,_,rfl⟩
 |nilSl=>exact⟨_,_,rfl⟩
theorem Y2 {op:Option Operand}{d l:Nat}(hE:∀ x,X8 x=true->VRel ρ M.n (Q3 env x) (ev x)) (ai:∀ x,op=some x->X8 x=true) (h:J8 (Q3 env) op d=some l) :
  (op=none/\l=d)\/∃ x k i,op=some x/\ev x=.int k i/\0<=i/\l=i.toNat:=by
 cases op with
 |none=>simp[J8] at h;exact .inl ⟨rfl,h.symm⟩
 |some x =>
  have hr:=hE x (ai x rfl);simp only[J8] at h;split at h
  .rename_i k i heq;rw[heq] at hr;split at h
   .rename_i hi;simp at h;exact .inr ⟨x,k,i,rfl,hr.q0h,hi,h.symm⟩
   .cases h
  .cases h
theorem Z1 (k:IntKind) (i:Int) (y:Nat) (code:BoundsCode) (h:0<=i) (h':i.toNat<=y) (w:World):(Instr.sliceBound (.int k i) y code).run P w=.ok i.toNat w:=by
 have:i<=y:=by omega
 simp[Instr.sliceBound,asIntOf,h,this]
theorem Kd {lo hi:Option Operand}{isSlice:Bool}{n cap l h:Nat}(pr:(lo=none/\l=0)\/∃ x k i,lo=some x/\ev x=.int k i/\0<=i/\l=i.toNat)
  (lN:(hi=none/\h=n)\/∃ x k i,hi=some x/\ev x=.int k i/\0<=i/\h=i.toNat) (h1:l<=h) (h2:h<=cap) (w:World) :
  (Instr.sliceBounds isSlice n cap (lo.map ev) (hi.map ev) none).run P w=.ok (l,h,cap) w:=by
 rcases pr with⟨rfl,rfl⟩|⟨x,k,i,rfl,hx,lO,rfl⟩<;>rcases lN with⟨rfl,rfl⟩|⟨y,k',i',rfl,hy,jl,rfl⟩
 .simp[Instr.sliceBounds]
 .simp[Instr.sliceBounds,hy,Z1 k' i' _ _ jl h2]
 .simp[Instr.sliceBounds,hx,Z1 k i _ _ lO h1]
 .simp[Instr.sliceBounds,hx,hy,Z1 k i _ _ lO h1,Z1 k' i' _ _ jl h2]
set_option maxHeartbeats 1000000 in
theorem Ch {o:Oper}{vo:VOp}(hc:Uf P o.op = some vo) (hq:vo.quiet = true) (hH:HRel ρ M w) (hE:∀ x, X8 x = true -> VRel ρ M.n (Q3 env x) (ev x))
    (h:Q7 vo (Q3 env) M = some (v, M')):M' = M /\ SY P ρ M w v (execOp ev o):=by
  obtain ⟨dst, op, ty, pos, after, guard⟩:=o;simp only at hc;unfold Uf at hc;split at hc
  . cases hc
  rename_i ai;simp only [xC, xm] at ai;cases op <;> simp only [Op.operands] at ai hc
  case move x =>
    have hx:=hE x (by simpa using ai);simp at hc; subst hc;simp [Q7] at h;obtain ⟨rfl, rfl⟩:=h;exact ⟨rfl, Qm (λw' => by simp [execOp]) hx⟩
  case assign x =>
    have hx:=hE x (by simpa using ai);simp at hc; subst hc;simp [Q7] at h;obtain ⟨rfl, rfl⟩:=h;exact ⟨rfl, Qm (λw' => by simp [execOp]) hx⟩
  case pick c a b =>
    simp at ai;have hx:=hE c ai.1;have ha:=hE a ai.2.1;have hb:=hE b ai.2.2;simp at hc; subst hc;simp only [Q7] at h;split at h
    . rename_i t heq
      rw [heq] at hx;simp at h;obtain ⟨h1, rfl⟩:=h;refine ⟨rfl, Qm (c:=if t then ev a else ev b) (λw' => by simp [execOp, hx.q1d, asBool]) ?_⟩;rw [<- h1]; split <;> assumption
    . cases h
  case binOp jK t x y yt =>
    simp at ai;have hx:=hE x ai.1;have hy:=hE y ai.2;split at hc
    .
      cases jK <;> simp at hc <;> subst hc <;> simp only [Q7] at h <;> split at h <;> first
        | (cases h; done)
        | (rename_i k a k' b h1 h2
           rw [h1] at hx; rw [h2] at hy;have ex:=hx.q0h;have ey:=hy.q0h;split at h
           . rename_i ak
             simp at h; obtain ⟨rfl, rfl⟩:=h;refine ⟨rfl, ?_⟩
             first
              | refine NI _ t x y yt ty pos after dst guard ex ey (.inl ⟨_, _, _, _, rfl, rfl⟩) (λw' => ?_) (VRel.int _ _)
              | refine NI _ t x y yt ty pos after dst guard ex ey (.inl ⟨_, _, _, _, rfl, rfl⟩) (λw' => ?_) (VRel.bool _)
             first
              | (obtain rfl:=ak; simp [binOp, Op.intArith, Re]; done)
              | (obtain ⟨rfl, p_⟩:=ak; simp [binOp, Op.intDiv, Q7n, p_]; done)
              | (obtain rfl:=ak; simp [binOp, Op.intBits, Q8]; done)
              | (obtain rfl:=ak; simp [binOp, Op.intCmp, Z1i]; done)
              | (simp [binOp, Op.shift, Rn, Int.not_lt.2 ak, Nat.min_def]; done)
           . cases h)
    .
      simp at hc; subst hc;simp only [Q7] at h;split at h
      . rename_i a b h1 h2
        rw [h1] at hx; rw [h2] at hy;have ex:=hx.q0o;have ey:=hy.q0o
        cases jK <;> simp only at h <;> first
          | (cases h; done)
          | (split at h
             . rename_i aF
               simp at h; obtain ⟨rfl, rfl⟩:=h;refine ⟨rfl, NI _ t x y yt ty pos after dst guard ex ey (.inr (.inl ⟨_, _, rfl, rfl⟩)) (c:=.string (a ++ b)) (λw' => ?_) (VRel.string _)⟩;have:¬ (((a.size + b.size:Nat):Int) > IntKind.i64.max):=by
                 have:IntKind.i64.max = 9223372036854775807:=by decide
                 omega
               simp only [binOp, Op.stringOp, z8 this]; rfl
             . cases h)
          | (simp at h; obtain ⟨rfl, rfl⟩:=h
             exact ⟨rfl, NI _ t x y yt ty pos after dst guard ex ey (.inr (.inl ⟨_, _, rfl, rfl⟩)) (λw' => by simp [binOp, Op.stringOp, ByteArray.toList_eq]) (VRel.bool _)⟩)
      . cases h
    .
      rename_i qa
      cases jK <;> simp at hc <;> subst hc <;> simp only [Q7] at h <;> split at h <;> first
        | (cases h; done)
        | (rename_i a b h1 h2
           rw [h1] at hx; rw [h2] at hy;have ex:=hx.q1d;have ey:=hy.q1d;simp at h; obtain ⟨rfl, rfl⟩:=h;refine ⟨rfl, NI _ t x y yt ty pos after dst guard ex ey (.inr (.inr ⟨_, _, rfl, rfl⟩)) (λw' => ?_) (VRel.bool _)⟩;simp [binOp, To qa])
    . cases hc
  case unOp vK t x =>
    have hx:=hE x (by simpa using ai);simp at hc; subst hc;simp only [Q7] at h
    split at h <;> first
      | (cases h; done)
      | (rename_i h1; rw [h1] at hx; simp at h; obtain ⟨rfl, rfl⟩:=h
         refine ⟨rfl, ?_⟩
         first
          | (have e:=hx.q1d; refine Qm (λw' => ?_) (VRel.bool _); simp [execOp, e, Op.unary]; done)
          | (have e:=hx.q0h; refine Qm (λw' => ?_) (VRel.int _ _); simp [execOp, e, Op.unary, Op.intArith]; done)
          | (have e:=hx.q0h; refine Qm (λw' => ?_) (VRel.int _ _); simp [execOp, e, Op.unary, Op.intBits, Q8]; done))
  case convert s d x =>
    have hx:=hE x (by simpa using ai);split at hc
    . rename_i k0 k hs hd
      simp at hc; subst hc;simp only [Q7] at h;split at h
      . rename_i h1; rw [h1] at hx; simp at h; obtain ⟨rfl, rfl⟩:=h
        exact ⟨rfl, Qm (λw' => by simp [execOp, hx.q0h, convert, Q0 hs, Q0 hd, Conv.intToInt]) (VRel.int _ _)⟩
      . cases h
    . rename_i hs hd
      simp at hc; subst hc;simp only [Q7] at h;split at h
      . rename_i h1; rw [h1] at hx; simp at h; obtain ⟨rfl, rfl⟩:=h
        exact ⟨rfl, Qm (λw' => by simp [execOp, hx.q0o, convert, Q0 hs, Q0 hd]) (VRel.string _)⟩
      . cases h
    . cases hc
  case alloc t =>
    cases hz:zeroOf P t <;> simp [hz] at hc;subst hc; cases hq
  case box t x => simp at hc; subst hc; cases hq
  case buildSlice t len parts =>
    split at hc
    . rename_i e _
      cases hz:zeroOf P e with
      | none => simp [hz] at hc
      | some z =>
        simp only [hz, zN, xw] at hc;split at hc
        . cases hc
        . simp at hc; subst hc; cases hq
    . cases hc
  case store t a x =>
    cases hi:P.info? t <;> simp [hi] at hc;subst hc; cases hq
  case makeSlice t l c =>
    split at hc
    . rename_i e _
      cases hi:P.info? e with
      | none => simp [hi] at hc
      | some ei =>
        cases hz:zeroOf P e with
        | none => simp [hi, hz] at hc
        | some z =>
          simp only [hi, hz, zN, xw] at hc;split at hc
          . cases hc
          . simp at hc; subst hc; cases hq
    . cases hc
  case load t a =>
    have ha:=hE a (by simpa using ai);cases hi:P.info? t with
    | none => simp [hi] at hc
    | some ti =>
      cases hu:P.underlying t with
      | none => simp [hi, hu] at hc
      | some d =>
        simp [hi, hu] at hc; subst hc;simp only [Q7] at h;split at h
        . rename_i g o s h1
          rw [h1] at ha;split at h
          . rename_i c hb
            split at h
            . rename_i ae
              split at h
              . rename_i v0 hv
                simp at h; obtain ⟨rfl, rfl⟩:=h;obtain ⟨u, cJ, hr⟩:=L0 hH hi hu hb ae hv ha;exact ⟨rfl, u, cJ, λw' hl => by simp [execOp, hr w' hl]⟩
              . cases h
            . cases h
          . cases h
        . rename_i i o h1
          rw [h1] at ha;split at h
          . rename_i c esz wr tight hb
            split at h
            . rename_i v0 hv
              simp at h; obtain ⟨rfl, rfl⟩:=h;obtain ⟨u, cJ, hr⟩:=CT hH hi hu hb hv ha;exact ⟨rfl, u, cJ, λw' hl => by simp [execOp, hr w' hl]⟩
            . cases h
          . cases h
        . cases h
  case fieldAddr t a f =>
    have ha:=hE a (by simpa using ai);cases hf:Bs P t f with
    | none => simp [hf] at hc
    | some fd =>
      cases hi:P.info? fd.type with
      | none => simp [hf, hi] at hc
      | some fi =>
        simp only [hf, hi, zN, xw] at hc;split at hc
        . cases hc
        . rename_i aF
          simp at hc; subst hc;simp only [Q7] at h;split at h
          . rename_i i o h1
            rw [h1] at ha;simp at h; obtain ⟨rfl, rfl⟩:=h;unfold Bs at hf;split at hf
            . rename_i fs hu
              simp at aF;obtain ⟨ad, heq, aO, aQ⟩:=ha.q1h;cases hρ:ρ i with
              | none =>refine ⟨rfl, .pointer (some (ad.add fd.offset)), .ptr _ _ _ aO (λp hp => by rw [hρ] at hp; cases hp), λw' _ => ?_⟩;simp [execOp, heq, Instr.fieldAt, Q0 hu, hf, Instr.sureAddr, fieldPlace, Qb hi, aF]
              | some p =>obtain rfl:=aQ p hρ;refine ⟨rfl, .pointer (some ⟨p.blk, p.shift + (o + fd.offset), none⟩), .ptr _ _ _ aO (λq hq => by rw [hρ] at hq; obtain rfl:=osj hq; rfl), λw' _ => ?_⟩;simp [execOp, heq, Instr.fieldAt, Q0 hu, hf, Instr.sureAddr, fieldPlace, Qb hi, aF, XB, zt]
            . cases hf
          . cases h
  case field t x f =>
    have hx:=hE x (by simpa using ai);cases hf:Bs P t f with
    | none => simp [hf] at hc
    | some fd =>
      cases hi:P.info? fd.type with
      | none => simp [hf, hi] at hc
      | some fi =>
        cases hu:P.underlying fd.type with
        | none => simp [hf, hi, hu] at hc
        | some d =>
          simp [hf, hi, hu] at hc; subst hc;simp only [Q7] at h;split at h
          . rename_i cs h1
            rw [h1] at hx;obtain ⟨ds, hds, hl⟩:=hx.q1j;split at h
            . rename_i v0 hv
              simp at h; obtain ⟨rfl, rfl⟩:=h;obtain ⟨u, cJ, hr⟩:=A5 hi hu hv hl;unfold Bs at hf;split at hf
              . rename_i fs qb
                exact ⟨rfl, u, cJ, λw' _ => by simp [execOp, hds, Instr.field, Q0 qb, hf, asAgg, hr]⟩
              . cases hf
            . cases h
          . cases h
  case makeFunc fn first cap =>
    rw [Array.toList_append, List.all_append, z6] at ai;cases fn <;> simp at hc;rename_i f;subst hc;simp only [Q7] at h;simp at h; obtain ⟨rfl, rfl⟩:=h;have h1:=Ru hE (l:=first.toList) ai.1;have h2:=Ru hE (l:=cap.toList) ai.2;refine ⟨rfl, Qm (c:=.func (.func f) (first.map ev) (cap.map ev)) (λw' => by simp [execOp, Instr.makeFunc]) ?_⟩;refine .func _ _ _ _ _ (by simp) (by simp) (λi h3 h4 => ?_) (λi h3 h4 => ?_)
    . exact h1.2 i _ _ (by simp at h3 |-; exact ⟨_, xg h3, rfl⟩) (by simp at h4 |-; exact ⟨_, xg h4, rfl⟩)
    . exact h2.2 i _ _ (by simp at h3 |-; exact ⟨_, xg h3, rfl⟩) (by simp at h4 |-; exact ⟨_, xg h4, rfl⟩)
  case build t parts =>
    cases hz:zeroOf P t with
    | none => simp [hz] at hc
    | some z =>
      obtain ⟨ti, zv, hi, eu, fF, _, jm⟩:=WZ hz;have aQ:LRel ρ M.n z zv.cells.toList:=by rw [fF]; exact Xc jm
      have e_:∀ q ∈ parts.toList, X8 q.2 = true:=λq hq => zf.1 ai q.2 (by simp; exact ⟨q.1, by simpa using hq⟩);simp only [hz, zN, xw] at hc;split at hc
      . rename_i fs hu
        cases kK:fs.toList.mapM (λf => (P.info? f.type).map λi => (f.offset, i.size)) with
        | none => simp [kK] at hc
        | some places =>
          cases ez:parts.toList.mapM (λq => (places[q.1]?).map λos => (os.1, os.2, q.2)) with
          | none => simp [kK, ez] at hc
          | some ps =>
            simp [kK, ez] at hc; subst hc;simp only [Q7] at h;split at h
            . rename_i cs eM
              simp at h; obtain ⟨rfl, rfl⟩:=h;obtain ⟨fb, iq⟩:=Wb _ _ _ kK;obtain ⟨ck, cR⟩:=Wb _ _ _ ez
              obtain ⟨bB, lP, kL⟩:=Sb (ρ:=ρ) (n:=M.n) (λ(i:Nat) => places[i]?) _ ((parts.map λq => (q.1, ev q.2)).toList) z cs zv.cells (by simp [ck])
                (λk a b ha hb => by
                  simp only [zU, Array.toList_map] at ha hb;cases hq:parts.toList[k]? with
                  | none => simp only [hq, wI] at hb; cases hb
                  | some q =>
                    obtain ⟨c0, mU, fU⟩:=cR k q hq;simp only [hq, z_, x6] at hb;simp only [mU, z_, x6] at ha;subst hb; subst ha;cases mV:places[q.1]? with
                    | none => simp [mV] at fU
                    | some os =>
                      simp [mV] at fU; subst fU;exact ⟨by simp, hE _ (e_ q (zF hq))⟩) eM aQ
              refine ⟨rfl, .agg bB, by have:=VRel.q1n kL; simpa using this, λw' _ => ?_⟩;have aH:(fs.mapM λ(f:Field) => do pure (f.offset, <- sizeOf f.type)).run P w' = .ok places.toArray w':=by
                rw [Array.mapM_eq_mapM_toList];have jo:∀ f ∈ fs.toList, ((do pure (f.offset, <- sizeOf f.type):Sem (Nat × Nat))).run P w' = .ok (f.offset, ((P.info? f.type).map (·.size)).getD 0) w':=λf hf => by
                  obtain ⟨k, hk⟩:=List.getElem?_of_mem hf;obtain ⟨b, hb, bM⟩:=iq k f hk;cases jL:P.info? f.type with
                  | none => simp [jL] at bM
                  | some fi => simp [Qb jL]
                have:=Q0e (P:=P) _ _ w' fs.toList jo;simp only [Sem.run_map, this, zh];congr 2;apply zV;intro k;rw [zU];cases hk:fs.toList[k]? with
                | none =>
                  have:places.length <= k:=by rw [fb]; exact List.getElem?_eq_none_iff.1 hk
                  simp [zk this]
                | some f =>
                  obtain ⟨b, hb, bM⟩:=iq k f hk;cases jL:P.info? f.type with
                  | none => simp [jL] at bM
                  | some fi => simp [jL] at bM |-; rw [hb, <- bM]
              have gk:(λ(i:Nat) => places.toArray[i]?) = (λ(i:Nat) => places[i]?):=by funext i; simp
              simp only [execOp];simp only [Instr.build, zA, Z2 hi eu, zh, Q0 hu, aH];have qc:Instr.fill (λ(i:Nat) => places.toArray[i]?) zv.cells (parts.map λq => (q.1, ev q.2)).toList = some bB:=by rw [gk]; exact lP
              simp only [qc];rfl
            . cases h
      . rename_i n e hu
        cases cH:P.info? e with
        | none => simp [cH] at hc
        | some ei =>
          simp [cH] at hc; subst hc;simp only [Q7] at h;split at h
          . rename_i cs eM
            simp at h; obtain ⟨rfl, rfl⟩:=h
            obtain ⟨bB, lP, kL⟩:=Sb (ρ:=ρ) (n:=M.n) (λi => some (i * ei.size, ei.size)) _ ((parts.map λq => (q.1, ev q.2)).toList) z cs zv.cells (by simp)
              (λk a b ha hb => by
                simp only [zU, Array.toList_map] at ha hb;cases hq:parts.toList[k]? with
                | none => simp only [hq, wI] at hb; cases hb
                | some q =>
                  simp only [hq, z_, x6] at ha hb;subst hb; subst ha;exact ⟨rfl, hE _ (e_ q (zF hq))⟩) eM aQ
            refine ⟨rfl, .agg bB, by have:=VRel.q1n kL; simpa using this, λw' _ => ?_⟩;simp only [execOp];simp only [Instr.build, zA, Z2 hi eu, zh, Q0 hu, Qb cH, lP];rfl
          . cases h
      . cases hc
  case index t x i =>
    simp at ai;have hx:=hE x ai.1;have hi:=hE i ai.2;split at hc
    . rename_i hu
      simp at hc; subst hc;simp only [Q7] at h;split at h
      . rename_i s k n h1 h2
        rw [h1] at hx; rw [h2] at hi;split at h
        . rename_i hn
          split at h
          . rename_i b hb
            simp at h; obtain ⟨rfl, rfl⟩:=h;have bM:s[n.toNat]? = some b:=by rw [<- hb]; simp [getElem?_def]; split <;> rfl
            refine ⟨rfl, Qm (λw' => ?_) (VRel.int _ _)⟩;simp [execOp, hx.q0o, hi.q0h, Instr.index, asIntOf, Q0 hu, hn, bM]
          . cases h
        . cases h
      . cases h
    . rename_i len e hu
      cases cH:P.info? e with
      | none => simp [cH] at hc
      | some ei =>
        cases jM:P.underlying e with
        | none => simp [cH, jM] at hc
        | some d =>
          simp [cH, jM] at hc; subst hc;simp only [Q7] at h;split at h
          . rename_i cs k n h1 h2
            rw [h1] at hx; rw [h2] at hi;obtain ⟨ds, hds, hl⟩:=hx.q1j;split at h
            . rename_i hn
              split at h
              . rename_i v0 hv
                simp at h; obtain ⟨rfl, rfl⟩:=h;obtain ⟨u, cJ, hr⟩:=A5 cH jM hv hl;refine ⟨rfl, u, cJ, λw' _ => ?_⟩;simp [execOp, hds, hi.q0h, Instr.index, asIntOf, Q0 hu, hn, Qb cH, hr]
              . cases h
            . cases h
          . cases h
    . cases hc
  case indexAddr t x i =>
    simp at ai;have hx:=hE x ai.1;have hi:=hE i ai.2;split at hc
    . rename_i e hu
      cases cH:P.info? e with
      | none => simp [cH] at hc
      | some ei =>
        simp [cH] at hc; subst hc;simp only [Q7] at h;split at h
        . rename_i b o n cap k j h1 h2
          rw [h1] at hx; rw [h2] at hi;split at h
          . rename_i hj
            simp at h; obtain ⟨rfl, rfl⟩:=h;obtain ⟨a, au, bp, aO, aQ⟩:=hx.q1b;refine ⟨rfl, .pointer (some (a.add (j.toNat * ei.size))), .ptr _ _ _ aO (λp hp => ?_), λw' _ => ?_⟩
            . obtain ⟨_, _, ⟨_, h0⟩ | ⟨o', rfl, _, ho⟩⟩:=aQ p hp
              . omega
              have:o' = o:=by
                rcases ho with ho | ⟨h0, _⟩
                . exact ho
                . omega
              subst this;rw [XB, zt]
            . simp [execOp, bp, hi.q0h, Instr.indexAt, asIntOf, Q0 hu, hj, Qb cH]
          . cases h
        . cases h
    . rename_i len e hu
      cases cH:P.info? e with
      | none => simp [cH] at hc
      | some ei =>
        simp [cH] at hc; subst hc;simp only [Q7] at h;split at h
        . rename_i g o s k j h1 h2
          rw [h1] at hx; rw [h2] at hi;split at h
          . rename_i hj
            simp at h; obtain ⟨rfl, rfl⟩:=h;have bp:ev x = .pointer (some ⟨g, o, none⟩):=by generalize ev x = c at hx; cases hx; rfl
            refine ⟨rfl, .pointer (some ((⟨g, o, none⟩:Addr).add (j.toNat * ei.size))), by rw [XB]; exact .glob _ _ _, λw' _ => ?_⟩;simp [execOp, bp, hi.q0h, Instr.indexAt, Instr.sureAddr, asIntOf, Q0 hu, hj, Qb cH]
          . cases h
        . rename_i b o k j h1 h2
          rw [h1] at hx; rw [h2] at hi;split at h
          . rename_i hj
            simp at h; obtain ⟨rfl, rfl⟩:=h;obtain ⟨a, bp, aO, aQ⟩:=hx.q1h;refine ⟨rfl, .pointer (some (a.add (j.toNat * ei.size))), .ptr _ _ _ aO (λp hp => ?_), λw' _ => ?_⟩
            . obtain rfl:=aQ p hp
              rw [XB, zt]
            . simp [execOp, bp, hi.q0h, Instr.indexAt, Instr.sureAddr, asIntOf, Q0 hu, hj, Qb cH]
          . cases h
        . cases h
    . cases hc
  case slice t x lo hi mx =>
    have lQ:X8 x = true:=by simp at ai; exact ai.1
    have gQ:∀ y, lo = some y -> X8 y = true:=λy hy => by subst hy; simp at ai; first | exact ai.2.1 | exact ai.2
    have gR:∀ y, hi = some y -> X8 y = true:=λy hy => by subst hy; cases lo <;> simp at ai <;> first | exact ai.2.1 | exact ai.2.2.1 | exact ai.2.2 | exact ai.2
    have hx:=hE x lQ;split at hc
    . rename_i e hu
      cases cH:P.info? e with
      | none => simp [cH] at hc
      | some ei =>
        simp [cH] at hc; subst hc;cases mx with
        | some m => simp [VOp.quiet] at hq
        | none =>
          simp only [Q7] at h;split at h
          . rename_i a n cap h1
            rw [h1] at hx;split at h
            . rename_i l hh hl lN _
              have jq:=Y2 hE gQ hl;have mW:=Y2 hE gR lN;unfold WU at h;split at h
              . rename_i heq
                simp at heq; obtain ⟨rfl, rfl, rfl⟩:=heq;obtain ⟨_, _, bp⟩:=hx.q1l;split at h
                . rename_i ak
                  obtain ⟨rfl, rfl, _⟩:=ak;simp at h; obtain ⟨rfl, rfl⟩:=h;refine ⟨rfl, Qm (λw' => ?_) VRel.nilSl⟩;have:=Kd (P:=P) (isSlice:=true) (cap:=0) jq mW (ze _) (ze _) w';simp [execOp, bp, Instr.sliceAt, Instr.slice, Q0 hu, this, Qb cH]
                . cases h
              . rename_i i o n' jN heq
                simp at heq; obtain ⟨rfl, rfl, rfl⟩:=heq;simp only at h;split at h
                . rename_i c esz wr tight hb
                  split at h
                  . rename_i ak
                    obtain ⟨nw, qd, tm⟩:=ak;simp at h; obtain ⟨rfl, rfl⟩:=h;obtain ⟨ad, au, bp, aO, aQ⟩:=hx.q1b;obtain ⟨p, hp, hB⟩:=hH.live i _ hb;have dB:=(aQ p hp).1;have b_:=λw' => Kd (P:=P) (isSlice:=true) (cap:=au) jq mW qd (zY tm dB) w';obtain ⟨-, ny, ⟨mU, nz⟩ | ⟨o', rfl, c_, ho⟩⟩:=aQ p hp
                    . have aR:au = l:=by omega
                      refine ⟨rfl, .slice (some ad) (hh - l) (au - l), .sl _ _ _ _ _ _ aO (λq hq => ⟨by omega, λ_ => by omega, .inl ⟨by omega, by omega⟩⟩), λw' _ => ?_⟩;simp only [execOp, bp, Instr.sliceAt, zA, Q0 hu, zh, Instr.slice, wI, b_, Qb cH];simp [aR]
                    have dT:p.esz.sz = ei.size:=by rw [hB.1]; exact nw
                    rw [dT] at c_;refine ⟨rfl, .slice (some (if au = l then ⟨p.blk, p.shift + o', none⟩ else ⟨p.blk, p.shift + (o' + l * ei.size), none⟩)) (hh - l) (au - l), .sl _ _ _ _ _ _ aO (λq hq => ?_), λw' _ => ?_⟩
                    . obtain rfl:p = q:=osj (hp.symm.trans hq)
                      refine ⟨by omega, λht => by have:=ny ht; omega, .inr ?_⟩;rw [dT];by_cases b9:au = l
                      . refine ⟨o', by rw [z7 b9], by rw [b9, xQ]; omega, .inr (by omega)⟩
                      . refine ⟨o' + l * ei.size, by rw [z8 b9], ?_, ?_⟩
                        . have:au = l + (au - l):=by omega
                          rw [this, zH] at c_;omega
                        . rcases ho with rfl | ⟨h0, tn⟩
                          . exact .inl rfl
                          . exact .inr (by omega)
                    . simp only [execOp, bp, Instr.sliceAt, zA, Q0 hu, zh, Instr.slice, wI, b_, Qb cH]
                      by_cases b9:au = l
                      . simp [b9]
                      . simp [b9, XB, zt]
                  . cases h
                . cases h
              . cases h
            . simp_all
            . cases h
          . cases h
    . rename_i hu
      split at hc
      . rename_i qe
        cases mx with
        | some m => simp at qe
        | none =>
          simp at hc; subst hc;simp only [Q7] at h;split at h
          . rename_i s h1
            rw [h1] at hx;split at h
            . rename_i l hh hl lN
              have jq:=Y2 hE gQ hl;have mW:=Y2 hE gR lN;split at h
              . rename_i ak
                simp at h; obtain ⟨rfl, rfl⟩:=h;refine ⟨rfl, Qm (λw' => ?_) (VRel.string _)⟩;have:=Kd (P:=P) (isSlice:=false) (cap:=s.size) jq mW ak.1 ak.2 w';simp [execOp, hx.q0o, Instr.sliceAt, Instr.slice, Q0 hu, this]
              . cases h
            . cases h
          . cases h
      . cases hc
    . cases hc
  case makeInterface t x =>
    have hx:=hE x (by simpa using ai);cases hu:P.underlying t with
    | none => simp [hu] at hc
    | some d =>
      have gm:∀ ms, d ≠ .interface ms:=λms e => by subst e; simp [hu] at hc
      have cI:vo = .iface t x:=by cases d <;> simp [hu] at hc <;> exact hc.symm
      subst cI;simp only [Q7] at h;split at h
      . cases h
      . simp at h; obtain ⟨rfl, rfl⟩:=h
        refine ⟨rfl, Qm (λw' => ?_) (VRel.iface t _ _ hx)⟩;have:(Instr.makeInterface t (ev x)).run P w' = .ok (.iface t (ev x)) w':=by cases d <;> first | (exact absurd rfl (gm _)) | simp [Instr.makeInterface, Q0 hu]
        simp [execOp, this]
  case extract x i =>
    have hx:=hE x (by simpa using ai);simp at hc; subst hc;simp only [Q7] at h;split at h
    . rename_i vs h1
      rw [h1] at hx;obtain ⟨ds, hds, hl⟩:=hx.q1m;split at h
      . rename_i v0 hv
        simp at h; obtain ⟨rfl, rfl⟩:=h;obtain ⟨u, hu, cJ⟩:=hl.get hv;have cy:ds[i]? = some u:=by simpa using hu
        exact ⟨rfl, u, cJ, λw' _ => by simp [execOp, hds, Instr.extract, cy]⟩
      . cases h
    . cases h
  case nilCheck x =>
    have hx:=hE x (by simpa using ai);simp at hc; subst hc;simp only [Q7] at h;split at h
    . rename_i a h1
      rw [h1] at hx;simp at h; obtain ⟨rfl, rfl⟩:=h;have:∃ a', ev x = .pointer (some a'):=by generalize ev x = c at hx;cases hx <;> exact ⟨_, rfl⟩
      obtain ⟨a', kM⟩:=this;exact ⟨rfl, ev x, hx, λw' _ => by simp [execOp, kM]⟩
    . rename_i f first cap h1
      rw [h1] at hx;simp at h; obtain ⟨rfl, rfl⟩:=h;have:∃ g' c', ev x = .func (.func f) g' c':=by generalize ev x = c at hx;cases hx; exact ⟨_, _, rfl⟩
      obtain ⟨g', c', kM⟩:=this;exact ⟨rfl, ev x, hx, λw' _ => by simp [execOp, kM]⟩
    . cases h
  case call c =>
    split at hc
    . simp at hc; subst hc; simp [Q7] at h
    . simp at hc; subst hc; simp [Q7] at h
    . rename_i aK
      split at hc
      . rename_i t x ht ax
        have cT:c.args = #[x]:=by apply Array.ext'; simpa using ax
        have hx:=hE x (by simp [Call.operands, aK, cT] at ai; exact ai);split at hc
        . rename_i hu
          simp at hc; subst hc;simp only [Q7] at h;split at h
          . rename_i s h1
            rw [h1] at hx; simp at h; obtain ⟨rfl, rfl⟩:=h;refine ⟨rfl, Qm (λw' => ?_) (VRel.int _ _)⟩;simp [execOp, resolve, aK, cT, invoke, builtin, Builtin.len_, ht, hx.q0o, Q0 hu, goInt]
          . cases h
        . rename_i e hu
          simp at hc; subst hc;simp only [Q7] at h;split at h
          . rename_i a n cap h1
            rw [h1] at hx; simp at h; obtain ⟨rfl, rfl⟩:=h;obtain ⟨a', au, bp⟩:=hx.q1y;refine ⟨rfl, Qm (λw' => ?_) (VRel.int _ _)⟩;simp [execOp, resolve, aK, cT, invoke, builtin, Builtin.len_, ht, bp, Q0 hu, goInt]
          . cases h
        . cases hc
      . cases hc
    . rename_i aK
      split at hc
      . rename_i t u s x ht hu ax
        split at hc
        . rename_i e f _ _
          cases hi:P.info? e with
          | none => simp [hi] at hc
          | some ei =>
            cases hz:zeroOf P e with
            | none => simp [hi, hz] at hc
            | some z =>
              simp only [hi, hz, zN, xw] at hc;split at hc
              . cases hc
              . simp at hc; subst hc; cases hq
        . cases hc
      . cases hc
    . rename_i aK
      split at hc
      . rename_i x y ax
        have cT:c.args = #[x, y]:=by apply Array.ext'; simpa using ax
        simp [Call.operands, aK, cT] at ai;have hx:=hE x ai.1;have hy:=hE y ai.2;simp at hc; subst hc;simp only [Q7] at h;split at h
        . rename_i k a k' b h1 h2
          rw [h1] at hx; rw [h2] at hy;split at h
          . simp at h; obtain ⟨rfl, rfl⟩:=h
            refine ⟨rfl, Qm (λw' => ?_) (VRel.int _ _)⟩;simp [execOp, resolve, aK, cT, invoke, builtin, Builtin.max_, Builtin.max2, hx.q0h, hy.q0h]
          . cases h
        . cases h
      . rename_i x y z ax
        have cT:c.args = #[x, y, z]:=by apply Array.ext'; simpa using ax
        simp [Call.operands, aK, cT] at ai;have hx:=hE x ai.1;have hy:=hE y ai.2.1;have hz:=hE z ai.2.2;simp at hc; subst hc;simp only [Q7] at h;split at h
        . rename_i k a k2 b k3 c' k4 d h1 h2 h3 h4
          rw [h1] at hx; rw [h2] at hy; rw [h3] at hz;split at h
          . rename_i hk; obtain ⟨rfl, rfl, rfl⟩:=hk
            simp at h; obtain ⟨rfl, rfl⟩:=h;refine ⟨rfl, Qm (λw' => ?_) (VRel.int _ _)⟩;have qf:=(Value.int.inj (h3.symm.trans h4)).2;subst qf;simp only [IE];simp [execOp, resolve, aK, cT, invoke, builtin, Builtin.max_, Builtin.max2, hx.q0h, hy.q0h, hz.q0h, Fl]
          . cases h
        . cases h
      . rename_i x y z w ax
        have cT:c.args = #[x, y, z, w]:=by apply Array.ext'; simpa using ax
        simp [Call.operands, aK, cT] at ai;have hx:=hE x ai.1;have hy:=hE y ai.2.1;have hz:=hE z ai.2.2.1;have hw:=hE w ai.2.2.2;simp at hc; subst hc;simp only [Q7] at h;split at h
        . rename_i k a k2 b k3 c' k4 d h1 h2 h3 h4
          rw [h1] at hx; rw [h2] at hy; rw [h3] at hz; rw [h4] at hw;split at h
          . rename_i hk; obtain ⟨rfl, rfl, rfl⟩:=hk
            simp at h; obtain ⟨rfl, rfl⟩:=h;refine ⟨rfl, Qm (λw' => ?_) (VRel.int _ _)⟩;simp [execOp, resolve, aK, cT, invoke, builtin, Builtin.max_, Builtin.max2, hx.q0h, hy.q0h, hz.q0h, hw.q0h, Fl]
          . cases h
        . cases h
      . cases hc
    . rename_i aK
      split at hc
      . rename_i x y ax
        have cT:c.args = #[x, y]:=by apply Array.ext'; simpa using ax
        simp [Call.operands, aK, cT] at ai;have hx:=hE x ai.1;have hy:=hE y ai.2;simp at hc; subst hc;simp only [Q7] at h;split at h
        . rename_i k a k' b h1 h2
          rw [h1] at hx; rw [h2] at hy;split at h
          . simp at h; obtain ⟨rfl, rfl⟩:=h
            refine ⟨rfl, Qm (λw' => ?_) (VRel.int _ _)⟩;simp [execOp, resolve, aK, cT, invoke, builtin, Builtin.min_, Builtin.min2, hx.q0h, hy.q0h]
          . cases h
        . cases h
      . cases hc
    . cases hc
  all_goals (first | (cases hc; done) | (split at hc <;> cases hc; done))
end
end Go.V
namespace Go.V
open Go
section
variable {P:Program}{ρ:Plc}{M M':Heap}{w:World}{ev:Operand->Value}{env:Env}{v:Value}
def S5 (P:Program) (ρ:Plc) (M:Heap) (w:World) (v:Value) (M':Heap) (s:Sem Next):Prop :=
 ∃ c w' ρ',(s.run P w=.ok (.value c) w'\/(s.run P w=.ok .skip w'/\c=undef))/\VRel ρ' M'.n v c/\HRel ρ' M' w'/\Ext ρ M w ρ' M' w'
theorem SZ (z:List Value) (hz:z≠[]):∀ n,(List.range (n*z.length)).map (λi=>z[i % z.length]!)=(List.replicate n z).flatten:=by
 intro n;have bq:0<z.length:=xx.2 hz;induction n with
 |zero=>simp
 |succ n ih =>
  rw[xy,List.flatten_cons,<-ih,Nat.succ_mul,xP,List.range_add,xN,wQ];congr 1
  .apply zV;intro k;by_cases hk:k<z.length
   .simp[hk,xR hk]
   .simp[hk]
  .apply xc;intro i _;simp
theorem U9 (n:Nat) (z:List Value):HE n z=(List.replicate n z).flatten:=by
 unfold HE;split
 .rename_i x;induction n with
  |zero=>rfl
  |succ n ih=>rw[xy,xy,List.flatten_cons,<-ih];rfl
 .rfl
theorem Bu (zero:Array Value) (z:List Value) (h:zero.toList=z) (hz:z≠[]) (n:Nat):((Array.range (n*z.length)).map (λi=>zero[i % zero.size]!)).toList=HE n z:=by rw[U9,<-SZ z hz n];subst h;simp;intro a _;rw[getElem!_def];cases zero[a % zero.size]?<;>rfl
theorem Pb (n:Nat) (z:List Value):(HE n z).length=n*z.length:=by rw[U9];simp[List.length_flatten,List.map_replicate,List.sum_replicate_nat]
theorem EK (n:Nat) (z:List Value) (h:z.all cellOk=true):(HE n z).all cellOk=true:=by
 rw[U9];simp only[zf,List.mem_flatten,List.mem_replicate] at *
 rintro x ⟨l,⟨_,rfl⟩,hx⟩;exact h x hx
theorem Bn (n:Nat) (z:List Value) (h:z.all QN=true):(HE n z).all QN=true:=by rw[U9,List.all_flatten];simp[List.all_replicate,h]
theorem Hi {lo:Option Operand}{yh ym:Operand}{n cap l h m:Nat}{kh km:IntKind}{ih im:Int}(pr:(lo=none/\l=0)\/∃ x k i,lo=some x/\ev x=.int k i/\0<=i/\l=i.toNat)
  (jO:ev yh=.int kh ih) (pw:0<=ih) (hh:h=ih.toNat) (jP:ev ym=.int km im) (px:0<=im) (hm:m=im.toNat) (h1:l<=h) (h2:h<=m) (h3:m<=cap) (w:World) :
  (Instr.sliceBounds true n cap (lo.map ev) ((some yh).map ev) ((some ym).map ev)).run P w=.ok (l,h,m) w:=by
 subst hh;subst hm;rcases pr with⟨rfl,rfl⟩|⟨x,k,i,rfl,hx,lO,rfl⟩
 .simp[Instr.sliceBounds,jO,jP,Z1 km im _ _ px h3,Z1 kh ih _ _ pw h2]
 .simp[Instr.sliceBounds,hx,jO,jP,Z1 km im _ _ px h3,Z1 kh ih _ _ pw h2,Z1 k i _ _ lO h1]
theorem SH (hH:HRel ρ M w) {c:List Value}{C:Array Value}{esz:El}(hc:LRel ρ M.n c C.toList) {s:Sem Next}
  (hs:s.run P w=.ok (.value (.pointer (some ⟨w.heap.size,0,none⟩))) (w.alloc (.cells C esz.ty))) :
  S5 P ρ M w (.pointer (some ⟨M.n,0,none⟩)) (M.push (.cells c esz true true)) s:=by
 have hl:c.length=C.size:=by have:=hc.1;simpa using this
 obtain⟨ρ',h1,h2,h3⟩:=hH.alloc c C esz.ty esz true rfl (by
  have:C.toList.take C.size=C.toList:=by rw[<-Array.length_toList];exact List.take_length
  rw[hl,this];exact hc) (by omega)
 refine⟨_,_,ρ',.inl hs,.ptr _ _ _ (by simp) (λp hp=>?_),h2,h3⟩;rw[h1] at hp;obtain rfl:=osj hp;rfl
theorem Pf (hH:HRel ρ M w) {c:List Value}{C:Array Value}{esz:El}{n cap:Nat}(hc:LRel ρ M.n c C.toList) (hn:cap*esz.sz<=C.size) {s:Sem Next}
  (hs:s.run P w=.ok (.value (.slice (some ⟨w.heap.size,0,none⟩) n cap)) (w.alloc (.cells C esz.ty))) :
  S5 P ρ M w (.slice (some ⟨M.n,0,none⟩) n cap) (M.push (.cells c esz true true)) s:=by
 have hl:c.length=C.size:=by have:=hc.1;simpa using this
 obtain⟨ρ',h1,h2,h3⟩:=hH.alloc c C esz.ty esz true rfl (by
  have:C.toList.take C.size=C.toList:=by rw[<-Array.length_toList];exact List.take_length
  rw[hl,this];exact hc) (by omega)
 refine⟨_,_,ρ',.inl hs,.sl _ _ _ _ _ _ (by simp) (λp hp=>?_),h2,h3⟩;rw[h1] at hp;obtain rfl:=osj hp;exact⟨ze _,λ_=>rfl,.inr ⟨0,rfl,by simpa using hn,.inl rfl⟩⟩
theorem Rp (hH:HRel ρ M w) {esz n cap:Nat}{a:Option Addr}{xs:List Value}{c:Value}(h:M.sl esz (.slice a n cap)=some xs) (hv:VRel ρ M.n (.slice a n cap) c) :
  xs.length=n*esz/\∃ us:List Value,LRel ρ M.n xs us/\(∃ a' au,c=.slice a' n au)/\∀ w',Like ρ w w'->(Builtin.firstCells esz n c).run P w'=.ok us.toArray w':=by
 unfold Heap.sl at h;split at h
 .rename_i heq;simp at heq;obtain⟨rfl,rfl,rfl⟩:=heq;simp at h;subst h;obtain⟨_,_,rfl⟩:=hv.q1l;exact⟨by simp,[],LRel.nil _ _,⟨_,_,rfl⟩,λw' _=>by simp[Builtin.firstCells]⟩
 .rename_i i o n' jN heq;simp at heq;obtain⟨rfl,rfl,rfl⟩:=heq;split at h
  .rename_i c0 e wr tight hb;split at h
   .rename_i ak;obtain⟨nw,hlen⟩:=ak;simp at h;obtain⟨p,hp,_,_,_,_,h5,_⟩:=hH.live i _ hb;obtain⟨ad,au,rfl,aO,aQ⟩:=hv.q1b;have fy:xs.length=n*esz:=by rw[<-h];simp;omega
    obtain⟨_,_,⟨_,nz⟩|⟨o',rfl,_,ho⟩⟩:=aQ p hp
    .subst nz;rw[Nat.zero_mul] at fy;obtain rfl:=x4.1 fy;refine⟨by simp,[],.nil _ _,⟨_,_,rfl⟩,λw' hl=>?_⟩;have:=run_loadCells_list (P:=P) w' ad [] (λj v hj=>by simp at hj);simp only[List.length_nil] at this;simp[Builtin.firstCells,this]
    refine⟨fy,?_⟩;have kN:n*esz=0\/o'=o:=by
     rcases ho with ho|⟨h0,_⟩
     .exact .inr ho
     .left;rw[h0,Nat.zero_mul]
    have hex:∀ k,k<n*esz->∃ u,w.cell? ⟨p.blk,p.shift+o'+k,none⟩=some u/\∀ v,xs[k]?=some v->VRel ρ M.n v u:=λk hk=>by have nB:o'=o:=kN.resolve_left (by omega);subst nB;obtain⟨u,hu,cJ⟩:=h5 (o'+k) _ (z1 (by omega));rw[<-zt] at hu;refine⟨u,hu,λv hv=>?_⟩;rw[<-h,zO,z7 hk,zz,z1 (by omega)] at hv;obtain rfl:=osj hv;exact cJ
    let us:List Value:=(List.range (n*esz)).map λk=>(w.cell? ⟨p.blk,p.shift+o'+k,none⟩).getD undef;have nC:us.length=n*esz:=by simp[us]
    have dp:∀ k,k<n*esz->∀ u,w.cell? ⟨p.blk,p.shift+o'+k,none⟩=some u->us[k]?=some u:=λk hk u hu=>by simp[us,hk,hu]
    refine⟨us,⟨by omega,λk v u hk hu=>?_⟩,⟨_,_,rfl⟩,λw' hl=>?_⟩
    .have bn:k<n*esz:=by have:=(zg.1 hk).1;omega
     obtain⟨u',cy,gP⟩:=hex k bn;rw[dp k bn u' cy] at hu;obtain rfl:=osj hu;exact gP v hk
    .have cQ:∀ j v,us[j]?=some v->w'.cell? ((⟨p.blk,p.shift+o',none⟩:Addr).add j)=some v:=λj v hj=>by
      have bV:j<n*esz:=by have:=(zg.1 hj).1;omega
      obtain⟨u',cy,_⟩:=hex j bV;rw[dp j bV u' cy] at hj;obtain rfl:=osj hj;rw[XB,H_ hl hp];exact cy
     have:=run_loadCells_list (P:=P) w' ⟨p.blk,p.shift+o',none⟩ us cQ;rw[nC] at this;simp[Builtin.firstCells,this]
   .cases h
  .cases h
 .cases h
theorem Ep (gp aW:Nat) (h:aW<gp):Builtin.nextslicecap gp aW<=2*gp:=by
 unfold Builtin.nextslicecap;split
 .omega
 .split
  .omega
  .have key:∀ r c,c<=2*gp->256<=gp->Builtin.growBy gp r c<=2*gp:=by
    intro r;induction r with
    |zero=>intro c hc _;exact hc
    |succ r ih =>
     intro c hc h2;unfold Builtin.growBy;split
     .exact hc
     .exact ih _ (by omega) h2
   exact key 4 aW (by omega) (by omega)
theorem A_ {n:Nat}{v c:Value}(h:cellOk v=true) (hv:VRel ρ n v c):c.oneCell'=true:=by cases hv<;>first|rfl|(simp[cellOk,poison] at h)
theorem Kt {n:Nat}{vs cs:List Value}(h:vs.all cellOk=true) (hv:LRel ρ n vs cs):∀ c∈cs,c.oneCell'=true:=by
 intro c hc;obtain⟨k,hk⟩:=List.getElem?_of_mem hc;have bn:k<vs.length:=by have:=(zg.1 hk).1;have:=hv.1;omega
 exact A_ (zf.1 h _ (zp bn)) (hv.2 k _ _ (z1 bn) hk)
theorem X7 {t u e f:TypeId}{ei:TypeInfo}(ht:P.underlying t=some (.slice e)) (hu:P.underlying u=some (.slice f)) (hi:P.info? e=some ei) (ty:TypeId) (base:Option Addr) (n cap m:Nat) (x:Value) (us:List Value)
  (hx:∃ a' au,x=.slice a' m au) (fW:(Builtin.firstCells ei.size m x).run P w=.ok us.toArray w) (aX:n+m<=cap) (w':World)
  (a_:(match base with|some a=>storeCells (a.add (n*ei.size)) us|none=>pure ()).run P w=.ok () w') :
  (Builtin.append_ #[t,u] ty #[.slice base n cap,x]).run P w=.ok (.slice base (n+m) cap) w':=by
 obtain⟨a',au,rfl⟩:=hx;unfold Builtin.append_;cases base with
 |none =>simp at a_;subst a_;simp[Q0 ht,Q0 hu,Qb hi,Builtin.lenOf,aX,fW]
 |some a =>simp at a_;simp[Q0 ht,Q0 hu,Qb hi,Builtin.lenOf,aX,fW,a_]
theorem Xs {t u e f:TypeId}{ei:TypeInfo}{zv:Value}(ht:P.underlying t=some (.slice e)) (hu:P.underlying u=some (.slice f)) (hi:P.info? e=some ei) (hz:ei.zero=some zv) (hb:ei.bytes≠0) (ty:TypeId) (base:Option Addr) (n cap m:Nat) (x:Value) (us os:List Value)
  (hx:∃ a' au,x=.slice a' m au) (fW:(Builtin.firstCells ei.size m x).run P w.drew=.ok us.toArray w.drew) (iH:(Builtin.firstCells ei.size n (.slice base n cap)).run P w.drew=.ok os.toArray w.drew)
  (aX:¬ n+m<=cap) (aF:(n+m)*ei.bytes<=2 ^ 46) :
  ∃ aV,n+m<=aV/\(Builtin.append_ #[t,u] ty #[.slice base n cap,x]).run P w =
   .ok (.slice (some ⟨w.heap.size,0,none⟩) (n+m) aV) (w.drew.alloc (.cells ((os++us).toArray++Builtin.zeroCells zv.cells (aV-(n+m))) e)):=by
 obtain⟨a',au,rfl⟩:=hx;refine⟨(Question.appendCap (n+m) cap e).cut (w.tape w.drawn (.appendCap (n+m) cap e)),by simp[Question.cut],?_⟩;have h1:¬ (2 ^ 48<Builtin.nextslicecap (n+m) cap*ei.bytes):=by have:=Ep (n+m) cap (by omega);have h2:Builtin.nextslicecap (n+m) cap*ei.bytes<=2*(n+m)*ei.bytes:=zr _ this;rw[Nat.mul_assoc] at h2;omega
 have kO:∀ w:World,(typeInfo e).run P w=.ok ei w:=λw=>run_typeInfo w hi;have eu:∀ w:World,(zeroValue e).run P w=.ok zv w:=λw=>Z2 hi hz w;unfold Builtin.append_;simp[Q0 ht,Q0 hu,Qb hi,Builtin.lenOf,aX,kO,hb,h1,Question.forced,iH,fW,eu,newRow];congr 2;apply Array.ext';simp
theorem XL (_hH:HRel ρ M w) (_hE:Ext ρ M w ρ M w) {σ1:Heap}{ρ1:Plc}(jr:HRel ρ1 σ1 w) (fX:Ext ρ M w ρ1 σ1 w) (fG:σ1.n=M.n) {aW xs os us:List Value}{zs:Array Value}{esz:El}{n aV:Nat}
  (ho:LRel ρ M.n aW os) (hx:LRel ρ M.n xs us) (hlen:aW.length+xs.length=n*esz.sz) (eB:zs.size=(aV-n)*esz.sz) (fY:n<=aV) {s:Sem Next}
  (hs:s.run P w=.ok (.value (.slice (some ⟨w.heap.size,0,none⟩) n aV)) (w.drew.alloc (.cells ((os++us).toArray++zs) esz.ty))) :
  S5 P ρ M w (.slice (some ⟨M.n,0,none⟩) n n) (σ1.push (.cells (aW++xs) esz true false)) s:=by
 have hl:(aW++xs).length=(os++us).length:=by simp[ho.1,hx.1]
 have aI:LRel ρ1 σ1.n (aW++xs) (((os++us).toArray++zs).toList.take (aW++xs).length):=by
  have h1:((os++us).toArray++zs).toList.take (aW++xs).length=os++us:=by rw[Array.toList_append,hl];show ((os++us)++zs.toList).take (os++us).length=_;exact List.take_left
  rw[h1];exact(ho.append hx).mono fX.n fX.pl
 have aF:((os++us).toArray++zs).size=n*esz.sz+(aV-n)*esz.sz:=by simp[eB];have:=ho.1;have:=hx.1;omega
 have b9:(aW++xs).length<=((os++us).toArray++zs).size:=by rw[aF,zI];omega
 obtain⟨ρ',h1,h2,h3⟩:=(jr.drew).alloc (aW++xs) ((os++us).toArray++zs) esz.ty esz false rfl aI b9;have hh:w.drew.heap.size=w.heap.size:=rfl;rw[fG] at h1;refine⟨_,_,ρ',.inl hs,.sl _ _ _ _ _ _ (by simp[fG]) (λp hp=>?_),h2,(fX.trans (Ext.drew ρ1 σ1 w)).trans h3⟩;rw[h1] at hp;obtain rfl:=osj hp;refine⟨fY,⟨λh=>(by cases h),.inr ⟨0,rfl,?_,Or.inl rfl⟩⟩⟩;show 0+aV*esz.sz<=((os++us).toArray++zs).size;rw[aF,<-zH];have:n+(aV-n)=aV:=by omega
 rw[this];omega
theorem LH (hH:HRel ρ M w) {t u e f:TypeId}{ei:TypeInfo}{zv:Value}{z:List Value}(ht:P.underlying t=some (.slice e)) (hu:P.underlying u=some (.slice f)) (hi:P.info? e=some ei) (hz:ei.zero=some zv) (fF:zv.cells.toList=z) (eB:z.length=ei.size) (hb:ei.bytes≠0) (ty:TypeId)
  {s:Value}{a:Option Addr}{m lR:Nat}{xs:List Value}{cs cx:Value}(hs:VRel ρ M.n s cs) (hx:VRel ρ M.n (.slice a m lR) cx) (br:M.sl z.length (.slice a m lR)=some xs) (ai:xs.all cellOk=true)
  (h:YD ⟨z.length,e⟩ ei.bytes M s m xs=some (v,M')) {qg:Sem Next}(aT:∀ r w',(Builtin.append_ #[t,u] ty #[cs,cx]).run P w=.ok r w'->qg.run P w=.ok (.value r) w'):S5 P ρ M w v M' qg:=by
 obtain⟨fy,us,dU,eC,fW⟩:=Rp (P:=P) hH br hx;rw[eB] at fW fy;have hL:=Like.refl ρ w;have jQ:Like ρ w w.drew:=⟨ze _,λ_ _ _=>rfl,λ_ _ _=>rfl⟩;have nC:us.length=m*ei.size:=by have:=dU.1;omega
 have hzero:∀ k,(Builtin.zeroCells zv.cells k).size=k*z.length:=λk=>by rw[size_zeroCells];rw[<-fF];simp
 unfold YD at h;split at h
 .
  obtain⟨_,_,rfl⟩:=hs.q1l;split at h
  .rename_i eN;subst eN;simp at h;obtain⟨rfl,rfl⟩:=h;have:us=[]:=x4.1 (by omega);subst this;have hr:=X7 (w:=w) ht hu hi ty none 0 0 0 cx [] eC (fW w hL) (ze _) w rfl;exact⟨_,w,ρ,.inl (aT _ _ hr),VRel.nilSl,hH,Ext.refl _ _ _⟩
  .rename_i eN;split at h
   .rename_i aF;simp at h;obtain⟨rfl,rfl⟩:=h;obtain⟨aV,fY,hr⟩:=Xs (w:=w) ht hu hi hz hb ty none 0 0 m cx us [] eC (fW _ jQ) (by simp[Builtin.firstCells]) (by omega) (by simpa using aF);simp only[x3,xj] at hr fY;have:=XL (P:=P) hH (Ext.refl _ _ _) hH (Ext.refl _ _ _) rfl (LRel.nil ρ M.n) dU (by simp;rw[fy,<-eB]) (esz:=⟨z.length,e⟩) (n:=m) (hzero (aV-m)) fY (s:=qg) (by simpa using aT _ _ hr);simpa using this
   .cases h
 .
  rename_i i o n cap;obtain⟨ad,au,rfl,aO,aQ⟩:=hs.q1b;split at h
  .rename_i c e' wr tight aC;obtain⟨p,hp,hB⟩:=hH.live i _ aC;obtain⟨dB,ny,⟨mU,nz⟩|⟨o',rfl,c_,fc⟩⟩:=aQ p hp
   .
    obtain rfl:cap=0:=by omega
    subst mU nz;split at h
    .rename_i ak;obtain⟨rfl,kP,gu⟩:=ak;dsimp only at gu h;split at h
     .rename_i eN;subst eN;simp at h;obtain⟨rfl,rfl⟩:=h;have:us=[]:=x4.1 (by omega);subst this;have hr:=X7 (w:=w) ht hu hi ty (some ad) 0 0 0 cx [] eC (fW w hL) (ze _) w rfl;exact⟨_,w,ρ,.inl (aT _ _ hr),hs,hH,Ext.refl _ _ _⟩
     .rename_i eN;split at h
      .omega
      .split at h
       .rename_i aF;have fe:M.sl z.length (.slice (some ⟨i,o,none⟩) 0 0)=some ((c.drop o).take (0*z.length)):=by
         have:o<=c.length:=by omega
         simp[Heap.sl,aC,this]
        obtain⟨_,os,gv,_,iH⟩:=Rp (P:=P) hH fe hs;rw[eB] at iH;have hlen:((c.drop o).take (0*z.length)).length+xs.length=(0+m)*z.length:=by rw[fy,eB];simp
        obtain⟨aV,fY,hr⟩:=Xs (w:=w) ht hu hi hz hb ty (some ad) 0 0 m cx us os eC (fW _ jQ) (iH _ jQ) (by omega) aF;split at h
        .obtain⟨rfl,rfl⟩:=Prod.mk.inj (osj h);exact XL hH (Ext.refl _ _ _) hH (Ext.refl _ _ _) rfl gv dU hlen (hzero _) fY (aT _ _ hr)
        .split at h
         .obtain⟨rfl,rfl⟩:=Prod.mk.inj (osj h);obtain⟨bt,av⟩:=hH.kill i;exact XL hH (Ext.refl _ _ _) bt av rfl gv dU hlen (hzero _) fY (aT _ _ hr)
         .cases h
       .cases h
    .cases h
   have dT:p.esz=e':=hB.1;split at h
   .rename_i ak;obtain⟨rfl,kP,gu⟩:=ak;rw[dT] at c_;dsimp only at c_ gu h;split at h
    .
     rename_i eN;subst eN;simp at h;obtain⟨rfl,rfl⟩:=h;have:us=[]:=x4.1 (by omega);subst this;have hr:=X7 (w:=w) ht hu hi ty (some ⟨p.blk,p.shift+o',none⟩) n au 0 cx [] eC (fW w hL) (by omega) w rfl;exact⟨_,w,ρ,.inl (aT _ _ hr),hs,hH,Ext.refl _ _ _⟩
    .rename_i eN;split at h
     .
      rename_i aX;split at h
      .rename_i hw;obtain⟨rfl,fH⟩:=hw;simp at h;obtain⟨rfl,rfl⟩:=h;have kN:o'=o:=by
        rcases fc with h0|⟨_,h0⟩
        .exact h0
        .omega
       subst kN;have hmul:(n+m)*z.length=n*z.length+m*z.length:=zH _ _ _;have tq:m*ei.size=m*z.length:=by rw[eB]
       obtain⟨h2,h3⟩:=hH.store hp aC dU (o:=o'+n*z.length) (by omega)
       have a_:=run_storeCells_cells (P:=P) p.blk (p.shift+o'+n*z.length) us 0 w
        (λj hj=>by rw[zK,zt,zt];exact hB.q0s _ (by have:=hB.2.2.1;omega))
        (λj hj=>by rw[zK,zt,zt];exact(hB.2.2.2.2.2 rfl).2 _ (by have:=hB.2.2.1;omega))
        (Kt ai dU)
       have hr:=X7 (w:=w) ht hu hi ty (some ⟨p.blk,p.shift+o',none⟩) n au m cx us eC (fW w hL) (by omega) _ (by
        simp only[XB,<-eB];exact a_)
       refine⟨_,_,ρ,.inl (aT _ _ hr),.sl _ _ _ _ _ _ aO (λq hq=>?_),by rw[zK,zt];exact h2,by rw[zK,zt];exact h3⟩;obtain rfl:p=q:=osj (hp.symm.trans hq);exact⟨dB,ny,.inr ⟨o',rfl,by rw[dT];exact c_,.inl rfl⟩⟩
      .cases h
     .rename_i aX;split at h
      .rename_i aF;have hold:∀ k v,((c.drop o).take (n*z.length))[k]?=some v->∃ u,w.cell? ⟨p.blk,p.shift+o'+k,none⟩=some u/\VRel ρ M.n v u:=λk v hk=>by
        rw[zO] at hk;split at hk
        .rename_i bn;rw[zz] at hk;have kN:o'=o:=by
          rcases fc with h0|⟨h0,_⟩
          .exact h0
          .rw[h0,Nat.zero_mul] at bn;omega
         subst kN;obtain⟨u,hu,cJ⟩:=hB.2.2.2.2.1 _ v hk;exact⟨u,by rw[zt];exact hu,cJ⟩
        .cases hk
       have eO:((c.drop o).take (n*z.length)).length=n*z.length:=by simp;omega
       have fe:M.sl z.length (.slice (some ⟨i,o,none⟩) n cap)=some ((c.drop o).take (n*z.length)):=by simp[Heap.sl,aC,gu]
       obtain⟨_,os,gv,_,iH⟩:=Rp (P:=P) hH fe hs;rw[eB] at iH;have hlen:((c.drop o).take (n*z.length)).length+xs.length=(n+m)*z.length:=by rw[eO,fy,zH,eB]
       split at h
       .
        rename_i gw;simp at h;obtain⟨rfl,rfl⟩:=h;have qh:au=cap:=ny (by rw[hB.2.1];exact gw);subst qh;obtain⟨aV,fY,hr⟩:=Xs (w:=w) ht hu hi hz hb ty (some ⟨p.blk,p.shift+o',none⟩) n au m cx us os eC (fW _ jQ) (iH _ jQ) aX aF;exact XL hH (Ext.refl _ _ _) hH (Ext.refl _ _ _) rfl gv dU hlen (hzero _) fY (aT _ _ hr)
       .rename_i gw;have tu:tight=false:=by simpa using gw
        subst tu;split at h
        .rename_i gi;subst gi;simp at h;obtain⟨rfl,rfl⟩:=h;by_cases gx:n+m<=au
         .
          have hmul:au*z.length=(n+m)*z.length+(au-(n+m))*z.length:=by rw[<-zH];congr 1;omega
          have r7:(n+m)*z.length=n*z.length+m*z.length:=zH _ _ _;have tq:m*ei.size=m*z.length:=by rw[eB]
          obtain⟨ρ',h1,h2,h3⟩:=hH.onto hp aC o' hold dU (by rw[eO];omega)
          have a_:=run_storeCells_cells (P:=P) p.blk (p.shift+o'+n*z.length) us 0 w
           (λj hj=>by rw[zK,zt,zt];exact hB.q0s _ (by omega))
           (λj hj=>by rw[zK,zt,zt];exact(hB.2.2.2.2.2 rfl).2 _ (by omega))
           (Kt ai dU)
          have hr:=X7 (w:=w) ht hu hi ty (some ⟨p.blk,p.shift+o',none⟩) n au m cx us eC (fW w hL) gx _ (by
           simp only[XB,<-eB];exact a_)
          refine⟨_,_,ρ',.inl (aT _ _ hr),.sl _ _ _ _ _ _ (by simp) (λq hq=>?_),by rw[zK];rw[eO] at h2;exact h2,by rw[zK];rw[eO] at h3;exact h3⟩;rw[h1] at hq;obtain rfl:=osj hq;refine⟨gx,⟨λh=>(by cases h),.inr ⟨0,rfl,?_,Or.inl rfl⟩⟩⟩;show 0+au*z.length<=p.ext-o';omega
         .obtain⟨aV,fY,hr⟩:=Xs (w:=w) ht hu hi hz hb ty (some ⟨p.blk,p.shift+o',none⟩) n au m cx us os eC (fW _ jQ) (iH _ jQ) gx aF;obtain⟨bt,av⟩:=hH.kill i;exact XL hH (Ext.refl _ _ _) bt av rfl gv dU hlen (hzero _) fY (aT _ _ hr)
        .cases h
      .cases h
   .cases h
  .cases h
 .
  rename_i i o n cap;obtain⟨ad,rfl,aO,aQ,dI⟩:=hs.q2p;split at h
  .rename_i c e' wr tight aC;obtain⟨p,hp,hB⟩:=hH.live i _ aC;obtain⟨rfl,c_⟩:=aQ p hp;have dT:p.esz=e':=hB.1;split at h
   .rename_i ak;obtain⟨rfl,kP,gu,eN,aF⟩:=ak;rw[dT] at c_;dsimp only at c_ gu h;simp at h;obtain⟨rfl,rfl⟩:=h;have eO:((c.drop o).take (n*z.length)).length=n*z.length:=by simp;omega
    have fe:M.sl z.length (.slice (some ⟨i,o,none⟩) n cap)=some ((c.drop o).take (n*z.length)):=by simp[Heap.sl,aC,gu]
    obtain⟨_,os,gv,_,iH⟩:=Rp (P:=P) hH fe dI;rw[eB] at iH;have hlen:((c.drop o).take (n*z.length)).length+xs.length=(n+m)*z.length:=by rw[eO,fy,zH,eB]
    obtain⟨aV,fY,hr⟩:=Xs (w:=w) ht hu hi hz hb ty (some ⟨p.blk,p.shift+o,none⟩) n cap m cx us os eC (fW _ jQ) (iH _ jQ) (by omega) aF;exact XL hH (Ext.refl _ _ _) hH (Ext.refl _ _ _) rfl gv dU hlen (hzero _) fY (aT _ _ hr)
   .cases h
  .cases h
 .cases h
set_option maxHeartbeats 1000000 in
theorem EE {o:Oper}{vo:VOp}(hc:Uf P o.op=some vo) (hq:vo.quiet=false) (hH:HRel ρ M w) (hE:∀ x,X8 x=true->VRel ρ M.n (Q3 env x) (ev x))
  (h:Q7 vo (Q3 env) M=some (v,M')):S5 P ρ M w v M' (execOp ev o):=by
 obtain⟨dst,op,ty,pos,after,guard⟩:=o;simp only at hc;unfold Uf at hc;split at hc
 .cases hc
 rename_i ai;simp only[xC,xm] at ai;cases op<;>simp only[Op.operands] at ai hc
 case alloc t =>
  cases hz:zeroOf P t with
  |none=>simp[hz] at hc
  |some z =>simp[hz] at hc;subst hc;obtain⟨ti,zv,hi,eu,fF,_,jm⟩:=WZ hz;simp[Q7] at h;obtain⟨rfl,rfl⟩:=h;refine SH hH (C:=zv.cells) (esz:=⟨z.length,t⟩) (by rw[fF];exact Xc jm) ?_;simp[execOp,Instr.alloc,Z2 hi eu,newVar,newRow]
 case box t x =>
  have hx:=hE x (by simpa using ai);simp at hc;subst hc;simp only[Q7] at h;split at h
  .rename_i vs cK;simp at h;obtain⟨rfl,rfl⟩:=h;refine SH hH (C:=(ev x).cells) (esz:=⟨vs.length,t⟩) (Bk cK hx) ?_;simp[execOp,Instr.box,newVar,newRow]
  .cases h
 case buildSlice t len parts =>
  split at hc
  .rename_i e hu;cases hz:zeroOf P e with
   |none=>simp[hz] at hc
   |some z =>
    obtain⟨ti,zv,hi,eu,fF,eB,jm⟩:=WZ hz;simp only[hz,zN,xw] at hc;split at hc
    .cases hc
    .rename_i ak;simp at ak;obtain⟨iu,hlen⟩:=ak;simp at hc;subst hc;simp only[Q7] at h;split at h
     .rename_i cs eM;simp at h;obtain⟨rfl,rfl⟩:=h;have e_:∀ q∈parts.toList,X8 q.2=true:=λq hq=>zf.1 ai q.2 (by simp;exact⟨q.1,by simpa using hq⟩);have kQ:=Bu zv.cells z fF iu len
      obtain⟨bB,lP,kL⟩:=Sb (ρ:=ρ) (n:=M.n) (λi=>some (i*z.length,z.length)) _ ((parts.map λq=>(q.1,ev q.2)).toList) (HE len z) cs ((Array.range (len*z.length)).map (λi=>zv.cells[i % zv.cells.size]!)) (by simp)
       (λk a b ha hb=>by
        simp only[zU,Array.toList_map] at ha hb;cases hq:parts.toList[k]? with
        |none=>simp only[hq,wI] at hb;cases hb
        |some q =>
         simp only[hq,z_,x6] at ha hb;subst hb;subst ha;exact⟨rfl,hE _ (e_ q (zF hq))⟩) eM (by rw[kQ];exact Xc (Bn _ _ jm))
      have b9:cs.length=len*z.length:=by
       have h1:∀ (l:List (Nat×Nat×Value)) (c c':List Value),Mw c l=some c'->c'.length=c.length:=by
        intro l;induction l with
        |nil=>intro c c' h;simp[Mw] at h;rw[h]
        |cons a r ih =>
         intro c c' h;obtain⟨o1,s1,v1⟩:=a;simp only[Mw] at h;split at h
         .split at h
          .rw[ih _ _ h,JT]
          .cases h
         .cases h
       rw[h1 _ _ _ eM,Pb]
      refine Pf hH (C:=bB) (esz:=⟨z.length,e⟩) kL (by have:=kL.1;simp at this;show len*z.length<=_;omega) ?_;have hle:¬ (len*ti.size > 2 ^ 24):=by
       rw[<-eB];have:(2:Nat) ^ 24=16777216:=by decide
       omega
      have qi:Instr.fill (λi=>some (i*ti.size,ti.size)) ((Array.range (len*ti.size)).map (λi=>zv.cells[i % zv.cells.size]!)) (parts.map λq=>(q.1,ev q.2)).toList=some bB:=by rw[<-eB];exact lP
      by_cases aR:len*ti.size=0
      .have jt:∀ f:Nat->Value,(Array.range 0).map f=#[]:=λf=>by simp
       simp only[execOp];simp only[Instr.buildSlice,zA,Q0 hu,zh,Qb hi,aR,zB,xe];rw[aR,jt] at qi;simp only[jt,qi];simp[newRow]
      .simp only[execOp];simp only[Instr.buildSlice,zA,Q0 hu,zh,Qb hi,z8 hle,z8 aR,Z2 hi eu,xe,qi];simp[newRow]
     .cases h
  .cases hc
 case store t a x =>
  simp at ai;have ha:=hE a ai.1;have hx:=hE x ai.2;cases hi:P.info? t with
  |none=>simp[hi] at hc
  |some ti =>
   simp[hi] at hc;subst hc;simp only[Q7] at h;split at h
   .rename_i i o vs h1 cK;rw[h1] at ha;split at h
    .rename_i c e wr tight hb;split at h
     .rename_i ak;obtain⟨rfl,nD,jR,iI⟩:=ak;simp at h;obtain⟨rfl,rfl⟩:=h;obtain⟨p,hp,hB⟩:=hH.live i _ hb;obtain⟨_,aO,py⟩:=ha.q0x hp;have hl:=Bk cK hx;have aB:(ev x).cells.size=ti.size:=by have:=hl.1;simp at this;omega
      obtain⟨h2,h3⟩:=hH.store hp hb hl (o:=o) (by omega);refine⟨undef,_,ρ,.inr ⟨?_,rfl⟩,JB,h2,h3⟩
      have hr:=run_storeCells_cells (P:=P) p.blk (p.shift+o) (ev x).cells.toList 0 w
       (λj hj=>by rw[zK,zt];exact hB.q0s _ (by have:=hB.2.2.1;simp at hj;omega))
       (λj hj=>by rw[zK,zt];exact(hB.2.2.2.2.2 rfl).2 _ (by have:=hB.2.2.1;simp at hj;omega))
       (Kt iI hl)
      simp only[execOp];simp only[Instr.storeAt,py,Instr.sureAddr,zA,xe,zh,storeVar,Qb hi];rw[z8 (by simp[aB])];rw[hr];rfl
     .cases h
    .cases h
   .cases h
 case makeSlice t l c =>
  simp at ai;have hl:=hE l ai.1;have dB:=hE c ai.2;split at hc
  .rename_i e hu;cases hi:P.info? e with
   |none=>simp[hi] at hc
   |some ei =>
    cases hz:zeroOf P e with
    |none=>simp[hi,hz] at hc
    |some z =>
     obtain⟨ti,zv,cB,eu,fF,eB,jm⟩:=WZ hz;obtain rfl:ei=ti:=osj (hi.symm.trans cB);simp only[hi,hz,zN,xw] at hc;split at hc
     .cases hc
     .rename_i iu;simp at iu;simp at hc;subst hc;simp only[Q7] at h;split at h
      .rename_i k a k' b h1 h2;rw[h1] at hl;rw[h2] at dB;split at h
       .rename_i ak;obtain⟨vL,r6,kR,cw⟩:=ak;simp at h;obtain⟨rfl,rfl⟩:=h;have kQ:=Bu zv.cells z fF iu b.toNat;have vM:(2:Int) ^ 46=70368744177664:=by decide
        have vN:(2:Int) ^ 48=281474976710656:=by decide
        have tv:IntKind.i64.wrap a=a:=IntWalk.i64_in _ (by omega);have tw:IntKind.i64.wrap b=b:=IntWalk.i64_in _ (by omega);refine Pf hH (C:=(Array.range (b.toNat*z.length)).map (λi=>zv.cells[i % zv.cells.size]!)) (esz:=⟨z.length,e⟩) (by rw[kQ];exact Xc (Bn _ _ jm)) (by simp) ?_;have tx:((ei.bytes:Int)*b > 2 ^ 48)=False:=by rw[eq_iff_iff,iff_false,Int.mul_comm];omega
        have qj:(b<0)=False:=by rw[eq_iff_iff,iff_false];omega
        have nE:(a<0)=False:=by rw[eq_iff_iff,iff_false];omega
        have qk:(a > b)=False:=by rw[eq_iff_iff,iff_false];omega
        simp only[execOp];simp only[Instr.makeSlice,zA,Q0 hu,zh,hl.q0h,dB.q0h,asInt,asIntOf,xe,run_typeInfo w hi,tv,tw,tx,qj,nE,qk];simp only[decide_false,xY,Bool.false_or,zC,if_false,run_askRoom,zA,zh,Qb hi];rw[<-eB];by_cases aR:b.toNat*z.length=0
        .have jt:∀ f:Nat->Value,(Array.range 0).map f=#[]:=λf=>by simp
         simp only[aR,zB,jt];simp[newRow]
        .simp only[aR,if_false,Z2 hi eu,zA,xe,zh];simp[newRow]
       .cases h
      .cases h
  .cases hc
 case slice t x lo hi mx =>
  have lQ:X8 x=true:=by simp at ai;exact ai.1
  have gQ:∀ y,lo=some y->X8 y=true:=λy hy=>by subst hy;simp at ai;first|exact ai.2.1|exact ai.2
  have gR:∀ y,hi=some y->X8 y=true:=λy hy=>by subst hy;cases lo<;>simp at ai<;>first|exact ai.2.1|exact ai.2.2.1|exact ai.2.2|exact ai.2
  have ql:∀ y,mx=some y->X8 y=true:=λy hy=>by subst hy;cases lo<;>cases hi<;>simp at ai<;>first|exact ai.2.2.2|exact ai.2.2|exact ai.2
  have hx:=hE x lQ;split at hc
  .rename_i e hu;cases cH:P.info? e with
   |none=>simp[cH] at hc
   |some ei =>
    simp[cH] at hc;subst hc;cases mx with
    |none=>simp[VOp.quiet] at hq
    |some mo =>
     simp only[Q7] at h;split at h
     .rename_i a n cap h1;rw[h1] at hx;split at h
      .simp_all
      .rename_i l hh vO hl lN tz;split at h
       .rename_i m ho hm;have jq:=Y2 hE gQ hl;have mW:=Y2 hE gR lN;have tA:=Y2 hE ql hm;obtain⟨ym,km,im,tB,jP,px,lS⟩:=tA.resolve_left (λhh=>by cases hh.1);obtain rfl:=osj tB;obtain⟨yh,kh,ih,tC,jO,pw,qm⟩:=mW.resolve_left (λhh=>by cases hh.1);obtain rfl:=osj tC;have nF:=λ(au:Nat) (h1:l<=hh) (h2:hh<=m) (h3:m<=au) w'=>Hi (P:=P) (n:=n) (cap:=au) jq jO pw qm jP px lS h1 h2 h3 w';unfold WU at h;split at h
        .rename_i heq;simp at heq;obtain⟨rfl,rfl,rfl⟩:=heq;obtain⟨_,_,bp⟩:=hx.q1l;split at h
         .rename_i ak;obtain⟨rfl,rfl,eN⟩:=ak;simp at eN;simp at h;obtain⟨rfl,rfl⟩:=h;subst eN;refine⟨.slice none 0 0,w,ρ,.inl ?_,VRel.nilSl,hH,Ext.refl _ _ _⟩;have:=nF 0 (ze _) (ze _) (ze _) w;simp only[z_] at this;simp[execOp,bp,Instr.sliceAt,Instr.slice,Q0 hu,this,Qb cH]
         .cases h
        .rename_i i o n' jN heq;simp at heq;obtain⟨rfl,rfl,rfl⟩:=heq;simp only at h;split at h
         .rename_i c esz wr tight hb;split at h
          .rename_i ak;obtain⟨nw,qd,tD,eP⟩:=ak;obtain⟨ad,au,bp,aO,aQ⟩:=hx.q1b;obtain⟨p,hp,hB⟩:=hH.live i _ hb;have dB:=(aQ p hp).1;have b_:=nF au qd tD (zY eP dB) w;simp only[z_] at b_;obtain⟨-,ny,⟨mU,nz⟩|⟨o',rfl,c_,fc⟩⟩:=aQ p hp
           .split at h
            .rename_i iJ;subst iJ;simp at h;obtain⟨rfl,rfl⟩:=h;have qn:hh=m:=by omega
             subst qn;have gk:∀ j,j<M.n->∀ q,(ρ.put M.n (some ⟨p.blk,p.shift,0,esz,true⟩)) j=some q->ρ j=some q:=λj hj q hq=>by unfold Plc.put at hq;rwa [z8 (by omega)] at hq
             have bh:∀ j,j≠M.n->(ρ.put M.n (some ⟨p.blk,p.shift,0,esz,true⟩)) j=ρ j:=λj hj=>by simp[Plc.put,hj]
             have de:(ρ.put M.n (some ⟨p.blk,p.shift,0,esz,true⟩)) M.n=some ⟨p.blk,p.shift,0,esz,true⟩:=by simp[Plc.put]
             have gi:∀ B,Wr (ρ.put M.n (some ⟨p.blk,p.shift,0,esz,true⟩)) (M.push (.cells [] esz false true)) B->Wr ρ M B:=by
              rintro B ⟨j,q,b,hq,b6,hw,rfl⟩;by_cases aP:j=M.n
              .subst aP;rw[Heap.q0a] at b6;obtain rfl:=osj b6;cases hw
              .rw[Heap.q0e _ _ aP] at b6;rw[bh j aP] at hq;exact⟨j,q,b,hq,b6,hw,rfl⟩
             refine⟨.slice (some ad) 0 0,w,ρ.put M.n (some ⟨p.blk,p.shift,0,esz,true⟩),.inl ?_,.sl _ _ _ _ _ _ (by simp) (λq hq=>?_),⟨⟨?_,?_,?_,?_⟩,λg cs hg=>⟨(hH.tab g cs hg).1,λhw=>(hH.tab g cs hg).2 (gi g hw)⟩⟩,
              ⟨rfl,rfl,rfl,ze _,λ_ _ _=>rfl,λB _=>gi B,by simp,gk⟩⟩
             .simp[execOp,bp,Instr.sliceAt,Instr.slice,Q0 hu,b_,Qb cH]
             .rw[de] at hq;obtain rfl:=osj hq;exact⟨ze _,λ_=>rfl,.inl ⟨rfl,rfl⟩⟩
             .intro j b hj;by_cases aP:j=M.n
              .subst aP;rw[Heap.q0a] at hj;obtain rfl:=osj hj;obtain⟨C,e0,f0,hC,mR⟩:=hB.2.2.2.1;refine⟨_,de,rfl,rfl,ze _,⟨C,e0,f0,hC,?_⟩,λk v hk=>by simp at hk,λhw=>by cases hw⟩;refine⟨?_,mR.2⟩;show p.shift+0<=C.size;omega
              .rw[Heap.q0e _ _ aP] at hj;obtain⟨q,hq,fD⟩:=hH.live j b hj;exact⟨q,by rw[bh j aP];exact hq,fD.mono (by simp) gk rfl⟩
             .intro j hj;by_cases aP:j=M.n
              .subst aP;rw[Heap.q0a] at hj;cases hj
              .rw[Heap.q0e _ _ aP] at hj;rw[bh j aP];exact hH.dead j hj
             .intro j q hq;by_cases aP:j=M.n
              .subst aP;rw[de] at hq;obtain rfl:=osj hq;exact hH.lt i p hp
              .rw[bh j aP] at hq;exact hH.lt j q hq
             .intro j k q r b ew hq hr b6 hw nG;by_cases aP:j=M.n
              .subst aP;rw[Heap.q0a] at b6;obtain rfl:=osj b6;cases hw
              .rw[Heap.q0e _ _ aP] at b6;rw[bh j aP] at hq;by_cases jk:k=M.n
               .subst jk;rw[de] at hr;obtain rfl:=osj hr;simp at nG
               .rw[bh k jk] at hr;exact hH.sep j k q r b ew hq hr b6 hw nG
            .omega
           have dT:p.esz.sz=ei.size:=by rw[hB.1];exact nw
           rw[dT] at c_;split at h
           .rename_i iJ;subst iJ;simp at h;obtain⟨rfl,rfl⟩:=h;have qn:hh=m:=by omega
            subst qn;have gk:∀ j,j<M.n->∀ q,(ρ.put M.n (some ⟨p.blk,p.shift+o',0,esz,true⟩)) j=some q->ρ j=some q:=λj hj q hq=>by unfold Plc.put at hq;rwa [z8 (by omega)] at hq
            have bh:∀ j,j≠M.n->(ρ.put M.n (some ⟨p.blk,p.shift+o',0,esz,true⟩)) j=ρ j:=λj hj=>by simp[Plc.put,hj]
            have de:(ρ.put M.n (some ⟨p.blk,p.shift+o',0,esz,true⟩)) M.n=some ⟨p.blk,p.shift+o',0,esz,true⟩:=by simp[Plc.put]
            have gi:∀ B,Wr (ρ.put M.n (some ⟨p.blk,p.shift+o',0,esz,true⟩)) (M.push (.cells [] esz false true)) B->Wr ρ M B:=by
             rintro B ⟨j,q,b,hq,b6,hw,rfl⟩;by_cases aP:j=M.n
             .subst aP;rw[Heap.q0a] at b6;obtain rfl:=osj b6;cases hw
             .rw[Heap.q0e _ _ aP] at b6;rw[bh j aP] at hq;exact⟨j,q,b,hq,b6,hw,rfl⟩
            refine⟨.slice (some ⟨p.blk,p.shift+o',none⟩) 0 0,w,ρ.put M.n (some ⟨p.blk,p.shift+o',0,esz,true⟩),.inl ?_,.sl _ _ _ _ _ _ (by simp) (λq hq=>?_),⟨⟨?_,?_,?_,?_⟩,λg cs hg=>⟨(hH.tab g cs hg).1,λhw=>(hH.tab g cs hg).2 (gi g hw)⟩⟩,
             ⟨rfl,rfl,rfl,ze _,λ_ _ _=>rfl,λB _=>gi B,by simp,gk⟩⟩
            .simp[execOp,bp,Instr.sliceAt,Instr.slice,Q0 hu,b_,Qb cH]
            .rw[de] at hq;obtain rfl:=osj hq;exact⟨ze _,λ_=>rfl,.inr ⟨0,rfl,by simp,.inl rfl⟩⟩
            .intro j b hj;by_cases aP:j=M.n
             .subst aP;rw[Heap.q0a] at hj;obtain rfl:=osj hj;obtain⟨C,e0,f0,hC,mR⟩:=hB.2.2.2.1;refine⟨_,de,rfl,rfl,ze _,⟨C,e0,f0,hC,?_⟩,λk v hk=>by simp at hk,λhw=>by cases hw⟩;have h6:o'<=p.ext:=zY (Nat.le_add_right _ _) c_;refine⟨?_,mR.2⟩;show p.shift+o'+0<=C.size;omega
             .rw[Heap.q0e _ _ aP] at hj;obtain⟨q,hq,fD⟩:=hH.live j b hj;exact⟨q,by rw[bh j aP];exact hq,fD.mono (by simp) gk rfl⟩
            .intro j hj;by_cases aP:j=M.n
             .subst aP;rw[Heap.q0a] at hj;cases hj
             .rw[Heap.q0e _ _ aP] at hj;rw[bh j aP];exact hH.dead j hj
            .intro j q hq;by_cases aP:j=M.n
             .subst aP;rw[de] at hq;obtain rfl:=osj hq;exact hH.lt i p hp
             .rw[bh j aP] at hq;exact hH.lt j q hq
            .intro j k q r b ew hq hr b6 hw nG;by_cases aP:j=M.n
             .subst aP;rw[Heap.q0a] at b6;obtain rfl:=osj b6;cases hw
             .rw[Heap.q0e _ _ aP] at b6;rw[bh j aP] at hq;by_cases jk:k=M.n
              .subst jk;rw[de] at hr;obtain rfl:=osj hr;simp at nG
              .rw[bh k jk] at hr;exact hH.sep j k q r b ew hq hr b6 hw nG
           rename_i iJ;split at h
           .rename_i tE;obtain⟨_,rfl⟩:=tE;simp at h;obtain⟨rfl,rfl⟩:=h;have kN:o'=o:=by
             rcases fc with h0|⟨_,h0⟩
             .exact h0
             .omega
            subst kN;refine⟨.slice (some ⟨p.blk,p.shift+(o'+l*ei.size),none⟩) (hh-l) (hh-l),w,ρ,.inl ?_,.slx _ _ _ _ _ aO (λq hq=>?_),hH,Ext.refl _ _ _⟩
            .simp[execOp,bp,Instr.sliceAt,Instr.slice,Q0 hu,b_,Qb cH,iJ,XB,zt]
            .obtain rfl:p=q:=osj (hp.symm.trans hq);refine⟨rfl,?_⟩;rw[dT];have:au=l+((hh-l)+(au-hh)):=by omega
             rw[this,zH,zH] at c_;omega
           .simp at h;obtain⟨rfl,rfl⟩:=h;refine⟨.slice (some ⟨p.blk,p.shift+(o'+l*ei.size),none⟩) (hh-l) (m-l),w,ρ,.inl ?_,.sl _ _ _ _ _ _ aO (λq hq=>?_),hH,Ext.refl _ _ _⟩
            .simp[execOp,bp,Instr.sliceAt,Instr.slice,Q0 hu,b_,Qb cH,iJ,XB,zt]
            .obtain rfl:p=q:=osj (hp.symm.trans hq);refine⟨ze _,λ_=>rfl,.inr ⟨o'+l*ei.size,rfl,?_,?_⟩⟩
             .rw[dT];have:au=l+((m-l)+(au-m)):=by omega
              rw[this,zH,zH] at c_;omega
             .rcases fc with rfl|⟨h0,tn⟩
              .exact .inl rfl
              .exact .inr (by omega)
          .cases h
         .cases h
        .cases h
       .cases h
      .cases h
     .cases h
  .rename_i hu;split at hc
   .rename_i qe;cases mx with
    |some m=>simp at qe
    |none=>simp at hc;subst hc;simp[VOp.quiet] at hq
   .cases hc
  .cases hc
 case call c =>
  split at hc
  .simp at hc;subst hc;simp[VOp.quiet] at hq
  .simp at hc;subst hc;simp[VOp.quiet] at hq
  .split at hc
   .split at hc
    .simp at hc;subst hc;simp[VOp.quiet] at hq
    .simp at hc;subst hc;simp[VOp.quiet] at hq
    .cases hc
   .cases hc
  .rename_i aK;split at hc
   .rename_i t u s x ht qb ax;split at hc
    .rename_i e f hu kS;cases hi:P.info? e with
     |none=>simp[hi] at hc
     |some ei =>
      cases hz:zeroOf P e with
      |none=>simp[hi,hz] at hc
      |some z =>
       obtain⟨ti,zv,cB,eu,fF,eB,jm⟩:=WZ hz;obtain rfl:ei=ti:=osj (hi.symm.trans cB);simp only[hi,hz,zN,xw] at hc;split at hc
       .cases hc
       .rename_i ak;simp at ak;obtain⟨iu,tF⟩:=ak;simp at hc;subst hc;have cT:c.args=#[s,x]:=by apply Array.ext';simpa using ax
        simp[Call.operands,aK,cT] at ai;have hs:=hE s ai.1;have hx:=hE x ai.2;have nH:(Builtin.append_ c.argTypes ty #[ev s,ev x])=(Builtin.append_ #[t,u] ty #[ev s,ev x]):=by unfold Builtin.append_;simp[ht,qb]
        have aT:∀ r w',(Builtin.append_ #[t,u] ty #[ev s,ev x]).run P w=.ok r w'->(execOp ev {dst:=dst,op:=.call c,type:=ty,pos:=pos,after:=after,guard:=guard}).run P w=.ok (.value r) w':=λr w' hr=>by simp[execOp,resolve,aK,cT,invoke,builtin,nH,hr]
        simp only[Q7] at h;split at h
        .rename_i xs a m lR br nJ;rw[nJ] at hx;split at h
         .rename_i lT;rw[nJ] at br;exact LH hH hu kS hi eu fF eB tF ty hs hx br lT h aT
         .cases h
        .cases h
    .cases hc
   .cases hc
  .split at hc
   .simp at hc;subst hc;simp[VOp.quiet] at hq
   .simp at hc;subst hc;simp[VOp.quiet] at hq
   .simp at hc;subst hc;simp[VOp.quiet] at hq
   .cases hc
  .split at hc
   .simp at hc;subst hc;simp[VOp.quiet] at hq
   .cases hc
  .cases hc
 case move x=>simp at hc;subst hc;simp[VOp.quiet] at hq
 case assign x=>simp at hc;subst hc;simp[VOp.quiet] at hq
 case pick c a b=>simp at hc;subst hc;simp[VOp.quiet] at hq
 case unOp=>simp at hc;subst hc;simp[VOp.quiet] at hq
 case extract=>simp at hc;subst hc;simp[VOp.quiet] at hq
 case nilCheck=>simp at hc;subst hc;simp[VOp.quiet] at hq
 all_goals
  repeat' first
   |(cases hc;done)
   |(simp at hc;subst hc;simp[VOp.quiet] at hq;done)
   |split at hc
 all_goals simp only[zN,xd,reduceCtorEq,and_false,exists_false] at hc
 all_goals first
  |(obtain⟨_,_,rfl⟩:=hc;simp[VOp.quiet] at hq;done)
  |(obtain⟨_,_,hc⟩:=hc;simp at hc;subst hc;simp[VOp.quiet] at hq;done)
  |(obtain⟨_,_,_,_,hc⟩:=hc;simp at hc;subst hc;simp[VOp.quiet] at hq;done)
  |(obtain⟨_,_,_,_,_,_,hc⟩:=hc;simp at hc;subst hc;simp[VOp.quiet] at hq;done)
  |(obtain⟨d,_,hc⟩:=hc;cases d<;>simp at hc<;>subst hc<;>simp[VOp.quiet] at hq;done)
  |(obtain⟨_,_,_,_,hc⟩:=hc;split at hc<;>simp at hc;subst hc;simp[VOp.quiet] at hq;done)
end
end Go.V
namespace Go.V
open Go
section
variable {P:Program}{ρ:Plc}{M M':Heap}{w:World}{ev:Operand->Value}{env:Env}{v:Value}
theorem VRel.q0p {n:Nat}{c:Value}(h:VRel ρ n (.pointer none) c):c=.pointer none:=by cases h;rfl
theorem VRel.q1i {n:Nat}{a:Addr}{c:Value}(h:VRel ρ n (.pointer (some a)) c):∃ b,c=.pointer (some b):=by cases h<;>exact⟨_,rfl⟩
theorem VRel.q0u {n:Nat}{c:Value}(h:VRel ρ n (.map none) c):c=.map none:=by cases h;rfl
theorem VRel.q1g {n:Nat}{m:Nat}{c:Value}(h:VRel ρ n (.map (some m)) c):∃ r,c=.map (some r)/\m<n/\∀ p,ρ m=some p->r=p.blk:=by
 cases h with
 |map _ r hi h=>exact⟨r,rfl,hi,h⟩
theorem VRel.q1a {n:Nat}{c:Value}(h:VRel ρ n .nilFunc c):c=.nilFunc:=by cases h;rfl
theorem VRel.q1o {n:Nat}{f:Fn}{a b:Array Value}{c:Value}(h:VRel ρ n (.func f a b) c):∃ g a' b',c=.func g a' b':=by cases h<;>exact⟨_,_,_,rfl⟩
theorem VRel.q1u {n:Nat}{a:Addr}{l k:Nat}{c:Value}(h:VRel ρ n (.slice (some a) l k) c):∃ b k',c=.slice (some b) l k':=by cases h<;>exact⟨_,_,rfl⟩
theorem VRel.q0y {n:Nat}{l k:Nat}{c:Value}(h:VRel ρ n (.slice none l k) c):c=.slice none 0 0:=by cases h;rfl
theorem CV (neg:Bool) (t:TypeId) (x y:Operand) (yt:TypeId) (ty:TypeId) (pos:String) (after:Array Edge) (dst:Option Tmp) (g:Option (Nat×Bool)) {a b:Value}{r:Bool}(hx:ev x=a) (hy:ev y=b)
  (hg:∀ op w',(eqGuard op t x y a b).run P w'=.ok () w') (h:∀ w',(binOp (if neg then .neq else .eql) t a b).run P w'=.ok (.bool (if neg then !r else r)) w') :
  SY P ρ M w (.bool (if neg then !r else r)) (execOp ev ⟨dst,.binOp (if neg then .neq else .eql) t x y yt,ty,pos,after,g⟩):=by
 refine Qm (c:=.bool (if neg then !r else r)) (λw'=>?_) (.bool _);simp only[execOp,hx,hy];simp[hg,h]
theorem Sk (op:BinOp) (t:TypeId) (x y:Operand) {a b:Value}(h:(∀ p q,¬ (a=.nilIface/\b=.nilIface)/\¬ (a=.agg p/\b=.agg q))) (w':World):(eqGuard op t x y a b).run P w'=.ok () w':=by
 have key:∀ op,op=.eql\/op=.neq->(eqGuard op t x y a b).run P w'=.ok () w':=by
  intro op ho;unfold eqGuard;rcases ho with rfl|rfl
  all_goals
   simp only[wA,zC,if_false];split
   .exact absurd ⟨rfl,rfl⟩ (h #[] #[]).1
   .rename_i p q;exact absurd ⟨rfl,rfl⟩ (h p q).2
   .rfl
 cases op<;>first|exact key _ (.inl rfl)|exact key _ (.inr rfl)|rfl
theorem Jk {t:TypeId}{a b:Value}{r:Bool}(h:∀ d w',(Op.equalIn (d+1) t a b).run P w'=.ok r w')
  (hb:∀ neg:Bool,binOp (if neg then .neq else .eql) t a b=(do let r <-Op.equal t a b;pure (.bool (if neg then !r else r)))) (neg:Bool) (w':World) :
  (binOp (if neg then .neq else .eql) t a b).run P w'=.ok (.bool (if neg then !r else r)) w':=by
 rw[hb,zA];have:(Op.equal t a b).run P w'=.ok r w':=h 9999 w';rw[this];rfl
theorem ES {kd:Nat}{t:TypeId}{a b c d:Value}{r:Bool}(hH:HRel ρ M w) (hk:(kd=0/\∃ e i,P.underlying t=some (.pointer e)/\P.info? e=some i)\/(kd=1/\∃ e,P.underlying t=some (.slice e)) \/
   (kd=2/\∃ k e,P.underlying t=some (.map k e))\/(kd=3/\∃ p q s,P.underlying t=some (.func p q s)))
  (ha:VRel ρ M.n a c) (hb:VRel ρ M.n b d) (h:Jf kd a b M=some r):(∀ (neg:Bool) w',(binOp (if neg then .neq else .eql) t c d).run P w'=.ok (.bool (if neg then !r else r)) w')/\(∀ p q,¬ (c=.nilIface/\d=.nilIface)/\¬ (c=.agg p/\d=.agg q)):=by
 unfold Jf at h;split at h
 .obtain rfl:=ha.q0p;obtain rfl:=hb.q0p;simp at h;subst h;rcases hk with⟨_,e,i,h1,h2⟩|⟨h0,_⟩|⟨h0,_⟩|⟨h0,_⟩<;>try (cases h0)
  exact⟨Jk (λd w'=>by simp[Op.equalIn,Q0 h1]) (λneg=>by cases neg<;>rfl),by simp⟩
 .obtain rfl:=ha.q0p;obtain⟨q,rfl⟩:=hb.q1i;simp at h;subst h;rcases hk with⟨_,e,i,h1,h2⟩|⟨h0,_⟩|⟨h0,_⟩|⟨h0,_⟩<;>try (cases h0)
  exact⟨Jk (λd w'=>by simp[Op.equalIn,Q0 h1]) (λneg=>by cases neg<;>rfl),by simp⟩
 .obtain⟨q,rfl⟩:=ha.q1i;obtain rfl:=hb.q0p;simp at h;subst h;rcases hk with⟨_,e,i,h1,h2⟩|⟨h0,_⟩|⟨h0,_⟩|⟨h0,_⟩<;>try (cases h0)
  exact⟨Jk (λd w'=>by simp[Op.equalIn,Q0 h1]) (λneg=>by cases neg<;>rfl),by simp⟩
 .rename_i i o j q;split at h
  .rename_i hc;obtain⟨rfl,rfl,hs⟩:=hc;simp at h;subst h;rcases hk with⟨_,e,i',h1,h2⟩|⟨h0,_⟩|⟨h0,_⟩|⟨h0,_⟩<;>try (cases h0)
   obtain⟨blk,aC⟩:=Option.isSome_iff_exists.1 hs;obtain⟨p,hp,_⟩:=hH.live _ _ aC;obtain⟨_,_,rfl⟩:=ha.q0x hp;obtain⟨_,_,rfl⟩:=hb.q0x hp;exact⟨Jk (λd w'=>by simp[Op.equalIn,Q0 h1,sizeOf,typeInfo,h2,run_sameAddr_same]) (λneg=>by cases neg<;>rfl),by simp⟩
  .cases h
 .obtain rfl:=ha.q0y;obtain rfl:=hb.q0y;simp at h;subst h;rcases hk with⟨h0,_⟩|⟨_,e,h1⟩|⟨h0,_⟩|⟨h0,_⟩<;>try (cases h0)
  exact⟨Jk (λd w'=>by simp[Op.equalIn,Q0 h1]) (λneg=>by cases neg<;>rfl),by simp⟩
 .obtain rfl:=ha.q0y;obtain⟨_,_,rfl⟩:=hb.q1u;simp at h;subst h;rcases hk with⟨h0,_⟩|⟨_,e,h1⟩|⟨h0,_⟩|⟨h0,_⟩<;>try (cases h0)
  exact⟨Jk (λd w'=>by simp[Op.equalIn,Q0 h1]) (λneg=>by cases neg<;>rfl),by simp⟩
 .obtain⟨_,_,rfl⟩:=ha.q1u;obtain rfl:=hb.q0y;simp at h;subst h;rcases hk with⟨h0,_⟩|⟨_,e,h1⟩|⟨h0,_⟩|⟨h0,_⟩<;>try (cases h0)
  exact⟨Jk (λd w'=>by simp[Op.equalIn,Q0 h1]) (λneg=>by cases neg<;>rfl),by simp⟩
 .obtain rfl:=ha.q0u;obtain rfl:=hb.q0u;simp at h;subst h;rcases hk with⟨h0,_⟩|⟨h0,_⟩|⟨_,k,e,h1⟩|⟨h0,_⟩<;>try (cases h0)
  exact⟨Jk (λd w'=>by simp[Op.equalIn,Q0 h1]) (λneg=>by cases neg<;>rfl),by simp⟩
 .obtain rfl:=ha.q0u;obtain⟨_,rfl,_⟩:=hb.q1g;simp at h;subst h;rcases hk with⟨h0,_⟩|⟨h0,_⟩|⟨_,k,e,h1⟩|⟨h0,_⟩<;>try (cases h0)
  exact⟨Jk (λd w'=>by simp[Op.equalIn,Q0 h1]) (λneg=>by cases neg<;>rfl),by simp⟩
 .obtain⟨_,rfl,_⟩:=ha.q1g;obtain rfl:=hb.q0u;simp at h;subst h;rcases hk with⟨h0,_⟩|⟨h0,_⟩|⟨_,k,e,h1⟩|⟨h0,_⟩<;>try (cases h0)
  exact⟨Jk (λd w'=>by simp[Op.equalIn,Q0 h1]) (λneg=>by cases neg<;>rfl),by simp⟩
 .obtain rfl:=ha.q1a;obtain rfl:=hb.q1a;simp at h;subst h;rcases hk with⟨h0,_⟩|⟨h0,_⟩|⟨h0,_⟩|⟨_,p,q,s,h1⟩<;>try (cases h0)
  exact⟨Jk (λd w'=>by simp[Op.equalIn,Q0 h1]) (λneg=>by cases neg<;>rfl),by simp⟩
 .obtain rfl:=ha.q1a;obtain⟨_,_,_,rfl⟩:=hb.q1o;simp at h;subst h;rcases hk with⟨h0,_⟩|⟨h0,_⟩|⟨h0,_⟩|⟨_,p,q,s,h1⟩<;>try (cases h0)
  exact⟨Jk (λd w'=>by simp[Op.equalIn,Q0 h1]) (λneg=>by cases neg<;>rfl),by simp⟩
 .obtain⟨_,_,_,rfl⟩:=ha.q1o;obtain rfl:=hb.q1a;simp at h;subst h;rcases hk with⟨h0,_⟩|⟨h0,_⟩|⟨h0,_⟩|⟨_,p,q,s,h1⟩<;>try (cases h0)
  exact⟨Jk (λd w'=>by simp[Op.equalIn,Q0 h1]) (λneg=>by cases neg<;>rfl),by simp⟩
 .cases h
def Z16 (ρ:Plc) (n:Nat) (e:MapEntry) (kv:JD):Prop:=e.key=kv.1/\e.born=kv.2.2/\VRel ρ n kv.2.1 e.val
def LERel (ρ:Plc) (n:Nat) (E:List MapEntry) (es:List JD):Prop:=E.length=es.length/\∀ (k:Nat) (e:MapEntry) (kv:JD),E[k]?=some e->es[k]?=some kv->Z16 ρ n e kv
theorem LERel.cons_inv {n:Nat}{E:List MapEntry}{es:List JD}{kv:JD}(h:LERel ρ n E (kv::es)):∃ e E',E=e::E'/\Z16 ρ n e kv/\LERel ρ n E' es:=by
 cases E with
 |nil=>have:=h.1;simp at this
 |cons e E'=>exact⟨e,E',rfl,h.2 0 e kv rfl rfl,by have:=h.1;simpa using this,λk a b ha hb=>h.2 (k+1) a b (by simpa using ha) (by simpa using hb)⟩
theorem ORel.q0r {n:Nat}{es:List JD}{clock:Nat}{O:Obj}:ORel ρ n (.map es clock) O<->∃ entries,O=.map entries clock/\LERel ρ n entries.toList es:=by
 constructor
 .rintro⟨entries,h1,h2,h3⟩;refine⟨entries,h1,by simpa using h2,λk e kv he dC=>?_⟩;obtain⟨e',h4,h5,h6,h7⟩:=h3 k kv dC;have:e=e':=by
   rw[Array.getElem?_toList] at he;exact osj (he.symm.trans h4)
  subst this;exact⟨h5,h6,h7⟩
 .rintro⟨entries,h1,h2,h3⟩;refine⟨entries,h1,by simpa using h2,λk kv dC=>?_⟩;have hk:k<es.length:=(zg.1 dC).1;have nr:k<entries.toList.length:=by omega
  obtain⟨h4,h5,h6⟩:=h3 k entries.toList[k] kv (z1 nr) dC;exact⟨entries.toList[k],by rw[<-Array.getElem?_toList];exact z1 nr,h4,h5,h6⟩
theorem XD:∀ {s:List MK}{l:List Value},fits s l=true->l.length=s.length
 |[],[],_=>rfl
 |_::s,_::l,h=>by simp only[fits,z6] at h;simp[XD h.2]
 |[],_::_,h=>by cases h
 |_::_,[],h=>by cases h
theorem UB:∀ {s r:List MK}{l:List Value},fits (s++r) l=true->fits s (l.take s.length)=true/\fits r (l.drop s.length)=true
 |[],r,l,h=>by simpa [fits] using h
 |k::s,r,[],h=>by cases h
 |k::s,r,v::l,h=>by simp only[xB,fits,z6] at h;obtain⟨h1,h2⟩:=UB h.2;simp only[xh,wC,wG,fits,z6];exact⟨⟨h.1,h1⟩,h2⟩
theorem NQ:∀ (n:Nat) (l m:List Value),l.length=m.length->Qo l m=(Qo (l.take n) (m.take n)&&Qo (l.drop n) (m.drop n))
 |0,l,m,_=>by simp[Qo]
 |n+1,[],[],_=>by simp[Qo]
 |n+1,a::l,b::m,h=>by simp only[Qo,wC,wG];rw[NQ n l m (by simpa using h),Bool.and_assoc]
 |n+1,[],_::_,h=>by simp at h
 |n+1,_::_,[],h=>by simp at h
def mkT (P:Program) (t:TypeId) (cs:List Value):Value:=match P.underlying t with
 |some (.struct _)=>.agg cs.toArray
 |some (.array _ _)=>.agg cs.toArray
 |_=>cs.headD undef
theorem My {m:Nat}{t:TypeId}{s:List MK}(hs:shp P m t=some s) (hc:P.cellsOf t=s.length) {xs:Array Value}{off:Nat}(hf:fits s ((xs.toList.drop off).take s.length)=true) (w:World) :
  (part t xs off).run P w=.ok (mkT P t ((xs.toList.drop off).take s.length)) w:=by
 cases m with
 |zero=>simp[shp] at hs
 |succ m =>
  simp only[shp] at hs;have plain:∀ kd,P.underlying t=some kd->(∀ n e,kd≠.array n e)->(∀ fs,kd≠.struct fs)->s.length=1->(part t xs off).run P w=.ok (mkT P t ((xs.toList.drop off).take s.length)) w:=λkd hu h1 h2 h3=>by
   have hl:=XD hf;rw[h3] at hl |-;have ah:off<xs.size:=by rw[xE,xZ] at hl;simp at hl;omega
   have e:(xs.toList.drop off).take 1=[xs[off]]:=by rw[wH (by simpa using ah)];simp
   rw[e];have:mkT P t [xs[off]]=xs[off]:=by
    unfold mkT;split
    .rename_i fs cy;rw[hu] at cy;exact absurd (osj cy) (h2 _)
    .rename_i n e cy;rw[hu] at cy;exact absurd (osj cy) (h1 _ _)
    .rfl
   rw[this];cases kd<;>first|(exact absurd rfl (h1 _ _))|(exact absurd rfl (h2 _))|simp[part,isAgg,run_underlying hu,xg ah]
  have agg:∀ kd,P.underlying t=some kd->((∃ n e,kd=.array n e)\/∃ fs,kd=.struct fs)->(part t xs off).run P w=.ok (mkT P t ((xs.toList.drop off).take s.length)) w:=λkd hu hk=>by
   obtain⟨i,hi⟩:=info_of_underlying hu;have hl:(xs.extract off (off+P.cellsOf t))=((xs.toList.drop off).take s.length).toArray:=by apply Array.toList_inj.1;rw[Array.toList_extract,hc];simp[List.extract]
   rcases hk with⟨n,e,rfl⟩|⟨fs,rfl⟩<;>simp[part,isAgg,run_underlying hu,run_sizeOf w hi,hl,mkT,hu]
  cases hu:P.underlying t with
  |none=>rw[hu] at hs;cases hs
  |some kd =>
   rw[hu] at hs;cases kd
   case bool=>obtain rfl:=osj hs;exact plain _ hu (by simp) (by simp) rfl
   case int q=>obtain rfl:=osj hs;exact plain _ hu (by simp) (by simp) rfl
   case string=>obtain rfl:=osj hs;exact plain _ hu (by simp) (by simp) rfl
   case array n e=>exact agg _ hu (.inl ⟨_,_,rfl⟩)
   case struct fs=>exact agg _ hu (.inr ⟨_,rfl⟩)
   all_goals cases hs
theorem Au {g:TypeId->Option (List MK)}{m d:Nat}(hg:g=shp P m) (ih:∀ t s,shp P m t=some s->∀ (w:World) (cs ds:List Value),fits s cs=true->fits s ds=true->(Op.equalIn (d+m) t (mkT P t cs) (mkT P t ds)).run P w=.ok (Qo cs ds) w) {xs ys:Array Value}(w:World) :
  ∀ (fs:List Field) (off:Nat) (ss:List MK),CB P g fs off=some ss->fits ss (xs.toList.drop off)=true->fits ss (ys.toList.drop off)=true->(Op.eqFields (d+m) xs ys fs).run P w=.ok (Qo (xs.toList.drop off) (ys.toList.drop off)) w
 |[],off,ss,h,h1,h2=>by simp only[CB,x6] at h;subst h;have e1:=XD h1;have e2:=XD h2;rw[List.eq_nil_of_length_eq_zero e1];simp[Op.eqFields,Qo]
 |f::r,off,ss,h,h1,h2=>by
  simp only[CB] at h;split at h
  .rename_i hn;obtain⟨hn,rfl⟩:=hn;split at h
   .rename_i s hs;split at h
    .rename_i hc;obtain⟨q,hq,rfl⟩:=zw.1 h;obtain⟨a1,a2⟩:=UB h1;obtain⟨b1,b2⟩:=UB h2;rw[List.drop_drop] at a2 b2;rw[hg] at hs;have p1:=My hs hc a1 w;have p2:=My hs hc b1 w;have p3:=ih f.type s hs w _ _ a1 b1;have hr:=Au hg ih w r (f.offset+s.length) q hq a2 b2;rw[NQ s.length _ _ (by rw[XD h1,XD h2]),List.drop_drop,List.drop_drop];simp only[Op.eqFields,hn,ne_eq,not_false_eq_true,zB,zA,p1,p2,p3,zh];cases hb:Qo (List.take s.length (List.drop f.offset xs.toList)) (List.take s.length (List.drop f.offset ys.toList)) with
     |false=>simp
     |true=>simpa using hr
    .cases h
   .cases h
  .cases h
theorem PQ {m d:Nat}{e:TypeId}{s:List MK}(hs:shp P m e=some s) (hc:P.cellsOf e=s.length) (ih:∀ (w:World) (cs ds:List Value),fits s cs=true->fits s ds=true->(Op.equalIn (d+m) e (mkT P e cs) (mkT P e ds)).run P w=.ok (Qo cs ds) w) {xs ys:Array Value}(w:World) :
  ∀ (k i:Nat),fits (List.replicate k s).flatten (xs.toList.drop (i*s.length))=true->fits (List.replicate k s).flatten (ys.toList.drop (i*s.length))=true->(Op.eqItems (d+m) e (P.cellsOf e) xs ys (List.range' i k)).run P w=.ok (Qo (xs.toList.drop (i*s.length)) (ys.toList.drop (i*s.length))) w
 |0,i,h1,h2=>by have e1:=XD h1;have e2:=XD h2;simp only[List.replicate_zero,List.flatten_nil,List.length_nil] at e1 e2;rw[List.eq_nil_of_length_eq_zero e1];simp[Op.eqItems,Qo]
 |k+1,i,h1,h2=>by
  rw[xy,List.flatten_cons] at h1 h2;obtain⟨a1,a2⟩:=UB h1;obtain⟨b1,b2⟩:=UB h2;rw[List.drop_drop,<-Nat.succ_mul] at a2 b2;have p1:=My hs hc a1 w;have p2:=My hs hc b1 w;have p3:=ih w _ _ a1 b1;have hr:=PQ hs hc ih w k (i+1) a2 b2;rw[NQ s.length _ _ (by rw[XD h1,XD h2]),List.drop_drop,List.drop_drop,<-Nat.succ_mul];rw[hc] at hr |-;simp only[List.range'_succ,Op.eqItems,zA,p1,p2,p3,zh];cases hb:Qo (List.take s.length (List.drop (i*s.length) xs.toList)) (List.take s.length (List.drop (i*s.length) ys.toList)) with
  |false=>simp
  |true=>simpa using hr
theorem UR (d:Nat):∀ (m:Nat) (t:TypeId) (s:List MK),shp P m t=some s->∀ (w:World) (cs ds:List Value),fits s cs=true->fits s ds=true->(Op.equalIn (d+m) t (mkT P t cs) (mkT P t ds)).run P w=.ok (Qo cs ds) w
 |0,t,s,h=>by simp[shp] at h
 |m+1,t,s,h=>by
  intro w cs ds h1 h2;simp only[shp] at h;have one:∀ {k:MK}{cs:List Value},fits [k] cs=true->∃ a,cs=[a]/\Eo k a=true:=λ{k cs} h=>by
   cases cs with
   |nil=>cases h
   |cons a l =>
    cases l with
    |nil=>exact⟨a,rfl,by simpa [fits] using h⟩
    |cons b l=>simp[fits] at h
  cases hu:P.underlying t with
  |none=>rw[hu] at h;cases h
  |some kd =>
   rw[hu] at h;cases kd
   case bool =>
    obtain rfl:=osj h;obtain⟨a,rfl,ha⟩:=one h1;obtain⟨b,rfl,hb⟩:=one h2;cases a<;>first|(cases ha;done)|skip
    cases b<;>first|(cases hb;done)|skip
    simp only[mkT,hu,List.headD_cons,Qo,Kq,xO];exact run_equalIn_bool' w (d+m) t _ _ hu
   case int q =>
    obtain rfl:=osj h;obtain⟨a,rfl,ha⟩:=one h1;obtain⟨b,rfl,hb⟩:=one h2;cases a<;>first|(cases ha;done)|skip
    cases b<;>first|(cases hb;done)|skip
    simp only[Eo,zm] at ha hb;subst ha;subst hb;simp only[mkT,hu,List.headD_cons,Qo,Kq,xO];exact run_equalIn_int w (d+m) t _ _ _ _ hu
   case string =>
    obtain rfl:=osj h;obtain⟨a,rfl,ha⟩:=one h1;obtain⟨b,rfl,hb⟩:=one h2;cases a<;>first|(cases ha;done)|skip
    cases b<;>first|(cases hb;done)|skip
    simp only[mkT,hu,List.headD_cons,Qo,Kq,xO];rw[<-ByteArray.toList_eq,<-ByteArray.toList_eq];exact run_equalIn_string w (d+m) t _ _ hu
   case array n e =>
    simp only at h;split at h
    .rename_i s' aY;split at h
     .rename_i hc;obtain rfl:=osj h;obtain⟨i,hi⟩:∃ i,P.info? e=some i:=by
       cases m with
       |zero=>simp[shp] at aY
       |succ m =>
        simp only[shp] at aY;cases jM:P.underlying e with
        |none=>rw[jM] at aY;cases aY
        |some _=>exact info_of_underlying jM
      simp only[mkT,hu];rw[show d+(m+1)=(d+m)+1 from rfl,run_equalIn_array w (d+m) _ _ hu hi,List.range_eq_range'];have:=PQ (d:=d) aY hc (UR d m e s' aY) (xs:=cs.toArray) (ys:=ds.toArray) w n 0 (by simpa using h1) (by simpa using h2);simpa using this
     .cases h
    .cases h
   case struct fs =>
    simp only at h;split at h
    .cases h
    .rename_i a_;have jo:P.fieldsOf t=fs:=by simp[Program.fieldsOf,hu]
     simp only[mkT,hu];rw[show d+(m+1)=(d+m)+1 from rfl,run_equalIn_struct w (d+m) t _ _ (by rw[jo];exact hu) (by simpa using a_),jo];have:=Au (d:=d) rfl (UR d m) (xs:=cs.toArray) (ys:=ds.toArray) w fs.toList 0 s h (by simpa using h1) (by simpa using h2);simpa using this
   all_goals cases h
theorem HA {n:Nat}:∀ {s:List MK}{l m:List Value},fits s l=true->LRel ρ n l m->m=l
 |[],[],m,_,hr=>by have:=hr.1;cases m with|nil=>rfl|cons=>simp at this
 |k::s,v::l,[],_,hr=>by have:=hr.1;simp at this
 |k::s,v::l,c::m,h,hr=>by
  simp only[fits,z6] at h;have h0:=hr.2 0 v c rfl rfl;have e:c=v:=by cases k<;>cases v<;>first|(cases h.1;done)|(cases h0;rfl)
  have jS:LRel ρ n l m:=⟨by have:=hr.1;simpa using this,λi a b ha hb=>hr.2 (i+1) a b (by simpa using ha) (by simpa using hb)⟩;rw[e,HA h.2 jS]
 |[],_::_,_,h,_=>by cases h
 |_::_,[],_,h,_=>by cases h
def Q1y (P:Program) (t:TypeId):MK->TypeDesc->Prop
 |.int k,d=>d=.int k
 |.string,d=>d=.string
 |.bool,d=>d=.bool
 |.agg s,d=>shp P 8 t=some s/\((∃ fs,d=.struct fs)\/∃ n e,d=.array n e)
theorem NK {t:TypeId}{mk:MK}(h:SJ P t=some mk):∃ d,P.underlying t=some d/\Q1y P t mk d:=by
 unfold SJ at h;split at h
 .rename_i k hk;simp at h;subst h;exact⟨_,hk,rfl⟩
 .rename_i hk;simp at h;subst h;exact⟨_,hk,rfl⟩
 .rename_i hk;simp at h;subst h;exact⟨_,hk,rfl⟩
 .rename_i fs hk;obtain⟨s,hs,rfl⟩:=zw.1 h;exact⟨_,hk,hs,.inl ⟨fs,rfl⟩⟩
 .rename_i n e hk;obtain⟨s,hs,rfl⟩:=zw.1 h;exact⟨_,hk,hs,.inr ⟨n,e,rfl⟩⟩
 .cases h
theorem YV {n:Nat}{v c:Value}(h:QN v=true) (hv:VRel ρ n v c):c=v:=by cases hv<;>first|rfl|(simp[QN,poison] at h)
theorem Tc {mk:MK}{k c:Value}{n:Nat}(h:Zn mk k=true) (hv:VRel ρ n k c):c=k:=by
 unfold Zn at h;split at h<;>first|(cases h;done)|(exact YV rfl hv)|skip
 obtain⟨ds,rfl,hl⟩:=hv.q1j;have:=HA h hl;congr 1;exact Array.toList_inj.1 this
def MK.plain:MK->Bool
 |.agg _=>false
 |_=>true
theorem F6 {mk:MK}(hp:mk.plain=true) {t:TypeId}{d:TypeDesc}(hd:Q1y P t mk d) {a b:Value}(ha:Zn mk a=true) (hb:Zn mk b=true):Instr.sameNow d a b=some (XF a b):=by
 cases mk
 case agg=>cases hp
 all_goals
  cases a<;>first|(cases ha;done)|skip
  cases b<;>first|(cases hb;done)|skip
  simp only[Q1y] at hd;subst hd
 .simp[Zn] at ha hb;subst ha;subst hb;simp[Instr.sameNow,XF]
 .simp[Instr.sameNow,XF,beq_toListBytes,ByteArray.toList_eq]
 .simp[Instr.sameNow,XF]
theorem TY:∀ {s:List MK}{l m:List Value},fits s l=true->fits s m=true->Qo l m=true->((m.zip l).all λp=>Instr.sameBits 9999 p.1 p.2)=true
 |[],[],[],_,_,_=>rfl
 |k::s,a::l,b::m,h1,h2,h3=>by
  simp only[fits,Qo,z6] at h1 h2 h3;simp only[List.zip_cons_cons,zW,z6];refine⟨?_,TY h1.2 h2.2 h3.2⟩;obtain⟨h1,_⟩:=h1;obtain⟨h2,_⟩:=h2;obtain⟨h3,_⟩:=h3;cases k<;>cases a<;>first|(cases h1;done)|(cases b<;>first|(cases h2;done)|skip)
  .simp only[Eo,zm] at h1 h2;subst h1;subst h2;simp only[Kq,zT] at h3;subst h3;simp[Instr.sameBits]
  .simp only[Kq,zT] at h3;simp[Instr.sameBits,beq_toListBytes,ByteArray.toList_eq,h3]
  .simp only[Kq,zT] at h3;subst h3;simp[Instr.sameBits]
 |[],_::_,_,h,_,_=>by cases h
 |[],[],_::_,_,h,_=>by cases h
 |_::_,[],_,h,_,_=>by cases h
 |_::_,_::_,[],_,h,_=>by cases h
theorem GF {mk:MK}{a b:Value}(ha:Zn mk a=true) (hb:Zn mk b=true) (h:XF a b=true):Instr.sameBits 10000 b a=true:=by
 cases mk
 case agg s =>
  cases a<;>first|(cases ha;done)|skip
  cases b<;>first|(cases hb;done)|skip
  rename_i x y;simp only[Zn] at ha hb;simp only[XF] at h;simp only[Instr.sameBits,z6,zT];have h1:=XD ha;have h2:=XD hb;exact⟨by simp at h1 h2;omega,TY ha hb h⟩
 all_goals
  cases a<;>first|(cases ha;done)|skip
  cases b<;>first|(cases hb;done)|skip
 .simp[Zn] at ha hb;subst ha;subst hb;simp[XF] at h;subst h;simp[Instr.sameBits]
 .simp[XF] at h;simp[Instr.sameBits,beq_toListBytes,ByteArray.toList_eq,h]
 .simp[XF] at h;simp[Instr.sameBits,h]
theorem K5 {t:TypeId}{d:TypeDesc}(hd:P.underlying t=some d) {a:Value}(hm:(∃ k,d=.int k)\/d=.string\/d=.bool) (e:Bool) (n:Nat) (w':World):(Instr.checkKey e (n+1) t a).run P w'=.ok () w':=by simp only[Instr.checkKey,zA,Q0 hd,zh];rcases hm with⟨k,rfl⟩|rfl|rfl<;>rfl
theorem Ag {e:Bool}{g:TypeId->Option (List MK)}{m d:Nat}(hg:g=shp P m) (ih:∀ t s,shp P m t=some s->∀ (w:World) (cs:List Value),fits s cs=true->(Instr.checkKey e (d+m) t (mkT P t cs)).run P w=.ok () w) {xs:Array Value}(w:World) :
  ∀ (fs:List Field) (off:Nat) (ss:List MK),CB P g fs off=some ss->fits ss (xs.toList.drop off)=true->(forIn fs PUnit.unit λf (_:PUnit)=>(do
   if f.name≠"_" then Instr.checkKey e (d+m) f.type (<-part f.type xs f.offset)
   pure (ForInStep.yield PUnit.unit):Sem (ForInStep PUnit))).run P w=.ok PUnit.unit w
 |[],off,ss,h,h1=>by simp
 |f::r,off,ss,h,h1=>by
  simp only[CB] at h;split at h
  .rename_i hn;obtain⟨hn,rfl⟩:=hn;split at h
   .rename_i s hs;split at h
    .rename_i hc;obtain⟨q,hq,rfl⟩:=zw.1 h;obtain⟨a1,a2⟩:=UB h1;rw[List.drop_drop] at a2;rw[hg] at hs;have p1:=My hs hc a1 w;have p3:=ih f.type s hs w _ a1;have hr:=Ag hg ih w r (f.offset+s.length) q hq a2;simp only[List.forIn_cons,zA,hn,ne_eq,not_false_eq_true,zB,zh,p1,p3,xe];exact hr
    .cases h
   .cases h
  .cases h
theorem P6 (e:Bool) (d:Nat):∀ (m:Nat) (t:TypeId) (s:List MK),shp P m t=some s->∀ (w:World) (cs:List Value),fits s cs=true->(Instr.checkKey e (d+m) t (mkT P t cs)).run P w=.ok () w
 |0,t,s,h=>by simp[shp] at h
 |m+1,t,s,h=>by
  intro w cs h1;simp only[shp] at h;cases hu:P.underlying t with
  |none=>rw[hu] at h;cases h
  |some kd =>
   rw[hu] at h;cases kd
   case bool=>rw[show d+(m+1)=(d+m)+1 from rfl];exact K5 hu (by simp) e (d+m) w
   case int q=>rw[show d+(m+1)=(d+m)+1 from rfl];exact K5 hu (by simp) e (d+m) w
   case string=>rw[show d+(m+1)=(d+m)+1 from rfl];exact K5 hu (by simp) e (d+m) w
   case array n el =>
    simp only at h;split at h
    .rename_i s' aY;split at h
     .rename_i hc;obtain rfl:=osj h;obtain⟨i,hi⟩:∃ i,P.info? el=some i:=by
       cases m with
       |zero=>simp[shp] at aY
       |succ m =>
        simp only[shp] at aY;cases jM:P.underlying el with
        |none=>rw[jM] at aY;cases aY
        |some _=>exact info_of_underlying jM
      simp only[mkT,hu];rw[show d+(m+1)=(d+m)+1 from rfl,Instr.checkKey];simp only[zA,run_underlying hu,zh];simp only[Std.Legacy.Range.forIn_eq_forIn_range',Std.Legacy.Range.size,Nat.sub_zero,Nat.add_one_sub_one,Nat.div_one]
      have key:∀ (k i:Nat),fits (List.replicate k s').flatten (cs.drop (i*s'.length))=true->(forIn (List.range' i k) PUnit.unit λi (_:PUnit)=>(do
        Instr.checkKey e (d+m) el (<-part el cs.toArray (i*(<-sizeOf el)))
        pure (ForInStep.yield PUnit.unit):Sem (ForInStep PUnit))).run P w=.ok PUnit.unit w:=by
       intro k;induction k with
       |zero=>intro i _;simp
       |succ k tG =>intro i hf;rw[xy,List.flatten_cons] at hf;obtain⟨a1,a2⟩:=UB hf;rw[List.drop_drop,<-Nat.succ_mul] at a2;have p1:=My (xs:=cs.toArray) (off:=i*s'.length) aY hc (by simpa using a1) w;have p2:=P6 e d m el s' aY w _ a1;have hr:=tG (i+1) a2;simp only[List.range'_succ,List.forIn_cons,zA,run_sizeOf w hi,hc,zh,p1,p2,xe];exact hr
      have:=key n 0 (by simpa using h1);simp at this |-;rw[this];rfl
     .cases h
    .cases h
   case struct fs =>
    simp only at h;split at h
    .cases h
    .simp only[mkT,hu];rw[show d+(m+1)=(d+m)+1 from rfl,Instr.checkKey];simp only[zA,run_underlying hu,zh];rw[<-Array.forIn_toList];have:=Ag (e:=e) (d:=d) rfl (P6 e d m) (xs:=cs.toArray) w fs.toList 0 s h (by simpa using h1);simp at this |-;rw[this];rfl
   all_goals cases h
theorem C9 {t:TypeId}{d:TypeDesc}(hd:P.underlying t=some d) (hk:(∃ fs,d=.struct fs)\/∃ n e,d=.array n e) (a:Array Value):mkT P t a.toList=.agg a:=by unfold mkT;rcases hk with⟨fs,rfl⟩|⟨n,e,rfl⟩<;>simp[hd]
theorem Zp {mk:MK}{t:TypeId}{d:TypeDesc}(hd:P.underlying t=some d) (hm:Q1y P t mk d) {a:Value}(ha:Zn mk a=true) (e:Bool) (w':World):(Instr.checkKey e 10000 t a).run P w'=.ok () w':=by
 cases mk
 case agg s =>
  cases a<;>first|(cases ha;done)|skip
  rename_i x;have:=P6 (P:=P) e 9992 8 t s hm.1 w' x.toList ha;rw[C9 hd hm.2] at this;exact this
 all_goals (cases a<;>first|(cases ha;done)|(simp only[Q1y] at hm;subst hm;exact K5 hd (by simp) e 9999 w'))
theorem Er {mk:MK}(hp:mk.plain=true) {t:TypeId}{d:TypeDesc}(hd:Q1y P t mk d) {k:Value}(hk:Zn mk k=true) (nv:Value) (c:Nat) {n:Nat}:∀ (es:List JD) (E:List MapEntry) (i:Nat),LERel ρ n E es->es.all (λe=>Zn mk e.1)=true ->
  (Qj k es=none/\Instr.findNow d k E i=some none/\Qu k nv c es=(es++[(k,nv,c)],c+1)) \/
  (∃ j e e',Qj k es=some e/\es[j]?=some e/\E[j]?=some e'/\Instr.findNow d k E i=some (some (i+j,e'.val))/\XF k e.1=true/\Qu k nv c es=(es.set j (k,nv,e.2.2),c)):=by
 intro es;induction es with
 |nil =>
  intro E i hE _;have:E=[]:=by have:=hE.1;simpa using this
  subst this;exact .inl ⟨rfl,rfl,rfl⟩
 |cons kv es ih =>
  intro E i hE ae;obtain⟨e,E',rfl,he,b7⟩:=hE.cons_inv;simp only[zW,z6] at ae;have hs:Instr.sameNow d k e.key=some (XF k kv.1):=by rw[he.1];exact F6 hp hd hk ae.1
  cases hq:XF k kv.1 with
  |true =>refine .inr ⟨0,kv,e,by simp[Qj,hq],rfl,rfl,?_,hq,by simp[Qu,hq]⟩;simp[Instr.findNow,hs,hq]
  |false =>
   rcases ih E' (i+1) b7 ae.2 with⟨h1,h2,h3⟩|⟨j,a,a',h1,h2,h3,h4,h5,h6⟩
   .refine .inl ⟨by simp[Qj,hq,h1],by simp[Instr.findNow,hs,hq,h2],by simp[Qu,hq,h3]⟩
   .refine .inr ⟨j+1,a,a',by simp[Qj,hq,h1],by simpa using h2,by simpa using h3,?_,h5,by simp[Qu,hq,h6]⟩;simp[Instr.findNow,hs,hq,h4];omega
theorem GP {t:TypeId}{d:TypeDesc}(hd:P.underlying t=some d) {k:Value}{E:List MapEntry}{r:Option (Nat×Value)}(h:Instr.findNow d k E 0=some r) (w':World):(Instr.findKey t k E).run P w'=.ok r w':=by simp[Instr.findKey,Q0 hd,h]
theorem F7 {s:List MK}{t:TypeId}{d:TypeDesc}(hu:P.underlying t=some d) (hd:Q1y P t (.agg s) d) {k:Value}(hk:Zn (.agg s) k=true) (nv:Value) (c:Nat) {n:Nat}:∀ (es:List JD) (E:List MapEntry) (i:Nat),LERel ρ n E es->es.all (λe=>Zn (.agg s) e.1)=true ->
  (Qj k es=none/\(∀ w',(Instr.findAsking t k E i).run P w'=.ok none w')/\Qu k nv c es=(es++[(k,nv,c)],c+1)) \/
  (∃ j e e',Qj k es=some e/\es[j]?=some e/\E[j]?=some e'/\(∀ w',(Instr.findAsking t k E i).run P w'=.ok (some (i+j,e'.val)) w')/\XF k e.1=true/\Qu k nv c es=(es.set j (k,nv,e.2.2),c)):=by
 intro es;induction es with
 |nil =>
  intro E i hE _;have:E=[]:=by have:=hE.1;simpa using this
  subst this;exact .inl ⟨rfl,λw'=>by simp[Instr.findAsking],rfl⟩
 |cons kv es ih =>
  intro E i hE ae;obtain⟨e,E',rfl,he,b7⟩:=hE.cons_inv;simp only[zW,z6] at ae;have hs:∀ w',(Op.equal t k e.key).run P w'=.ok (XF k kv.1) w':=λw'=>by
   rw[he.1];have h1:=ae.1;cases k<;>first|(cases hk;done)|skip
   rename_i x;generalize dC:kv.1=y at h1 |-;cases y<;>first|(cases h1;done)|skip
   rename_i y;have:=UR 9992 8 t s hd.1 w' x.toList y.toList hk h1;rw[C9 hu hd.2,C9 hu hd.2] at this;exact this
  cases hq:XF k kv.1 with
  |true =>refine .inr ⟨0,kv,e,by simp[Qj,hq],rfl,rfl,λw'=>?_,hq,by simp[Qu,hq]⟩;simp[Instr.findAsking,hs,hq]
  |false =>
   rcases ih E' (i+1) b7 ae.2 with⟨h1,h2,h3⟩|⟨j,a,a',h1,h2,h3,h4,h5,h6⟩
   .refine .inl ⟨by simp[Qj,hq,h1],λw'=>by simp[Instr.findAsking,hs,hq,h2],by simp[Qu,hq,h3]⟩
   .refine .inr ⟨j+1,a,a',by simp[Qj,hq,h1],by simpa using h2,by simpa using h3,λw'=>?_,h5,by simp[Qu,hq,h6]⟩;simp[Instr.findAsking,hs,hq,h4];omega
theorem Ct {t:TypeId}{s:List MK}{d:TypeDesc}(hd:Q1y P t (.agg s) d) {k:Value}{e:MapEntry}{E:List MapEntry}{i:Nat}:Instr.findNow d k (e::E) i=none:=by rcases hd.2 with⟨fs,rfl⟩|⟨n,el,rfl⟩<;>simp[Instr.findNow,Instr.sameNow]
theorem K8 {mk:MK}{t:TypeId}{d:TypeDesc}(hu:P.underlying t=some d) (hd:Q1y P t mk d) {k:Value}(hk:Zn mk k=true) (nv:Value) (c:Nat) {n:Nat}(es:List JD) (E:List MapEntry) (hE:LERel ρ n E es) (ae:es.all (λe=>Zn mk e.1)=true) :
  (Qj k es=none/\(∀ w',(Instr.findKey t k E).run P w'=.ok none w')/\Qu k nv c es=(es++[(k,nv,c)],c+1)) \/
  (∃ j e e',Qj k es=some e/\es[j]?=some e/\E[j]?=some e'/\(∀ w',(Instr.findKey t k E).run P w'=.ok (some (0+j,e'.val)) w')/\XF k e.1=true/\Qu k nv c es=(es.set j (k,nv,e.2.2),c)):=by
 cases hp:mk.plain with
 |true =>
  rcases Er hp hd hk nv c es E 0 hE ae with⟨h1,h2,h3⟩|⟨j,a,a',h1,h2,h3,h4,h5,h6⟩
  .exact .inl ⟨h1,GP hu h2,h3⟩
  .exact .inr ⟨j,a,a',h1,h2,h3,GP hu h4,h5,h6⟩
 |false =>
  cases mk with
  |agg s =>
   have e1:∀ w',(Instr.findKey t k E).run P w'=(Instr.findAsking t k E 0).run P w':=λw'=>by
    cases E with
    |nil=>simp[Instr.findKey,Q0 hu,Instr.findNow,Instr.findAsking]
    |cons e E=>simp[Instr.findKey,Q0 hu,Ct hd]
   rcases F7 hu hd hk nv c es E 0 hE ae with⟨h1,h2,h3⟩|⟨j,a,a',h1,h2,h3,h4,h5,h6⟩
   .exact .inl ⟨h1,λw'=>by rw[e1];exact h2 w',h3⟩
   .exact .inr ⟨j,a,a',h1,h2,h3,λw'=>by rw[e1];exact h4 w',h5,h6⟩
  |_=>cases hp
theorem Xq {m:Nat}{es:List JD}{clock:Nat}{wr:Bool}(h:M.mapAt m=some (es,clock,wr)):M.get m=some (.obj (.map es clock) wr):=by
 unfold Heap.mapAt at h;split at h
 .rename_i he;simp at h;obtain⟨rfl,rfl,rfl⟩:=h;exact he
 .cases h
theorem Xz (hH:HRel ρ M w) {m:Nat}{es:List JD}{clock:Nat}{wr:Bool}(h:M.mapAt m=some (es,clock,wr)) {c:Value}(hv:VRel ρ M.n (.map (some m)) c) :
  ∃ p entries,c=.map (some p.blk)/\ρ m=some p/\w.heap[p.blk]?=some (.map entries clock)/\LERel ρ M.n entries.toList es:=by
 obtain⟨p,hp,_,O,h1,h2⟩:=hH.live m _ (Xq h);obtain⟨entries,rfl,h3⟩:=ORel.q0r.1 h2;obtain⟨r,rfl,_,hr⟩:=hv.q1g;exact⟨p,entries,by rw[hr p hp],hp,h1,h3⟩
theorem Qw {w':World}{r:Nat}{O:Obj}(h:w'.heap[r]?=some O) (hc:∀ c e f,O≠.cells c e f):(getObj r).run P w'=.ok O w':=by cases O<;>first|(exact absurd rfl (hc _ _ _))|simp[getObj,Sem.run,h]
theorem QQ {w':World}{r:Nat}{O O':Obj}(h:w'.heap[r]?=some O) (hc:∀ c e f,O≠.cells c e f):(setObj r O').run P w'=.ok () (HM w' r O'):=by cases O<;>first|(exact absurd rfl (hc _ _ _))|simp[setObj,Sem.run,h,HM]
theorem TV {xs:List Value}{s:ByteArray}(h:H4 xs=some s):∃ ns:List Int,xs=ns.map (Value.int .u8)/\s=⟨(ns.map λn=>n.toNat.toUInt8).toArray⟩:=by
 unfold H4 at h;rw[zw] at h;obtain⟨bs,h1,rfl⟩:=h;have key:∀ (xs:List Value) (bs:List UInt8),xs.mapM Cl=some bs->∃ ns:List Int,xs=ns.map (Value.int .u8)/\bs=ns.map λn=>n.toNat.toUInt8:=by
  intro xs;induction xs with
  |nil=>intro bs h;simp at h;subst h;exact⟨[],rfl,rfl⟩
  |cons x xs ih =>
   intro bs h;rw[xp] at h;cases hx:Cl x with
   |none=>simp[hx] at h
   |some b =>
    cases hm:xs.mapM Cl with
    |none=>simp[hx,hm] at h
    |some vP =>
     simp[hx,hm] at h;obtain⟨ns,h1,h2⟩:=ih _ hm;unfold Cl at hx;split at hx
     .rename_i n;simp at hx;exact⟨n::ns,by simp[h1],by rw[<-h,h2,<-hx];rfl⟩
     .cases hx
 obtain⟨ns,h2,h3⟩:=key xs bs h1;exact⟨ns,h2,by rw[h3]⟩
theorem Q12 {n:Nat}{ns:List Int}{us:List Value}(h:LRel ρ n (ns.map (Value.int .u8)) us):us=ns.map (Value.int .u8):=by
 apply zV;intro i;cases hi:(ns.map (Value.int .u8))[i]? with
 |none =>have h1:(ns.map (Value.int .u8)).length<=i:=List.getElem?_eq_none_iff.1 hi;exact List.getElem?_eq_none_iff.2 (by rw[<-h.1];exact h1)
 |some v =>
  obtain⟨c,hc,hv⟩:=h.get hi;rw[hc];rw[zU] at hi;cases hn:ns[i]? with
  |none=>rw[hn] at hi;cases hi
  |some x=>rw[hn] at hi;obtain rfl:=osj hi;rw[hv.q0h]
theorem Fa (ns:List Int):∀ (acc:ByteArray),ns.foldl (λr n=>r.push (UInt8.ofNat n.toNat)) acc=⟨acc.data++(ns.map λn=>n.toNat.toUInt8).toArray⟩:=by
 induction ns with
 |nil=>intro acc;simp
 |cons n ns ih =>intro acc;rw[w5,ih];apply ByteArray.ext;simp[ByteArray.push]
theorem Q18 {n:Nat}(b:Nat):∀ (es:List JD) (E:List MapEntry),LERel ρ n E es->∀ e,es.find? (λe=>e.2.2==b)=some e->∃ e',E.find? (λx=>x.born==b)=some e'/\Z16 ρ n e' e:=by
 intro es;induction es with
 |nil=>intro E _ e h;simp at h
 |cons kv es ih =>
  intro E hE e h;obtain⟨x,E',rfl,hx,b7⟩:=hE.cons_inv;cases hb:kv.2.2==b with
  |true =>simp only[List.find?_cons,hb] at h;obtain rfl:=osj h;exact⟨x,by simp only[List.find?_cons,hx.2.1,hb],hx⟩
  |false =>simp only[List.find?_cons,hb] at h;obtain⟨e',h1,h2⟩:=ih E' b7 e h;exact⟨e',by simp only[List.find?_cons,hx.2.1,hb];exact h1,h2⟩
theorem Ej {u:TypeId}(hc:P.cellsOf u≠0) (n off:Nat) (h0:off=0) (hn:P.cellsOf u<=n):liesAt P P.depth u (n / P.cellsOf u) off u 1=true:=by have hd:P.depth=(2*(P.types.size+Made.depth)+1)+1:=rfl;have h1:1<=n / P.cellsOf u:=(Nat.one_le_div_iff (by omega)).2 hn;subst h0;rw[hd];simp only[liesAt,zy];left;rw[hd];simp[rowAt,hc,sameLayout,h1]
set_option maxHeartbeats 1000000 in
theorem LV {o:Oper}{xo:XOp}(hc:Te P o.op=some xo) (hq:xo.quiet=true) (hH:HRel ρ M w) (hE:∀ x,X8 x=true->VRel ρ M.n (Q3 env x) (ev x))
  (h:Zg xo (Q3 env) M=some (v,M')):M'=M/\SY P ρ M w v (execOp ev o):=by
 obtain⟨dst,op,ty,pos,after,guard⟩:=o;simp only at hc;unfold Te at hc;split at hc
 .cases hc
 rename_i ai;simp only[xC,xm] at ai;cases op<;>simp only[Op.operands] at ai hc
 case binOp jK t x y yt =>
  simp at ai;have hx:=hE x ai.1;have hy:=hE y ai.2
  have key:∀ (kd:Nat) (neg:Bool),jK=(if neg then .neq else .eql)->((kd=0/\∃ e i,P.underlying t=some (.pointer e)/\P.info? e=some i)\/(kd=1/\∃ e,P.underlying t=some (.slice e)) \/
   (kd=2/\∃ k e,P.underlying t=some (.map k e))\/(kd=3/\∃ p q s,P.underlying t=some (.func p q s)))->xo=.eqNil kd neg x y->M'=M/\SY P ρ M w v (execOp ev ⟨dst,.binOp jK t x y yt,ty,pos,after,guard⟩):=by
   intro kd neg lU hk mX;subst mX;simp only[Zg] at h;split at h
   .rename_i r hs;simp at h;obtain⟨rfl,rfl⟩:=h;obtain⟨h1,h2⟩:=ES hH hk hx hy hs;rw[lU];exact⟨rfl,CV neg t x y yt ty pos after dst guard rfl rfl (λop w'=>Sk op t x y h2 w') (h1 neg)⟩
   .cases h
  have jT:∀ (neg:Bool),jK=(if neg then .neq else .eql)->((∃ fs,P.underlying t=some (.struct fs))\/∃ n e,P.underlying t=some (.array n e))->Tl P neg t x y=some xo->M'=M/\SY P ρ M w v (execOp ev ⟨dst,.binOp jK t x y yt,ty,pos,after,guard⟩):=by
   intro neg lU hk mX;unfold Tl at mX;split at mX
   .cases mX
   .rename_i qk;obtain⟨s,hs,rfl⟩:=zw.1 mX;simp only[Zg] at h;split at h
    .rename_i a b ha hb;split at h
     .rename_i fH;simp at h;obtain⟨rfl,rfl⟩:=h;rw[ha] at hx;rw[hb] at hy;obtain⟨ca,tH,nK⟩:=hx.q1j;obtain⟨cb,tI,mY⟩:=hy.q1j;have ea:=HA fH.1 nK;have eb:=HA fH.2 mY;have e1:mkT P t a.toList=.agg a:=by
       unfold mkT;rcases hk with⟨fs,hu⟩|⟨n,e,hu⟩<;>simp[hu]
      have e2:mkT P t b.toList=.agg b:=by unfold mkT;rcases hk with⟨fs,hu⟩|⟨n,e,hu⟩<;>simp[hu]
      have aT:=λw'=>UR 9992 8 t s hs w' a.toList b.toList fH.1 fH.2;rw[e1,e2] at aT;have tJ:ev x=.agg a:=by rw[tH];congr 1;rw[<-Array.toList_inj];simpa using ea
      have tK:ev y=.agg b:=by rw[tI];congr 1;rw[<-Array.toList_inj];simpa using eb
      rw[lU];refine⟨rfl,CV neg t x y yt ty pos after dst guard tJ tK (λop w'=>run_eqGuard_agg w' op t x y a b (by simpa using qk)) (λw'=>?_)⟩;have hr:=aT w';cases neg
      .simp only[zC,if_false];rw[run_eql_struct w' t a b,show (10000:Nat)=9992+8 from rfl,hr];rfl
      .simp only[zB];rw[run_neq_struct w' t a b,show (10000:Nat)=9992+8 from rfl,hr];rfl
     .cases h
    .cases h
  split at hc
  .rename_i e hu;cases hi:P.info? e with
   |none=>simp[hi] at hc
   |some i =>simp[hi] at hc;exact key 0 false rfl (.inl ⟨rfl,e,i,hu,hi⟩) hc.2.symm
  .rename_i e hu;cases hi:P.info? e with
   |none=>simp[hi] at hc
   |some i =>simp[hi] at hc;exact key 0 true rfl (.inl ⟨rfl,e,i,hu,hi⟩) hc.2.symm
  .rename_i e hu;simp at hc;exact key 1 false rfl (.inr (.inl ⟨rfl,e,hu⟩)) hc.symm
  .rename_i k e hu;simp at hc;exact key 2 false rfl (.inr (.inr (.inl ⟨rfl,k,e,hu⟩))) hc.symm
  .rename_i p q r hu;simp at hc;exact key 3 false rfl (.inr (.inr (.inr ⟨rfl,p,q,r,hu⟩))) hc.symm
  .rename_i e hu;simp at hc;exact key 1 true rfl (.inr (.inl ⟨rfl,e,hu⟩)) hc.symm
  .rename_i k e hu;simp at hc;exact key 2 true rfl (.inr (.inr (.inl ⟨rfl,k,e,hu⟩))) hc.symm
  .rename_i p q r hu;simp at hc;exact key 3 true rfl (.inr (.inr (.inr ⟨rfl,p,q,r,hu⟩))) hc.symm
  .rename_i fs hu;exact jT false rfl (.inl ⟨fs,hu⟩) hc
  .rename_i fs hu;exact jT true rfl (.inl ⟨fs,hu⟩) hc
  .rename_i n e hu;exact jT false rfl (.inr ⟨n,e,hu⟩) hc
  .rename_i n e hu;exact jT true rfl (.inr ⟨n,e,hu⟩) hc
  .cases hc
 case makeMap t r=>cases r<;>simp at hc;subst hc;cases hq
 case mapUpdate t m k x =>
  split at hc
  .rename_i kt e hu;cases hk:SJ P kt with
   |none=>simp[hk] at hc
   |some mk=>simp[hk] at hc;subst hc;cases hq
  .cases hc
 case insert t m k x =>
  split at hc
  .rename_i kt e hu;cases hk:SJ P kt with
   |none=>simp[hk] at hc
   |some mk=>simp[hk] at hc;subst hc;cases hq
  .cases hc
 case mapEntry t m k =>
  split at hc
  .rename_i kt e hu;cases hk:SJ P kt with
   |none=>simp[hk] at hc
   |some mk =>
    cases cf:P.info? e with
    |none=>simp[hk,cf] at hc
    |some inf =>
     cases hz:inf.zero with
     |none=>simp[hk,cf,hz] at hc
     |some z=>simp[hk,cf,hz] at hc;obtain⟨_,rfl⟩:=hc;cases hq
  .cases hc
 case entryStore t m s x=>simp at hc;subst hc;cases hq
 case range t x =>
  split at hc
  .simp at hc;subst hc;cases hq
  .cases hc
 case next x b=>cases b<;>simp at hc;subst hc;cases hq
 case lookup t x i ju =>
  simp at ai;have hx:=hE x ai.1;have hi:=hE i ai.2;split at hc
  .rename_i kt e hu;cases hk:SJ P kt with
   |none=>simp[hk] at hc
   |some mk =>
    cases cf:P.info? e with
    |none=>simp[hk,cf] at hc
    |some inf =>
     cases hz:inf.zero with
     |none=>simp[hk,cf,hz] at hc
     |some z =>
      simp[hk,cf,hz] at hc;obtain⟨lW,rfl⟩:=hc;obtain⟨d,hd,eD⟩:=NK hk;have kQ:∀ w',(zeroValue e).run P w'=.ok z w':=λw'=>Z2 cf hz w';have eu:VRel ρ M.n z z:=Ug lW;simp only[Zg] at h;split at h
      .rename_i bR;have qo:ev i=Q3 env i:=Tc bR hi;split at h
       .rename_i bp;rw[bp] at hx;obtain cC:=hx.q0u;simp at h;obtain⟨rfl,rfl⟩:=h;refine⟨rfl,if ju then .tuple #[z,.bool false] else z,?_,λw' _=>?_⟩
        .cases ju
         .exact eu
         .exact VRel.q0j (LRel.cons eu (LRel.cons (.bool _) (LRel.nil _ _)))
        .simp only[execOp];simp only[Instr.lookup,zA,Q0 hu,zh,cC,xe,qo,Zp hd eD bR];rw[GP hd (r:=none) rfl];cases ju<;>simp[kQ]
       .rename_i m bp;rw[bp] at hx;split at h
        .rename_i es clock wr aH;split at h
         .rename_i ae;obtain⟨p,entries,cC,hp,aC,aI⟩:=Xz hH aH hx;have aT:∀ w',Like ρ w w'->(getObj p.blk).run P w'=.ok (.map entries clock) w':=λw' hl =>
           Qw (by rw[hl.blk m p hp];exact aC) (λ_ _ _ e=>by cases e)
          rcases K8 hd eD bR (.bool true) 0 es entries.toList aI ae with⟨h1,h2,_⟩|⟨j,a,a',h1,h2,h3,h4,_,_⟩
          .rw[h1] at h;simp at h;obtain⟨rfl,rfl⟩:=h;refine⟨rfl,if ju then .tuple #[z,.bool false] else z,?_,λw' hl=>?_⟩
           .cases ju
            .exact eu
            .exact VRel.q0j (LRel.cons eu (LRel.cons (.bool _) (LRel.nil _ _)))
           .simp only[execOp];simp only[Instr.lookup,zA,Q0 hu,zh,cC,aT w' hl,xe,qo,Zp hd eD bR];rw[h2];cases ju<;>simp[kQ]
          .rw[h1] at h;simp at h;obtain⟨rfl,rfl⟩:=h;have nL:=(aI.2 j a' a h3 h2).2.2;refine⟨rfl,if ju then .tuple #[a'.val,.bool true] else a'.val,?_,λw' hl=>?_⟩
           .cases ju
            .exact nL
            .exact VRel.q0j (LRel.cons nL (LRel.cons (.bool _) (LRel.nil _ _)))
           .simp only[execOp];simp only[Instr.lookup,zA,Q0 hu,zh,cC,aT w' hl,xe,qo,Zp hd eD bR];rw[h4];cases ju<;>simp
         .cases h
        .cases h
       .cases h
      .cases h
  .cases hc
 case entry x =>
  simp at ai;have hx:=hE x ai;simp at hc;subst hc;simp only[Zg] at h;split at h
  .rename_i i bp;rw[bp] at hx;split at h
   .rename_i m since seen last wr hb;split at h
    .rename_i es clock kT b aH dV;split at h
     .rename_i b9;split at h
      .rename_i e df;split at h
       rotate_left
       .cases h
       rename_i aQ;simp at h;obtain⟨rfl,rfl⟩:=h;obtain⟨p,hp,⟨_,ff⟩,O,hO,rm,rfl,pz⟩:=hH.live i _ hb;obtain⟨q,entries,iK,cO,aC,aI⟩:=Xz hH aH pz;simp at iK;obtain⟨_,_,cC⟩:=hx.q0x hp;rw[ff] at cC;obtain⟨e',iv,gS⟩:=Q18 b es entries.toList aI e df;rw[Array.find?_toList] at iv;have eQ:(seen.toArray).back?=some b:=by simpa using dV
       have dC:VRel ρ M.n e.1 e'.key:=by rw[gS.1];exact Ug aQ
       refine⟨rfl,.tuple #[e'.key,e'.val],VRel.q0j (LRel.cons dC (LRel.cons gS.2.2 (LRel.nil _ _))),λw' hl=>?_⟩;have h1:=Qw (P:=P) (w':=w') (r:=p.blk) (by rw[hl.blk i p hp];exact hO) (λ_ _ _ e=>by cases e);have h2:=Qw (P:=P) (w':=w') (r:=q.blk) (by rw[hl.blk m q cO];exact aC) (λ_ _ _ e=>by cases e);simp only[execOp];simp only[Instr.entry,cC,x3,zA,h1,zh,eQ];rw[iK,];simp[h2,b9,iv]
      .cases h
     .cases h
    .cases h
   .cases h
  .cases h
 case convert s d x =>
  simp at ai;have hx:=hE x ai;split at hc
  .rename_i t hs hd;cases hi:P.info? t with
   |none=>simp[hi] at hc
   |some inf =>
    simp[hi] at hc;obtain⟨aF,rfl⟩:=hc;simp only[Zg] at h;split at h
    .rename_i bp;rw[bp] at hx;obtain cC:=hx.q0p;simp at h;obtain⟨rfl,rfl⟩:=h;refine⟨rfl,Qm (c:=.pointer none) (λw'=>?_) .nilPtr⟩;simp[execOp,cC,convert,Q0 hs,Q0 hd,Conv.unsafePointer]
    .rename_i i o bp;rw[bp] at hx;split at h
     .rename_i c e wr tight hb;split at h
      .rename_i ah;simp at h;obtain⟨rfl,rfl⟩:=h;obtain⟨p,hp,_,_,hl,⟨C,e',f,hC,pA,_⟩,_,_⟩:=hH.live i _ hb;obtain⟨_,_,cC⟩:=hx.q0x hp;refine⟨rfl,ev x,hx,λw' qp=>?_⟩;have ff:w'.shape? p.blk=some (e',C.size):=by
        have:w'.heap[p.blk]?=some (.cells C e' f):=by rw[qp.blk i p hp];exact hC
        simp[World.shape?,this]
       simp only[execOp,cC];have:=Go.Lib.run_to_unsafe (P:=P) w' (src:=s) (dst:=d) ⟨p.blk,p.shift+o,none⟩ hs hd hi (by simpa using aF) ff (by show p.shift+o<C.size;omega);simp[this]
      .cases h
     .cases h
    .cases h
  .rename_i u hs hd;cases hi:P.info? u with
   |none=>simp[hi] at hc
   |some inf =>
    simp[hi] at hc;obtain⟨⟨aF,tL⟩,rfl⟩:=hc;simp only[Zg] at h;split at h
    .rename_i bp;rw[bp] at hx;obtain cC:=hx.q0p;simp at h;obtain⟨rfl,rfl⟩:=h;refine⟨rfl,Qm (c:=.pointer none) (λw'=>?_) .nilPtr⟩;simp[execOp,cC,convert,Q0 hs,Q0 hd,Conv.unsafePointer]
    .rename_i i o bp;rw[bp] at hx;split at h
     .rename_i c e hb;split at h
      .rename_i ah;obtain⟨rfl,het,hle⟩:=ah;simp at h;obtain⟨rfl,rfl⟩:=h;obtain⟨p,hp,_,_,hl,⟨C,e',f,hC,pA,lX⟩,_,h6⟩:=hH.live i _ hb;obtain⟨_,_,cC⟩:=hx.q0x hp;have tM:=(h6 rfl).1 rfl;refine⟨rfl,ev x,hx,λw' qp=>?_⟩;have ff:w'.shape? p.blk=some (u,C.size):=by
        have:w'.heap[p.blk]?=some (.cells C e' f):=by rw[qp.blk i p hp];exact hC
        simp[World.shape?,this,lX,het]
       simp only[execOp,cC];rw[zK] at *
       have:=Go.Lib.run_from_unsafe (P:=P) w' (src:=s) (dst:=d) ⟨p.blk,p.shift,none⟩ hs hd hi ff (Ej tL _ _ tM (by omega));simp[this]
      .cases h
     .cases h
    .cases h
  .rename_i e hs hd;split at hc
   .rename_i he;simp at hc;subst hc;simp only[Zg] at h;split at h
    .rename_i a n c bp;rw[bp] at hx;split at h
     .rename_i xs br;split at h
      .rename_i s' qq;simp at h;obtain⟨rfl,rfl⟩:=h;obtain⟨ns,mZ,rfl⟩:=TV qq;subst mZ;obtain⟨hlen,us,dp,⟨a',au,cC⟩,aT⟩:=Rp hH br hx;have nM:=Q12 dp;refine⟨rfl,.string ⟨(ns.map λn=>n.toNat.toUInt8).toArray⟩,.string _,λw' hl=>?_⟩;have hr:=aT w' hl;rw[cC] at hr;simp only[execOp,cC];cases a' with
       |none =>
        simp[Builtin.firstCells] at hr;have:ns=[]:=by rw[nM] at hr;simpa using hr.symm
        subst this;simp[convert,Q0 hs,Q0 hd,Q0 he,Conv.bytesToString];rfl
       |some a' =>simp only[Builtin.firstCells,wT] at hr;rw[nM] at hr;have:=run_bytesToString (P:=P) w' a' n au ns hr;rw[Fa] at this;simp[convert,Q0 hs,Q0 hd,Q0 he,this]
      .cases h
     .cases h
    .cases h
   .cases hc
  .split at hc
   .simp at hc;subst hc;cases hq
   .cases hc
  .cases hc
 case call c =>
  split at hc
  .rename_i aK;split at hc
   .rename_i t x cL cT;split at hc
    .rename_i kt e hu;simp at hc;subst hc;have bI:c.args=#[x]:=Array.ext' (by simpa using cT);have hx:VRel ρ M.n (Q3 env x) (ev x):=hE x (by simpa [Call.operands,aK,bI] using ai);simp only[Zg] at h;split at h
     .rename_i bp;rw[bp] at hx;obtain cC:=hx.q0u;simp at h;obtain⟨rfl,rfl⟩:=h;refine⟨rfl,Qm (c:=.int .i64 0) (λw'=>?_) (.int _ _)⟩;simp[execOp,resolve,aK,bI,invoke,builtin,Builtin.len_,cL,cC,Q0 hu,goInt]
     .rename_i m bp;rw[bp] at hx;split at h
      .rename_i es clock wr aH;simp at h;obtain⟨rfl,rfl⟩:=h;obtain⟨p,entries,cC,hp,aC,aI⟩:=Xz hH aH hx;refine⟨rfl,.int .i64 es.length,.int _ _,λw' hl=>?_⟩;have h1:=Qw (P:=P) (w':=w') (r:=p.blk) (by rw[hl.blk m p hp];exact aC) (λ_ _ _ e=>by cases e);have h2:entries.size=es.length:=by have:=aI.1;simpa using this
       simp[execOp,resolve,aK,bI,invoke,builtin,Builtin.len_,cL,cC,Q0 hu,goInt,h1,h2]
      .cases h
     .cases h
    .cases hc
   .cases hc
  .split at hc
   .split at hc
    .rename_i kt e hu;cases hk:SJ P kt with
     |none=>simp[hk] at hc
     |some mk=>simp[hk] at hc;subst hc;cases hq
    .cases hc
   .cases hc
  .split at hc
   .split at hc
    .rename_i e hu;cases hi:P.info? e with
     |none=>simp[hi] at hc
     |some inf=>simp[hi] at hc;subst hc;cases hq
    .cases hc
   .cases hc
  .split at hc
   .split at hc
    .rename_i e hu;cases hz:zeroOf P e with
     |none=>simp[hz] at hc
     |some z=>simp[hz] at hc;obtain⟨_,rfl⟩:=hc;cases hq
    .cases hc
   .cases hc
  .rename_i aK;split at hc
   .rename_i x cT;simp at hc;subst hc;have bI:c.args=#[x]:=Array.ext' (by simpa using cT);have hx:VRel ρ M.n (Q3 env x) (ev x):=hE x (by simpa [Call.operands,aK,bI] using ai);simp only[Zg] at h;split at h
    .rename_i bp;rw[bp] at hx;obtain cC:=hx.q0y;simp at h;obtain⟨rfl,rfl⟩:=h;refine⟨rfl,Qm (c:=.pointer none) (λw'=>?_) .nilPtr⟩;simp[execOp,resolve,aK,bI,invoke,builtin,cC,Go.Lib.run_unsafeSliceData_nil]
    .rename_i i o n cap bp;rw[bp] at hx;split at h
     .rename_i cM;simp at h;obtain⟨rfl,rfl⟩:=h;obtain⟨cM,hs⟩:=cM;obtain⟨blk,aC⟩:=Option.isSome_iff_exists.1 hs;obtain⟨p,hp,_⟩:=hH.live _ _ aC;obtain⟨a,au,cC,aO,aQ⟩:=hx.q1b;obtain⟨h1,_,⟨mU,_⟩|⟨o',rfl,_,ho⟩⟩:=aQ p hp
      .omega
      have fc:o'=o:=ho.resolve_right (λhh=>cM hh.2);subst fc;refine⟨rfl,.pointer (some ⟨p.blk,p.shift+o',none⟩),.ptr _ _ _ aO (λq hq=>by rw[hp] at hq;obtain rfl:=osj hq;rfl),λw' _=>?_⟩;simp[execOp,resolve,aK,bI,invoke,builtin,cC,Go.Lib.run_unsafeSliceData_row w' _ _ _ n au (by omega)]
     .cases h
    .cases h
   .cases hc
  .split at hc
   .split at hc
    .split at hc
     .simp at hc;subst hc;cases hq
     .cases hc
    .cases hc
   .cases hc
  .cases hc
 all_goals cases hc
theorem getElem?_modify_list {α:Type}(l:List α) (j:Nat) (f:α->α) (k:Nat):(l.modify j f)[k]?=if j=k then (l[k]?).map f else l[k]?:=by rw[List.getElem?_modify];split<;>simp_all
theorem De {n:Nat}{E:List MapEntry}{es:List JD}(h:LERel ρ n E es) (j:Nat) (f:MapEntry->MapEntry) (kv:JD) (hf:∀ e,E[j]?=some e->Z16 ρ n (f e) kv):LERel ρ n (E.modify j f) (es.set j kv):=by
 refine⟨by simp[h.1],λk e tN he dC=>?_⟩;rw[getElem?_modify_list] at he;rw[xH] at dC;by_cases ew:j=k
 .subst ew;simp only[zB] at he dC;split at dC
  .simp at dC;subst dC;rw[zw] at he;obtain⟨e0,lY,rfl⟩:=he;exact hf e0 lY
  .cases dC
 .simp only[ew,if_false] at he dC;exact h.2 k e tN he dC
theorem By {n:Nat}{E:List MapEntry}{es:List JD}(h:LERel ρ n E es) {e:MapEntry}{kv:JD}(he:Z16 ρ n e kv):LERel ρ n (E++[e]) (es++[kv]):=by
 refine⟨by simp[h.1],λk a b ha hb=>?_⟩;have hl:=h.1;rw[List.getElem?_append] at ha hb;split at ha<;>split at hb<;>try omega
 .exact h.2 k a b ha hb
 .have hk:k-E.length=k-es.length:=by omega
  rw[hk] at ha;cases hz:k-es.length with
  |zero=>rw[hz] at ha hb;simp at ha hb;subst ha;subst hb;exact he
  |succ m=>rw[hz] at ha;simp at ha
theorem Sj {γ:Sort _}(f:Option Addr->Value->γ) (g:Array Value->γ) (p:Option Addr) (l:Value):Builtin.unsafeString_.match_3 (motive:=λ_=>γ) #[.pointer p,l] f g=f p l:=rfl
theorem Sz (ts:Array TypeId) (ty pt:TypeId) (h0:ts[0]?=some pt) (p:Option Addr) (w:World):(Builtin.unsafeString_ ts ty #[.pointer p,.int .i64 0]).run P w=.ok (.string .empty) w:=by
 have jU:IntKind.i64.max=9223372036854775807:=rfl;cases p with
 |none =>delta Builtin.unsafeString_;rw[Sj];simp[asInt,asIntOf,jU,h0]
 |some a =>delta Builtin.unsafeString_;rw[Sj];simp[asInt,asIntOf,jU,h0]
theorem LU:∀ (ns:List Int) (a:Addr) (acc:ByteArray) (w:World),(∀ j n,ns[j]?=some n->w.cell? (a.add j)=some (.int .u8 n)) ->
  (loadBytes a acc ns.length).run P w=.ok ⟨acc.data++(ns.map λn=>n.toNat.toUInt8).toArray⟩ w
 |[],a,acc,w,_=>by simp[loadBytes]
 |n::ns,a,acc,w,h=>by
  have h0:w.cell? a=some (.int .u8 n):=by have:=h 0 n rfl;simpa [Addr.add] using this
  have ih:=LU ns (a.add 1) (acc.push n.toNat.toUInt8) w (λj y hy=>by
   have:=h (j+1) y (by simpa using hy);have e:(a.add 1).add j=a.add (j+1):=by
    unfold Addr.add;by_cases hj:j=0
    .subst hj;simp
    .simp[hj];omega
   rw[e];exact this)
  simp only[xh,loadBytes,zA,run_load,h0,Result.andThen];rw[ih];congr 1;apply ByteArray.ext;simp[ByteArray.push]
theorem Rz {e:TypeId}(hc:P.cellsOf e=1) (count off n:Nat) (hn:off+n<=count):liesAt P P.depth e count off e n=true:=by have hd:P.depth=(2*(P.types.size+Made.depth)+1)+1:=rfl;rw[hd];simp only[liesAt,zy];left;rw[hd];simp[rowAt,hc,hn,sameLayout,Nat.mod_one]
theorem Q1o (ts:Array TypeId) (ty pt e:TypeId) (h0:ts[0]?=some pt) (hp:P.underlying pt=some (.pointer e)) (hc:P.cellsOf e=1) (a:Addr) (cells:Nat) (w:World) (ff:w.shape? a.block=some (e,cells)) (ns:List Int) (k:Int) (hk:0<k) (qs:ns.length=k.toNat) (hn:a.off+ns.length<=cells)
  (vQ:k<=2 ^ 62) (a8:∀ j n,ns[j]?=some n->w.cell? (a.add j)=some (.int .u8 n)) :
  (Builtin.unsafeString_ ts ty #[.pointer (some a),.int .i64 k]).run P w=.ok (.string ⟨(ns.map λn=>n.toNat.toUInt8).toArray⟩) (w.freeze a k.toNat):=by
 have jU:IntKind.i64.max=9223372036854775807:=rfl;have vR:(2:Int) ^ 62=4611686018427387904:=by decide
 have mY:=LU (P:=P) ns a .empty w a8;have kU:=Rz (P:=P) hc (cells / P.cellsOf e) a.off ns.length (by rw[hc];simpa using hn);have h1:¬ k<0:=by omega
 have h2:¬ (9223372036854775807:Int)<k:=by omega
 have h3:¬ k=0:=by omega
 rw[<-qs];rw[qs] at mY kU;delta Builtin.unsafeString_;rw[Sj];simp[asInt,asIntOf,jU,h0,h1,h2,h3,variablesAt,ff,elemOf,Q0 hp,kU,mY,qs]
theorem HRel.freeze (hH:HRel ρ M w) {i:Nat}{p:Pl}{c:List Value}{e:El}{tight:Bool}(hp:ρ i=some p) (hb:M.get i=some (.cells c e true tight)) (off n:Nat) :
  HRel ρ (M.upd i (.cells c e false tight)) (w.freeze ⟨p.blk,off,none⟩ n)/\Ext ρ M w ρ (M.upd i (.cells c e false tight)) (w.freeze ⟨p.blk,off,none⟩ n):=by
 have hi:=M.lt hb;obtain⟨p',bw,hB⟩:=hH.live i _ hb;obtain rfl:p=p':=osj (hp.symm.trans bw);obtain⟨h1,h2,h3,⟨C,e',f,h4,g_⟩,h5,h6⟩:=hB;have aZ:∀ k,k≠p.blk->(w.freeze ⟨p.blk,off,none⟩ n).heap[k]?=w.heap[k]?:=λk hk=>by
  unfold World.freeze;split
  .rfl
  .simp only[Array.getElem?_modify];rw[z8 (Ne.symm hk)]
 have aF:(w.freeze ⟨p.blk,off,none⟩ n).heap.size=w.heap.size:=by
  unfold World.freeze;split
  .rfl
  .simp
 obtain⟨f',dW⟩:∃ f',(w.freeze ⟨p.blk,off,none⟩ n).heap[p.blk]?=some (.cells C e' f'):=by
  unfold World.freeze;split
  .exact⟨f,h4⟩
  .simp only[Array.getElem?_modify,zB,h4];obtain⟨lo,cB⟩:=f;exact⟨_,rfl⟩
 have a8:∀ o,(w.freeze ⟨p.blk,off,none⟩ n).cell? ⟨p.blk,o,none⟩=w.cell? ⟨p.blk,o,none⟩:=λo=>by simp[World.cell?,dW,h4]
 have qt:(w.freeze ⟨p.blk,off,none⟩ n).os=w.os/\(w.freeze ⟨p.blk,off,none⟩ n).tape=w.tape/\(w.freeze ⟨p.blk,off,none⟩ n).output=w.output:=by unfold World.freeze;split<;>exact⟨rfl,rfl,rfl⟩
 have hE:Ext ρ M w ρ (M.upd i (.cells c e false tight)) (w.freeze ⟨p.blk,off,none⟩ n):=by
  .refine⟨qt.1,qt.2.1,qt.2.2,by rw[aF];exact ze _,λB hB hW=>aZ B (λe=>hW ⟨i,p,_,hp,hb,rfl,e.symm⟩),?_,ze _,λ_ _ _ h=>h⟩;rintro B _ ⟨j,q,b,hq,b6,hw,rfl⟩;by_cases aM:j=i
   .subst aM;exact⟨j,q,_,hq,hb,rfl,rfl⟩
   .rw[Heap.q0b _ _ aM] at b6;exact⟨j,q,b,hq,b6,hw,rfl⟩
 refine⟨hH.ext ⟨λj b hj=>?_,λj hj=>?_,λj q hq=>by rw[aF];exact hH.lt j q hq,λj k q r b ew hq hr bM hw hx=>?_⟩ hE,hE⟩
 .by_cases aM:j=i
  .subst aM;rw[Heap.q0c _ _ hi] at hj;obtain rfl:=osj hj;exact⟨p,hp,h1,h2,h3,⟨C,e',f',dW,g_⟩,λk v hk=>by rw[a8];exact h5 k v hk,λh=>by cases h⟩
  .rw[Heap.q0b _ _ aM] at hj;obtain⟨q,hq,fD⟩:=hH.live j b hj;exact⟨q,hq,fD.other (ze _) (λ_ _ _ h=>h) p.blk C e' f h4 (λhx=>hH.sep i j p q _ (Ne.symm aM) hp hq hb rfl hx) ⟨C,f',dW,ze _⟩ (λk hk _=>aZ k hk) (hH.lt j q hq)⟩
 .by_cases aM:j=i
  .subst aM;rw[Heap.q0c _ _ hi] at hj;cases hj
  .rw[Heap.q0b _ _ aM] at hj;exact hH.dead j hj
 .by_cases aM:j=i
  .subst aM;rw[Heap.q0c _ _ hi] at bM;obtain rfl:=osj bM;cases hw
  .rw[Heap.q0b _ _ aM] at bM;exact hH.sep j k q r b ew hq hr bM hw hx
theorem HRel.freezeOut (hH:HRel ρ M w) {i:Nat}{p:Pl}{c:List Value}{e:El}{tight:Bool}(hp:ρ i=some p) (hb:M.get i=some (.cells c e true tight)) {C:Array Value}{e':TypeId}{f:Nat×Nat}(hC:w.heap[p.blk]?=some (.cells C e' f)) (hf:f.1=f.2) :
  HRel ρ M (w.freeze ⟨p.blk,C.size,none⟩ 1)/\Ext ρ M w ρ M (w.freeze ⟨p.blk,C.size,none⟩ 1):=by
 have aZ:∀ k,k≠p.blk->(w.freeze ⟨p.blk,C.size,none⟩ 1).heap[k]?=w.heap[k]?:=λk hk=>by unfold World.freeze;rw[z8 (by omega)];simp only[Array.getElem?_modify];rw[z8 (Ne.symm hk)]
 have aF:(w.freeze ⟨p.blk,C.size,none⟩ 1).heap.size=w.heap.size:=by unfold World.freeze;rw[z8 (by omega)];simp
 have dW:(w.freeze ⟨p.blk,C.size,none⟩ 1).heap[p.blk]?=some (.cells C e' (C.size,C.size+1)):=by unfold World.freeze;rw[z8 (by omega)];simp only[Array.getElem?_modify,zB,hC];obtain⟨lo,cB⟩:=f;obtain rfl:lo=cB:=hf;simp
 have a8:∀ o,(w.freeze ⟨p.blk,C.size,none⟩ 1).cell? ⟨p.blk,o,none⟩=w.cell? ⟨p.blk,o,none⟩:=λo=>by simp[World.cell?,dW,hC]
 have hE:Ext ρ M w ρ M (w.freeze ⟨p.blk,C.size,none⟩ 1):=by refine⟨?_,?_,?_,by rw[aF];exact ze _,λB hB hW=>aZ B (λe=>hW ⟨i,p,_,hp,hb,rfl,e.symm⟩),λ_ _ h=>h,ze _,λ_ _ _ h=>h⟩<;>(unfold World.freeze;rw[z8 (by omega)])
 refine⟨hH.ext ⟨λj b hj=>?_,hH.dead,λj q hq=>by rw[aF];exact hH.lt j q hq,hH.sep⟩ hE,hE⟩;obtain⟨q,hq,fD⟩:=hH.live j b hj;refine⟨q,hq,?_⟩;by_cases hk:q.blk=p.blk
 .cases b with
  |cells c0 e0 tO t0 =>
   obtain⟨h1,h2,h3,⟨C0,e1,f1,h4,h5⟩,h6,h7⟩:=fD;rw[hk,hC] at h4;obtain⟨rfl,rfl,rfl⟩:=(by simpa using h4:C=C0/\e'=e1/\f=f1);refine⟨h1,h2,h3,⟨C,e',_,by rw[hk];exact dW,h5⟩,λk v hv=>?_,λhw=>⟨(h7 hw).1,λk nr=>?_⟩⟩
   .rw[hk,a8,<-hk];exact h6 k v hv
   .unfold World.frozen?;rw[show (⟨q.blk,q.shift+k,none⟩:Addr).block=p.blk from hk,dW];have:¬ C.size<=q.shift+k:=by omega
    simp[this]
  |obj o tO =>obtain⟨_,O,h4,h5⟩:=fD;rw[hk,hC] at h4;obtain rfl:=osj h4;exact absurd h5 ORel.q1w
 .exact fD.mono (ze _) (λ_ _ _ h=>h) (aZ _ hk)
theorem CK (hH:HRel ρ M w) {s:ByteArray}{st d e:TypeId}(hs:P.underlying st=some .string) (hd:P.underlying d=some (.slice e)) (he:P.underlying e=some (.int .u8)) {s0:Sem Next}(h0:s0=(do let v <-convert st d (.string s);pure (.value v))) :
  S5 P ρ M w (.slice (some ⟨M.n,0,none⟩) s.size s.size) (M.push (.cells (s.data.toList.map λb=>.int .u8 b.toNat) ⟨1,e⟩ true false)) s0:=by
 obtain⟨cap,cM⟩:∃ cap,cap=(Question.appendCap s.size 0 e).cut (w.tape w.drawn (.appendCap s.size 0 e)):=⟨_,rfl⟩;have hle:s.size<=cap:=by rw[cM];simp[Question.cut]
 let C:Array Value:=(s.data.map λb=>Value.int .u8 b.toNat)++Array.replicate (cap-s.size) (.int .u8 0);have pA:C.size=cap:=by have:s.data.size=s.size:=rfl;simp[C,this];omega
 have nN:=hH.drew;have aI:LRel ρ M.n (s.data.toList.map λb=>Value.int .u8 b.toNat) (C.toList.take (s.data.toList.map λb=>Value.int .u8 b.toNat).length):=by
  have:C.toList.take (s.data.toList.map λb=>Value.int .u8 b.toNat).length=s.data.toList.map λb=>Value.int .u8 b.toNat:=by simp[C]
  rw[this];exact Xc (zf.2 λx hx=>by obtain⟨b,_,rfl⟩:=zE.1 hx;rfl)
 obtain⟨ρ',h1,h2,h3⟩:=nN.alloc (s.data.toList.map λb=>Value.int .u8 b.toNat) C e ⟨1,e⟩ false rfl aI (by
  have:s.data.size=s.size:=rfl;simp[pA,this];exact hle)
 have aC:(w.drew.alloc (.cells C e)).heap[w.drew.heap.size]?=some (.cells C e (0,0)):=by show (w.drew.heap.push _)[w.drew.heap.size]?=_;rw[Array.getElem?_push_size]
 obtain⟨h4,h5⟩:=h2.freezeOut (i:=M.n) h1 (Heap.q0a _ _) aC rfl;refine⟨.slice (some ⟨w.heap.size,0,none⟩) s.size cap,_,ρ',.inl ?_,.sl _ _ _ _ _ _ (by simp) (λp hp=>?_),h4,((Ext.drew ρ M w).trans h3).trans h5⟩
 .subst h0;have ff:(w.drew.alloc (.cells C e)).shape? w.drew.heap.size=some (e,C.size):=by
   unfold World.shape?;rw[aC]
  have hq:(Question.appendCap s.size 0 e).forced=false:=rfl;have r8:w.drew.heap.size=w.heap.size:=rfl;simp only[convert,zA,Q0 hs,Q0 hd,Q0 he,zh,Conv.stringToBytes,run_choose_drew,hq,zC,if_false,<-cM,newRow,run_newObj_alloc,xe,markStringish,run_shape,r8];rw[r8] at ff;have qu:(w.drew.alloc (.cells ((s.data.map λb=>Value.int .u8 b.toNat)++Array.replicate (cap-s.size) (.int .u8 0)) e)).shape? w.heap.size=some (e,C.size):=ff;rw[qu];rfl
 .rw[h1] at hp;obtain rfl:=osj hp;refine⟨hle,(λh=>by cases h),.inr ⟨0,rfl,?_,.inl rfl⟩⟩;show 0+cap*1<=C.size;omega
set_option maxHeartbeats 1000000 in
theorem Rm {k nv:Value}{c:Nat}:∀ {es:List JD}{e:JD},Qj k es=some e->∃ j,es[j]?=some e/\Qu k nv c es=(es.set j (k,nv,e.2.2),c)/\H2 k es=es.eraseIdx j
 |[],e,h=>by cases h
 |a::es,e,h=>by
  simp only[Qj] at h;split at h
  .rename_i he;obtain rfl:=osj h;exact⟨0,rfl,by simp[Qu,he],by simp[H2,he]⟩
  .rename_i he;obtain⟨j,h1,h2,h3⟩:=Rm (nv:=nv) (c:=c) h;exact⟨j+1,by simpa using h1,by simp[Qu,he,h2],by simp[H2,he,h3]⟩
theorem PG {k:Value}:∀ {es:List JD},Qj k es=none->H2 k es=es
 |[],_=>rfl
 |a::es,h=>by
  simp only[Qj] at h;split at h
  .cases h
  .rename_i he;simp[H2,he,PG h]
def Z1l:Value->Nat
 |.int _ n=>n.natAbs
 |_=>0
theorem AF {e:JD}:∀ {es:List JD},e∈es->Z1l e.2.1<=(es.map λx=>Z1l x.2.1).sum
 |a::es,h=>by
  rw[zJ,xI];rcases zn.1 h with rfl|h
  .omega
  .have:=AF h;omega
theorem Fz (es:List JD):∃ nv:Value,∀ e∈es,e.2.1≠nv :=
 ⟨.int .i64 ((es.map λx=>Z1l x.2.1).sum+1:Nat),λe he h=>by
  have h1:=AF he;rw[h] at h1;simp only[Z1l] at h1;omega⟩
theorem Q73 {es:List JD}{i j:Nat}{x y:JD}(hi:i<es.length) (_hj:j<es.length) (h:es.set i x=es.set j y) (hx:∀ e∈es,e.2.1≠x.2.1):i=j:=by
 by_cases e:j=i
 .exact e.symm
 .have h1:(es.set i x)[i]?=(es.set j y)[i]?:=by rw[h]
  rw[List.getElem?_set_self hi,List.getElem?_set_ne e,z1 hi] at h1;have h2:=osj h1;exact(hx _ (zp hi) (by rw[<-h2])).elim
theorem Cq {n:Nat}{E:List MapEntry}{es:List JD}(h:LERel ρ n E es) (j:Nat):LERel ρ n (E.eraseIdx j) (es.eraseIdx j):=by
 refine⟨by rw[List.length_eraseIdx,List.length_eraseIdx,h.1],λk e kv he dC=>?_⟩;rw[List.getElem?_eraseIdx] at he dC;split at he
 .rename_i ah;rw[z7 ah] at dC;exact h.2 _ _ _ he dC
 .rename_i ah;rw[z8 ah] at dC;exact h.2 _ _ _ he dC
theorem Cd {o:Oper}{xo:XOp}(hc:Te P o.op = some xo) (hq:xo.quiet = false) (hH:HRel ρ M w) (hE:∀ x, X8 x = true -> VRel ρ M.n (Q3 env x) (ev x))
    (h:Zg xo (Q3 env) M = some (v, M')):S5 P ρ M w v M' (execOp ev o):=by
  obtain ⟨dst, op, ty, pos, after, guard⟩:=o;simp only at hc;unfold Te at hc;split at hc
  . cases hc
  rename_i ai;simp only [xC, xm] at ai;cases op <;> simp only [Op.operands] at ai hc
  case binOp jK t x y yt =>
    have nA:∀ neg, Tl P neg t x y = some xo -> False:=λneg hx => by
      unfold Tl at hx;split at hx
      . cases hx
      . obtain ⟨s, _, rfl⟩:=zw.1 hx; cases hq
    split at hc <;> first
      | exact (nA _ hc).elim
      | (simp at hc; subst hc; cases hq; done)
      | (rename_i e hu
         cases hi:P.info? e with
         | none => simp [hi] at hc
         | some i => simp [hi] at hc; obtain ⟨_, rfl⟩:=hc; cases hq)
      | cases hc
  case makeMap t r =>
    cases r with
    | some _ => cases hc
    | none =>
      simp at hc; subst hc;simp [Zg] at h;obtain ⟨rfl, rfl⟩:=h;obtain ⟨ρ', h1, h2, h3⟩:=hH.newObj (.map [] 0) (.map #[] 0) (ORel.q0r.2 ⟨#[], rfl, rfl, λk e kv he => by simp at he⟩);refine ⟨.map (some w.heap.size), _, ρ', .inl ?_, .map _ _ (by simp) (λp hp => ?_), h2, h3⟩
      . simp [execOp, Instr.makeMap]
      . rw [h1] at hp; obtain rfl:=osj hp; rfl
  case lookup t x i ju =>
    split at hc
    . rename_i kt e hu
      cases hk:SJ P kt with
      | none => simp [hk] at hc
      | some mk =>
        cases cf:P.info? e with
        | none => simp [hk, cf] at hc
        | some inf =>
          cases hz:inf.zero with
          | none => simp [hk, cf, hz] at hc
          | some z => simp [hk, cf, hz] at hc; obtain ⟨_, rfl⟩:=hc; cases hq
    . cases hc
  case mapUpdate t m k x =>
    simp at ai;have hm:=hE m ai.1;have fZ:=hE k ai.2.1;have hx:=hE x ai.2.2;split at hc
    . rename_i kt e hu
      cases hk:SJ P kt with
      | none => simp [hk] at hc
      | some mk =>
        simp [hk] at hc; subst hc;obtain ⟨d, hd, eD⟩:=NK hk;simp only [Zg] at h;split at h
        . rename_i i jV
          rw [jV] at hm;split at h
          . rename_i es clock aH
            split at h
            . rename_i ak
              simp only [z6] at ak;obtain ⟨bR, ae⟩:=ak;simp at h; obtain ⟨rfl, rfl⟩:=h;obtain ⟨p, entries, eP, hp, aC, aI⟩:=Xz hH aH hm;have fz:ev k = Q3 env k:=Tc bR fZ;have bS:(getObj p.blk).run P w = .ok (.map entries clock) w:=Qw aC (λ_ _ _ e => by cases e);have a7:∀ O', (setObj p.blk O').run P w = .ok () (HM w p.blk O'):=λO' => QQ aC (λ_ _ _ e => by cases e);rcases K8 hd eD bR (Q3 env x) clock es entries.toList aI ae with ⟨h1, h2, h3⟩ | ⟨j, a, a', h1, h2, h3, h4, h5, h6⟩
              . rw [h3]
                obtain ⟨k1, k2⟩:=hH.setObj (i:=i) (p:=p) hp (Xq aH) (o':=.map (es ++ [(Q3 env k, Q3 env x, clock)]) (clock + 1))
                  (O':=.map (entries.push { key:=ev k, val:=ev x, born:=clock }) (clock + 1)) (ORel.q0r.2 ⟨_, rfl, by
                    rw [Array.toList_push];exact By aI ⟨fz, rfl, hx⟩⟩)
                refine ⟨undef, _, ρ, .inr ⟨?_, rfl⟩, JB, k1, k2⟩;simp only [execOp];simp only [Instr.mapUpdate, zA, Q0 hu, zh, eP, bS, fz, Zp hd eD bR];rw [h2];simp only [zh, a7, xe]
              . rw [h6]
                have iL:((entries[j]?).map (·.key)).getD (Q3 env k) = a.1:=by
                  rw [<- Array.getElem?_toList, h3];simp [(aI.2 j a' a h3 h2).1]
                have fI:Zn mk a.1 = true:=zf.1 ae a (zF h2)
                obtain ⟨k1, k2⟩:=hH.setObj (i:=i) (p:=p) hp (Xq aH) (o':=.map (es.set j (Q3 env k, Q3 env x, a.2.2)) clock)
                  (O':=.map (entries.modify (0 + j) λe => { e with key:=Q3 env k, val:=ev x }) clock) (ORel.q0r.2 ⟨_, rfl, by
                    rw [Array.toList_modify, x3];exact De aI j _ _ (λe he => by
                      obtain rfl:a' = e:=osj (h3.symm.trans he);exact ⟨rfl, (aI.2 j a' a h3 h2).2.1, hx⟩)⟩)
                refine ⟨undef, _, ρ, .inr ⟨?_, rfl⟩, JB, k1, k2⟩;simp only [execOp];simp only [Instr.mapUpdate, zA, Q0 hu, zh, eP, bS, fz, Zp hd eD bR];rw [h4];simp only [zh, zA, x3, iL];have a_:(Instr.keyThatStays a.1 (Q3 env k)).run P w = .ok (Q3 env k) w:=by unfold Instr.keyThatStays;rw [z7 (GF bR fI h5)];rfl
                rw [a_];simp only [zh, a7, xe]
            . cases h
          . cases h
        . cases h
    . cases hc
  case insert t m k x =>
    simp at ai;have hm:=hE m ai.1;have fZ:=hE k ai.2.1;have hx:=hE x ai.2.2;split at hc
    . rename_i kt e hu
      cases hk:SJ P kt with
      | none => simp [hk] at hc
      | some mk =>
        simp [hk] at hc; subst hc;obtain ⟨d, hd, eD⟩:=NK hk;simp only [Zg] at h;split at h
        . rename_i i jV
          rw [jV] at hm;split at h
          . rename_i es clock aH
            split at h
            . rename_i ak
              simp only [z6] at ak;obtain ⟨bR, ae⟩:=ak;simp at h; obtain ⟨rfl, rfl⟩:=h;obtain ⟨p, entries, eP, hp, aC, aI⟩:=Xz hH aH hm;have fz:ev k = Q3 env k:=Tc bR fZ;have bS:(getObj p.blk).run P w = .ok (.map entries clock) w:=Qw aC (λ_ _ _ e => by cases e);have a7:∀ O', (setObj p.blk O').run P w = .ok () (HM w p.blk O'):=λO' => QQ aC (λ_ _ _ e => by cases e);rcases K8 hd eD bR (Q3 env x) clock es entries.toList aI ae with ⟨h1, h2, h3⟩ | ⟨j, a, a', h1, h2, h3, h4, h5, h6⟩
              . rw [h3]
                obtain ⟨k1, k2⟩:=hH.setObj (i:=i) (p:=p) hp (Xq aH) (o':=.map (es ++ [(Q3 env k, Q3 env x, clock)]) (clock + 1))
                  (O':=.map (entries.push { key:=ev k, val:=ev x, born:=clock }) (clock + 1)) (ORel.q0r.2 ⟨_, rfl, by
                    rw [Array.toList_push];exact By aI ⟨fz, rfl, hx⟩⟩)
                refine ⟨undef, _, ρ, .inr ⟨?_, rfl⟩, JB, k1, k2⟩;simp only [execOp];simp only [Instr.mapUpdate, zA, Q0 hu, zh, eP, bS, fz, Zp hd eD bR];rw [h2];simp only [zh, a7, xe]
              . rw [h6]
                have iL:((entries[j]?).map (·.key)).getD (Q3 env k) = a.1:=by
                  rw [<- Array.getElem?_toList, h3];simp [(aI.2 j a' a h3 h2).1]
                have fI:Zn mk a.1 = true:=zf.1 ae a (zF h2)
                obtain ⟨k1, k2⟩:=hH.setObj (i:=i) (p:=p) hp (Xq aH) (o':=.map (es.set j (Q3 env k, Q3 env x, a.2.2)) clock)
                  (O':=.map (entries.modify (0 + j) λe => { e with key:=Q3 env k, val:=ev x }) clock) (ORel.q0r.2 ⟨_, rfl, by
                    rw [Array.toList_modify, x3];exact De aI j _ _ (λe he => by
                      obtain rfl:a' = e:=osj (h3.symm.trans he);exact ⟨rfl, (aI.2 j a' a h3 h2).2.1, hx⟩)⟩)
                refine ⟨undef, _, ρ, .inr ⟨?_, rfl⟩, JB, k1, k2⟩;simp only [execOp];simp only [Instr.mapUpdate, zA, Q0 hu, zh, eP, bS, fz, Zp hd eD bR];rw [h4];simp only [zh, zA, x3, iL];have a_:(Instr.keyThatStays a.1 (Q3 env k)).run P w = .ok (Q3 env k) w:=by unfold Instr.keyThatStays;rw [z7 (GF bR fI h5)];rfl
                rw [a_];simp only [zh, a7, xe]
            . cases h
          . cases h
        . cases h
    . cases hc
  case mapEntry t m k =>
    simp at ai;have hm:=hE m ai.1;have fZ:=hE k ai.2;split at hc
    . rename_i kt e hu
      cases hk:SJ P kt with
      | none => simp [hk] at hc
      | some mk =>
      cases cf:P.info? e with
      | none => simp [hk, cf] at hc
      | some inf =>
      cases hz:inf.zero with
      | none => simp [hk, cf, hz] at hc
      | some z =>
        simp [hk, cf, hz] at hc;obtain ⟨lW, rfl⟩:=hc;obtain ⟨d, hd, eD⟩:=NK hk;have kQ:∀ w', (zeroValue e).run P w' = .ok z w':=λw' => Z2 cf hz w';have eu:VRel ρ M.n z z:=Ug lW;simp only [Zg] at h;split at h
        . rename_i i jV
          rw [jV] at hm;split at h
          . rename_i es clock aH
            split at h
            . rename_i ak
              simp only [z6] at ak;obtain ⟨bR, ae⟩:=ak;obtain ⟨p, entries, eP, hp, aC, aI⟩:=Xz hH aH hm;have fz:ev k = Q3 env k:=Tc bR fZ;have bS:(getObj p.blk).run P w = .ok (.map entries clock) w:=Qw aC (λ_ _ _ e => by cases e);have a7:∀ O', (setObj p.blk O').run P w = .ok () (HM w p.blk O'):=λO' => QQ aC (λ_ _ _ e => by cases e);split at h
              . rename_i e0 hf
                simp at h; obtain ⟨rfl, rfl⟩:=h;rcases K8 hd eD bR e0.2.1 clock es entries.toList aI ae with ⟨h1, h2, h3⟩ | ⟨j, a, a', h1, h2, h3, h4, h5, h6⟩
                . rw [hf] at h1; cases h1
                . obtain rfl:e0 = a:=by rw [hf] at h1; exact osj h1
                  rw [h6];have jW:entries[j]? = some a':=by rw [<- Array.getElem?_toList]; exact h3
                  have iL:((entries[j]?).map (·.key)).getD (Q3 env k) = e0.1:=by
                    rw [jW]; simp [(aI.2 j a' e0 h3 h2).1]
                  have qv:((entries[j]?).map λx => (x.born:Int)).getD 0 = (e0.2.2:Int):=by rw [jW]; simp [(aI.2 j a' e0 h3 h2).2.1]
                  have fI:Zn mk e0.1 = true:=zf.1 ae e0 (zF h2);have nL:=(aI.2 j a' e0 h3 h2).2.2
                  obtain ⟨k1, k2⟩:=hH.setObj (i:=i) (p:=p) hp (Xq aH) (o':=.map (es.set j (Q3 env k, e0.2.1, e0.2.2)) clock)
                    (O':=.map (entries.modify (0 + j) λe => { e with key:=Q3 env k }) clock) (ORel.q0r.2 ⟨_, rfl, by
                      rw [Array.toList_modify, x3];exact De aI j _ _ (λe he => by
                        obtain rfl:a' = e:=osj (h3.symm.trans he);exact ⟨rfl, (aI.2 j a' e0 h3 h2).2.1, nL⟩)⟩)
                  refine ⟨.tuple #[a'.val, .int .i64 e0.2.2], _, ρ, .inl ?_, VRel.q0j (LRel.cons nL (LRel.cons (.int _ _) (LRel.nil _ _))), k1, k2⟩;simp only [execOp];simp only [Instr.mapEntry, zA, Q0 hu, zh, eP, bS, fz, Zp hd eD bR];rw [h4];simp only [zh, zA, x3, iL, qv];have a_:(Instr.keyThatStays e0.1 (Q3 env k)).run P w = .ok (Q3 env k) w:=by unfold Instr.keyThatStays;rw [z7 (GF bR fI h5)];rfl
                  rw [a_];simp only [zh, a7, xe];rfl
              . rename_i hf
                simp at h; obtain ⟨rfl, rfl⟩:=h;rcases K8 hd eD bR z clock es entries.toList aI ae with ⟨h1, h2, h3⟩ | ⟨j, a, a', h1, h2, h3, h4, h5, h6⟩
                . rw [h3]
                  obtain ⟨k1, k2⟩:=hH.setObj (i:=i) (p:=p) hp (Xq aH) (o':=.map (es ++ [(Q3 env k, z, clock)]) (clock + 1))
                    (O':=.map (entries.push { key:=Q3 env k, val:=z, born:=clock }) (clock + 1)) (ORel.q0r.2 ⟨_, rfl, by
                      rw [Array.toList_push];exact By aI ⟨rfl, rfl, eu⟩⟩)
                  refine ⟨.tuple #[z, .int .i64 clock], _, ρ, .inl ?_, VRel.q0j (LRel.cons eu (LRel.cons (.int _ _) (LRel.nil _ _))), k1, k2⟩;simp only [execOp];simp only [Instr.mapEntry, zA, Q0 hu, zh, eP, bS, fz, Zp hd eD bR];rw [h2];simp only [zh, zA, kQ, a7, xe];rfl
                . rw [hf] at h1; cases h1
            . cases h
          . cases h
        . cases h
    . cases hc
  case entryStore t m s x =>
    simp at ai;have hm:=hE m ai.1;have hs:=hE s ai.2.1;have hx:=hE x ai.2.2;simp at hc; subst hc;simp only [Zg] at h;split at h
    . rename_i i n jV qw
      rw [jV] at hm;rw [qw] at hs;split at h
      . rename_i es clock aH
        split at h
        . rename_i j jL
          split at h
          . rename_i e0 lY
            simp at h; obtain ⟨rfl, rfl⟩:=h;obtain ⟨p, entries, eP, hp, aC, aI⟩:=Xz hH aH hm;have nO:ev s = .int .i64 n:=YV rfl hs;have bS:(getObj p.blk).run P w = .ok (.map entries clock) w:=Qw aC (λ_ _ _ e => by cases e);have a7:∀ O', (setObj p.blk O').run P w = .ok () (HM w p.blk O'):=λO' => QQ aC (λ_ _ _ e => by cases e);have nP:entries.toList.map (λx => (x.born:Int)) = es.map (λe => (e.2.2:Int)):=by
              refine zV λq => ?_;rw [zU, zU];cases h1:entries.toList[q]? with
              | none =>
                have:es[q]? = none:=by rw [List.getElem?_eq_none_iff] at h1 |-; rw [<- aI.1]; exact h1
                rw [this]; rfl
              | some a =>
                cases h2:es[q]? with
                | none => rw [List.getElem?_eq_none_iff, <- aI.1, <- List.getElem?_eq_none_iff, h1] at h2; cases h2
                | some b => simp [(aI.2 q a b h1 h2).2.1]
            have qx:entries.findIdx? (λe => (e.born:Int) == n) = some j:=by
              have e1:entries.toList.findIdx? (λe => (e.born:Int) == n) = (entries.toList.map (λx => (x.born:Int))).findIdx? (λb => b == n):=by rw [List.findIdx?_map]; rfl
              have e2:es.findIdx? (λe => (e.2.2:Int) == n) = (es.map (λe => (e.2.2:Int))).findIdx? (λb => b == n):=by rw [List.findIdx?_map]; rfl
              have e3:entries.findIdx? (λe => (e.born:Int) == n) = entries.toList.findIdx? (λe => (e.born:Int) == n):=by rw [<- List.findIdx?_toArray, Array.toArray_toList]
              rw [e3, e1, nP, <- e2, jL]
            have bV:j < entries.toList.length:=by rw [aI.1]; exact (zg.1 lY).1
            have jW:=z1 bV
            obtain ⟨k1, k2⟩:=hH.setObj (i:=i) (p:=p) hp (Xq aH) (o':=.map (es.set j (e0.1, Q3 env x, e0.2.2)) clock)
              (O':=.map (entries.modify j λe => { e with val:=ev x }) clock) (ORel.q0r.2 ⟨_, rfl, by
                rw [Array.toList_modify];exact De aI j _ _ (λe he => by
                  have hr:=aI.2 j e e0 he lY;exact ⟨hr.1, hr.2.1, hx⟩)⟩)
            refine ⟨undef, _, ρ, .inr ⟨?_, rfl⟩, JB, k1, k2⟩;simp only [execOp];simp only [Instr.entryStore, eP, zA, bS, zh, nO];simp [asInt, asIntOf, qx, a7]
          . cases h
        . cases h
      . cases h
    . cases h
  case range t x =>
    simp at ai;have hx:=hE x ai;split at hc
    . rename_i kt e hu
      simp at hc; subst hc;simp only [Zg] at h;split at h
      . rename_i m bp
        rw [bp] at hx;split at h
        . rename_i es clock wr aH
          simp at h; obtain ⟨rfl, rfl⟩:=h;obtain ⟨p, entries, eP, hp, aC, aI⟩:=Xz hH aH hx;rw [eP] at hx;obtain ⟨ρ', h1, h2, h3⟩:=hH.newObj (.iter m clock [] clock) (.mapIter (some p.blk) clock #[] clock) ⟨p.blk, rfl, hx⟩;have bS:(getObj p.blk).run P w = .ok (.map entries clock) w:=Qw aC (λ_ _ _ e => by cases e);refine ⟨.pointer (some ⟨w.heap.size, 0, none⟩), _, ρ', .inl ?_, .ptr _ _ _ (by simp) (λq hq => ?_), h2, h3⟩
          . simp [execOp, Instr.range, Q0 hu, eP, bS]
          . rw [h1] at hq; obtain rfl:=osj hq; rfl
        . cases h
      . cases h
    . cases hc
  case next x b => cases b <;> simp at hc; subst hc; simp [Zg] at h
  case entry x => simp at hc; subst hc; cases hq
  case convert s d x =>
    split at hc
    . rename_i t hs hd
      cases hi:P.info? t with
      | none => simp [hi] at hc
      | some inf => simp [hi] at hc; obtain ⟨_, rfl⟩:=hc; cases hq
    . rename_i u hs hd
      cases hi:P.info? u with
      | none => simp [hi] at hc
      | some inf => simp [hi] at hc; obtain ⟨_, rfl⟩:=hc; cases hq
    . split at hc
      . simp at hc; subst hc; cases hq
      . cases hc
    . rename_i e hs hd
      split at hc
      . rename_i he
        simp at hc; subst hc;simp only [Zg] at h;split at h
        . rename_i s' bp
          split at h
          . simp at h; obtain ⟨rfl, rfl⟩:=h
            have hx:=hE x (by simpa using ai);rw [bp] at hx;refine CK hH hs hd he ?_;simp only [execOp, hx.q0o]
          . cases h
        . cases h
      . cases hc
    . cases hc
  case call c =>
    split at hc
    . split at hc
      . split at hc
        . simp at hc; subst hc; cases hq
        . cases hc
      . cases hc
    . rename_i aK
      split at hc
      . rename_i t mm kk cL cT
        split at hc
        . rename_i kt e hu
          cases hk:SJ P kt with
          | none => simp [hk] at hc
          | some mk =>
            simp [hk] at hc; subst hc;obtain ⟨d, hd, eD⟩:=NK hk;have bI:c.args = #[mm, kk]:=Array.ext' (by simpa using cT);have dg:X8 mm = true /\ X8 kk = true:=by simpa [Call.operands, aK, bI] using ai
            have hm:=hE mm dg.1;have fZ:=hE kk dg.2;simp only [Zg] at h;split at h
            . rename_i i jV
              rw [jV] at hm;split at h
              . rename_i es clock aH
                split at h
                . rename_i ak
                  simp only [z6] at ak;obtain ⟨bR, ae⟩:=ak;simp at h; obtain ⟨rfl, rfl⟩:=h;obtain ⟨p, entries, eP, hp, aC, aI⟩:=Xz hH aH hm;have fz:ev kk = Q3 env kk:=Tc bR fZ;have bS:(getObj p.blk).run P w = .ok (.map entries clock) w:=Qw aC (λ_ _ _ e => by cases e);have a7:∀ O', (setObj p.blk O').run P w = .ok () (HM w p.blk O'):=λO' => QQ aC (λ_ _ _ e => by cases e);obtain ⟨nv, nQ⟩:=Fz es;rcases K8 hd eD bR nv clock es entries.toList aI ae with ⟨h1, h2, h3⟩ | ⟨j, a, a', h1, h2, h3, h4, h5, h6⟩
                  . rw [PG h1]
                    obtain ⟨k1, k2⟩:=hH.setObj (i:=i) (p:=p) hp (Xq aH) (o':=.map es clock) (O':=.map entries clock) (ORel.q0r.2 ⟨_, rfl, aI⟩);refine ⟨.tuple #[], _, ρ, .inl ?_, VRel.q0j (LRel.nil _ _), k1, k2⟩;simp only [execOp];simp [resolve, aK, bI, invoke, builtin, Builtin.delete_, cL, Q0 hu, eP, bS, fz, Zp hd eD bR, h2, a7]
                  . obtain ⟨j0, g1, g2, g3⟩:=Rm (nv:=nv) (c:=clock) h1
                    have hj:j = j0:=by rw [g2] at h6;have hs:=congrArg (λx:List JD × Nat => x.1) h6;exact (Q73 (zg.1 g1).1 (zg.1 h2).1 hs nQ).symm
                    subst hj;rw [g3];obtain ⟨k1, k2⟩:=hH.setObj (i:=i) (p:=p) hp (Xq aH) (o':=.map (es.eraseIdx j) clock) (O':=.map (entries.eraseIdxIfInBounds (0 + j)) clock) (ORel.q0r.2 ⟨_, rfl, by
                      have bV:j < entries.size:=by have:=(zg.1 h3).1;simpa using this
                      rw [x3];have e:(entries.eraseIdxIfInBounds j).toList = entries.toList.eraseIdx j:=by simp
                      rw [e];exact Cq aI j⟩)
                    refine ⟨.tuple #[], _, ρ, .inl ?_, VRel.q0j (LRel.nil _ _), k1, k2⟩;simp only [execOp];simp [resolve, aK, bI, invoke, builtin, Builtin.delete_, cL, Q0 hu, eP, bS, fz, Zp hd eD bR, h4, a7]
                . cases h
              . cases h
            . cases h
        . cases hc
      . cases hc
    . rename_i aK
      split at hc
      . rename_i t dd ss cL cT
        split at hc
        . rename_i e hu
          cases hi:P.info? e with
          | none => simp [hi] at hc
          | some inf =>
            simp [hi] at hc; subst hc;have bI:c.args = #[dd, ss]:=Array.ext' (by simpa using cT);have dg:X8 dd = true /\ X8 ss = true:=by simpa [Call.operands, aK, bI] using ai
            have hd:=hE dd dg.1;have hs:=hE ss dg.2;simp only [Zg] at h;split at h
            . rename_i db dn dc sb sn sc qy qw
              rw [qy] at hd; rw [qw] at hs;obtain ⟨da, tP, qz⟩:=hd.q1y;obtain ⟨sa, jX, nO⟩:=hs.q1y;split at h
              . rename_i h0
                simp at h; obtain ⟨rfl, rfl⟩:=h;refine ⟨.int .i64 0, w, ρ, .inl ?_, .int _ _, hH, Ext.refl _ _ _⟩;simp only [execOp];have r9:Nat.min sn dn = 0:=h0;cases sa <;> cases da <;> simp [resolve, aK, bI, invoke, builtin, Builtin.copy_, cL, qz, nO, Q0 hu, Qb hi, Builtin.lenOf, r9, Builtin.firstCells, loadCells, loadCellsFrom, storeCells, goInt]
              . rename_i h0
                split at h
                . rename_i i o xs br
                  split at h
                  . rename_i cc e' wr tight hb
                    split at h
                    . rename_i ak
                      obtain ⟨rfl, nw, jR, iI⟩:=ak;simp at h; obtain ⟨rfl, rfl⟩:=h;have aY:VRel ρ M.n (.slice sb (min sn dn) sc) (.slice sa (min sn dn) jX):=by
                        rw [nO] at hs;cases hs with
                        | nilSl => exact absurd (by simp) h0
                        | slx _ _ _ _ _ iM dD => exact .slx _ _ _ _ _ iM dD
                        | sl i2 o2 _ _ a2 _ iM dD =>
                          refine .sl _ _ _ _ _ _ iM λp hp => ?_;obtain ⟨k1, k2, ⟨k0, vS⟩ | ⟨o', k3, k4, k5⟩⟩:=dD p hp
                          . exact ⟨k1, k2, .inl ⟨k0, by omega⟩⟩
                          exact ⟨k1, k2, .inr ⟨o', k3, k4, k5.imp id (λhh => ⟨by rw [hh.1]; simp, hh.2⟩)⟩⟩
                      obtain ⟨fy, us, dp, _, aT⟩:=Rp hH br aY;have hr:=aT w (Like.refl ρ w);have qx:(Builtin.firstCells inf.size (min sn dn) (.slice sa sn jX)).run P w = .ok us.toArray w:=by rw [<- hr]; cases sa <;> rfl
                      obtain ⟨p, hp, hB⟩:=hH.live i _ hb;rw [qz] at hd;obtain ⟨a2, jN, kV, aO, aQ⟩:=hd.q1b;simp at kV;obtain ⟨rfl, rfl⟩:=kV;obtain ⟨_, _, ⟨_, iu⟩ | ⟨o', qA, _, nB⟩⟩:=aQ p hp
                      . exact absurd (by rw [iu]; simp) h0
                      have ho:o' = o:=nB.resolve_right (λhh => h0 (by rw [hh.1]; simp));subst ho;obtain ⟨h2, h3⟩:=hH.store hp hb dp (o:=o') (by omega);refine ⟨.int .i64 (min sn dn:Nat), _, ρ, .inl ?_, .int _ _, h2, h3⟩;have mS:us.length = xs.length:=dp.1.symm
                      have a_:=run_storeCells_cells (P:=P) p.blk (p.shift + o') us 0 w
                        (λj hj => by rw [zK, zt]; exact hB.q0s _ (by have:=hB.2.2.1; omega))
                        (λj hj => by rw [zK, zt]; exact (hB.2.2.2.2.2 rfl).2 _ (by have:=hB.2.2.1; omega))
                        (Kt iI dp)
                      rw [zK] at a_;have jY:Nat.min sn dn = min sn dn:=rfl;simp only [execOp];simp [resolve, aK, bI, invoke, builtin, Builtin.copy_, cL, qz, nO, Q0 hu, Qb hi, Builtin.lenOf, jY, qx, qA, a_, goInt]
                    . cases h
                  . cases h
                . cases h
            . cases h
        . cases hc
      . cases hc
    . rename_i aK
      split at hc
      . rename_i t x cL cT
        split at hc
        . rename_i e hu
          cases hz:zeroOf P e with
          | none => simp [hz] at hc
          | some z =>
            simp [hz] at hc;obtain ⟨iu, rfl⟩:=hc;obtain ⟨inf, zv, cf, eu, fF, vT, jm⟩:=WZ hz;have bI:c.args = #[x]:=Array.ext' (by simpa using cT);have dg:X8 x = true:=by simpa [Call.operands, aK, bI] using ai
            have hx:=hE x dg;simp only [Zg] at h;split at h
            . rename_i b n cap bp
              rw [bp] at hx;obtain ⟨a, tQ, cC⟩:=hx.q1y;split at h
              . rename_i h0
                simp at h; obtain ⟨rfl, rfl⟩:=h;subst h0;refine ⟨.tuple #[], w, ρ, .inl ?_, VRel.q0j (LRel.nil _ _), hH, Ext.refl _ _ _⟩;simp only [execOp];cases a <;> simp [resolve, aK, bI, invoke, builtin, Builtin.clear_, cL, cC, Q0 hu]
              . rename_i h0
                split at h
                . rename_i i o
                  split at h
                  . rename_i cc e' wr tight hb
                    split at h
                    . rename_i ak
                      obtain ⟨rfl, jR, iI⟩:=ak;simp at h; obtain ⟨rfl, rfl⟩:=h;have dp:LRel ρ M.n (HE n z) (HE n z):=Xc (Bn n z jm);have dE:=Pb n z;have bO:(HE n z).all cellOk = true:=EK n z iI;obtain ⟨p, hp, hB⟩:=hH.live i _ hb;rw [cC] at hx;obtain ⟨a2, jN, kV, aO, aQ⟩:=hx.q1b;simp at kV;obtain ⟨rfl, rfl⟩:=kV;obtain ⟨_, _, ⟨_, iu⟩ | ⟨o', qA, _, nB⟩⟩:=aQ p hp
                      . exact absurd iu h0
                      have ho:o' = o:=nB.resolve_right (λhh => h0 hh.1);subst ho;obtain ⟨h2, h3⟩:=hH.store hp hb dp (o:=o') (by omega);refine ⟨.tuple #[], _, ρ, .inl ?_, VRel.q0j (LRel.nil _ _), h2, h3⟩
                      have a_:=run_storeCells_cells (P:=P) p.blk (p.shift + o') (HE n z) 0 w
                        (λj hj => by rw [zK, zt]; exact hB.q0s _ (by have:=hB.2.2.1; omega))
                        (λj hj => by rw [zK, zt]; exact (hB.2.2.2.2.2 rfl).2 _ (by have:=hB.2.2.1; omega))
                        (Kt bO dp)
                      rw [zK] at a_;have tR:(Builtin.zeroCells zv.cells n).toList = HE n z:=by have:=Bu zv.cells z fF (by intro hh; rw [hh] at iu; exact iu rfl) n;simpa [Builtin.zeroCells, <- fF] using this
                      simp only [execOp];obtain ⟨n', rfl⟩:∃ k, n = k + 1:=⟨n - 1, by omega⟩;simp [resolve, aK, bI, invoke, builtin, Builtin.clear_, cL, cC, Q0 hu, Z2 cf eu, tR, qA, a_]
                    . cases h
                  . cases h
                . cases h
            . cases h
        . cases hc
      . cases hc
    . split at hc
      . simp at hc; subst hc; cases hq
      . cases hc
    . rename_i aK
      split at hc
      . rename_i t x nn cL cT
        split at hc
        . rename_i e hu
          split at hc
          . rename_i qh
            simp at hc; subst hc;have bI:c.args = #[x, nn]:=Array.ext' (by simpa using cT);have dg:X8 x = true /\ X8 nn = true:=by simpa [Call.operands, aK, bI] using ai
            have hx:=hE x dg.1;have hn:=hE nn dg.2;simp only [Zg] at h;split at h
            . rename_i q k bp az
              rw [bp] at hx; rw [az] at hn;have fY:=hn.q0h;split at h
              . rename_i h0
                simp at h; obtain ⟨rfl, rfl⟩:=h;subst h0;refine ⟨.string ⟨#[]⟩, w, ρ, .inl ?_, .string _, hH, Ext.refl _ _ _⟩;have cO:∃ q', ev x = .pointer q':=by
                  cases q with
                  | none => exact ⟨none, hx.q0p⟩
                  | some a => obtain ⟨b, hb⟩:=hx.q1i; exact ⟨_, hb⟩
                obtain ⟨q', cO⟩:=cO;simp [execOp, resolve, aK, bI, invoke, builtin, cO, fY, Sz c.argTypes ty t cL q' w];rfl
              . rename_i h0
                split at h
                . rename_i i o
                  split at h
                  . rename_i cc el tight hb
                    split at h
                    . rename_i ak
                      obtain ⟨jv, pB, het, jR⟩:=ak;split at h
                      . rename_i s' qq
                        simp at h; obtain ⟨rfl, rfl⟩:=h;obtain ⟨ns, mZ, rfl⟩:=TV qq;obtain ⟨p, hp, h1, h2, h3, ⟨C, e', f, hC, pA, lX⟩, h5, h6⟩:=hH.live i _ hb;obtain ⟨_, _, cC⟩:=hx.q0x hp;have jx:ns.length = k.toNat:=by have:=congrArg List.length mZ;simp at this; omega
                        have a8:∀ j n, ns[j]? = some n -> w.cell? ((⟨p.blk, p.shift + o, none⟩:Addr).add j) = some (.int .u8 n):=λj n hj => by
                          have bV:j < ns.length:=(zg.1 hj).1;have dB:cc[o + j]? = some (.int .u8 n):=by
                            have:((cc.drop o).take k.toNat)[j]? = some (.int .u8 n):=by rw [mZ, zU, hj]; rfl
                            rwa [zO, z7 (by omega), zz] at this
                          obtain ⟨u, cy, cJ⟩:=h5 (o + j) _ dB;have gy:(⟨p.blk, p.shift + o, none⟩:Addr).add j = ⟨p.blk, p.shift + (o + j), none⟩:=by unfold Addr.add; split <;> simp_all <;> omega
                          rw [gy, cy, cJ.q0h]
                        have ff:w.shape? p.blk = some (e, C.size):=by simp [World.shape?, hC, lX, het]
                        have hr:=Q1o (P:=P) c.argTypes ty t e cL hu qh ⟨p.blk, p.shift + o, none⟩ C.size w ff ns k jv jx (by show p.shift + o + ns.length <= C.size; omega) pB a8;obtain ⟨k1, k2⟩:=hH.freeze hp hb (p.shift + o) k.toNat;refine ⟨.string ⟨(ns.map λn => n.toNat.toUInt8).toArray⟩, _, ρ, .inl ?_, .string _, k1, k2⟩;simp [execOp, resolve, aK, bI, invoke, builtin, cC, fY, hr]
                      . cases h
                    . cases h
                  . cases h
                . cases h
            . cases h
          . cases hc
        . cases hc
      . cases hc
    . cases hc
  all_goals cases hc
theorem Ob {o:Oper}{vo:VOp}(hc:Kh P o.op=vo) (hq:vo.quiet=true) (hH:HRel ρ M w) (hE:∀ x,X8 x=true->VRel ρ M.n (Q3 env x) (ev x))
  (h:Q7 vo (Q3 env) M=some (v,M')):M'=M/\SY P ρ M w v (execOp ev o):=by
 unfold Kh at hc;split at hc
 .rename_i v' hv;subst hc;exact Ch hv hq hH hE h
 .split at hc
  .rename_i x hx;subst hc;exact LV hx hq hH hE h
  .subst hc;simp[Q7] at h
theorem Q0k {o:Oper}{vo:VOp}(hc:Kh P o.op=vo) (hq:vo.quiet=false) (hH:HRel ρ M w) (hE:∀ x,X8 x=true->VRel ρ M.n (Q3 env x) (ev x))
  (h:Q7 vo (Q3 env) M=some (v,M')):S5 P ρ M w v M' (execOp ev o):=by
 unfold Kh at hc;split at hc
 .rename_i v' hv;subst hc;exact EE hv hq hH hE h
 .split at hc
  .rename_i x hx;subst hc;exact Cd hx hq hH hE h
  .subst hc;simp[Q7] at h
end
end Go.V