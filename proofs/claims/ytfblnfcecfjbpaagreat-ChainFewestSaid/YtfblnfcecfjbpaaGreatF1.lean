/- A framework for walks, contracts of functions, and their proofs: part 1. -/
import Derived.WalkKit
import Derived.Lib.Builder
import Derived.Lib.UnsafeStr
import Derived.DeepKeys
abbrev Go.z0:=@if_pos
abbrev Go.z1:=@if_neg
abbrev Go.z2:=@Bool.and_eq_true
abbrev Go.z3:=@List.getElem?_eq_getElem
abbrev Go.z4:=@List.getD_eq_getElem?_getD
abbrev Go.z5:=@Nat.le_refl
abbrev Go.z6:=@List.all_eq_true
abbrev Go.z7:=@List.getElem?_eq_some_iff
abbrev Go.z8:=@List.mem_singleton
abbrev Go.z9:=@List.mem_cons_of_mem
abbrev Go.zd:=@Go.Result.andThen_ok
abbrev Go.ze:=@List.mem_cons_self
abbrev Go.zf:=@List.mem_cons
abbrev Go.zg:=@_root_.cond_true
abbrev Go.zh:=@Nat.lt_or_ge
abbrev Go.zi:=@decide_eq_true_eq
abbrev Go.zj:=@List.getElem?_eq_none
abbrev Go.zk:=@Nat.add_assoc
abbrev Go.zl:=@of_decide_eq_true
abbrev Go.zm:=@Nat.mul_le_mul_right
abbrev Go.zn:=@List.getElem_mem
abbrev Go.zo:=@Option.map_eq_some_iff
abbrev Go.zp:=@Bool.or_eq_true
abbrev Go.zq:=@List.mem_map
abbrev Go.zr:=@List.mem_range
abbrev Go.zt:=@Go.Sem.run_bind
abbrev Go.zu:=@List.mem_append
abbrev Go.zw:=@List.getElem?_drop
abbrev Go.zx:=@if_true
abbrev Go.zy:=@List.mem_filter
abbrev Go.zz:=@Int.toNat_natCast
abbrev Go.zA:=@Bool.false_eq_true
abbrev Go.zB:=@List.length_append
abbrev Go.zC:=@Nat.le_of_ble_eq_true
abbrev Go.zD:=@List.take_of_length_le
abbrev Go.zE:=@List.mem_of_getElem?
abbrev Go.zF:=@List.map_cons
abbrev Go.zG:=@Nat.add_mul
abbrev Go.zH:=@Nat.eq_of_beq_eq_true
abbrev Go.zI:=@Nat.blt_eq
abbrev Go.zJ:=@Option.bind_eq_bind
abbrev Go.zK:=@of_decide_eq_false
abbrev Go.zL:=@List.getElem?_take
abbrev Go.zM:=@Nat.add_zero
abbrev Go.zN:=@List.cons.inj
abbrev Go.zO:=@_root_.cond_false
abbrev Go.zP:=@List.length_cons
abbrev Go.zQ:=@List.getElem?_map
abbrev Go.zR:=@List.all_cons
abbrev Go.zS:=@beq_iff_eq
abbrev Go.zT:=@List.ext_getElem?
abbrev Go.zU:=@List.nodup_cons
abbrev Go.zV:=@Nat.zero_add
abbrev Go.zW:=@List.length_eq_zero_iff
abbrev Go.zX:=@List.drop_zero
abbrev Go.zY:=@List.cons_append
abbrev Go.zZ:=@Nat.le_trans
abbrev Go.z_:=@List.length_eq_one_iff
abbrev Go.x3:=@Array.getElem?_eq_some_iff
abbrev Go.x4:=@Option.bind_eq_some_iff
abbrev Go.x5:=@Go.Sem.run_pure
abbrev Go.x6:=@List.getElem?_append_left
abbrev Go.x7:=@List.append_assoc
abbrev Go.x8:=@Nat.lt_of_lt_of_le
abbrev Go.x9:=@List.map_congr_left
abbrev Go.xc:=@List.getElem?_append_right
abbrev Go.xd:=@Option.some.injEq
abbrev Go.xe:=@List.nil_append
abbrev Go.xg:=@List.mem_iff_getElem?
abbrev Go.xh:=@Array.getElem?_eq_getElem
abbrev Go.xi:=@List.any_eq_true
abbrev Go.xj:=@Option.map_some
abbrev Go.xk:=@List.mapM_cons
abbrev Go.xl:=@List.mem_append_right
abbrev Go.xm:=@Int.eq_ofNat_of_zero_le
abbrev Go.xn:=@List.getLastD_eq_getLast?
abbrev Go.xp:=@Option.bind_some
abbrev Go.xq:=@Nat.mod_eq_of_lt
abbrev Go.xr:=@List.mem_append_left
abbrev Go.xt:=@List.replicate_succ
abbrev Go.xu:=@List.getElem?_set
abbrev Go.xw:=@List.pairwise_cons
abbrev Go.xx:=@List.length_set
abbrev Go.xy:=@List.length_singleton
abbrev Go.xA:=@decide_eq_true
abbrev Go.xB:=@List.map_append
abbrev Go.xC:=@List.append_nil
abbrev Go.xD:=@Nat.one_mul
abbrev Go.xE:=@Nat.lt_of_le_of_lt
abbrev Go.xF:=@List.getElem_map
abbrev Go.xG:=@List.perm_ext_iff_of_nodup
abbrev Go.xH:=@List.sum_cons
abbrev Go.xI:=@List.pairwise_map
abbrev Go.xJ:=@List.length_pos_iff
abbrev Go.xK:=@List.take_append_drop
abbrev Go.xL:=@List.length_replicate
abbrev Go.xM:=@List.length_drop
abbrev Go.xN:=@List.any_eq_false
abbrev Go.xO:=@decide_eq_false
abbrev Go.xP:=@Nat.add_comm
abbrev Go.xQ:=@Bool.not_eq_false'
abbrev Go.xR:=@Nat.shiftRight_eq_div_pow
abbrev Go.xS:=@Nat.min_eq_left
abbrev Go.xT:=@Bool.and_true
abbrev Go.xU:=@Bool.or_false
abbrev Go.xV:=@List.length_take
abbrev Go.xW:=@Bool.not_true
abbrev Go.xX:=@Nat.mod_lt
abbrev Go.xY:=@Nat.mul_comm
abbrev Go.xZ:=@Bool.not_eq_true
abbrev Go.x_:=@List.length_map
abbrev Go.w4:=@List.foldl_cons
abbrev Go.w5:=@List.map_map
abbrev Go.wa:=@Nat.sub_self
abbrev Go.wb:=@List.take_succ_cons
abbrev Go.wc:=@Option.map_none
abbrev Go.we:=@List.take_zero
abbrev Go.wg:=@decide_eq_false_iff_not
abbrev Go.wh:=@List.length_range
abbrev Go.wi:=@Nat.not_lt
abbrev Go.wj:=@beq_eq_false_iff_ne
abbrev Go.wk:=@List.drop_succ_cons
abbrev Go.wm:=@Nat.lt_irrefl
abbrev Go.wu:=@List.filter_cons
theorem Go.osj.{u} {α:Type u} {a b:α}:some a=some b->a=b:=Option.some.inj
namespace Go.V
open Go
def OY:Nat->Option (List Value):=λ_=>none
structure El where
 sz:Nat
 ty:Nat
 deriving DecidableEq,Inhabited
inductive VObj where
 |map (es:List (Value×Value×Nat)) (clock:Nat)
 |iter (m since:Nat) (seen:List Nat) (last:Nat)
 |lp (env:List Value) (r:Loop) (st:LoopState) (pend:Option Code)
 deriving Inhabited
inductive Blk where
 |cells (c:List Value) (esz:El) (wr tight:Bool)
 |obj (o:VObj) (wr:Bool)
 deriving Inhabited
def Blk.wr:Blk->Bool
 |.cells _ _ w _=>w
 |.obj _ w=>w
structure Heap where
 get:Nat->Option Blk
 n:Nat
 wf:∀ i,n<=i->get i=none
theorem Heap.lt (M:Heap) {i:Nat}{b:Blk}(h:M.get i=some b):i<M.n:=by
 rcases zh i M.n with h'|h'
 .exact h'
 .rw[M.wf i h'] at h;cases h
def Heap.push (M:Heap) (b:Blk):Heap where
 get i:=if i=M.n then some b else M.get i
 n:=M.n+1
 wf i h:=by rw[z1 (by omega)];exact M.wf i (by omega)
def Heap.upd (M:Heap) (i:Nat) (b:Blk):Heap where
 get j:=if j=i/\i<M.n then some b else M.get j
 n:=M.n
 wf j h:=by rw[z1 (by omega)];exact M.wf j h
def Heap.kill (M:Heap) (i:Nat):Heap where
 get j:=if j=i then none else M.get j
 n:=M.n
 wf j h:=by split;rfl;exact M.wf j h
@[simp] theorem Heap.push_n (M:Heap) (b:Blk):(M.push b).n=M.n+1:=rfl
@[simp] theorem Heap.q2i (M:Heap) (i:Nat) (b:Blk):(M.upd i b).n=M.n:=rfl
@[simp] theorem Heap.kill_n (M:Heap) (i:Nat):(M.kill i).n=M.n:=rfl
theorem Heap.q0a (M:Heap) (b:Blk):(M.push b).get M.n=some b:=by simp[Heap.push]
theorem Heap.q0e (M:Heap) (b:Blk) {i:Nat}(h:i≠M.n):(M.push b).get i=M.get i:=by simp[Heap.push,h]
theorem Heap.q0i (M:Heap) (b:Blk) {i:Nat}(h:i<M.n):(M.push b).get i=M.get i:=M.q0e b (Nat.ne_of_lt h)
theorem Heap.q0c (M:Heap) (b:Blk) {i:Nat}(h:i<M.n):(M.upd i b).get i=some b:=by simp[Heap.upd,h]
theorem Heap.q0b (M:Heap) (b:Blk) {i j:Nat}(h:j≠i):(M.upd i b).get j=M.get j:=by simp[Heap.upd,h]
theorem Heap.q0g (M:Heap) (i:Nat):(M.kill i).get i=none:=by simp[Heap.kill]
theorem Heap.q0d (M:Heap) {i j:Nat}(h:j≠i):(M.kill i).get j=M.get j:=by simp[Heap.kill,h]
structure Pl where
 blk:Nat
 shift:Nat
 ext:Nat
 esz:El
 tight:Bool
abbrev Plc:=Nat->Option Pl
def poison:Value:=.chan none
inductive VRel (ρ:Plc) (n:Nat):Value->Value->Prop
 |poison (c:Value):VRel ρ n poison c
 |bool (b:Bool):VRel ρ n (.bool b) (.bool b)
 |int (k:IntKind) (x:Int):VRel ρ n (.int k x) (.int k x)
 |string (s:ByteArray):VRel ρ n (.string s) (.string s)
 |nilPtr:VRel ρ n (.pointer none) (.pointer none)
 |nilSl:VRel ρ n (.slice none 0 0) (.slice none 0 0)
 |nilMap:VRel ρ n (.map none) (.map none)
 |nilFunc:VRel ρ n .nilFunc .nilFunc
 |nilIface:VRel ρ n .nilIface .nilIface
 |glob (g o s:Nat):VRel ρ n (.pointer (some ⟨g,o,some s⟩)) (.pointer (some ⟨g,o,none⟩))
 |ptr (i o:Nat) (a:Addr) (hi:i<n) (h:∀ p,ρ i=some p->a=⟨p.blk,p.shift+o,none⟩):VRel ρ n (.pointer (some ⟨i,o,none⟩)) (.pointer (some a))
 |sl (i o len cap:Nat) (a:Addr) (aq:Nat) (hi:i<n)
   (h:∀ p,ρ i=some p->cap<=aq/\(p.tight=true->aq=cap)/\(aq=0/\len=0\/∃ o',a=⟨p.blk,p.shift+o',none⟩/\o'+aq*p.esz.sz<=p.ext/\(o'=o\/(len=0/\cap=0)))) :
   VRel ρ n (.slice (some ⟨i,o,none⟩) len cap) (.slice (some a) len aq)
 |slx (i o len cap:Nat) (a:Addr) (hi:i<n) (h:∀ p,ρ i=some p->a=⟨p.blk,p.shift+o,none⟩/\o+cap*p.esz.sz<=p.ext) :
   VRel ρ n (.slice (some ⟨i,o,some 0⟩) len cap) (.slice (some a) len cap)
 |map (i r:Nat) (hi:i<n) (h:∀ p,ρ i=some p->r=p.blk):VRel ρ n (.map (some i)) (.map (some r))
 |yield (i r:Nat) (hi:i<n) (h:∀ p,ρ i=some p->r=p.blk):VRel ρ n (.func (.yield i) #[] #[]) (.func (.yield r) #[] #[])
 |iface (t:TypeId) (v c:Value) (h:VRel ρ n v c):VRel ρ n (.iface t v) (.iface t c)
 |func (fn:FuncId) (fs gs cs ds:Array Value) (hf:fs.size=gs.size) (hc:cs.size=ds.size)
   (h1:∀ i (h1:i<fs.size) (h2:i<gs.size),VRel ρ n fs[i] gs[i]) (h2:∀ i (h1:i<cs.size) (h2:i<ds.size),VRel ρ n cs[i] ds[i]):VRel ρ n (.func (.func fn) fs cs) (.func (.func fn) gs ds)
 |agg (cs ds:Array Value) (hc:cs.size=ds.size) (h:∀ i (h1:i<cs.size) (h2:i<ds.size),VRel ρ n cs[i] ds[i]):VRel ρ n (.agg cs) (.agg ds)
 |tuple (cs ds:Array Value) (hc:cs.size=ds.size) (h:∀ i (h1:i<cs.size) (h2:i<ds.size),VRel ρ n cs[i] ds[i]):VRel ρ n (.tuple cs) (.tuple ds)
theorem VRel.mono {ρ ρ':Plc}{n n':Nat}(hn:n<=n') (hρ:∀ i,i<n->∀ p,ρ' i=some p->ρ i=some p) {v c:Value}(h:VRel ρ n v c):VRel ρ' n' v c:=by
 induction h with
 |poison c=>exact .poison c
 |bool b=>exact .bool b
 |int k x=>exact .int k x
 |string s=>exact .string s
 |nilPtr=>exact .nilPtr
 |nilSl=>exact .nilSl
 |nilMap=>exact .nilMap
 |nilFunc=>exact .nilFunc
 |nilIface=>exact .nilIface
 |glob g o s=>exact .glob g o s
 |ptr i o a hi h=>exact .ptr i o a (by omega) λp hp=>h p (hρ i hi p hp)
 |sl i o len cap a aq hi h=>exact .sl i o len cap a aq (by omega) λp hp=>h p (hρ i hi p hp)
 |slx i o len cap a hi h=>exact .slx i o len cap a (by omega) λp hp=>h p (hρ i hi p hp)
 |map i r hi h=>exact .map i r (by omega) λp hp=>h p (hρ i hi p hp)
 |yield i r hi h=>exact .yield i r (by omega) λp hp=>h p (hρ i hi p hp)
 |iface t v c _ ih=>exact .iface t v c ih
 |func fn fs gs cs ds hf hc _ _ lg lh=>exact .func fn fs gs cs ds hf hc lg lh
 |agg cs ds hc _ ih=>exact .agg cs ds hc ih
 |tuple cs ds hc _ ih=>exact .tuple cs ds hc ih
def LRel (ρ:Plc) (n:Nat) (vs cs:List Value):Prop:=vs.length=cs.length/\∀ (i:Nat) (v c:Value),vs[i]?=some v->cs[i]?=some c->VRel ρ n v c
theorem LRel.mono {ρ ρ':Plc}{n n':Nat}(hn:n<=n') (hρ:∀ i,i<n->∀ p,ρ' i=some p->ρ i=some p) {v c:List Value}(h:LRel ρ n v c):LRel ρ' n' v c :=
 ⟨h.1,λi v c hv hc=>(h.2 i v c hv hc).mono hn hρ⟩
theorem LRel.nil (ρ:Plc) (n:Nat):LRel ρ n [] []:=⟨rfl,λi v c h _=>by simp at h⟩
theorem LRel.cons {ρ:Plc}{n:Nat}{v c:Value}{vs cs:List Value}(h:VRel ρ n v c) (hs:LRel ρ n vs cs):LRel ρ n (v::vs) (c::cs):=by
 refine⟨by simp[hs.1],λi v' c' hv hc=>?_⟩;cases i with
 |zero=>simp at hv hc;subst hv;subst hc;exact h
 |succ i=>simp at hv hc;exact hs.2 i v' c' hv hc
theorem LRel.get {ρ:Plc}{n:Nat}{vs cs:List Value}(h:LRel ρ n vs cs) {i:Nat}{v:Value}(hv:vs[i]?=some v):∃ c,cs[i]?=some c/\VRel ρ n v c:=by
 have ah:i<vs.length:=(z7.1 hv).1;have b6:i<cs.length:=by have:=h.1;omega
 exact⟨cs[i],z3 b6,h.2 i v _ hv (z3 b6)⟩
theorem LRel.set {ρ:Plc}{n:Nat}{vs cs:List Value}(h:LRel ρ n vs cs) (i:Nat) {v c:Value}(hv:VRel ρ n v c):LRel ρ n (vs.set i v) (cs.set i c):=by
 refine⟨by simp[h.1],λj v' c' h1 h2=>?_⟩;rw[xu] at h1 h2;by_cases bY:i=j
 .subst bY;simp only[zx] at h1 h2;split at h1<;>split at h2<;>simp at h1 h2;subst h1;subst h2;exact hv
 .simp only[bY,if_false] at h1 h2;exact h.2 j v' c' h1 h2
theorem LRel.append {ρ:Plc}{n:Nat}{vs cs cN cs':List Value}(h:LRel ρ n vs cs) (h':LRel ρ n cN cs'):LRel ρ n (vs++cN) (cs++cs'):=by
 refine⟨by simp[h.1,h'.1],λi v c hv hc=>?_⟩;have e:=h.1;rw[List.getElem?_append] at hv hc;split at hv<;>split at hc<;>try omega
 .exact h.2 i v c hv hc
 .rw[e] at hv;exact h'.2 _ v c hv hc
theorem VRel.q1m {ρ:Plc}{n:Nat}{cs ds:List Value}(h:LRel ρ n cs ds):VRel ρ n (.agg cs.toArray) (.agg ds.toArray) :=
 .agg _ _ (by simpa using h.1) λi h1 h2=>h.2 i _ _ (by simp) (by simp)
theorem VRel.q0j {ρ:Plc}{n:Nat}{cs ds:List Value}(h:LRel ρ n cs ds):VRel ρ n (.tuple cs.toArray) (.tuple ds.toArray) :=
 .tuple _ _ (by simpa using h.1) λi h1 h2=>h.2 i _ _ (by simp) (by simp)
theorem LRel.of_array {ρ:Plc}{n:Nat}{cs ds:Array Value}(hc:cs.size=ds.size) (h:∀ i (h1:i<cs.size) (h2:i<ds.size),VRel ρ n cs[i] ds[i]):LRel ρ n cs.toList ds.toList:=by refine⟨by simpa using hc,λi v c hv cO=>?_⟩;obtain⟨h1,rfl⟩:=z7.1 hv;obtain⟨h2,rfl⟩:=z7.1 cO;exact h i (by simpa using h1) (by simpa using h2)
def ORel (ρ:Plc) (n:Nat):VObj->Obj->Prop
 |.map es clock,o=>∃ entries,o=.map entries clock/\entries.size=es.length /\
   ∀ (k:Nat) (kv:Value×Value×Nat),es[k]?=some kv->∃ e:MapEntry,entries[k]?=some e/\e.key=kv.1/\e.born=kv.2.2/\VRel ρ n kv.2.1 e.val
 |.iter m since seen last,o=>∃ rm,o=.mapIter (some rm) since seen.toArray last/\VRel ρ n (.map (some m)) (.map (some rm))
 |.lp env r st pend,o=>o=.loop {r with state:=st,pending:=pend}/\LRel ρ n env r.tmps.toList
def BRel (ρ:Plc) (n:Nat) (p:Pl) (w:World):Blk->Prop
 |.cells c esz wr tight=>p.esz=esz/\p.tight=tight/\c.length<=p.ext /\
   (∃ C e f,w.heap[p.blk]?=some (.cells C e f)/\p.shift+p.ext<=C.size/\e=esz.ty) /\
   (∀ (k:Nat) (v:Value),c[k]?=some v->∃ u,w.cell? ⟨p.blk,p.shift+k,none⟩=some u/\VRel ρ n v u) /\
   (wr=true->(tight=true->p.shift=0)/\∀ k,k<p.ext->w.frozen? ⟨p.blk,p.shift+k,none⟩=false)
 |.obj o _=>(p.ext=1/\p.shift=0)/\∃ O,w.heap[p.blk]?=some O/\ORel ρ n o O
structure HRel0 (ρ:Plc) (M:Heap) (w:World):Prop where
 live:∀ i b,M.get i=some b->∃ p,ρ i=some p/\BRel ρ M.n p w b
 dead:∀ i,M.get i=none->ρ i=none
 lt:∀ i p,ρ i=some p->p.blk<w.heap.size
 sep:∀ i j p q b,i≠j->ρ i=some p->ρ j=some q->M.get i=some b->b.wr=true->0<q.ext->p.blk≠q.blk
theorem HRel0.idlt {ρ:Plc}{M:Heap}{w:World}(h:HRel0 ρ M w) {i:Nat}{p:Pl}(hp:ρ i=some p):i<M.n:=by
 cases hb:M.get i with
 |none=>rw[h.dead i hb] at hp;cases hp
 |some b=>exact M.lt hb
def Wr (ρ:Plc) (M:Heap) (B:Nat):Prop:=∃ i p b,ρ i=some p/\M.get i=some b/\b.wr=true/\p.blk=B
structure Ext (ρ:Plc) (M:Heap) (w:World) (ρ':Plc) (M':Heap) (w':World):Prop where
 os:w'.os=w.os
 tape:w'.tape=w.tape
 output:w'.output=w.output
 size:w.heap.size<=w'.heap.size
 keep:∀ B,B<w.heap.size->¬ Wr ρ M B->w'.heap[B]?=w.heap[B]?
 wr:∀ B,B<w.heap.size->Wr ρ' M' B->Wr ρ M B
 n:M.n<=M'.n
 pl:∀ i,i<M.n->∀ p,ρ' i=some p->ρ i=some p
theorem Ext.refl (ρ:Plc) (M:Heap) (w:World):Ext ρ M w ρ M w :=
 ⟨rfl,rfl,rfl,z5 _,λ_ _ _=>rfl,λ_ _ h=>h,z5 _,λ_ _ _ h=>h⟩
theorem Ext.trans {ρ ρ' eP:Plc}{M M' aE:Heap}{w w' pn:World}(h:Ext ρ M w ρ' M' w') (k:Ext ρ' M' w' eP aE pn):Ext ρ M w eP aE pn where
 os:=k.os.trans h.os
 tape:=k.tape.trans h.tape
 output:=k.output.trans h.output
 size:=zZ h.size k.size
 keep B hB hW:=(k.keep B (x8 hB h.size) (λhw=>hW (h.wr B hB hw))).trans (h.keep B hB hW)
 wr B hB hW:=h.wr B hB (k.wr B (x8 hB h.size) hW)
 n:=zZ h.n k.n
 pl i hi p hp:=h.pl i hi p (k.pl i (x8 hi h.n) p hp)
theorem Ext.lrel {ρ ρ':Plc}{M M':Heap}{w w':World}(h:Ext ρ M w ρ' M' w') {v c:List Value}(hv:LRel ρ M.n v c):LRel ρ' M'.n v c:=hv.mono h.n h.pl
theorem ORel.mono {ρ ρ':Plc}{n n':Nat}(hn:n<=n') (hρ:∀ i,i<n->∀ p,ρ' i=some p->ρ i=some p) {o:VObj}{O:Obj}(h:ORel ρ n o O):ORel ρ' n' o O:=by
 cases o with
 |map es clock =>obtain⟨entries,h1,h2,h3⟩:=h;exact⟨entries,h1,h2,λk kv hk=>let ⟨e,he,h4,h5,hv⟩:=h3 k kv hk;⟨e,he,h4,h5,hv.mono hn hρ⟩⟩
 |iter m since seen last=>obtain⟨rm,h1,h2⟩:=h;exact⟨rm,h1,h2.mono hn hρ⟩
 |lp env r st pend=>exact⟨h.1,h.2.mono hn hρ⟩
theorem ORel.q1s {ρ:Plc}{n:Nat}{o:VObj}{C:Array Value}{e:TypeId}{f:Nat×Nat}:¬ ORel ρ n o (.cells C e f):=by
 cases o with
 |map es clock=>rintro⟨_,h,_⟩;cases h
 |iter m since seen last=>rintro⟨_,h,_⟩;cases h
 |lp env r st pend=>rintro⟨h,_⟩;cases h
theorem ORel.q0l {ρ:Plc}{n:Nat}{o:VObj}{d:Option (List Deferred)}:¬ ORel ρ n o (.deferred d):=by
 cases o with
 |map es clock=>rintro⟨_,h,_⟩;cases h
 |iter m since seen last=>rintro⟨_,h,_⟩;cases h
 |lp env r st pend=>rintro⟨h,_⟩;cases h
theorem BRel.mono {ρ ρ':Plc}{n n':Nat}(hn:n<=n') (hρ:∀ i,i<n->∀ p,ρ' i=some p->ρ i=some p) {p:Pl}{w w':World}(hw:w'.heap[p.blk]?=w.heap[p.blk]?) {b:Blk}(h:BRel ρ n p w b):BRel ρ' n' p w' b:=by
 cases b with
 |cells c esz wr tight =>
  obtain⟨h1,h2,h3,h4,h5,h6⟩:=h;refine⟨h1,h2,h3,by rw[hw];exact h4,λk v hk=>?_,λfU=>⟨(h6 fU).1,λk hk=>?_⟩⟩
  .obtain⟨u,hu,hv⟩:=h5 k v hk;exact⟨u,by rw[World.cell?_of_block (a:=⟨p.blk,p.shift+k,none⟩) hw];exact hu,hv.mono hn hρ⟩
  .rw[World.frozen?_of_block (a:=⟨p.blk,p.shift+k,none⟩) hw];exact(h6 fU).2 k hk
 |obj o wr =>obtain⟨h0,O,h1,h2⟩:=h;exact⟨h0,O,by rw[hw];exact h1,h2.mono hn hρ⟩
theorem HRel0.world {ρ:Plc}{M:Heap}{w w':World}(h:HRel0 ρ M w) (hs:w.heap.size<=w'.heap.size) (hb:∀ i p,ρ i=some p->w'.heap[p.blk]?=w.heap[p.blk]?):HRel0 ρ M w' where
 live i b hi:=by obtain⟨p,hp,hB⟩:=h.live i b hi;exact⟨p,hp,hB.mono (z5 _) (λ_ _ _ h=>h) (hb i p hp)⟩
 dead:=h.dead
 lt i p hp:=x8 (h.lt i p hp) hs
 sep:=h.sep
theorem HRel0.drew {ρ:Plc}{M:Heap}{w:World}(h:HRel0 ρ M w):HRel0 ρ M w.drew:=h.world (z5 _) (λ_ _ _=>rfl)
theorem Ext.drew (ρ:Plc) (M:Heap) (w:World):Ext ρ M w ρ M w.drew :=
 ⟨rfl,rfl,rfl,z5 _,λ_ _ _=>rfl,λ_ _ h=>h,z5 _,λ_ _ _ h=>h⟩
def Plc.put (ρ:Plc) (i:Nat) (p:Option Pl):Plc:=λj=>if j=i then p else ρ j
theorem HRel0.alloc {ρ:Plc}{M:Heap}{w:World}(h:HRel0 ρ M w) (c:List Value) (C:Array Value) (e:TypeId) (esz:El) (tight:Bool) (he:e=esz.ty)
  (hc:LRel ρ M.n c (C.toList.take c.length)) (hl:c.length<=C.size) :
  ∃ ρ',ρ' M.n=some ⟨w.heap.size,0,C.size,esz,tight⟩/\HRel0 ρ' (M.push (.cells c esz true tight)) (w.alloc (.cells C e))/\Ext ρ M w ρ' (M.push (.cells c esz true tight)) (w.alloc (.cells C e)):=by
 have hold:∀ k,k<w.heap.size->(w.alloc (.cells C e)).heap[k]?=w.heap[k]?:=λk hk=>by show (w.heap.push _)[k]?=_;rw[Array.getElem?_push,z1 (by omega)]
 have aD:(w.alloc (.cells C e)).heap.size=w.heap.size+1:=World.size_alloc w _;have aY:∀ i,i<M.n->∀ p,(ρ.put M.n (some ⟨w.heap.size,0,C.size,esz,tight⟩)) i=some p->ρ i=some p:=λi hi p hp=>by unfold Plc.put at hp;rwa [z1 (by omega)] at hp
 refine⟨ρ.put M.n (some ⟨w.heap.size,0,C.size,esz,tight⟩),by simp[Plc.put],⟨?_,?_,?_,?_⟩,⟨rfl,rfl,rfl,by omega,λB hB _=>hold B hB,?_,by simp,aY⟩⟩
 .intro i b hb;by_cases hi:i=M.n
  .subst hi;rw[Heap.q0a] at hb;obtain rfl:=osj hb;refine⟨⟨w.heap.size,0,C.size,esz,tight⟩,by simp[Plc.put],rfl,rfl,hl,⟨C,e,(0,0),?_,by simp,he⟩,λk v hk=>?_,λ_=>⟨λ_=>rfl,λk _=>?_⟩⟩
   .show (w.heap.push _)[w.heap.size]?=_;simp
   .obtain⟨u,hu,hv⟩:=hc.get hk;have bg:k<c.length:=(z7.1 hk).1;refine⟨u,?_,hv.mono (by simp) aY⟩;rw[zV,World.cell?_alloc_new];rw[zL,z0 bg] at hu;simpa using hu
   .rw[zV];exact World.frozen?_alloc_new w C e k
  .rw[Heap.q0e _ _ hi] at hb;obtain⟨p,hp,hB⟩:=h.live i b hb;exact⟨p,by simp[Plc.put,hi,hp],hB.mono (by simp) aY (hold _ (h.lt i p hp))⟩
 .intro i hi;by_cases aO:i=M.n
  .subst aO;rw[Heap.q0a] at hi;cases hi
  .rw[Heap.q0e _ _ aO] at hi;simp[Plc.put,aO,h.dead i hi]
 .intro i p hp;by_cases hi:i=M.n
  .subst hi;simp[Plc.put] at hp;subst hp;simp
  .simp[Plc.put,hi] at hp;have:=h.lt i p hp;omega
 .intro i j p q b bY hp hq hb hw hx;by_cases hi:i=M.n
  .subst hi;simp[Plc.put] at hp;subst hp;simp[Plc.put,Ne.symm bY] at hq;have:=h.lt j q hq;intro e;simp at e;omega
  .simp[Plc.put,hi] at hp;rw[Heap.q0e _ _ hi] at hb;by_cases hj:j=M.n
   .subst hj;simp[Plc.put] at hq;subst hq;have:=h.lt i p hp;intro e;simp at e;omega
   .simp[Plc.put,hj] at hq;exact h.sep i j p q b bY hp hq hb hw hx
 .rintro B hB ⟨i,p,b,hp,hb,hw,rfl⟩;by_cases hi:i=M.n
  .subst hi;simp[Plc.put] at hp;subst hp;simp at hB
  .simp[Plc.put,hi] at hp;rw[Heap.q0e _ _ hi] at hb;exact⟨i,p,b,hp,hb,hw,rfl⟩
theorem HRel0.newObj {ρ:Plc}{M:Heap}{w:World}(h:HRel0 ρ M w) (o:VObj) (O:Obj) (ho:ORel ρ M.n o O) :
  ∃ ρ',ρ' M.n=some ⟨w.heap.size,0,1,default,true⟩/\HRel0 ρ' (M.push (.obj o true)) (w.alloc O)/\Ext ρ M w ρ' (M.push (.obj o true)) (w.alloc O):=by
 have hold:∀ k,k<w.heap.size->(w.alloc O).heap[k]?=w.heap[k]?:=λk hk=>by show (w.heap.push _)[k]?=_;rw[Array.getElem?_push,z1 (by omega)]
 have aD:(w.alloc O).heap.size=w.heap.size+1:=World.size_alloc w _;have aY:∀ i,i<M.n->∀ p,(ρ.put M.n (some ⟨w.heap.size,0,1,default,true⟩)) i=some p->ρ i=some p:=λi hi p hp=>by unfold Plc.put at hp;rwa [z1 (by omega)] at hp
 refine⟨ρ.put M.n (some ⟨w.heap.size,0,1,default,true⟩),by simp[Plc.put],⟨?_,?_,?_,?_⟩,⟨rfl,rfl,rfl,by omega,λB hB _=>hold B hB,?_,by simp,aY⟩⟩
 .intro i b hb;by_cases hi:i=M.n
  .subst hi;rw[Heap.q0a] at hb;obtain rfl:=osj hb;refine⟨⟨w.heap.size,0,1,default,true⟩,by simp[Plc.put],⟨rfl,rfl⟩,O,?_,ho.mono (by simp) aY⟩;show (w.heap.push _)[w.heap.size]?=_;simp
  .rw[Heap.q0e _ _ hi] at hb;obtain⟨p,hp,hB⟩:=h.live i b hb;exact⟨p,by simp[Plc.put,hi,hp],hB.mono (by simp) aY (hold _ (h.lt i p hp))⟩
 .intro i hi;by_cases aO:i=M.n
  .subst aO;rw[Heap.q0a] at hi;cases hi
  .rw[Heap.q0e _ _ aO] at hi;simp[Plc.put,aO,h.dead i hi]
 .intro i p hp;by_cases hi:i=M.n
  .subst hi;simp[Plc.put] at hp;subst hp;simp
  .simp[Plc.put,hi] at hp;have:=h.lt i p hp;omega
 .intro i j p q b bY hp hq hb hw hx;by_cases hi:i=M.n
  .subst hi;simp[Plc.put] at hp;subst hp;simp[Plc.put,Ne.symm bY] at hq;have:=h.lt j q hq;intro e;simp at e;omega
  .simp[Plc.put,hi] at hp;rw[Heap.q0e _ _ hi] at hb;by_cases hj:j=M.n
   .subst hj;simp[Plc.put] at hq;subst hq;have:=h.lt i p hp;intro e;simp at e;omega
   .simp[Plc.put,hj] at hq;exact h.sep i j p q b bY hp hq hb hw hx
 .rintro B hB ⟨i,p,b,hp,hb,hw,rfl⟩;by_cases hi:i=M.n
  .subst hi;simp[Plc.put] at hp;subst hp;simp at hB
  .simp[Plc.put,hi] at hp;rw[Heap.q0e _ _ hi] at hb;exact⟨i,p,b,hp,hb,hw,rfl⟩
def Pk (w:World) (b:Nat) (O:Obj):World:={w with heap:=w.heap.setIfInBounds b O}
theorem YZ (w:World) (b:Nat) (O:Obj) (k:Nat) (h:k≠b):(Pk w b O).heap[k]?=w.heap[k]?:=by simp only[Pk];rw[Array.getElem?_setIfInBounds_ne (Ne.symm h)]
theorem IV (w:World) (b:Nat) (O:Obj) (h:b<w.heap.size):(Pk w b O).heap[b]?=some O:=by simp only[Pk];rw[Array.getElem?_setIfInBounds_self_of_lt h]
theorem GW (w:World) (b:Nat) (O:Obj):(Pk w b O).heap.size=w.heap.size:=by simp[Pk]
theorem HRel0.setObj {ρ:Plc}{M:Heap}{w:World}(h:HRel0 ρ M w) {i:Nat}{p:Pl}{o:VObj}(hp:ρ i=some p) (hb:M.get i=some (.obj o true)) {o':VObj}{O':Obj}(ho:ORel ρ M.n o' O') :
  HRel0 ρ (M.upd i (.obj o' true)) (Pk w p.blk O')/\Ext ρ M w ρ (M.upd i (.obj o' true)) (Pk w p.blk O'):=by
 have hi:=M.lt hb;obtain⟨p',bk,h0,O,h1,h2⟩:=h.live i _ hb;obtain rfl:p=p':=osj (hp.symm.trans bk);have ah:=h.lt i p hp;refine⟨⟨λj b hj=>?_,λj hj=>?_,λj q hq=>by rw[GW];exact h.lt j q hq,λj k q r b cW hq hr cu hw hx=>?_⟩,?_⟩
 .by_cases aL:j=i
  .subst aL;rw[Heap.q0c _ _ hi] at hj;obtain rfl:=osj hj;exact⟨p,hp,h0,O',IV _ _ _ ah,ho⟩
  .rw[Heap.q0b _ _ aL] at hj;obtain⟨q,hq,fp⟩:=h.live j b hj;refine⟨q,hq,?_⟩;by_cases hk:q.blk=p.blk
   .have hx:q.ext=0:=by
     rcases Nat.eq_zero_or_pos q.ext with h'|h'
     .exact h'
     .exact absurd hk.symm (h.sep i j p q _ (Ne.symm aL) hp hq hb rfl h')
    cases b with
    |cells c esz wr tight =>obtain⟨_,_,_,⟨C,e,f,k1,_⟩,_⟩:=fp;rw[hk,h1] at k1;obtain rfl:=osj k1;exact absurd h2 ORel.q1s
    |obj o2 wr=>have:=fp.1;omega
   .exact fp.mono (z5 _) (λ_ _ _ h=>h) (YZ _ _ _ _ hk)
 .by_cases aL:j=i
  .subst aL;rw[Heap.q0c _ _ hi] at hj;cases hj
  .rw[Heap.q0b _ _ aL] at hj;exact h.dead j hj
 .by_cases aL:j=i
  .subst aL;exact h.sep j k q r _ cW hq hr hb rfl hx
  .rw[Heap.q0b _ _ aL] at cu;exact h.sep j k q r b cW hq hr cu hw hx
 .refine⟨rfl,rfl,rfl,by rw[GW];exact z5 _,λB hB hW=>YZ _ _ _ _ (λe=>hW ⟨i,p,_,hp,hb,rfl,e.symm⟩),?_,z5 _,λ_ _ _ h=>h⟩;rintro B _ ⟨j,q,b,hq,cf,hw,rfl⟩;by_cases aL:j=i
  .subst aL;exact⟨j,q,_,hq,hb,rfl,rfl⟩
  .rw[Heap.q0b _ _ aL] at cf;exact⟨j,q,b,hq,cf,hw,rfl⟩
theorem HRel0.q0l {ρ:Plc}{M:Heap}{w:World}(h:HRel0 ρ M w) {D:Nat}{d:Option (List Deferred)}(hD:w.heap[D]?=some (.deferred d)) (i:Nat) (p:Pl) (hp:ρ i=some p):p.blk≠D:=by
 rintro rfl;cases hb:M.get i with
 |none=>rw[h.dead i hb] at hp;cases hp
 |some b =>
  obtain⟨p',bk,hB⟩:=h.live i b hb;obtain rfl:p=p':=osj (hp.symm.trans bk);cases b with
  |cells c esz wr tight =>obtain⟨_,_,_,⟨C,e,f,k1,_⟩,_⟩:=hB;rw[hD] at k1;cases k1
  |obj o wr =>obtain⟨_,O,k1,k2⟩:=hB;rw[hD] at k1;obtain rfl:=osj k1;exact ORel.q0l k2
theorem HRel0.kill {ρ:Plc}{M:Heap}{w:World}(h:HRel0 ρ M w) (i:Nat):HRel0 (ρ.put i none) (M.kill i) w/\Ext ρ M w (ρ.put i none) (M.kill i) w:=by
 have aY:∀ j,∀ p,(ρ.put i none) j=some p->ρ j=some p/\j≠i:=λj p hp=>by unfold Plc.put at hp;split at hp<;>simp_all
 refine⟨⟨λj b hb=>?_,λj hj=>?_,λj p hp=>h.lt j p (aY j p hp).1,λj k p q b cW hp hq hb hw hx=>?_⟩,⟨rfl,rfl,rfl,z5 _,λ_ _ _=>rfl,?_,z5 _,λj _ p hp=>(aY j p hp).1⟩⟩
 .by_cases aL:j=i
  .subst aL;rw[Heap.q0g] at hb;cases hb
  .rw[Heap.q0d _ aL] at hb;obtain⟨p,hp,hB⟩:=h.live j b hb;exact⟨p,by simp[Plc.put,aL,hp],hB.mono (z5 _) (λk _ p hp=>(aY k p hp).1) rfl⟩
 .by_cases aL:j=i
  .simp[Plc.put,aL]
  .rw[Heap.q0d _ aL] at hj;simp[Plc.put,aL,h.dead j hj]
 .obtain⟨bk,aL⟩:=aY j p hp;rw[Heap.q0d _ aL] at hb;exact h.sep j k p q b cW bk (aY k q hq).1 hb hw hx
 .rintro B _ ⟨j,p,b,hp,hb,hw,rfl⟩;obtain⟨bk,aL⟩:=aY j p hp;rw[Heap.q0d _ aL] at hb;exact⟨j,p,b,bk,hb,hw,rfl⟩
def GTabs (ρ:Plc) (M:Heap) (w:World):Prop:=∀ g cs,OY g=some cs->(∃ e f,w.heap[g]?=some (.cells cs.toArray e f))/\¬ Wr ρ M g
theorem GTabs.lt {ρ:Plc}{M:Heap}{w:World}(h:GTabs ρ M w) {g:Nat}{cs:List Value}(hg:OY g=some cs):g<w.heap.size:=by obtain⟨⟨e,f,h1⟩,_⟩:=h g cs hg;exact(x3.1 h1).1
theorem GTabs.ext {ρ ρ':Plc}{M M':Heap}{w w':World}(h:GTabs ρ M w) (k:Ext ρ M w ρ' M' w'):GTabs ρ' M' w':=λg cs hg=>by obtain⟨⟨e,f,h1⟩,h2⟩:=h g cs hg;have hl:=h.lt hg;exact⟨⟨e,f,by rw[k.keep g hl h2];exact h1⟩,λhw=>h2 (k.wr g hl hw)⟩
structure HRel (ρ:Plc) (M:Heap) (w:World):Prop where
 core:HRel0 ρ M w
 tab:GTabs ρ M w
section
variable {ρ:Plc}{M:Heap}{w:World}
theorem HRel.ext {ρ':Plc}{M':Heap}{w':World}(h:HRel ρ M w) (h':HRel0 ρ' M' w') (k:Ext ρ M w ρ' M' w'):HRel ρ' M' w':=⟨h',h.tab.ext k⟩
theorem HRel.live (h:HRel ρ M w):∀ i b,M.get i=some b->∃ p,ρ i=some p/\BRel ρ M.n p w b:=h.core.live
theorem HRel.dead (h:HRel ρ M w):∀ i,M.get i=none->ρ i=none:=h.core.dead
theorem HRel.lt (h:HRel ρ M w):∀ i p,ρ i=some p->p.blk<w.heap.size:=h.core.lt
theorem HRel.sep (h:HRel ρ M w):∀ i j p q b,i≠j->ρ i=some p->ρ j=some q->M.get i=some b->b.wr=true->0<q.ext->p.blk≠q.blk:=h.core.sep
theorem HRel.idlt (h:HRel ρ M w) {i:Nat}{p:Pl}(hp:ρ i=some p):i<M.n:=h.core.idlt hp
theorem HRel.world {w':World}(h:HRel ρ M w) (hs:w.heap.size<=w'.heap.size) (hb:∀ i p,ρ i=some p->w'.heap[p.blk]?=w.heap[p.blk]?) (ht:∀ g cs,OY g=some cs->w'.heap[g]?=w.heap[g]?):HRel ρ M w' :=
 ⟨h.core.world hs hb,λg cs hg=>by
  obtain⟨⟨e,f,h1⟩,h2⟩:=h.tab g cs hg;exact⟨⟨e,f,by rw[ht g cs hg];exact h1⟩,h2⟩⟩
theorem HRel.drew (h:HRel ρ M w):HRel ρ M w.drew:=⟨h.core.drew,h.tab⟩
theorem HRel.alloc (h:HRel ρ M w) (c:List Value) (C:Array Value) (e:TypeId) (esz:El) (tight:Bool) (he:e=esz.ty)
  (hc:LRel ρ M.n c (C.toList.take c.length)) (hl:c.length<=C.size) :
  ∃ ρ',ρ' M.n=some ⟨w.heap.size,0,C.size,esz,tight⟩/\HRel ρ' (M.push (.cells c esz true tight)) (w.alloc (.cells C e))/\Ext ρ M w ρ' (M.push (.cells c esz true tight)) (w.alloc (.cells C e)) :=
 let ⟨ρ',h1,h2,h3⟩:=h.core.alloc c C e esz tight he hc hl
 ⟨ρ',h1,h.ext h2 h3,h3⟩
theorem HRel.newObj (h:HRel ρ M w) (o:VObj) (O:Obj) (ho:ORel ρ M.n o O) :
  ∃ ρ',ρ' M.n=some ⟨w.heap.size,0,1,default,true⟩/\HRel ρ' (M.push (.obj o true)) (w.alloc O)/\Ext ρ M w ρ' (M.push (.obj o true)) (w.alloc O) :=
 let ⟨ρ',h1,h2,h3⟩:=h.core.newObj o O ho
 ⟨ρ',h1,h.ext h2 h3,h3⟩
theorem HRel.setObj (h:HRel ρ M w) {i:Nat}{p:Pl}{o:VObj}(hp:ρ i=some p) (hb:M.get i=some (.obj o true)) {o':VObj}{O':Obj}(ho:ORel ρ M.n o' O') :
  HRel ρ (M.upd i (.obj o' true)) (Pk w p.blk O')/\Ext ρ M w ρ (M.upd i (.obj o' true)) (Pk w p.blk O') :=
 let ⟨h2,h3⟩:=h.core.setObj hp hb ho
 ⟨h.ext h2 h3,h3⟩
theorem HRel.q0l (h:HRel ρ M w) {D:Nat}{d:Option (List Deferred)}(hD:w.heap[D]?=some (.deferred d)) (i:Nat) (p:Pl) (hp:ρ i=some p):p.blk≠D:=h.core.q0l hD i p hp
theorem HRel.kill (h:HRel ρ M w) (i:Nat):HRel (ρ.put i none) (M.kill i) w/\Ext ρ M w (ρ.put i none) (M.kill i) w :=
 let ⟨h2,h3⟩:=h.core.kill i
 ⟨h.ext h2 h3,h3⟩
end
end Go.V
namespace Go.V
open Go
abbrev Env:=List Value
inductive MK where
 |int (k:IntKind)
 |string
 |bool
 |agg (s:List MK)
 deriving Inhabited
inductive XOp where
 |eqNil (kd:Nat) (neg:Bool) (x y:Operand)
 |makeMap
 |lookup (mk:MK) (zero:Value) (ok:Bool) (x i:Operand)
 |mapUpdate (mk:MK) (m k v:Operand)
 |delete (mk:MK) (m k:Operand)
 |mapEntry (mk:MK) (zero:Value) (m k:Operand)
 |entryStore (m s v:Operand)
 |lenMap (x:Operand)
 |rangeMap (x:Operand)
 |nextMap (x:Operand)
 |entry (x:Operand)
 |copy (size:Nat) (d s:Operand)
 |clear (z:List Value) (x:Operand)
 |toUnsafe (x:Operand)
 |fromUnsafe (u size:Nat) (x:Operand)
 |sliceData (x:Operand)
 |unsafeStr (e:Nat) (x n:Operand)
 |bytesStr (x:Operand)
 |strBytes (e:Nat) (x:Operand)
 |eqAgg (neg:Bool) (s:List MK) (x y:Operand)
 deriving Inhabited
inductive VOp where
 |move (x:Operand)
 |pick (c a b:Operand)
 |arith (op:BinOp) (x y:Operand)
 |div (op:BinOp) (x y:Operand)
 |bits (op:BinOp) (x y:Operand)
 |shift (op:BinOp) (x y:Operand)
 |cmp (op:BinOp) (x y:Operand)
 |str (op:BinOp) (x y:Operand)
 |eqB (neg:Bool) (x y:Operand)
 |un (op:UnOp) (x:Operand)
 |convI (k:IntKind) (x:Operand)
 |convS (x:Operand)
 |alloc (t:Nat) (z:List Value)
 |box (t:Nat) (x:Operand)
 |build (z:List Value) (parts:List (Nat×Nat×Operand))
 |buildSlice (esz:El) (z:List Value) (len:Nat) (parts:List (Nat×Operand))
 |load (agg:Bool) (size:Nat) (a:Operand)
 |store (size:Nat) (a v:Operand)
 |fieldAddr (off:Nat) (a:Operand)
 |field (agg:Bool) (off size:Nat) (x:Operand)
 |indexAddr (size:Nat) (x i:Operand)
 |indexAddrArr (len size:Nat) (x i:Operand)
 |indexStr (x i:Operand)
 |indexArr (len:Nat) (agg:Bool) (size:Nat) (x i:Operand)
 |slice (size:Nat) (x:Operand) (lo hi mx:Option Operand)
 |sliceStr (x:Operand) (lo hi:Option Operand)
 |makeSlice (esz:El) (bytes:Nat) (z:List Value) (l c:Operand)
 |len (x:Operand)
 |lenStr (x:Operand)
 |append (esz:El) (bytes:Nat) (s x:Operand)
 |max (x y:Operand)
 |max4 (x y z w:Operand)
 |min (x y:Operand)
 |makeFunc (fn:Fn) (first cap:List Operand)
 |iface (t:TypeId) (x:Operand)
 |extract (x:Operand) (i:Nat)
 |nilCheck (x:Operand)
 |callF (f:FuncId) (args:List Operand)
 |callV (f:Operand) (args:List Operand)
 |ext (o:XOp)
 |bad
 deriving Inhabited
structure VOper where
 dst:Option Nat
 op:VOp
 guard:Option (Nat×Bool)
 deriving Inhabited
structure DOper where
 dst:Option Nat
 op:VOp
 guard:Option (Nat×Bool)
 kind:Nat
 kmin:Nat
 kmax:Nat
 deriving Inhabited
inductive DSeg where
 |one (o:VOper)
 |alts (l:List (List DOper))
 deriving Inhabited
inductive VCode where
 |skip
 |region (ops:List VOper)
 |regionD (aQ:List DSeg)
 |rangeF (g:Operand) (ps:List Nat) (a b:VCode)
 |seq (a b:VCode)
 |cond (c:Operand) (a b:VCode)
 |block (id:Nat) (b:VCode)
 |loop (b:VCode)
 |exit (id:Nat)
 |ret
 |bad
 deriving Inhabited
def QN:Value->Bool
 |.bool _|.int _ _|.string _|.pointer none|.slice none 0 0|.map none|.nilFunc|.nilIface=>true
 |_=>false
def V5:Value->Bool
 |.agg cs=>cs.toList.all QN
 |.tuple cs=>cs.toList.all QN
 |v=>QN v
def X6:Operand->Bool
 |.tmp _=>true
 |.const v=>V5 v
 |.global _=>true
 |.func _=>true
def Ut:TypeDesc->Bool
 |.struct _|.array _ _=>true
 |_=>false
def zeroOf (P:Program) (t:TypeId):Option (List Value):=do
 let i <-P.info? t;let z <-i.zero;let cs:=z.cells.toList
 if cs.length==i.size&&cs.all QN then some cs else none
def DC (P:Program) (t:TypeId) (f:Nat):Option Field :=
 match P.underlying t with
 |some (.struct fs)=>fs[f]?
 |_=>none
def VD (P:Program) (o:Op):Option VOp :=
 if !(o.operands.toList.all X6) then none else
 match o with
 |.move x|.assign x=>some (.move x)
 |.pick c a b=>some (.pick c a b)
 |.binOp op t x y _ =>
  match P.underlying t with
  |some (.int _) =>
   match op with
   |.add|.sub|.mul=>some (.arith op x y)
   |.quo|.rem=>some (.div op x y)
   |.and|.or|.xor|.andNot=>some (.bits op x y)
   |.shl|.shr=>some (.shift op x y)
   |_=>some (.cmp op x y)
  |some .string=>some (.str op x y)
  |some .bool=>match op with|.eql=>some (.eqB false x y)|.neq=>some (.eqB true x y)|_=>none
  |_=>none
 |.unOp op _ x=>some (.un op x)
 |.convert s d x =>
  match P.underlying s,P.underlying d with
  |some (.int _),some (.int k)=>some (.convI k x)
  |some .string,some .string=>some (.convS x)
  |_,_=>none
 |.alloc t=>do some (.alloc t (<-zeroOf P t))
 |.box t x=>some (.box t x)
 |.build t parts=>do
  let z <-zeroOf P t
  match P.underlying t with
  |some (.struct fs)=>do
   let places <-fs.toList.mapM λf=>(P.info? f.type).map λi=>(f.offset,i.size);let ps <-parts.toList.mapM λq=>(places[q.1]?).map λos=>(os.1,os.2,q.2)
   some (.build z ps)
  |some (.array _ e)=>do
   let ei <-P.info? e
   some (.build z (parts.toList.map λq=>(q.1*ei.size,ei.size,q.2)))
  |_=>none
 |.buildSlice t len parts =>
  match P.underlying t with
  |some (.slice e)=>do
   let z <-zeroOf P e
   if z.length==0||4096<len*z.length then none
   some (.buildSlice ⟨z.length,e⟩ z len parts.toList)
  |_=>none
 |.load t a=>do
  let i <-P.info? t;let d <-P.underlying t
  some (.load (Ut d) i.size a)
 |.store t a v=>do
  let i <-P.info? t
  some (.store i.size a v)
 |.fieldAddr t a f=>do
  let fd <-DC P t f;let fi <-P.info? fd.type
  if fi.size==0 then none
  some (.fieldAddr fd.offset a)
 |.field t x f=>do
  let fd <-DC P t f;let fi <-P.info? fd.type;let d <-P.underlying fd.type
  some (.field (Ut d) fd.offset fi.size x)
 |.indexAddr t x i =>
  match P.underlying t with
  |some (.slice e)=>do let ei <-P.info? e;some (.indexAddr ei.size x i)
  |some (.array n e)=>do let ei <-P.info? e;some (.indexAddrArr n ei.size x i)
  |_=>none
 |.index t x i =>
  match P.underlying t with
  |some .string=>some (.indexStr x i)
  |some (.array n e)=>do let ei <-P.info? e;let d <-P.underlying e;some (.indexArr n (Ut d) ei.size x i)
  |_=>none
 |.slice t x lo hi mx =>
  match P.underlying t with
  |some (.slice e)=>do let ei <-P.info? e;some (.slice ei.size x lo hi mx)
  |some .string=>if mx.isNone then some (.sliceStr x lo hi) else none
  |_=>none
 |.makeSlice t l c =>
  match P.underlying t with
  |some (.slice e)=>do
   let ei <-P.info? e;let z <-zeroOf P e
   if z.length==0 then none
   some (.makeSlice ⟨z.length,e⟩ ei.bytes z l c)
  |_=>none
 |.makeFunc fn first cap=>match fn with|.func _=>some (.makeFunc fn first.toList cap.toList)|_=>none
 |.makeInterface t x=>do
  let d <-P.underlying t
  match d with
  |.interface _=>none
  |_=>some (.iface t x)
 |.extract x i=>some (.extract x i)
 |.nilCheck x=>some (.nilCheck x)
 |.call c =>
  match c.callee with
  |.value (.func f)=>some (.callF f c.args.toList)
  |.value f=>some (.callV f c.args.toList)
  |.builtin .len =>
   match c.argTypes[0]?,c.args.toList with
   |some t,[x] =>
    match P.underlying t with
    |some .string=>some (.lenStr x)
    |some (.slice _)=>some (.len x)
    |_=>none
   |_,_=>none
  |.builtin .append =>
   match c.argTypes[0]?,c.argTypes[1]?,c.args.toList with
   |some t,some u,[s,x] =>
    match P.underlying t,P.underlying u with
    |some (.slice e),some (.slice _)=>do
     let ei <-P.info? e;let z <-zeroOf P e
     if z.length==0||ei.bytes==0 then none
     some (.append ⟨z.length,e⟩ ei.bytes s x)
    |_,_=>none
   |_,_,_=>none
  |.builtin .max=>match c.args.toList with|[x,y]=>some (.max x y)|[x,y,z]=>some (.max4 x y z z)|[x,y,z,w]=>some (.max4 x y z w)|_=>none
  |.builtin .min=>match c.args.toList with|[x,y]=>some (.min x y)|_=>none
  |_=>none
 |_=>none
def LW (P:Program) (g:TypeId->Option (List MK)):List Field->Nat->Option (List MK)
 |[],_=>some []
 |f::r,off=>if f.name≠"_"/\f.offset=off then (match g f.type with
  |some s=>if P.cellsOf f.type=s.length then (LW P g r (off+s.length)).map λq=>s++q else none
  |none=>none) else none
def shp (P:Program):Nat->TypeId->Option (List MK)
 |0,_=>none
 |d+1,t=>match P.underlying t with
  |some .bool=>some [.bool]
  |some (.int q)=>some [.int q]
  |some .string=>some [.string]
  |some (.array n e)=>(match shp P d e with
   |some s=>if P.cellsOf e=s.length then some (List.replicate n s).flatten else none
   |none=>none)
  |some (.struct fs)=>if P.stoodInHeld t=true then none else LW P (shp P d) fs.toList 0
  |_=>none
def E5:MK->Value->Bool
 |.int q,.int q' _=>decide (q'=q)
 |.string,.string _=>true
 |.bool,.bool _=>true
 |_,_=>false
def fits:List MK->List Value->Bool
 |[],[]=>true
 |k::ks,v::vs=>E5 k v&&fits ks vs
 |_,_=>false
def Kg:Value->Value->Bool
 |.int _ a,.int _ b=>a==b
 |.bool a,.bool b=>a==b
 |.string a,.string b=>a.data.toList==b.data.toList
 |_,_=>false
def Ql:List Value->List Value->Bool
 |a::l,b::m=>Kg a b&&Ql l m
 |_,_=>true
def T4 (P:Program) (neg:Bool) (t:TypeId) (x y:Operand):Option XOp :=
 if P.eqGuardType P.depth t=true then none else (shp P 8 t).map λs=>.eqAgg neg s x y
theorem EV {P:Program}{neg:Bool}{t:TypeId}{x y:Operand}{o:XOp}(h:T4 P neg t x y=some o):∃ s,o=.eqAgg neg s x y:=by
 unfold T4 at h;split at h
 .cases h
 .obtain⟨s,_,rfl⟩:=zo.1 h;exact⟨s,rfl⟩
def SZ (P:Program) (t:TypeId):Option MK :=
 match P.underlying t with
 |some (.int k)=>some (.int k)
 |some .string=>some .string
 |some .bool=>some .bool
 |some (.struct _)=>(shp P 8 t).map .agg
 |some (.array _ _)=>(shp P 8 t).map .agg
 |_=>none
def Tt (P:Program) (o:Op):Option XOp :=
 if !(o.operands.toList.all X6) then none else
 match o with
 |.binOp op t x y _ =>
  match op,P.underlying t with
  |.eql,some (.pointer e)=>do let i <-P.info? e;if i.size==0 then none else some (.eqNil 0 false x y)
  |.neq,some (.pointer e)=>do let i <-P.info? e;if i.size==0 then none else some (.eqNil 0 true x y)
  |.eql,some (.slice _)=>some (.eqNil 1 false x y)
  |.eql,some (.map _ _)=>some (.eqNil 2 false x y)
  |.eql,some (.func _ _ _)=>some (.eqNil 3 false x y)
  |.neq,some (.slice _)=>some (.eqNil 1 true x y)
  |.neq,some (.map _ _)=>some (.eqNil 2 true x y)
  |.neq,some (.func _ _ _)=>some (.eqNil 3 true x y)
  |.eql,some (.struct _)=>T4 P false t x y
  |.neq,some (.struct _)=>T4 P true t x y
  |.eql,some (.array _ _)=>T4 P false t x y
  |.neq,some (.array _ _)=>T4 P true t x y
  |_,_=>none
 |.makeMap _ none=>some .makeMap
 |.lookup t x i ok =>
  match P.underlying t with
  |some (.map k e)=>do
   let mk <-SZ P k;let inf <-P.info? e;let z <-inf.zero
   if V5 z then some (.lookup mk z ok x i) else none
  |_=>none
 |.mapUpdate t m k v =>
  match P.underlying t with
  |some (.map kt _)=>do some (.mapUpdate (<-SZ P kt) m k v)
  |_=>none
 |.insert t m k v =>
  match P.underlying t with
  |some (.map kt _)=>do some (.mapUpdate (<-SZ P kt) m k v)
  |_=>none
 |.mapEntry t m k =>
  match P.underlying t with
  |some (.map kt e)=>do
   let mk <-SZ P kt;let inf <-P.info? e;let z <-inf.zero
   if V5 z then some (.mapEntry mk z m k) else none
  |_=>none
 |.entryStore _ m s v=>some (.entryStore m s v)
 |.range t x =>
  match P.underlying t with
  |some (.map _ _)=>some (.rangeMap x)
  |_=>none
 |.next x false=>some (.nextMap x)
 |.entry x=>some (.entry x)
 |.convert s d x =>
  match P.underlying s,P.underlying d with
  |some (.pointer t),some .unsafePointer=>do let i <-P.info? t;if i.size==0 then none else some (.toUnsafe x)
  |some .unsafePointer,some (.pointer u)=>do let i <-P.info? u;if i.size==0||P.cellsOf u==0 then none else some (.fromUnsafe u (P.cellsOf u) x)
  |some (.slice e),some .string=>match P.underlying e with|some (.int .u8)=>some (.bytesStr x)|_=>none
  |some .string,some (.slice e)=>match P.underlying e with|some (.int .u8)=>some (.strBytes e x)|_=>none
  |_,_=>none
 |.call c =>
  match c.callee with
  |.builtin .len =>
   match c.argTypes[0]?,c.args.toList with
   |some t,[x]=>match P.underlying t with|some (.map _ _)=>some (.lenMap x)|_=>none
   |_,_=>none
  |.builtin .delete =>
   match c.argTypes[0]?,c.args.toList with
   |some t,[m,k]=>match P.underlying t with|some (.map kt _)=>do some (.delete (<-SZ P kt) m k)|_=>none
   |_,_=>none
  |.builtin .copy =>
   match c.argTypes[0]?,c.args.toList with
   |some t,[d,s]=>match P.underlying t with|some (.slice e)=>do let i <-P.info? e;some (.copy i.size d s)|_=>none
   |_,_=>none
  |.builtin .clear =>
   match c.argTypes[0]?,c.args.toList with
   |some t,[x]=>match P.underlying t with
    |some (.slice e)=>do
     let z <-zeroOf P e
     if z.length==0 then none
     some (.clear z x)
    |_=>none
   |_,_=>none
  |.builtin .unsafeSliceData=>match c.args.toList with|[x]=>some (.sliceData x)|_=>none
  |.builtin .unsafeString =>
   match c.argTypes[0]?,c.args.toList with
   |some t,[x,n]=>match P.underlying t with|some (.pointer e)=>if P.cellsOf e=1 then some (.unsafeStr e x n) else none|_=>none
   |_,_=>none
  |_=>none
 |_=>none
def K7 (P:Program) (o:Op):VOp :=
 match VD P o with
 |some v=>v
 |none=>match Tt P o with
  |some x=>.ext x
  |none=>.bad
def J5 (P:Program) (ops:Array Oper) (o:Oper):Option VOper:=do
 let v:=K7 P o.op
 match o.guard with
 |none=>some ⟨o.dst,v,none⟩
 |some (j,want)=>do
  let oj <-ops[j]?;let d <-oj.dst
  some ⟨o.dst,v,some (d,want)⟩
def XOp.quiet:XOp->Bool
 |.makeMap|.mapUpdate ..|.mapEntry ..|.entryStore ..|.delete ..|.rangeMap _|.nextMap _|.copy ..|.clear ..|.unsafeStr ..|.strBytes ..=>false
 |_=>true
def VOp.quiet:VOp->Bool
 |.ext o=>o.quiet
 |.alloc ..|.box ..|.buildSlice ..|.store ..|.makeSlice ..|.append ..=>false
 |.slice _ _ _ _ (some _)=>false
 |_=>true
def VOp.kind:VOp->Nat
 |.callF ..|.callV ..=>2
 |.load ..=>1
 |.slice _ _ _ _ none=>1
 |.ext (.eqNil ..)|.ext (.lookup ..)|.ext (.lenMap _)|.ext (.entry _)|.ext (.toUnsafe _)|.ext (.fromUnsafe ..)|.ext (.sliceData _)|.ext (.bytesStr _)=>1
 |o=>if o.quiet then 0 else 2
def Q5u (acc:List Nat) (es:List Nat):Nat:=es.foldl (λs e=>s ||| 2 ^ e ||| acc.getD e 0) 0
def Z2f:List (List Nat)->List Nat->List Nat
 |[],acc=>acc
 |es::r,acc=>Z2f r (acc++[Q5u acc es])
def XOp.opds:XOp->List Operand
 |.eqNil _ _ x y=>[x,y]
 |.eqAgg _ _ x y=>[x,y]
 |.makeMap=>[]
 |.lookup _ _ _ x i=>[x,i]
 |.mapUpdate _ m k v=>[m,k,v]
 |.delete _ m k=>[m,k]
 |.mapEntry _ _ m k=>[m,k]
 |.entryStore m s v=>[m,s,v]
 |.lenMap x|.rangeMap x|.nextMap x|.entry x|.toUnsafe x|.fromUnsafe _ _ x|.sliceData x|.bytesStr x=>[x]
 |.copy _ d s=>[d,s]
 |.clear _ x=>[x]
 |.unsafeStr _ x n=>[x,n]
 |.strBytes _ x=>[x]
def VOp.opds:VOp->List Operand
 |.move x|.un _ x|.convI _ x|.convS x|.box _ x|.load _ _ x|.fieldAddr _ x|.field _ _ _ x|.len x|.lenStr x|.iface _ x|.extract x _|.nilCheck x=>[x]
 |.pick c a b=>[c,a,b]
 |.arith _ x y|.div _ x y|.bits _ x y|.shift _ x y|.cmp _ x y|.str _ x y|.eqB _ x y|.store _ x y|.indexAddr _ x y|.indexAddrArr _ _ x y|.indexStr x y|.indexArr _ _ _ x y|.makeSlice _ _ _ x y
 |.append _ _ x y|.max x y|.min x y=>[x,y]
 |.max4 x y z w=>[x,y,z,w]
 |.alloc ..|.bad=>[]
 |.build _ ps=>ps.map λp=>p.2.2
 |.buildSlice _ _ _ ps=>ps.map λp=>p.2
 |.slice _ x a b c=>x::(a.toList++b.toList++c.toList)
 |.sliceStr x a b=>x::(a.toList++b.toList)
 |.makeFunc _ a b=>a++b
 |.callF _ bN=>bN
 |.callV f bN=>f::bN
 |.ext o=>o.opds
def Fv (l:List Operand):List Nat:=l.filterMap fun|.tmp t=>some t|_=>none
def Be (o:Oper):List Nat:=(o.after.toList.filter (Region.binds .any)).map (·.on)
def KS (v:VOper):List Nat:=v.dst.toList++Fv v.op.opds++(v.guard.map (·.1)).toList
def Q2d (a b:List Nat×Option Nat):Bool:=(match a.2 with|some d=>b.1.contains d|none=>false)||(match b.2 with|some d=>a.1.contains d|none=>false)
structure DInfo where
 an:List Nat
 ed:List (List Nat)
 nm:List (List Nat×Option Nat)
 ks:List Nat
def K6 (ops:List Oper) (vs:List VOper):DInfo:=⟨Z2f (ops.map Be) [],ops.map Be,vs.map λv=>(KS v,v.dst),vs.map (·.op.kind)⟩
def DInfo.lt (d:DInfo) (i j:Nat):Bool:=(d.an.getD j 0).testBit i
def DInfo.k (d:DInfo) (i:Nat):Nat:=d.ks.getD i 0
def DInfo.rank (d:DInfo):Nat->Nat
 |0=>0
 |i+1=>if d.k i=2 then d.rank i+1 else d.rank i
def DInfo.kmin (d:DInfo) (i:Nat):Nat:=((List.range d.ks.length).filter λl=>d.k l==2&&d.lt l i).length
def DInfo.kmax (d:DInfo) (i:Nat):Nat:=((List.range d.ks.length).filter λl=>d.k l==2&&!(d.lt i l)).length
def DInfo.touch (d:DInfo) (i j:Nat):Bool:=Q2d (d.nm.getD i ([],none)) (d.nm.getD j ([],none))
def DInfo.okE (d:DInfo) (j:Nat):Bool:=(d.ed.getD j []).all λe=>decide (e<j)
def DInfo.okP (d:DInfo) (j:Nat):Bool:=(List.range j).all λi =>
 if d.lt i j then (d.ed.getD j []).any (λe=>e==i||decide (i<e)&&d.lt i e) else !(d.touch i j)&&!(d.k i==2&&d.k j==2)
def DInfo.okK (d:DInfo) (j:Nat):Bool:=!(d.k j==1) ||
 (decide (d.kmin j<=d.rank j/\d.rank j<=d.kmax j)&&(decide (d.kmax j<=d.rank d.ks.length)&&(List.range d.ks.length).all λl=>!(d.k l==2)||(d.lt l j==decide (d.rank l<d.kmin j)&&d.lt j l==decide (d.kmax j<=d.rank l))))
def DInfo.ok (d:DInfo):Bool:=(List.range d.ks.length).all λj=>d.okE j&&(d.okP j&&d.okK j)
def DInfo.opers (d:DInfo):List VOper->Nat->List DOper
 |[],_=>[]
 |v::r,i=>⟨v.dst,v.op,v.guard,v.op.kind,d.kmin i,d.kmax i⟩::d.opers r (i+1)
def DInfo.okB (d:DInfo):Bool:=decide (d.an.length=d.ks.length)&&(List.range d.ks.length).all λj=>d.okE j&&(decide (d.an.getD j 0<2 ^ j) &&
 (List.range j).all λi=>!(d.lt i j)||(d.ed.getD j []).any (λe=>e==i||decide (i<e)&&d.lt i e))
def exts (lt:Nat->Nat->Bool):Nat->List Nat->List (List Nat)
 |_,[]=>[[]]
 |0,_=>[]
 |n+1,l=>l.flatMap λk=>if l.all (λi=>i==k||!(lt i k)) then (exts lt n (l.erase k)).map (k::·) else []
def Z4z (ed:List (List Nat)) (ks idx:List Nat):Nat->List Nat->List Nat->List Nat
 |0,acc,_=>acc
 |f+1,acc,kq=>match idx.find? (λi=>!(acc.contains i)&&((ed.getD i []).all (λe=>!(idx.contains e)||acc.contains e)&&(!(ks.getD i 0==2)||kq.head?==some i))) with
  |none=>acc
  |some i=>Z4z ed ks idx f (acc++[i]) (if ks.getD i 0==2 then kq.tail else kq)
def Q67 (ed:List (List Nat)) (ks idx:List Nat):Nat->List Nat->List Nat->List Nat
 |0,acc,_=>acc
 |f+1,acc,kq=>match idx.find? (λi=>!(acc.contains i)&&((ed.getD i []).all (λe=>!(idx.contains e)||acc.contains e)&&!(ks.getD i 0==2))) with
  |some i=>Q67 ed ks idx f (acc++[i]) kq
  |none=>match idx.find? (λi=>!(acc.contains i)&&((ed.getD i []).all (λe=>!(idx.contains e)||acc.contains e)&&kq.head?==some i)) with
   |none=>acc
   |some i=>Q67 ed ks idx f (acc++[i]) kq.tail
def Q55:VOp->Bool
 |.callF ..=>true
 |_=>false
def Z1s (b:Bool) (ed:List (List Nat)) (ks idx:List Nat) (n:Nat) (q:List Nat):List Nat:=if b then Q67 ed ks idx n [] q else Z4z ed ks idx n [] q
def Q5b (d:DInfo) (pm:List Nat) (p:Nat):List Nat :=
 ((d.ed.getD (pm.getD p 0) []).filter pm.contains).map (λe=>pm.idxOf e) ++
  (if d.k (pm.getD p 0)==2 then ((List.range p).filter λq=>d.k (pm.getD q 0)==2).getLast?.toList else [])
def VI (vs:List VOper) (pm:List Nat):List VOper:=pm.map λi=>vs.getD i default
def LN (d:DInfo) (vs:List VOper) (pm:List Nat):DInfo :=
 let ed:=(List.range pm.length).map (Q5b d pm)
 ⟨Z2f ed [],ed,(VI vs pm).map λv=>(KS v,v.dst),(VI vs pm).map (·.op.kind)⟩
def Z1f (d:DInfo) (vs:List VOper) (idx s pm:List Nat):Bool :=
 idx.all pm.contains&&(pm.all idx.contains&&(decide pm.Nodup&&(decide (pm.filter (λi=>d.k i==2)=s)&&(LN d vs pm).ok)))
def Z26 (d:DInfo) (vs:List VOper) (s n:Nat):Option DSeg :=
 if n=1 then some (.one (vs.getD s default)) else
 let idx:=List.range' s n;let ss:=exts d.lt n (idx.filter λi=>d.k i==2);let ps:=ss.map λq=>(q,Z1s (decide (3<=(idx.filter λi=>Q55 (vs.getD i default).op).length)) d.ed d.ks idx n q)
 if ps.all λsp=>Z1f d vs idx sp.1 sp.2 then some (.alts (ps.map λsp=>(LN d vs sp.2).opers (VI vs sp.2) 0)) else none
def cutAt (d:DInfo) (t:Nat):Bool:=(List.range' t (d.ks.length-t)).all λp=>(List.range t).all λi=>d.lt i p
def Oz (d:DInfo) (vs:List VOper):Nat->Nat->Option (List DSeg)
 |0,s=>if s=d.ks.length then some [] else none
 |f+1,s=>if s=d.ks.length then some [] else
  match (List.range' (s+1) (d.ks.length-s)).find? (cutAt d) with
  |none=>none
  |some t=>match Z26 d vs s (t-s),Oz d vs f t with
   |some x,some r=>some (x::r)
   |_,_=>none
def Q4x (d:DInfo) (vs:List VOper):Option (List DSeg):=if d.okB then Oz d vs d.ks.length 0 else none
def G3 (d:DInfo) (vs:List VOper):Bool :=
 d.okB&&(vs.all (λv=>!(v.op.kind==2))&&Z1f d vs (List.range' 0 d.ks.length) [] (List.range' 0 d.ks.length))
def comp (P:Program):Code->Option VCode
 |.skip=>some .skip
 |.region _ ops false=>do some (.region (<-ops.toList.mapM (J5 P ops)))
 |.region _ ops true=>do
  let l <-ops.toList.mapM (J5 P ops)
  if G3 (K6 ops.toList l) l then some (.region l) else
  match Q4x (K6 ops.toList l) l with
  |some aQ=>some (.regionD aQ)
  |none=>some .bad
 |.seq a b=>do some (.seq (<-comp P a) (<-comp P b))
 |.cond c a b=>do if X6 c then some (.cond c (<-comp P a) (<-comp P b)) else some .bad
 |.block id b=>do some (.block id (<-comp P b))
 |.loop b=>do some (.loop (<-comp P b))
 |.rangeFunc g ps a b=>do if X6 g then some (.rangeF g ps.toList (<-comp P a) (<-comp P b)) else some .bad
 |.exit id=>some (.exit id)
 |.ret=>some .ret
 |_=>some .bad
def Q3 (env:Env):Operand->Value
 |.tmp t=>env.getD t undef
 |.const v=>v
 |.global g=>.pointer (some ⟨g,0,some 0⟩)
 |.func f=>.func (.func f) #[] #[]
def R4:BinOp->IntKind->Int->Int->Int
 |.add,k,a,b=>k.wrap (a+b)
 |.sub,k,a,b=>k.wrap (a-b)
 |_,k,a,b=>k.wrap (a*b)
def Q6r:BinOp->IntKind->Int->Int->Int
 |.quo,k,a,b=>k.wrap (a.tdiv b)
 |_,_,a,b=>a.tmod b
def Q7 (op:BinOp) (k:IntKind) (x y:Int):Int :=
 let a:=BitVec.ofInt k.bits x;let b:=BitVec.ofInt k.bits y
 match op with
 |.and=>k.wrap (a &&& b).toNat
 |.or=>k.wrap (a ||| b).toNat
 |.xor=>k.wrap (a ^^^ b).toNat
 |_=>k.wrap (a &&& ~~~b).toNat
def R9:BinOp->IntKind->Int->Int->Int
 |.shl,k,x,y=>k.wrap (x*2 ^ (Nat.min y.toNat k.bits))
 |_,k,x,y=>x.fdiv (2 ^ (Nat.min y.toNat k.bits))
def Z1b:BinOp->Int->Int->Bool
 |.eql,a,b=>a==b
 |.neq,a,b=>a != b
 |.lss,a,b=>decide (a<b)
 |.leq,a,b=>decide (a<=b)
 |.gtr,a,b=>decide (a > b)
 |_,a,b=>decide (a>=b)
def cellOk:Value->Bool
 |.agg _|.tuple _|.chan _=>false
 |_=>true
def KG:Value->Option (List Value)
 |.agg cs=>some cs.toList
 |.chan _|.tuple _=>none
 |v=>some [v]
def Yx (c:List Value) (o:Nat):List Value->List Value
 |[]=>c
 |v::vs=>Yx (c.set o v) (o+1) vs
def M0 (c:List Value):List (Nat×Nat×Value)->Option (List Value)
 |[]=>some c
 |(o,s,v)::rest =>
  match KG v with
  |some vs=>if vs.length=s/\o+s<=c.length then M0 (Yx c o vs) rest else none
  |none=>none
def H7 (n:Nat):List Value->List Value
 |[x]=>List.replicate n x
 |z=>(List.replicate n z).flatten
def WA (agg:Bool) (size:Nat) (c:List Value) (o:Nat):Option Value :=
 if agg then (if o+size<=c.length then some (.agg ((c.drop o).take size).toArray) else none) else c[o]?
def Heap.sl (M:Heap) (esz:Nat):Value->Option (List Value)
 |.slice none 0 0=>some []
 |.slice (some ⟨i,o,none⟩) n _ =>
  match M.get i with
  |some (.cells c e _ _)=>if e.sz=esz/\o+n*esz<=c.length then some ((c.drop o).take (n*esz)) else none
  |_=>none
 |_=>none
def Yv (esz:El) (bytes:Nat) (M:Heap) (s:Value) (m:Nat) (xs:List Value):Option (Value×Heap) :=
 match s with
 |.slice none 0 0 =>
  if m=0 then some (s,M) else
  if m*bytes<=2 ^ 46 then some (.slice (some ⟨M.n,0,none⟩) m m,M.push (.cells xs esz true false)) else none
 |.slice (some ⟨i,o,none⟩) n cap =>
  match M.get i with
  |some (.cells c e wr tight) =>
   if e=esz/\n<=cap/\o+n*esz.sz<=c.length then
    if m=0 then some (s,M) else
    if n+m<=cap then
     (if wr=true/\o+(n+m)*esz.sz<=c.length then some (.slice (some ⟨i,o,none⟩) (n+m) cap,M.upd i (.cells (Yx c (o+n*esz.sz) xs) e wr tight)) else none)
    else if (n+m)*bytes<=2 ^ 46 then
     (if tight then some (.slice (some ⟨M.n,0,none⟩) (n+m) (n+m),M.push (.cells ((c.drop o).take (n*esz.sz)++xs) esz true false))
     else if wr then some (.slice (some ⟨M.n,0,none⟩) (n+m) (n+m),(M.kill i).push (.cells ((c.drop o).take (n*esz.sz)++xs) esz true false))
     else none)
    else none
   else none
  |_=>none
 |.slice (some ⟨i,o,some 0⟩) n cap =>
  match M.get i with
  |some (.cells c e _ _) =>
   if e=esz/\n=cap/\o+n*esz.sz<=c.length/\m≠0/\(n+m)*bytes<=2 ^ 46 then
    some (.slice (some ⟨M.n,0,none⟩) (n+m) (n+m),M.push (.cells ((c.drop o).take (n*esz.sz)++xs) esz true false))
   else none
  |_=>none
 |_=>none
def J1 (ev:Operand->Value):Option Operand->Nat->Option Nat
 |none,d=>some d
 |some x,_=>match ev x with
  |.int _ i=>if 0<=i then some i.toNat else none
  |_=>none
def WD (size:Nat) (M:Heap) (s:Value) (l h:Nat) (m:Option Nat):Option (Value×Heap) :=
 match s with
 |.slice none 0 0=>if l=0/\h=0/\(m.getD 0)=0 then some (.slice none 0 0,M) else none
 |.slice (some ⟨i,o,none⟩) _ cap =>
  match M.get i with
  |some (.cells _ e _ t) =>
   match m with
   |none=>if e.sz=size/\l<=h/\h<=cap then some (.slice (some ⟨i,o+l*size,none⟩) (h-l) (cap-l),M) else none
   |some m =>
    if e.sz=size/\l<=h/\h<=m/\m<=cap then
     if m=l then some (.slice (some ⟨M.n,0,none⟩) 0 0,M.push (.cells [] e false true))
     else if t=false/\h=m then some (.slice (some ⟨i,o+l*size,some 0⟩) (h-l) (m-l),M)
     else some (.slice (some ⟨i,o+l*size,none⟩) (h-l) (m-l),M)
    else none
  |_=>none
 |_=>none
def Zk:MK->Value->Bool
 |.int k,.int k' _=>decide (k=k')
 |.string,.string _|.bool,.bool _=>true
 |.agg s,.agg cs=>fits s cs.toList
 |_,_=>false
def XB:Value->Value->Bool
 |.agg a,.agg b=>Ql a.toList b.toList
 |.int _ a,.int _ b=>a==b
 |.string a,.string b=>a.data.toList==b.data.toList
 |.bool a,.bool b=>a==b
 |_,_=>false
abbrev Jo:=Value×Value×Nat
def Qf (k:Value):List Jo->Option Jo
 |[]=>none
 |e::es=>if XB k e.1 then some e else Qf k es
def Qq (k v:Value) (clock:Nat):List Jo->List Jo×Nat
 |[]=>([(k,v,clock)],clock+1)
 |e::es=>if XB k e.1 then ((k,v,e.2.2)::es,clock) else (e::(Qq k v clock es).1,(Qq k v clock es).2)
def V2 (k:Value):List Jo->List Jo
 |[]=>[]
 |e::es=>if XB k e.1 then es else e::V2 k es
def Heap.mapAt (M:Heap) (m:Nat):Option (List Jo×Nat×Bool):=match M.get m with
 |some (.obj (.map es clock) wr)=>some (es,clock,wr)
 |_=>none
def Cw:Value->Option UInt8
 |.int .u8 n=>some n.toNat.toUInt8
 |_=>none
def B9 (l:List Value):Option ByteArray:=(l.mapM Cw).map λbs=>⟨bs.toArray⟩
def J6:Nat->Value->Value->Heap->Option Bool
 |0,.pointer none,.pointer none,_=>some true
 |0,.pointer none,.pointer (some _),_=>some false
 |0,.pointer (some _),.pointer none,_=>some false
 |0,.pointer (some ⟨i,o,none⟩),.pointer (some ⟨j,q,none⟩),M=>if i=j/\o=q/\(M.get i).isSome=true then some true else none
 |1,.slice none _ _,.slice none _ _,_=>some true
 |1,.slice none _ _,.slice (some _) _ _,_=>some false
 |1,.slice (some _) _ _,.slice none _ _,_=>some false
 |2,.map none,.map none,_=>some true
 |2,.map none,.map (some _),_=>some false
 |2,.map (some _),.map none,_=>some false
 |3,.nilFunc,.nilFunc,_=>some true
 |3,.nilFunc,.func _ _ _,_=>some false
 |3,.func _ _ _,.nilFunc,_=>some false
 |_,_,_,_=>none
def Zc (o:XOp) (ev:Operand->Value) (M:Heap):Option (Value×Heap) :=
 match o with
 |.eqNil kd neg x y=>match J6 kd (ev x) (ev y) M with|some b=>some (.bool (if neg then !b else b),M)|none=>none
 |.eqAgg neg s x y=>match ev x,ev y with
  |.agg a,.agg b=>if fits s a.toList=true/\fits s b.toList=true then some (.bool (if neg then !(Ql a.toList b.toList) else Ql a.toList b.toList),M) else none
  |_,_=>none
 |.makeMap=>some (.map (some M.n),M.push (.obj (.map [] 0) true))
 |.lookup mk z ok x i =>
  let k:=ev i
  if Zk mk k then
   match ev x with
   |.map none=>some (if ok then .tuple #[z,.bool false] else z,M)
   |.map (some m)=>match M.mapAt m with
    |some (es,_,_)=>if es.all (λe=>Zk mk e.1) then
      (match Qf k es with
      |some e=>some (if ok then .tuple #[e.2.1,.bool true] else e.2.1,M)
      |none=>some (if ok then .tuple #[z,.bool false] else z,M)) else none
    |none=>none
   |_=>none
  else none
 |.mapUpdate mk m k v=>match ev m with
  |.map (some i)=>match M.mapAt i with
   |some (es,clock,true)=>if Zk mk (ev k)&&es.all (λe=>Zk mk e.1) then some (undef,M.upd i (.obj (.map (Qq (ev k) (ev v) clock es).1 (Qq (ev k) (ev v) clock es).2) true)) else none
   |_=>none
  |_=>none
 |.delete mk m k=>match ev m with
  |.map (some i)=>match M.mapAt i with
   |some (es,clock,true)=>if Zk mk (ev k)&&es.all (λe=>Zk mk e.1) then some (.tuple #[],M.upd i (.obj (.map (V2 (ev k) es) clock) true)) else none
   |_=>none
  |_=>none
 |.mapEntry mk z m k=>match ev m with
  |.map (some i)=>match M.mapAt i with
   |some (es,clock,true)=>if Zk mk (ev k)&&es.all (λe=>Zk mk e.1) then
     (match Qf (ev k) es with
     |some e=>some (.tuple #[e.2.1,.int .i64 e.2.2],M.upd i (.obj (.map (Qq (ev k) e.2.1 clock es).1 (Qq (ev k) e.2.1 clock es).2) true))
     |none=>some (.tuple #[z,.int .i64 clock],M.upd i (.obj (.map (Qq (ev k) z clock es).1 (Qq (ev k) z clock es).2) true))) else none
   |_=>none
  |_=>none
 |.entryStore m s v=>match ev m,ev s with
  |.map (some i),.int .i64 n=>match M.mapAt i with
   |some (es,clock,true)=>(match es.findIdx? (λe=>(e.2.2:Int)==n) with
    |some j=>(match es[j]? with
     |some e=>some (undef,M.upd i (.obj (.map (es.set j (e.1,ev v,e.2.2)) clock) true))
     |none=>none)
    |none=>none)
   |_=>none
  |_,_=>none
 |.lenMap x=>match ev x with
  |.map none=>some (.int .i64 0,M)
  |.map (some m)=>match M.mapAt m with
   |some (es,_,_)=>some (.int .i64 es.length,M)
   |none=>none
  |_=>none
 |.rangeMap x=>match ev x with
  |.map (some m)=>match M.mapAt m with
   |some (_,clock,_)=>some (.pointer (some ⟨M.n,0,none⟩),M.push (.obj (.iter m clock [] clock) true))
   |none=>none
  |_=>none
 |.nextMap _=>none
 |.entry x=>match ev x with
  |.pointer (some ⟨i,0,none⟩)=>match M.get i with
   |some (.obj (.iter m _ seen last) _)=>match M.mapAt m,seen.getLast? with
    |some (es,clock,_),some b=>if clock=last then (match es.find? (λe=>e.2.2==b) with|some e=>if V5 e.1 then some (.tuple #[e.1,e.2.1],M) else none|none=>none) else none
    |_,_=>none
   |_=>none
  |_=>none
 |.copy size d s=>match ev d,ev s with
  |.slice db dn _,.slice sb sn sc =>
   if min sn dn=0 then some (.int .i64 0,M) else
   match db,M.sl size (.slice sb (min sn dn) sc) with
   |some ⟨i,o,none⟩,some xs=>match M.get i with
    |some (.cells c e wr tight)=>if wr=true/\e.sz=size/\o+xs.length<=c.length/\xs.all cellOk=true then some (.int .i64 (min sn dn:Nat),M.upd i (.cells (Yx c o xs) e wr tight)) else none
    |_=>none
   |_,_=>none
  |_,_=>none
 |.clear z x=>match ev x with
  |.slice b n _ =>
   if n=0 then some (.tuple #[],M) else
   match b with
   |some ⟨i,o,none⟩=>match M.get i with
    |some (.cells c e wr tight)=>if wr=true/\o+n*z.length<=c.length/\z.all cellOk=true then some (.tuple #[],M.upd i (.cells (Yx c o (H7 n z)) e wr tight)) else none
    |_=>none
   |_=>none
  |_=>none
 |.toUnsafe x=>match ev x with
  |.pointer none=>some (.pointer none,M)
  |.pointer (some ⟨i,o,none⟩)=>match M.get i with
   |some (.cells c _ _ _)=>if o<c.length then some (.pointer (some ⟨i,o,none⟩),M) else none
   |_=>none
  |_=>none
 |.fromUnsafe u size x=>match ev x with
  |.pointer none=>some (.pointer none,M)
  |.pointer (some ⟨i,o,none⟩)=>match M.get i with
   |some (.cells c e true true)=>if o=0/\e.ty=u/\size<=c.length then some (.pointer (some ⟨i,o,none⟩),M) else none
   |_=>none
  |_=>none
 |.sliceData x=>match ev x with
  |.slice none _ _=>some (.pointer none,M)
  |.slice (some ⟨i,o,none⟩) _ cap=>if cap≠0/\(M.get i).isSome=true then some (.pointer (some ⟨i,o,none⟩),M) else none
  |_=>none
 |.unsafeStr e x n=>match ev x,ev n with
  |.pointer p,.int .i64 k =>
   if k=0 then some (.string ⟨#[]⟩,M) else
   match p with
   |some ⟨i,o,none⟩=>match M.get i with
    |some (.cells c el true tight) =>
     if 0<k/\k<=2 ^ 62/\el.ty=e/\o+k.toNat<=c.length then
      (match B9 ((c.drop o).take k.toNat) with
      |some s=>some (.string s,M.upd i (.cells c el false tight))
      |none=>none) else none
    |_=>none
   |_=>none
  |_,_=>none
 |.strBytes e x=>match ev x with
  |.string s=>if s.size<=2 ^ 62 then some (.slice (some ⟨M.n,0,none⟩) s.size s.size,M.push (.cells (s.data.toList.map λb=>.int .u8 b.toNat) ⟨1,e⟩ true false)) else none
  |_=>none
 |.bytesStr x=>match ev x with
  |.slice a n c=>match M.sl 1 (.slice a n c) with
   |some xs=>match B9 xs with|some s=>some (.string s,M)|none=>none
   |none=>none
  |_=>none
def EY (a b:Int):Int:=if b > a then b else a
theorem IK (a b:Int):EY (EY a b) b=EY a b:=by unfold EY;(repeat' split)<;>omega
def Q6 (o:VOp) (ev:Operand->Value) (M:Heap):Option (Value×Heap) :=
 match o with
 |.move x=>some (ev x,M)
 |.pick c a b=>match ev c with|.bool t=>some (if t then ev a else ev b,M)|_=>none
 |.arith op x y=>match ev x,ev y with|.int k a,.int k' b=>if k=k' then some (.int k (R4 op k a b),M) else none|_,_=>none
 |.div op x y=>match ev x,ev y with|.int k a,.int k' b=>if k=k'/\b≠0 then some (.int k (Q6r op k a b),M) else none|_,_=>none
 |.bits op x y=>match ev x,ev y with|.int k a,.int k' b=>if k=k' then some (.int k (Q7 op k a b),M) else none|_,_=>none
 |.shift op x y=>match ev x,ev y with|.int k a,.int _ b=>if 0<=b then some (.int k (R9 op k a b),M) else none|_,_=>none
 |.cmp op x y=>match ev x,ev y with|.int k a,.int k' b=>if k=k' then some (.bool (Z1b op a b),M) else none|_,_=>none
 |.str op x y=>match ev x,ev y with
  |.string a,.string b=>match op with
   |.add=>if a.size+b.size<=2 ^ 62 then some (.string (a++b),M) else none
   |.eql=>some (.bool (a.data.toList==b.data.toList),M)
   |.neq=>some (.bool (!(a.data.toList==b.data.toList)),M)
   |.lss=>some (.bool (Op.bytesLess a.data.toList b.data.toList),M)
   |_=>none
  |_,_=>none
 |.eqB neg x y=>match ev x,ev y with|.bool a,.bool b=>some (.bool (if neg then !(a==b) else (a==b)),M)|_,_=>none
 |.un op x=>match op,ev x with
  |.not,.bool b=>some (.bool (!b),M)
  |.neg,.int k n=>some (.int k (k.wrap (0-n)),M)
  |.xor,.int k n=>some (.int k (Q7 .xor k (if k.signed then -1 else k.max) n),M)
  |_,_=>none
 |.convI k x=>match ev x with|.int _ n=>some (.int k (k.wrap n),M)|_=>none
 |.convS x=>match ev x with|.string s=>some (.string s,M)|_=>none
 |.alloc t z=>some (.pointer (some ⟨M.n,0,none⟩),M.push (.cells z ⟨z.length,t⟩ true true))
 |.box t x=>match KG (ev x) with
  |some vs=>some (.pointer (some ⟨M.n,0,none⟩),M.push (.cells vs ⟨vs.length,t⟩ true true))
  |none=>none
 |.build z parts=>match M0 z (parts.map λp=>(p.1,p.2.1,ev p.2.2)) with|some cs=>some (.agg cs.toArray,M)|none=>none
 |.buildSlice esz z len parts=>match M0 (H7 len z) (parts.map λp=>(p.1*esz.sz,esz.sz,ev p.2)) with
  |some cs=>some (.slice (some ⟨M.n,0,none⟩) len len,M.push (.cells cs esz true true))
  |none=>none
 |.load agg size a=>match ev a with
  |.pointer (some ⟨g,o,some _⟩)=>(match OY g with
   |some c=>if c.all QN then (match WA agg size c o with|some v=>some (v,M)|none=>none) else none
   |none=>none)
  |.pointer (some ⟨i,o,none⟩)=>match M.get i with
   |some (.cells c _ _ _)=>match WA agg size c o with|some v=>some (v,M)|none=>none
   |_=>none
  |_=>none
 |.store size a v=>match ev a,KG (ev v) with
  |.pointer (some ⟨i,o,none⟩),some vs=>match M.get i with
   |some (.cells c e wr tight)=>if wr=true/\vs.length=size/\o+size<=c.length/\vs.all cellOk=true then some (undef,M.upd i (.cells (Yx c o vs) e wr tight)) else none
   |_=>none
  |_,_=>none
 |.fieldAddr off a=>match ev a with
  |.pointer (some ⟨i,o,none⟩)=>some (.pointer (some ⟨i,o+off,none⟩),M)
  |_=>none
 |.field agg off size x=>match ev x with
  |.agg cs=>match WA agg size cs.toList off with|some v=>some (v,M)|none=>none
  |_=>none
 |.indexAddr size x i=>match ev x,ev i with
  |.slice (some ⟨b,o,none⟩) n _,.int _ k=>if 0<=k/\k<n then some (.pointer (some ⟨b,o+k.toNat*size,none⟩),M) else none
  |_,_=>none
 |.indexAddrArr len size x i=>match ev x,ev i with
  |.pointer (some ⟨g,o,some s⟩),.int _ k=>if 0<=k/\k<len then some (.pointer (some ⟨g,o+k.toNat*size,some s⟩),M) else none
  |.pointer (some ⟨b,o,none⟩),.int _ k=>if 0<=k/\k<len then some (.pointer (some ⟨b,o+k.toNat*size,none⟩),M) else none
  |_,_=>none
 |.indexStr x i=>match ev x,ev i with
  |.string s,.int _ k=>if 0<=k then (match s.data.toList[k.toNat]? with|some b=>some (.int .u8 b.toNat,M)|none=>none) else none
  |_,_=>none
 |.indexArr len agg size x i=>match ev x,ev i with
  |.agg cs,.int _ k=>if 0<=k/\k<len then (match WA agg size cs.toList (k.toNat*size) with|some v=>some (v,M)|none=>none) else none
  |_,_=>none
 |.slice size x lo hi mx =>
  match ev x with
  |.slice a n cap =>
   match J1 ev lo 0,J1 ev hi n,mx with
   |some l,some h,none=>WD size M (.slice a n cap) l h none
   |some l,some h,some _=>match J1 ev mx 0,hi with
    |some m,some _=>WD size M (.slice a n cap) l h (some m)
    |_,_=>none
   |_,_,_=>none
  |_=>none
 |.sliceStr x lo hi =>
  match ev x with
  |.string s =>
   match J1 ev lo 0,J1 ev hi s.size with
   |some l,some h=>if l<=h/\h<=s.size then some (.string (s.extract l h),M) else none
   |_,_=>none
  |_=>none
 |.makeSlice esz bytes z l c =>
  match ev l,ev c with
  |.int _ a,.int _ b=>if 0<=a/\a<=b/\b*bytes<=2 ^ 46/\b<=2 ^ 46 then some (.slice (some ⟨M.n,0,none⟩) a.toNat b.toNat,M.push (.cells (H7 b.toNat z) esz true true)) else none
  |_,_=>none
 |.len x=>match ev x with
  |.slice _ n _=>some (.int .i64 n,M)
  |_=>none
 |.lenStr x=>match ev x with
  |.string s=>some (.int .i64 s.size,M)
  |_=>none
 |.append esz bytes s x =>
  match M.sl esz.sz (ev x),ev x with
  |some xs,.slice _ m _=>if xs.all cellOk then Yv esz bytes M (ev s) m xs else none
  |_,_=>none
 |.max4 x y z w=>match ev x,ev y,ev z,ev w with|.int k a,.int k2 b,.int k3 c,.int k4 d=>if k=k2/\k=k3/\k=k4 then some (.int k (EY (EY (EY a b) c) d),M) else none|_,_,_,_=>none
 |.max x y=>match ev x,ev y with|.int k a,.int k' b=>if k=k' then some (.int k (if b > a then b else a),M) else none|_,_=>none
 |.min x y=>match ev x,ev y with|.int k a,.int k' b=>if k=k' then some (.int k (if b<a then b else a),M) else none|_,_=>none
 |.makeFunc fn first cap=>some (.func fn (first.map ev).toArray (cap.map ev).toArray,M)
 |.iface t x=>match ev x with|.chan _=>none|v=>some (.iface t v,M)
 |.extract x i=>match ev x with
  |.tuple vs=>match vs.toList[i]? with|some v=>some (v,M)|none=>none
  |_=>none
 |.nilCheck x=>match ev x with
  |.pointer (some a)=>some (.pointer (some a),M)
  |.func (.func f) first cap=>some (.func (.func f) first cap,M)
  |_=>none
 |.ext o=>Zc o ev M
 |.callF ..|.callV ..|.bad=>none
def QW {α:Type}(o:Option α) (f:α->Prop):Prop:=match o with|some a=>f a|none=>False
def vif (b:Bool) (A B:Prop):Prop:=(b=true->A)/\(b=false->B)
def ID (v:Value) (A B:Prop):Prop:=match v with|.bool t=>vif t A B|_=>False
abbrev Tb:=List Value->Heap->(Value->Heap->Prop)->Prop
structure VSpecs where
 fn:FuncId->Option Tb
 yl:Nat->Option Tb
 it:FuncId->Option (Nat->Tb->Tb)
def vcall (S:VSpecs) (f:FuncId) (args:List Value) (M:Heap) (K:Value->Heap->Prop):Prop :=
 match S.fn f with
 |some s=>s args M K
 |none=>False
def A3 (S:VSpecs) (i:Nat) (args:List Value) (M:Heap) (K:Value->Heap->Prop):Prop :=
 match S.yl i with
 |some s=>s args M K
 |none=>False
def LU (x:Value) (M:Heap) (K:Value->Heap->Prop):Prop :=
 match x with
 |.pointer (some ⟨i,0,none⟩)=>match M.get i with
  |some (.obj (.iter m since seen last) true)=>match M.mapAt m with
   |some (es,clock,_)=>(seen.isEmpty||es.isEmpty||es.any (λe=>decide (e.2.2<last)))=true/\es.all (λe=>V5 e.1)=true /\
     (es.all (λe=>seen.contains e.2.2||decide (since<=e.2.2))=true->K (.tuple #[.bool false]) M) /\
     ∀ e∈es,seen.contains e.2.2=false->K (.tuple #[.bool true,e.1,e.2.1]) (M.upd i (.obj (.iter m since (seen++[e.2.2]) clock) true))
   |none=>False
  |_=>False
 |_=>False
def X7 (env:Env) (d:Option Nat) (v:Value):Env :=
 match d with
 |some d=>env.set d v
 |none=>env
def vop (S:VSpecs) (o:VOp) (env:Env) (M:Heap) (K:Value->Heap->Prop):Prop :=
 match o with
 |.callF f args=>vcall S f (args.map (Q3 env)) M K
 |.callV f args=>match Q3 env f with
  |.func (.func g) first cap=>vcall S g (first.toList++args.map (Q3 env)++cap.toList) M K
  |.func (.yield i) _ _=>A3 S i (args.map (Q3 env)) M K
  |_=>False
 |.ext (.nextMap x)=>LU (Q3 env x) M K
 |o=>QW (Q6 o (Q3 env) M) λp=>K p.1 p.2
def J3 (env:Env):Option (Nat×Bool)->Option Bool
 |none=>some true
 |some (d,want)=>match env.getD d undef with
  |.bool b=>some (b==want)
  |.tuple _=>some false
  |_=>none
def T1 (S:VSpecs):List VOper->Env->Heap->(Env->Heap->Prop)->Prop
 |[],env,M,K=>K env M
 |o::rest,env,M,K=>QW (J3 env o.guard) λb =>
   vif b (vop S o.op env M λv M'=>T1 S rest (X7 env o.dst v) M' K) (T1 S rest (X7 env o.dst undef) M K)
def Ek:Value->Bool
 |.bool _|.int _ _|.string _|.pointer none|.slice none 0 0|.map none|.nilFunc|.nilIface=>true
 |.tuple vs=>vs.toList.all QN
 |_=>false
def Heap.Le (M M':Heap):Prop:=M.n<=M'.n/\∀ i b,M.get i=some b->M'.get i=some b
def D4 (A:(Value->Heap->Prop)->Prop) (R:Value->Heap->Prop):Prop:=∃ v M',A (λv' aE=>v'=v/\aE=M')/\R v M'
def JQ (op:VOp) (ev:Operand->Value) (v:Value) (U:Heap):Prop:=QW (Q6 op ev U) λq=>q.1=v
def JP (r:Nat) (M:Heap):List (Nat×(Heap->Prop))->Prop
 |[]=>True
 |c::l=>(r<=c.1->c.2 M)/\JP r M l
def waits:List Nat->List DOper->Bool
 |_,[]=>true
 |xs,o::r=>((o.kind==2)||(Fv o.op.opds++(o.guard.map (·.1)).toList).any (λx=>xs.contains x))&&waits (o.dst.toList++xs) r
def Zm (S:VSpecs):List DOper->Env->List Heap->Heap->List (Nat×(Heap->Prop))->(Env->Heap->Prop)->Prop
 |[],env,_,M,_,K=>K env M
 |o::rest,env,hs,M,pend,K=>QW (J3 env o.guard) λb =>
   vif b (if o.kind=2 then (D4 (λR=>vop S o.op env M R) λv M'=>JP hs.length M' pend/\Zm S rest (X7 env o.dst v) (hs++[M']) M' pend K) \/
      (waits o.dst.toList rest=true/\vop S o.op env M λv M'=>JP hs.length M' pend/\Zm S rest (X7 env o.dst v) (hs++[M']) M' pend K)
     else if o.kind=1 then QW (Q6 o.op (Q3 env) M) λp=>(∀ U∈hs.drop o.kmin,JQ o.op (Q3 env) p.1 U) /\
      Zm S rest (X7 env o.dst p.1) hs M (if hs.length<=o.kmax then (o.kmax,JQ o.op (Q3 env) p.1)::pend else pend) K
     else QW (Q6 o.op (Q3 env) M) λp=>Zm S rest (X7 env o.dst p.1) hs M pend K)
    (if o.kind=2 then JP hs.length M pend/\Zm S rest (X7 env o.dst undef) (hs++[M]) M pend K else Zm S rest (X7 env o.dst undef) hs M pend K)
def DropE (σ0:Heap) (env:Env) (M:Heap) (af:Env) (M':Heap):Prop :=
 ∀ ρ0 w0 ρ w cs,HRel ρ0 σ0 w0->Ext ρ0 σ0 w0 ρ M w->HRel ρ M w->LRel ρ M.n env cs->∃ ρ',LRel ρ' M'.n af cs/\HRel ρ' M' w/\Ext ρ0 σ0 w0 ρ' M' w
theorem DropE.refl (σ0:Heap) (env:Env) (M:Heap):DropE σ0 env M env M:=λ_ _ ρ _ _ _ hE hH hL=>⟨ρ,hL,hH,hE⟩
def Mn (S:VSpecs):List DSeg->Env->Heap->(Env->Heap->Prop)->Prop
 |[],env,M,K=>K env M
 |.one o::rest,env,M,K=>T1 S [o] env M λenv M=>Mn S rest env M K
 |.alts l::rest,env,M,K=>∀ ops∈l,Zm S ops env [M] M [] λbz σ1=>∃ aT M2,DropE M bz σ1 aT M2/\Mn S rest aT M2 K
def BE (live:List Nat) (env:Env):List Value:=live.map λi=>env.getD i poison
def XD:List Nat->List Value->Env->Env
 |i::l,v::vs,env=>XD l vs (env.set i v)
 |_,_,env=>env
def Z3u (W:(Exit->Env->Heap->Prop)->Env->Heap->Prop) (Q:Exit->Env->Heap->Prop) (env:Env) (M:Heap):Prop :=
 ∃ (live:List Nat) (I:Nat->List Value->Heap->Prop) (n0:Nat),I n0 (BE live env) M /\
  ∀ n vs M',I n vs M'->W (λe af aE=>match e with
   |.normal=>∃ n',n'<n/\I n' (BE live af) aE
   |e=>Q e af aE) (XD live vs (List.replicate env.length poison)) M'
def Z4i (R:Env->Heap->Prop) (Q:Exit->Env->Heap->Prop):Exit->Env->Heap->Prop
 |.normal,env,M=>R env M
 |e,env,M=>Q e env M
def AD (id:Nat) (Q:Exit->Env->Heap->Prop):Exit->Env->Heap->Prop
 |.exit hZ,env,M=>if hZ=id then Q .normal env M else Q (.exit hZ) env M
 |e,env,M=>Q e env M
def Hy:Env->List Nat->List Value->Env
 |env,p::ps,v::vs=>Hy (env.set p v) ps vs
 |env,_,_=>env
def Q9b (env:Env) (r:Loop) (i:Nat) (K:Value->Heap->Prop):Exit->Env->Heap->Prop:=λe _ M =>
 M.get i=some (.obj (.lp env r .busy none) true)/\match e with
  |.normal=>K (.bool true) (M.upd i (.obj (.lp env r .ready none) true))
  |.ret=>K (.bool false) (M.upd i (.obj (.lp env r .done (some .ret)) true))
  |.exit id=>K (.bool false) (M.upd i (.obj (.lp env r .done (some (.exit id))) true))
  |_=>False
def A9 (A B:(Exit->Env->Heap->Prop)->Env->Heap->Prop) (ps:List Nat) (env:Env) (r:Loop) (i:Nat):Tb:=λargs M K =>
 M.get i=some (.obj (.lp env r .ready none) true)/\args.length=ps.length /\
  A (Z4i (λbz σ1=>σ1.get i=some (.obj (.lp env r .ready none) true)/\B (Q9b env r i K) bz (σ1.upd i (.obj (.lp env r .busy none) true))) (λ_ _ _=>False)) (Hy env ps args) M
def Q1d (Q:Exit->Env->Heap->Prop) (env:Env) (i:Nat):Value->Heap->Prop:=λ_ M =>
 match M.get i with
 |some (.obj (.lp _ _ st pend) true)=>st≠.busy/\match pend with
  |none=>Q .normal env (M.kill i)
  |some .ret=>Q .ret env (M.kill i)
  |some (.exit id)=>Q (.exit id) env (M.kill i)
  |some _=>False
 |_=>False
def Z4k (M:Heap):Option Nat->Prop
 |none=>True
 |some i=>∃ env r st pend,M.get i=some (.obj (.lp env r st pend) true)
def Lk (S:VSpecs) (ro:Option Nat) (A B:Option Nat->(Exit->Env->Heap->Prop)->Env->Heap->Prop) (g:Value) (ps:List Nat) (Q:Exit->Env->Heap->Prop) (env:Env) (M:Heap):Prop :=
 match g with
 |.func (.func f) first cap=>match S.it f with
  |some T=>Z4k M ro/\∀ r:Loop,T M.n (A9 (A (some M.n)) (B (some M.n)) ps env r M.n) (first.toList++[.func (.yield M.n) #[] #[]]++cap.toList) (M.push (.obj (.lp env r .ready none) true)) (Q1d Q env M.n)
  |none=>False
 |_=>False
def vwp (S:VSpecs):VCode->Option Nat->(Exit->Env->Heap->Prop)->Env->Heap->Prop
 |.skip,_,Q,env,M=>Q .normal env M
 |.region ops,_,Q,env,M=>T1 S ops env M λenv M=>Q .normal env M
 |.regionD aQ,_,Q,env,M=>Mn S aQ env M λenv M=>Q .normal env M
 |.seq a b,ro,Q,env,M=>vwp S a ro (Z4i (vwp S b ro Q) Q) env M
 |.cond c a b,ro,Q,env,M=>ID (Q3 env c) (vwp S a ro Q env M) (vwp S b ro Q env M)
 |.block id b,ro,Q,env,M=>vwp S b ro (AD id Q) env M
 |.loop b,ro,Q,env,M=>Z3u (vwp S b ro) Q env M
 |.rangeF g ps a b,ro,Q,env,M=>Lk S ro (vwp S a) (vwp S b) (Q3 env g) ps Q env M
 |.exit id,_,Q,env,M=>Q (.exit id) env M
 |.ret,_,Q,env,M=>Q .ret env M
 |.bad,_,_,_,_=>False
inductive VResult where
 |tmp (t:Nat)
 |cell (a:Nat) (agg:Bool) (size:Nat)
def Jx (P:Program):ResultVar->Option VResult
 |.tmp t=>some (.tmp t)
 |.cell a t =>
  match P.info? t,P.underlying t with
  |some i,some d=>some (.cell a (Ut d) i.size)
  |_,_=>none
def U3 (P:Program) (rs:List ResultVar):Option (List VResult):=rs.mapM (Jx P)
def Jm (env:Env) (M:Heap):VResult->Option Value
 |.tmp t=>some (env.getD t undef)
 |.cell a agg size=>(Q6 (.load agg size (.tmp a)) (Q3 env) M).map (·.1)
def ZM (env:Env) (M:Heap) (rs:List VResult):Option Value :=
 match rs with
 |[r]=>Jm env M r
 |rs=>(rs.mapM (Jm env M)).map λvs=>.tuple vs.toArray
def Q8u (rs:List VResult) (R:Value->Heap->Prop):Exit->Env->Heap->Prop
 |.normal,env,M|.ret,env,M=>QW (ZM env M rs) λv=>R v M
 |_,_,_=>False
theorem Xj (b:Nat):∀ (vs:List Value) (o:Nat) (w:World) (k:Nat),k≠b->(w.setCells b o vs).heap[k]?=w.heap[k]?
 |[],_,_,_,_=>rfl
 |v::r,o,w,k,h=>by rw[World.setCells,Xj b r (o+1) _ k h];exact heap_setCell_other w ⟨b,o,none⟩ k v h
theorem W8 (b:Nat):∀ (vs:List Value) (o:Nat) (w:World),(w.setCells b o vs).heap.size=w.heap.size
 |[],_,_=>rfl
 |v::r,o,w=>by rw[World.setCells,W8 b r];exact World.size_setCell w _ _
theorem G4 (b:Nat):∀ (vs:List Value) (o:Nat) (w:World),(w.setCells b o vs).os=w.os/\(w.setCells b o vs).tape=w.tape/\(w.setCells b o vs).output=w.output
 |[],_,_=>⟨rfl,rfl,rfl⟩
 |v::r,o,w=>by rw[World.setCells];exact G4 b r (o+1) _
theorem V6 (b:Nat):∀ (vs:List Value) (o:Nat) (w:World) (C:Array Value) (e:TypeId) (f:Nat×Nat),w.heap[b]?=some (.cells C e f) ->
  ∃ C',(w.setCells b o vs).heap[b]?=some (.cells C' e f)/\C'.size=C.size
 |[],_,_,C,_,_,h=>⟨C,h,rfl⟩
 |v::r,o,w,C,e,f,h=>by
  have h1:(w.setCell ⟨b,o,none⟩ v).heap[b]?=some (.cells (C.setIfInBounds o v) e f):=by simp only[World.setCell,Array.getElem?_modify,zx,h];simp
  obtain⟨C',h2,h3⟩:=V6 b r (o+1) _ _ e f h1;exact⟨C',by rw[World.setCells];exact h2,by rw[h3];simp⟩
theorem XE (vs:List Value):∀ (c:List Value) (o:Nat),(Yx c o vs).length=c.length:=by
 induction vs with
 |nil=>intro c o;rfl
 |cons v r ih=>intro c o;rw[Yx,ih];simp
theorem Ya (vs:List Value):∀ (c:List Value) (o k:Nat),(k<o\/o+vs.length<=k)->(Yx c o vs)[k]?=c[k]?:=by
 induction vs with
 |nil=>intro c o k _;rfl
 |cons v r ih =>intro c o k h;rw[Yx,ih _ _ _ (by simp at h;omega),List.getElem?_set_ne (by simp at h;omega)]
theorem RX (vs:List Value):∀ (c:List Value) (o k:Nat),o+vs.length<=c.length->k<vs.length->(Yx c o vs)[o+k]?=vs[k]?:=by
 induction vs with
 |nil=>intro c o k _ h;simp at h
 |cons v r ih =>
  intro c o k h hk;simp at h hk;cases k with
  |zero=>rw[Yx,Ya _ _ _ _ (by left;omega),zM,List.getElem?_set_self (by omega)];rfl
  |succ k =>rw[Yx,show o+(k+1)=o+1+k by omega,ih _ _ _ (by simp;omega) (by omega)];simp
theorem BRel.q0t {ρ:Plc}{n:Nat}{p:Pl}{w:World}{c:List Value}{esz:El}{wr tight:Bool}(h:BRel ρ n p w (.cells c esz wr tight)) (k:Nat) (hk:k<p.ext):(w.cell? ⟨p.blk,p.shift+k,none⟩).isSome=true:=by
 obtain⟨_,_,_,⟨C,e,f,h1,h2⟩,_⟩:=h;have h3:p.shift+k<C.size:=by omega
 simp[World.cell?,h1,h3]
theorem BRel.other {ρ ρ':Plc}{n n':Nat}{q:Pl}{w w':World}{b:Blk}(hn:n<=n') (hρ:∀ i,i<n->∀ p,ρ' i=some p->ρ i=some p) (B:Nat) (C:Array Value) (e:TypeId) (f:Nat×Nat) (hB:w.heap[B]?=some (.cells C e f))
  (av:0<q.ext->B≠q.blk) (hC:∃ C' f',w'.heap[B]?=some (.cells C' e f')/\C.size<=C'.size) (ho:∀ k,k≠B->k<w.heap.size->w'.heap[k]?=w.heap[k]?) (hq:q.blk<w.heap.size) (h:BRel ρ n q w b):BRel ρ' n' q w' b:=by
 by_cases hk:q.blk=B
 .have h0:q.ext=0:=by
   rcases Nat.eq_zero_or_pos q.ext with h'|h'
   .exact h'
   .exact absurd hk.symm (av h')
  cases b with
  |cells c esz wr tight =>
   obtain⟨h1,h2,h3,⟨C0,e0,f0,h4,gX⟩,h5,h6⟩:=h;have hc:c=[]:=zW.1 (by omega);obtain⟨C',f',lj,mD⟩:=hC;have sK:C0=C/\e0=e:=by rw[hk,hB] at h4;simp at h4;exact⟨h4.1.symm,h4.2.1.symm⟩
   obtain⟨rfl,rfl⟩:=sK;refine⟨h1,h2,by omega,⟨C',e0,f',by rw[hk];exact lj,by omega,gX.2⟩,λk v hv=>by simp[hc] at hv,λhw=>⟨(h6 hw).1,λk hk=>by omega⟩⟩
  |obj o wr=>have:=h.1;omega
 .exact h.mono hn hρ (ho _ hk hq)
theorem HRel0.store {ρ:Plc}{M:Heap}{w:World}(h:HRel0 ρ M w) {i:Nat}{p:Pl}{c:List Value}{esz:El}{tight:Bool}(hp:ρ i=some p) (hb:M.get i=some (.cells c esz true tight))
  {o:Nat}{vs cs:List Value}(hv:LRel ρ M.n vs cs) (ho:o+vs.length<=c.length) :
  HRel0 ρ (M.upd i (.cells (Yx c o vs) esz true tight)) (w.setCells p.blk (p.shift+o) cs)/\Ext ρ M w ρ (M.upd i (.cells (Yx c o vs) esz true tight)) (w.setCells p.blk (p.shift+o) cs):=by
 have hi:=M.lt hb;obtain⟨p',bk,hB⟩:=h.live i _ hb;obtain rfl:p=p':=osj (hp.symm.trans bk);obtain⟨h1,h2,h3,⟨C,e,f,h4,gX⟩,h5,h6⟩:=hB;obtain⟨C',lj,mD⟩:=V6 p.blk cs (p.shift+o) w C e f h4;have cg:vs.length=cs.length:=hv.1;refine⟨⟨λj b hj=>?_,λj hj=>?_,λj q hq=>by rw[W8];exact h.lt j q hq,λj k q r b cW hq hr cu hw hx=>?_⟩,?_⟩
 .by_cases aL:j=i
  .subst aL;rw[Heap.q0c _ _ hi] at hj;obtain rfl:=osj hj;refine⟨p,hp,h1,h2,by rw[XE];exact h3,⟨C',e,f,lj,by omega,gX.2⟩,λk v hk=>?_,λ_=>⟨(h6 rfl).1,λk hk=>by rw[World.frozen?_setCells];exact(h6 rfl).2 k hk⟩⟩;have bg:k<c.length:=by have:=(z7.1 hk).1;rwa [XE] at this
   by_cases bO:k<o\/o+vs.length<=k
   .rw[Ya _ _ _ _ bO] at hk;obtain⟨u,hu,cD⟩:=h5 k v hk;exact⟨u,by rw[World.cell?_setCells_out _ _ _ _ _ (λ_ _=>by show p.shift+k<p.shift+o\/_;simp;omega)];exact hu,cD⟩
   .have m_:k=o+(k-o):=by omega
    rw[m_,RX _ _ _ _ ho (by omega)] at hk;obtain⟨u,hu,cD⟩:=hv.get hk;have mE:k-o<cs.length:=(z7.1 hu).1;refine⟨u,?_,cD⟩;have:=World.cell?_setCells_in p.blk cs (p.shift+o) w (λj hj=>by
     rw[zk];exact BRel.q0t (ρ:=ρ) (n:=M.n) ⟨h1,h2,h3,⟨C,e,f,h4,gX⟩,h5,h6⟩ _ (by omega)) (k-o) mE
    rw[show p.shift+o+(k-o)=p.shift+k by omega] at this;rw[this,<-z3 mE,hu]
  .rw[Heap.q0b _ _ aL] at hj;obtain⟨q,hq,fp⟩:=h.live j b hj;refine⟨q,hq,fp.other (by exact z5 _) (λ_ _ _ h=>h) p.blk C e f h4 (λhx=>h.sep i j p q _ (Ne.symm aL) hp hq hb rfl hx) ⟨C',f,lj,by omega⟩ (λk hk _=>Xj _ _ _ _ _ hk) (h.lt j q hq)⟩
 .by_cases aL:j=i
  .subst aL;rw[Heap.q0c _ _ hi] at hj;cases hj
  .rw[Heap.q0b _ _ aL] at hj;exact h.dead j hj
 .by_cases aL:j=i
  .subst aL;exact h.sep j k q r _ cW hq hr hb rfl hx
  .rw[Heap.q0b _ _ aL] at cu;exact h.sep j k q r b cW hq hr cu hw hx
 .obtain⟨e1,e2,e3⟩:=G4 p.blk cs (p.shift+o) w;refine⟨e1,e2,e3,by rw[W8];exact z5 _,λB hB hW=>Xj _ _ _ _ _ (λe=>hW ⟨i,p,_,hp,hb,rfl,e.symm⟩),?_,z5 _,λ_ _ _ h=>h⟩;rintro B _ ⟨j,q,b,hq,cf,hw,rfl⟩;by_cases aL:j=i
  .subst aL;exact⟨j,q,_,hq,hb,rfl,rfl⟩
  .rw[Heap.q0b _ _ aL] at cf;exact⟨j,q,b,hq,cf,hw,rfl⟩
theorem HRel0.onto {ρ:Plc}{M:Heap}{w:World}(h:HRel0 ρ M w) {i:Nat}{p:Pl}{c:List Value}{esz:El}(hp:ρ i=some p) (hb:M.get i=some (.cells c esz true false))
  (o':Nat) {aZ vs cs:List Value}(hold:∀ k v,aZ[k]?=some v->∃ u,w.cell? ⟨p.blk,p.shift+o'+k,none⟩=some u/\VRel ρ M.n v u) (hv:LRel ρ M.n vs cs) (ho:o'+aZ.length+vs.length<=p.ext) :
  ∃ ρ',ρ' M.n=some ⟨p.blk,p.shift+o',p.ext-o',esz,false⟩/\HRel0 ρ' ((M.kill i).push (.cells (aZ++vs) esz true false)) (w.setCells p.blk (p.shift+o'+aZ.length) cs) /\
   Ext ρ M w ρ' ((M.kill i).push (.cells (aZ++vs) esz true false)) (w.setCells p.blk (p.shift+o'+aZ.length) cs):=by
 have hi:=M.lt hb;obtain⟨p',bk,hB⟩:=h.live i _ hb;obtain rfl:p=p':=osj (hp.symm.trans bk);have dH:=hB;obtain⟨h1,h2,h3,⟨C,e,f,h4,gX⟩,h5,h6⟩:=hB;obtain⟨C',lj,mD⟩:=V6 p.blk cs (p.shift+o'+aZ.length) w C e f h4;have cg:vs.length=cs.length:=hv.1;let P':Pl:=⟨p.blk,p.shift+o',p.ext-o',esz,false⟩;let ρ':Plc:=(ρ.put i none).put M.n (some P');have gN:ρ' M.n=some P':=by simp[ρ',Plc.put]
 have fW:ρ' i=none:=by simp only[ρ',Plc.put];rw[z1 (by omega)];simp
 have fq:∀ j,j≠M.n->j≠i->ρ' j=ρ j:=λj h1 h2=>by simp[ρ',Plc.put,h1,h2]
 have aY:∀ j,j<M.n->∀ q,ρ' j=some q->ρ j=some q:=λj hj q hq=>by
  by_cases aL:j=i
  .subst aL;rw[fW] at hq;cases hq
  .rwa [fq j (by omega) aL] at hq
 refine⟨ρ',gN,⟨λj b hj=>?_,λj hj=>?_,λj q hq=>?_,λj k q r b cW hq hr cu hw hx=>?_⟩,?_⟩
 .by_cases aN:j=M.n
  .subst aN;have eE:((M.kill i).push (.cells (aZ++vs) esz true false)).get M.n=some (.cells (aZ++vs) esz true false):=Heap.q0a (M.kill i) _;rw[eE] at hj;obtain rfl:=osj hj;refine⟨P',gN,rfl,rfl,by simp[P'];omega,⟨C',e,f,lj,by simp[P'];omega,gX.2⟩,λk v hk=>?_,λ_=>⟨(λh=>by cases h),λk hk=>?_⟩⟩
   .by_cases bO:k<aZ.length
    .rw[x6 bO] at hk;obtain⟨u,hu,cD⟩:=hold k v hk;exact⟨u,by rw[World.cell?_setCells_out _ _ _ _ _ (λ_ _=>by left;simp[P'];omega)];exact hu,cD.mono (by simp) aY⟩
    .rw[xc (by omega)] at hk;obtain⟨u,hu,cD⟩:=hv.get hk;have mE:k-aZ.length<cs.length:=(z7.1 hu).1;refine⟨u,?_,cD.mono (by simp) aY⟩;have:=World.cell?_setCells_in p.blk cs (p.shift+o'+aZ.length) w (λj hj=>by
      rw[zk,zk];exact dH.q0t _ (by omega)) (k-aZ.length) mE
     rw[show p.shift+o'+aZ.length+(k-aZ.length)=P'.shift+k by simp[P'];omega] at this;rw[this,<-z3 mE,hu]
   .rw[World.frozen?_setCells,show P'.shift+k=p.shift+(o'+k) by simp[P'];omega];exact(h6 rfl).2 _ (by simp[P'] at hk;omega)
  .have dw:(M.kill i).get j=some b:=by rw[<-hj];exact(Heap.q0e (M.kill i) _ aN).symm
   by_cases aL:j=i
   .subst aL;rw[Heap.q0g] at dw;cases dw
   .rw[Heap.q0d _ aL] at dw;obtain⟨q,hq,fp⟩:=h.live j b dw;exact⟨q,by rw[fq j aN aL];exact hq,fp.other (by simp) aY p.blk C e f h4 (λhx=>h.sep i j p q _ (Ne.symm aL) hp hq hb rfl hx) ⟨C',f,lj,by omega⟩ (λk hk _=>Xj _ _ _ _ _ hk) (h.lt j q hq)⟩
 .by_cases aN:j=M.n
  .subst aN;have eE:((M.kill i).push (.cells (aZ++vs) esz true false)).get M.n=some (.cells (aZ++vs) esz true false):=Heap.q0a (M.kill i) _;rw[eE] at hj;cases hj
  .have dw:(M.kill i).get j=none:=by rw[<-hj];exact(Heap.q0e (M.kill i) _ aN).symm
   by_cases aL:j=i
   .subst aL;exact fW
   .rw[Heap.q0d _ aL] at dw;rw[fq j aN aL];exact h.dead j dw
 .rw[W8];by_cases aN:j=M.n
  .subst aN;rw[gN] at hq;obtain rfl:=osj hq;exact h.lt i p hp
  .by_cases aL:j=i
   .subst aL;rw[fW] at hq;cases hq
   .rw[fq j aN aL] at hq;exact h.lt j q hq
 .by_cases aN:j=M.n
  .subst aN;rw[gN] at hq;obtain rfl:=osj hq;by_cases jV:k=i
   .subst jV;rw[fW] at hr;cases hr
   .rw[fq k (Ne.symm cW) jV] at hr;exact h.sep i k p r _ (Ne.symm jV) hp hr hb rfl hx
  .have bE:(M.kill i).get j=some b:=by rw[<-cu];exact(Heap.q0e (M.kill i) _ aN).symm
   by_cases aL:j=i
   .subst aL;rw[fW] at hq;cases hq
   rw[Heap.q0d _ aL] at bE;rw[fq j aN aL] at hq;by_cases iT:k=M.n
   .subst iT;rw[gN] at hr;obtain rfl:=osj hr;have na:0<p.ext:=by simp[P'] at hx;omega
    exact h.sep j i q p b aL hq hp bE hw na
   .by_cases jV:k=i
    .subst jV;rw[fW] at hr;cases hr
    .rw[fq k iT jV] at hr;exact h.sep j k q r b cW hq hr bE hw hx
 .obtain⟨e1,e2,e3⟩:=G4 p.blk cs (p.shift+o'+aZ.length) w;refine⟨e1,e2,e3,by rw[W8];exact z5 _,λB hB hW=>Xj _ _ _ _ _ (λe=>hW ⟨i,p,_,hp,hb,rfl,e.symm⟩),?_,by simp,aY⟩;rintro B _ ⟨j,q,b,hq,cf,hw,rfl⟩;by_cases aN:j=M.n
  .subst aN;rw[gN] at hq;obtain rfl:=osj hq;exact⟨i,p,_,hp,hb,rfl,rfl⟩
  .have bE:(M.kill i).get j=some b:=by rw[<-cf];exact(Heap.q0e (M.kill i) _ aN).symm
   by_cases aL:j=i
   .subst aL;rw[fW] at hq;cases hq
   rw[Heap.q0d _ aL] at bE;rw[fq j aN aL] at hq;exact⟨j,q,b,hq,bE,hw,rfl⟩
section
variable {ρ:Plc}{M:Heap}{w:World}
theorem HRel.store (h:HRel ρ M w) {i:Nat}{p:Pl}{c:List Value}{esz:El}{tight:Bool}(hp:ρ i=some p) (hb:M.get i=some (.cells c esz true tight))
  {o:Nat}{vs cs:List Value}(hv:LRel ρ M.n vs cs) (ho:o+vs.length<=c.length) :
  HRel ρ (M.upd i (.cells (Yx c o vs) esz true tight)) (w.setCells p.blk (p.shift+o) cs)/\Ext ρ M w ρ (M.upd i (.cells (Yx c o vs) esz true tight)) (w.setCells p.blk (p.shift+o) cs) :=
 let ⟨h2,h3⟩:=h.core.store hp hb hv ho
 ⟨h.ext h2 h3,h3⟩
theorem HRel.onto (h:HRel ρ M w) {i:Nat}{p:Pl}{c:List Value}{esz:El}(hp:ρ i=some p) (hb:M.get i=some (.cells c esz true false))
  (o':Nat) {aZ vs cs:List Value}(hold:∀ k v,aZ[k]?=some v->∃ u,w.cell? ⟨p.blk,p.shift+o'+k,none⟩=some u/\VRel ρ M.n v u) (hv:LRel ρ M.n vs cs) (ho:o'+aZ.length+vs.length<=p.ext) :
  ∃ ρ',ρ' M.n=some ⟨p.blk,p.shift+o',p.ext-o',esz,false⟩/\HRel ρ' ((M.kill i).push (.cells (aZ++vs) esz true false)) (w.setCells p.blk (p.shift+o'+aZ.length) cs) /\
   Ext ρ M w ρ' ((M.kill i).push (.cells (aZ++vs) esz true false)) (w.setCells p.blk (p.shift+o'+aZ.length) cs) :=
 let ⟨ρ',h1,h2,h3⟩:=h.core.onto hp hb o' hold hv ho
 ⟨ρ',h1,h.ext h2 h3,h3⟩
end
end Go.V
namespace Go.V
open Go
structure Like (ρ:Plc) (w w':World):Prop where
 size:w.heap.size<=w'.heap.size
 blk:∀ i p,ρ i=some p->w'.heap[p.blk]?=w.heap[p.blk]?
 tab:∀ g cs,OY g=some cs->w'.heap[g]?=w.heap[g]?
theorem Like.refl (ρ:Plc) (w:World):Like ρ w w:=⟨z5 _,λ_ _ _=>rfl,λ_ _ _=>rfl⟩
section inv
variable {ρ:Plc}{n:Nat}{c:Value}
theorem VRel.q0h {k:IntKind}{x:Int}(h:VRel ρ n (.int k x) c):c=.int k x:=by cases h;rfl
theorem VRel.q1d {b:Bool}(h:VRel ρ n (.bool b) c):c=.bool b:=by cases h;rfl
theorem VRel.q0p {s:ByteArray}(h:VRel ρ n (.string s) c):c=.string s:=by cases h;rfl
theorem VRel.q1j {l k:Nat}(h:VRel ρ n (.slice none l k) c):l=0/\k=0/\c=.slice none 0 0:=by cases h;exact⟨rfl,rfl,rfl⟩
theorem VRel.q0w {i o:Nat}{p:Pl}(hp:ρ i=some p) (h:VRel ρ n (.pointer (some ⟨i,o,none⟩)) c):(none:Option Nat)=none/\i<n/\c=.pointer (some ⟨p.blk,p.shift+o,none⟩):=by
 cases h with
 |ptr _ _ a hi h=>exact⟨rfl,hi,by rw[h p hp]⟩
theorem VRel.q1k {cs:Array Value}(h:VRel ρ n (.agg cs) c):∃ ds:Array Value,c=.agg ds/\LRel ρ n cs.toList ds.toList:=by
 cases h with
 |agg _ ds hc h=>exact⟨ds,rfl,LRel.of_array hc h⟩
theorem VRel.q1l {cs:Array Value}(h:VRel ρ n (.tuple cs) c):∃ ds:Array Value,c=.tuple ds/\LRel ρ n cs.toList ds.toList:=by
 cases h with
 |tuple _ ds hc h=>exact⟨ds,rfl,LRel.of_array hc h⟩
end inv
theorem W1 {ρ:Plc}{n:Nat}{v:Value}(h:QN v=true):VRel ρ n v v:=by unfold QN at h;split at h<;>first|constructor|cases h
theorem X9 {ρ:Plc}{n:Nat}{l:List Value}(h:l.all QN=true):LRel ρ n l l:=by refine⟨rfl,λi v c hv hc=>?_⟩;obtain rfl:v=c:=osj (hv.symm.trans hc);exact W1 (z6.1 h v (zE hv))
theorem Vp {ρ:Plc}{n:Nat}{v:Value}(h:V5 v=true):VRel ρ n v v:=by
 unfold V5 at h;split at h
 .rename_i cs;have:=VRel.q1m (X9 (ρ:=ρ) (n:=n) h);simpa using this
 .rename_i cs;have:=VRel.q0j (X9 (ρ:=ρ) (n:=n) h);simpa using this
 .exact W1 h
theorem Js {ρ:Plc}{n:Nat}:VRel ρ n undef undef:=Vp rfl
theorem W2 {ρ:Plc}{n:Nat}{env:Env}{a:Act}(h:LRel ρ n env a.tmps.toList) {x:Operand}(hx:X6 x=true):VRel ρ n (Q3 env x) (a.eval x):=by
 cases x with
 |tmp t =>
  simp only[Q3,Act.eval];have e:List.length env=a.tmps.size:=by have:=h.1;rw[Array.length_toList] at this;exact this
  rcases zh t (List.length env) with ht|ht
  .have mF:t<a.tmps.size:=by rw[<-e];exact ht
   have:=h.2 t env[t] a.tmps[t] (z3 ht) (by simp[mF]);simpa [List.getD,ht,mF,Array.getD] using this
  .have mF:¬ t<a.tmps.size:=by rw[<-e];exact wi.2 ht
   simp[List.getD,zj ht,Array.getD,mF];exact Js
 |const v=>exact Vp hx
 |global g=>exact .glob g 0 0
 |func f=>exact .func _ #[] #[] #[] #[] rfl rfl (λi h1=>by simp at h1) (λi h1=>by simp at h1)
theorem HF {ρ:Plc}{w w':World}(hl:Like ρ w w') {i:Nat}{p:Pl}(hp:ρ i=some p) (o:Nat):w'.cell? ⟨p.blk,o,none⟩=w.cell? ⟨p.blk,o,none⟩ :=
 World.cell?_of_block (a:=⟨p.blk,o,none⟩) (hl.blk i p hp)
section
variable {P:Program}{ρ:Plc}{M:Heap}{w:World}
theorem VH {t:TypeId}{d:TypeDesc}(h:P.underlying t=some d) (w:World):(isAgg t).run P w=.ok (Ut d) w:=by cases d<;>simp[isAgg,run_underlying h,Ut]
theorem Qa {t:TypeId}{i:TypeInfo}(h:P.info? t=some i) (w:World):(sizeOf t).run P w=.ok i.size w:=by simp[sizeOf,run_typeInfo w h]
theorem Xs (b o n:Nat):(⟨b,o,none⟩:Addr).add n=⟨b,o+n,none⟩:=by unfold Addr.add;split<;>simp_all
theorem Ag (hH:HRel ρ M w) {t:TypeId}{ti:TypeInfo}{d:TypeDesc}(h1:P.info? t=some ti) (h2:P.underlying t=some d) {i o:Nat}{c:List Value}{esz:El}{wr tight:Bool}{v x:Value}
  (hb:M.get i=some (.cells c esz wr tight)) (hv:WA (Ut d) ti.size c o=some v) (hx:VRel ρ M.n (.pointer (some ⟨i,o,none⟩)) x) :
  ∃ u,VRel ρ M.n v u/\∀ w',Like ρ w w'->(Instr.loadAt t x).run P w'=.ok u w':=by
 obtain⟨p,hp,_,_,_,_,h5,_⟩:=hH.live i _ hb;obtain⟨_,_,rfl⟩:=hx.q0w hp;unfold WA at hv;cases ek:Ut d with
 |false =>
  simp[ek] at hv;obtain⟨u,hu,cD⟩:=h5 o v hv;refine⟨u,cD,λw' hl=>?_⟩;have:w'.cell? ⟨p.blk,p.shift+o,none⟩=some u:=by rw[HF hl hp];exact hu
  simp[Instr.loadAt,Instr.sureAddr,loadVar,VH h2,ek,this]
 |true =>
  simp only[ek,zx] at hv;split at hv
  .rename_i hlen;simp at hv;subst hv;have hex:∃ us:List Value,us.length=ti.size/\∀ k,k<ti.size->∃ u,us[k]?=some u/\w.cell? ⟨p.blk,p.shift+o+k,none⟩=some u/\∀ v,c[o+k]?=some v->VRel ρ M.n v u:=by
    refine⟨(List.range ti.size).map λk=>(w.cell? ⟨p.blk,p.shift+o+k,none⟩).getD undef,by simp,λk hk=>?_⟩;obtain⟨u,hu,cD⟩:=h5 (o+k) _ (z3 (by omega));rw[<-zk] at hu;refine⟨u,by simp[hk,hu],hu,λv hv=>?_⟩;rw[z3 (by omega)] at hv;obtain rfl:=osj hv;exact cD
   obtain⟨us,sL,eo⟩:=hex;refine⟨.agg us.toArray,VRel.q1m ⟨by simp;omega,λk v u hk hu=>?_⟩,λw' hl=>?_⟩
   .have bg:k<ti.size:=by have:=(z7.1 hu).1;omega
    rw[zL,z0 bg,zw] at hk;obtain⟨u',cw,_,gB⟩:=eo k bg;rw[hu] at cw;obtain rfl:=osj cw;exact gB v hk
   .have cL:∀ j v,us[j]?=some v->w'.cell? ((⟨p.blk,p.shift+o,none⟩:Addr).add j)=some v:=λj v hj=>by
     have bU:j<ti.size:=by have:=(z7.1 hj).1;omega
     obtain⟨u',cw,cO,_⟩:=eo j bU;rw[hj] at cw;obtain rfl:=osj cw;rw[Xs,HF hl hp];exact cO
    have:=run_loadCells_list (P:=P) w' ⟨p.blk,p.shift+o,none⟩ us cL;rw[sL] at this;simp[Instr.loadAt,Instr.sureAddr,loadVar,VH h2,ek,Qa h1,this]
  .cases hv
theorem Su (hH:HRel ρ M w) {t:TypeId}{ti:TypeInfo}{d:TypeDesc}(h1:P.info? t=some ti) (h2:P.underlying t=some d) {g o s:Nat}{c:List Value}{v x:Value}
  (hb:OY g=some c) (aY:c.all QN=true) (hv:WA (Ut d) ti.size c o=some v) (hx:VRel ρ M.n (.pointer (some ⟨g,o,some s⟩)) x) :
  ∃ u,VRel ρ M.n v u/\∀ w',Like ρ w w'->(Instr.loadAt t x).run P w'=.ok u w':=by
 obtain⟨⟨e,f,hw⟩,_⟩:=hH.tab g c hb;obtain rfl:x=.pointer (some ⟨g,o,none⟩):=by cases hx;rfl
 have a9:∀ w',Like ρ w w'->∀ k,w'.cell? ⟨g,k,none⟩=c[k]?:=λw' hl k=>by have:=hl.tab g c hb;simp[World.cell?,this,hw]
 unfold WA at hv;cases ek:Ut d with
 |false =>
  simp[ek] at hv;refine⟨v,W1 (z6.1 aY v (zE hv)),λw' hl=>?_⟩;have:w'.cell? ⟨g,o,none⟩=some v:=by rw[a9 w' hl];exact hv
  simp[Instr.loadAt,Instr.sureAddr,loadVar,VH h2,ek,this]
 |true =>
  simp only[ek,zx] at hv;split at hv
  .rename_i hlen;simp at hv;subst hv;have ae:((c.drop o).take ti.size).all QN=true:=z6.2 λx hx=>z6.1 aY x (List.mem_of_mem_drop (List.mem_of_mem_take hx));refine⟨_,VRel.q1m (X9 ae),λw' hl=>?_⟩;have cL:∀ j v,((c.drop o).take ti.size)[j]?=some v->w'.cell? ((⟨g,o,none⟩:Addr).add j)=some v:=λj v hj=>by
    rw[Xs,a9 w' hl];rw[zL] at hj;split at hj
    .rw[zw] at hj;exact hj
    .cases hj
   have:=run_loadCells_list (P:=P) w' ⟨g,o,none⟩ _ cL;have cj:((c.drop o).take ti.size).length=ti.size:=by rw[xV,xM];omega
   rw[cj] at this;simp[Instr.loadAt,Instr.sureAddr,loadVar,VH h2,ek,Qa h1,this]
  .cases hv
theorem Ai {t:TypeId}{ti:TypeInfo}{d:TypeDesc}(h1:P.info? t=some ti) (h2:P.underlying t=some d) {cs ds:Array Value}{o:Nat}{v:Value}{n:Nat}
  (hv:WA (Ut d) ti.size cs.toList o=some v) (hl:LRel ρ n cs.toList ds.toList):∃ u,VRel ρ n v u/\∀ w',(part t ds o).run P w'=.ok u w':=by
 unfold WA at hv;cases ek:Ut d with
 |false =>
  simp only[ek,zA,if_false] at hv;obtain⟨u,hu,cD⟩:=hl.get hv;refine⟨u,cD,λw'=>?_⟩;have:ds[o]?=some u:=by simpa using hu
  simp[part,VH h2,ek,this]
 |true =>
  simp only[ek,zx] at hv;split at hv
  .rename_i hlen;simp at hv;subst hv;refine⟨.agg (ds.extract o (o+ti.size)),?_,λw'=>by simp[part,VH h2,ek,Qa h1]⟩;have:LRel ρ n ((cs.toList.drop o).take ti.size) ((ds.toList.drop o).take ti.size):=by
    refine⟨by have:=hl.1;simp at this |-;omega,λk v u hk hu=>?_⟩;rw[zL] at hk hu;split at hk
    .rename_i bg;rw[z0 bg,zw] at hu;rw[zw] at hk;exact hl.2 _ v u hk hu
    .cases hk
   have h3:=VRel.q1m this;have h4:((ds.toList.drop o).take ti.size).toArray=ds.extract o (o+ti.size):=by apply Array.ext';simp[Array.toList_extract,List.extract_eq_take_drop]
   rwa [h4] at h3
  .cases hv
end
end Go.V
namespace Go.V
open Go
theorem DA {ρ:Plc}{n:Nat}{v c:Value}{vs:List Value}(h:KG v=some vs) (hv:VRel ρ n v c):LRel ρ n vs c.cells.toList:=by
 unfold KG at h;split at h
 .obtain⟨ds,rfl,hl⟩:=hv.q1k;simp at h;subst h;exact hl
 .cases h
 .cases h
 .rename_i h1 h2 h3;simp at h;subst h;have hc:c.cells.toList=[c]:=by
   cases hv<;>first|rfl|(exact absurd rfl (h1 _))|(exact absurd rfl (h2 _))|(exact absurd rfl (h3 _))
  rw[hc];exact LRel.cons hv (LRel.nil _ _)
theorem AR (off:Nat):∀ (vs:List Value) (k:Nat) (cells:Array Value),
  (((vs.zipIdx k).foldl (λ(cs:Array Value) (p:Value×Nat)=>cs.setIfInBounds (off+p.2) p.1) cells)).toList=Yx cells.toList (off+k) vs:=by
 intro vs;induction vs with
 |nil=>intro k cells;rfl
 |cons v r ih =>intro k cells;simp only[List.zipIdx_cons,w4];rw[ih,Yx];simp[zk]
theorem Q14 {ρ:Plc}{n:Nat}:∀ (vs us c d:List Value) (o:Nat),LRel ρ n c d->LRel ρ n vs us->LRel ρ n (Yx c o vs) (Yx d o us):=by
 intro vs;induction vs with
 |nil=>intro us c d o hc hv;cases us with
  |nil=>exact hc
  |cons _ _=>have:=hv.1;simp at this
 |cons v r ih =>
  intro us c d o hc hv;cases us with
  |nil=>have:=hv.1;simp at this
  |cons u us =>rw[Yx,Yx];have h0:VRel ρ n v u:=hv.2 0 v u rfl rfl;have hr:LRel ρ n r us:=⟨by have:=hv.1;simpa using this,λi a b ha hb=>hv.2 (i+1) a b (by simpa using ha) (by simpa using hb)⟩;exact ih us _ _ _ (hc.set o h0) hr
theorem S3 {ρ:Plc}{n:Nat}(place:Nat->Option (Nat×Nat)):∀ (l:List (Nat×Nat×Value)) (l':List (Nat×Value)) (c c':List Value) (cells:Array Value),
  l.length=l'.length->(∀ (k:Nat) (a:Nat×Nat×Value) (b:Nat×Value),l[k]?=some a->l'[k]?=some b->place b.1=some (a.1,a.2.1)/\VRel ρ n a.2.2 b.2) ->
  M0 c l=some c'->LRel ρ n c cells.toList->∃ bA,Instr.fill place cells l'=some bA/\LRel ρ n c' bA.toList:=by
 intro l;induction l with
 |nil =>
  intro l' c c' cells hl _ hf hc;cases l' with
  |nil=>simp[M0] at hf;subst hf;exact⟨cells,rfl,hc⟩
  |cons _ _=>simp at hl
 |cons a r ih =>
  intro l' c c' cells hl hk hf hc;cases l' with
  |nil=>simp at hl
  |cons b r' =>
   obtain⟨o,s,v⟩:=a;obtain⟨j,u⟩:=b;obtain⟨hp,hv⟩:=hk 0 _ _ rfl rfl;simp only at hp hv;simp only[M0] at hf;split at hf
   .rename_i vs cE;split at hf
    .rename_i ak;obtain⟨hs,hle⟩:=ak;have eF:=DA cE hv;have aA:u.cells.size=s:=by have:=eF.1;simp at this;omega
     have hlen:cells.size=c.length:=by have:=hc.1;simp at this;omega
     obtain⟨bA,h1,h2⟩:=ih r' (Yx c o vs) c' (u.cells.zipIdx.foldl (λcs (c,j)=>cs.setIfInBounds (o+j) c) cells) (by simpa using hl)
      (λk a b ha hb=>hk (k+1) a b (by simpa using ha) (by simpa using hb)) hf (by
       have:=AR o u.cells.toList 0 cells;rw[<-Array.foldl_toList,Array.toList_zipIdx];rw[show (o+0)=o from rfl] at this;refine Eq.subst (motive:=λx=>LRel ρ n (Yx c o vs) x) this.symm ?_;exact Q14 _ _ _ _ _ hc eF)
     refine⟨bA,?_,h2⟩;simp only[Instr.fill,hp];rw[z1 (by simp;omega)];exact h1
    .cases hf
   .cases hf
theorem RP {ρ:Plc}{n:Nat}{env:Env}{ev:Operand->Value}(hE:∀ x,X6 x=true->VRel ρ n (Q3 env x) (ev x)) {l:List Operand}(h:l.all X6=true):LRel ρ n (l.map (Q3 env)) (l.map ev):=by
 refine⟨by simp,λi v c hv hc=>?_⟩;rw[zQ] at hv hc;cases hx:l[i]? with
 |none=>simp[hx] at hv
 |some x =>simp[hx] at hv hc;subst hv;subst hc;exact hE x (z6.1 h x (zE hx))
theorem Q0 {P:Program}{t:TypeId}{d:TypeDesc}(h:P.underlying t=some d) (w:World):(underlying t).run P w=.ok d w:=run_underlying h w
def Lm (P:Program) (ρ:Plc) (M:Heap) (w:World) (v:Value) (s:Sem Next):Prop :=
 ∃ c,VRel ρ M.n v c/\∀ w',Like ρ w w'->s.run P w'=.ok (.value c) w'
theorem Wl {α β:Type}(f:α->Option β):∀ (l:List α) (r:List β),l.mapM f=some r->r.length=l.length/\∀ (i:Nat) (a:α),l[i]?=some a->∃ b,r[i]?=some b/\f a=some b:=by
 intro l;induction l with
 |nil=>intro r h;simp at h;subst h;exact⟨rfl,λi a h=>by simp at h⟩
 |cons a l ih =>
  intro r h;rw[xk] at h;cases hf:f a with
  |none=>simp[hf] at h
  |some b =>
   cases hm:l.mapM f with
   |none=>simp[hf,hm] at h
   |some r' =>
    simp[hf,hm] at h;subst h;obtain⟨h1,h2⟩:=ih r' hm;refine⟨by simp[h1],λi x hx=>?_⟩;cases i with
    |zero=>simp at hx;subst hx;exact⟨b,rfl,hf⟩
    |succ i=>simp at hx;simpa using h2 i x hx
theorem Q17 {P:Program}{α β:Type}(g:α->Sem β) (f:α->β) (w:World):∀ (l:List α),(∀ a∈l,(g a).run P w=.ok (f a) w)->(l.mapM g).run P w=.ok (l.map f) w:=by
 intro l;induction l with
 |nil=>intro _;rfl
 |cons a l ih =>intro h;rw[xk];simp[h a (by simp),ih (λb hb=>h b (by simp[hb]))]
theorem Y2 {P:Program}{t:TypeId}{z:List Value}(h:zeroOf P t=some z):∃ i zv,P.info? t=some i/\i.zero=some zv/\zv.cells.toList=z/\z.length=i.size/\z.all QN=true:=by
 unfold zeroOf at h;cases hi:P.info? t with
 |none=>simp[hi] at h
 |some i =>
  cases hz:i.zero with
  |none=>simp[hi,hz] at h
  |some zv =>simp[hi,hz] at h;obtain⟨h1,h2⟩:=h;subst h2;exact⟨i,zv,rfl,hz,rfl,by simpa using h1.1,by simpa using h1.2⟩
theorem Z2 {P:Program}{t:TypeId}{i:TypeInfo}{zv:Value}(h:P.info? t=some i) (hz:i.zero=some zv) (w:World):(zeroValue t).run P w=.ok zv w:=by simp[zeroValue,run_typeInfo w h,hz]
section
variable {P:Program}{ρ:Plc}{M M':Heap}{w:World}{ev:Operand->Value}{env:Env}{v:Value}
theorem Qk {s:Sem Next}{v c:Value}(h:∀ w',s.run P w'=.ok (.value c) w') (hc:VRel ρ M.n v c):Lm P ρ M w v s:=⟨c,hc,λw' _=>h w'⟩
theorem NX (op:BinOp) (t:TypeId) (x y:Operand) (yt:TypeId) (ty:TypeId) (pos:String) (after:Array Edge) (dst:Option Tmp) (g:Option (Nat×Bool)) {v c a b:Value}(hx:ev x=a) (hy:ev y=b)
  (rF:(∃ k n k' n',a=.int k n/\b=.int k' n')\/(∃ s s',a=.string s/\b=.string s')\/(∃ s s',a=.bool s/\b=.bool s'))
  (h:∀ w',(binOp op t a b).run P w'=.ok c w') (hc:VRel ρ M.n v c):Lm P ρ M w v (execOp ev ⟨dst,.binOp op t x y yt,ty,pos,after,g⟩):=by
 refine Qk (c:=c) (λw'=>?_) hc;have he:∀ w',(eqGuard op t x y a b).run P w'=.ok () w':=λw'=>by rcases rF with⟨k,n,k',n',rfl,rfl⟩|⟨s,s',rfl,rfl⟩|⟨s,s',rfl,rfl⟩<;>(unfold eqGuard;cases op<;>simp)
 simp only[execOp,hx,hy];simp[he,h]
theorem BO {t:TypeId}(h:P.underlying t=some .bool) (a b:Bool) (d:Nat) (w:World):(Op.equalIn (d+1) t (.bool a) (.bool b)).run P w=.ok (a==b) w:=by simp only[Op.equalIn,zt,Q0 h,zd,x5]
theorem T8 {t:TypeId}(h:P.underlying t=some .bool) (a b:Bool) (w:World):(Op.equal t (.bool a) (.bool b)).run P w=.ok (a==b) w :=
 BO h a b 9999 w
theorem VRel.q1g {n:Nat}{i o:Nat}{c:Value}(h:VRel ρ n (.pointer (some ⟨i,o,none⟩)) c):∃ a:Addr,c=.pointer (some a)/\i<n/\∀ p,ρ i=some p->a=⟨p.blk,p.shift+o,none⟩:=by
 cases h with
 |ptr _ _ a hi h=>exact⟨a,rfl,hi,h⟩
theorem VRel.q1b {n:Nat}{i o len cap:Nat}{c:Value}(h:VRel ρ n (.slice (some ⟨i,o,none⟩) len cap) c):∃ (a:Addr) (aq:Nat),c=.slice (some a) len aq/\i<n /\
  ∀ p,ρ i=some p->cap<=aq/\(p.tight=true->aq=cap)/\(aq=0/\len=0\/∃ o',a=⟨p.blk,p.shift+o',none⟩/\o'+aq*p.esz.sz<=p.ext/\(o'=o\/(len=0/\cap=0))):=by
 cases h with
 |sl _ _ _ _ a aq hi h=>exact⟨a,aq,rfl,hi,h⟩
theorem VRel.q2h {n:Nat}{i o len cap:Nat}{c:Value}(h:VRel ρ n (.slice (some ⟨i,o,some 0⟩) len cap) c):∃ a:Addr,c=.slice (some a) len cap/\i<n/\(∀ p,ρ i=some p->a=⟨p.blk,p.shift+o,none⟩/\o+cap*p.esz.sz<=p.ext)/\VRel ρ n (.slice (some ⟨i,o,none⟩) len cap) c:=by
 cases h with
 |slx _ _ _ _ a hi h=>exact⟨a,rfl,hi,h,.sl _ _ _ _ _ _ hi λp hp=>⟨z5 _,λ_=>rfl,.inr ⟨o,(h p hp).1,(h p hp).2,.inl rfl⟩⟩⟩
theorem VRel.q1t {n:Nat}{a:Option Addr}{len cap:Nat}{c:Value}(h:VRel ρ n (.slice a len cap) c):∃ a' aq,c=.slice a' len aq:=by
 cases h with
 |sl _ _ _ _ a aq hi h=>exact⟨_,aq,rfl⟩
 |slx _ _ _ _ a hi h=>exact⟨_,_,rfl⟩
 |nilSl=>exact⟨_,_,rfl⟩
theorem Y1 {op:Option Operand}{d l:Nat}(hE:∀ x,X6 x=true->VRel ρ M.n (Q3 env x) (ev x)) (ai:∀ x,op=some x->X6 x=true) (h:J1 (Q3 env) op d=some l) :
  (op=none/\l=d)\/∃ x k i,op=some x/\ev x=.int k i/\0<=i/\l=i.toNat:=by
 cases op with
 |none=>simp[J1] at h;exact .inl ⟨rfl,h.symm⟩
 |some x =>
  have hr:=hE x (ai x rfl);simp only[J1] at h;split at h
  .rename_i k i heq;rw[heq] at hr;split at h
   .rename_i hi;simp at h;exact .inr ⟨x,k,i,rfl,hr.q0h,hi,h.symm⟩
   .cases h
  .cases h
theorem Z1 (k:IntKind) (i:Int) (y:Nat) (code:BoundsCode) (h:0<=i) (h':i.toNat<=y) (w:World):(Instr.sliceBound (.int k i) y code).run P w=.ok i.toNat w:=by
 have:i<=y:=by omega
 simp[Instr.sliceBound,asIntOf,h,this]
theorem Kw {lo hi:Option Operand}{isSlice:Bool}{n cap l h:Nat}(po:(lo=none/\l=0)\/∃ x k i,lo=some x/\ev x=.int k i/\0<=i/\l=i.toNat)
  (lk:(hi=none/\h=n)\/∃ x k i,hi=some x/\ev x=.int k i/\0<=i/\h=i.toNat) (h1:l<=h) (h2:h<=cap) (w:World) :
  (Instr.sliceBounds isSlice n cap (lo.map ev) (hi.map ev) none).run P w=.ok (l,h,cap) w:=by
 rcases po with⟨rfl,rfl⟩|⟨x,k,i,rfl,hx,pq,rfl⟩<;>rcases lk with⟨rfl,rfl⟩|⟨y,k',i',rfl,hy,fI,rfl⟩
 .simp[Instr.sliceBounds]
 .simp[Instr.sliceBounds,hy,Z1 k' i' _ _ fI h2]
 .simp[Instr.sliceBounds,hx,Z1 k i _ _ pq h1]
 .simp[Instr.sliceBounds,hx,hy,Z1 k i _ _ pq h1,Z1 k' i' _ _ fI h2]
set_option maxHeartbeats 1000000 in
theorem C8 {o:Oper}{vo:VOp}(hc:VD P o.op = some vo) (hq:vo.quiet = true) (hH:HRel ρ M w) (hE:∀ x, X6 x = true -> VRel ρ M.n (Q3 env x) (ev x))
    (h:Q6 vo (Q3 env) M = some (v, M')):M' = M /\ Lm P ρ M w v (execOp ev o):=by
  obtain ⟨dst, op, ty, pos, after, guard⟩:=o;simp only at hc;unfold VD at hc;split at hc
  . cases hc
  rename_i ai;simp only [xZ, xQ] at ai;cases op <;> simp only [Op.operands] at ai hc
  case move x =>
    have hx:=hE x (by simpa using ai);simp at hc; subst hc;simp [Q6] at h;obtain ⟨rfl, rfl⟩:=h;exact ⟨rfl, Qk (λw' => by simp [execOp]) hx⟩
  case assign x =>
    have hx:=hE x (by simpa using ai);simp at hc; subst hc;simp [Q6] at h;obtain ⟨rfl, rfl⟩:=h;exact ⟨rfl, Qk (λw' => by simp [execOp]) hx⟩
  case pick c a b =>
    simp at ai;have hx:=hE c ai.1;have ha:=hE a ai.2.1;have hb:=hE b ai.2.2;simp at hc; subst hc;simp only [Q6] at h;split at h
    . rename_i t heq
      rw [heq] at hx;simp at h;obtain ⟨h1, rfl⟩:=h;refine ⟨rfl, Qk (c:=if t then ev a else ev b) (λw' => by simp [execOp, hx.q1d, asBool]) ?_⟩;rw [<- h1]; split <;> assumption
    . cases h
  case binOp jl t x y yt =>
    simp at ai;have hx:=hE x ai.1;have hy:=hE y ai.2;split at hc
    .
      cases jl <;> simp at hc <;> subst hc <;> simp only [Q6] at h <;> split at h <;> first
        | (cases h; done)
        | (rename_i k a k' b h1 h2
           rw [h1] at hx; rw [h2] at hy;have ex:=hx.q0h;have ey:=hy.q0h;split at h
           . rename_i ak
             simp at h; obtain ⟨rfl, rfl⟩:=h;refine ⟨rfl, ?_⟩
             first
              | refine NX _ t x y yt ty pos after dst guard ex ey (.inl ⟨_, _, _, _, rfl, rfl⟩) (λw' => ?_) (VRel.int _ _)
              | refine NX _ t x y yt ty pos after dst guard ex ey (.inl ⟨_, _, _, _, rfl, rfl⟩) (λw' => ?_) (VRel.bool _)
             first
              | (obtain rfl:=ak; simp [binOp, Op.intArith, R4]; done)
              | (obtain ⟨rfl, pV⟩:=ak; simp [binOp, Op.intDiv, Q6r, pV]; done)
              | (obtain rfl:=ak; simp [binOp, Op.intBits, Q7]; done)
              | (obtain rfl:=ak; simp [binOp, Op.intCmp, Z1b]; done)
              | (simp [binOp, Op.shift, R9, Int.not_lt.2 ak, Nat.min_def]; done)
           . cases h)
    .
      simp at hc; subst hc;simp only [Q6] at h;split at h
      . rename_i a b h1 h2
        rw [h1] at hx; rw [h2] at hy;have ex:=hx.q0p;have ey:=hy.q0p
        cases jl <;> simp only at h <;> first
          | (cases h; done)
          | (split at h
             . rename_i aD
               simp at h; obtain ⟨rfl, rfl⟩:=h;refine ⟨rfl, NX _ t x y yt ty pos after dst guard ex ey (.inr (.inl ⟨_, _, rfl, rfl⟩)) (c:=.string (a ++ b)) (λw' => ?_) (VRel.string _)⟩;have:¬ (((a.size + b.size:Nat):Int) > IntKind.i64.max):=by
                 have:IntKind.i64.max = 9223372036854775807:=by decide
                 omega
               simp only [binOp, Op.stringOp, z1 this]; rfl
             . cases h)
          | (simp at h; obtain ⟨rfl, rfl⟩:=h
             exact ⟨rfl, NX _ t x y yt ty pos after dst guard ex ey (.inr (.inl ⟨_, _, rfl, rfl⟩)) (λw' => by simp [binOp, Op.stringOp, ByteArray.toList_eq]) (VRel.bool _)⟩)
      . cases h
    .
      rename_i pW
      cases jl <;> simp at hc <;> subst hc <;> simp only [Q6] at h <;> split at h <;> first
        | (cases h; done)
        | (rename_i a b h1 h2
           rw [h1] at hx; rw [h2] at hy;have ex:=hx.q1d;have ey:=hy.q1d;simp at h; obtain ⟨rfl, rfl⟩:=h;refine ⟨rfl, NX _ t x y yt ty pos after dst guard ex ey (.inr (.inr ⟨_, _, rfl, rfl⟩)) (λw' => ?_) (VRel.bool _)⟩;simp [binOp, T8 pW])
    . cases hc
  case unOp u5 t x =>
    have hx:=hE x (by simpa using ai);simp at hc; subst hc;simp only [Q6] at h
    split at h <;> first
      | (cases h; done)
      | (rename_i h1; rw [h1] at hx; simp at h; obtain ⟨rfl, rfl⟩:=h
         refine ⟨rfl, ?_⟩
         first
          | (have e:=hx.q1d; refine Qk (λw' => ?_) (VRel.bool _); simp [execOp, e, Op.unary]; done)
          | (have e:=hx.q0h; refine Qk (λw' => ?_) (VRel.int _ _); simp [execOp, e, Op.unary, Op.intArith]; done)
          | (have e:=hx.q0h; refine Qk (λw' => ?_) (VRel.int _ _); simp [execOp, e, Op.unary, Op.intBits, Q7]; done))
  case convert s d x =>
    have hx:=hE x (by simpa using ai);split at hc
    . rename_i k0 k hs hd
      simp at hc; subst hc;simp only [Q6] at h;split at h
      . rename_i h1; rw [h1] at hx; simp at h; obtain ⟨rfl, rfl⟩:=h
        exact ⟨rfl, Qk (λw' => by simp [execOp, hx.q0h, convert, Q0 hs, Q0 hd, Conv.intToInt]) (VRel.int _ _)⟩
      . cases h
    . rename_i hs hd
      simp at hc; subst hc;simp only [Q6] at h;split at h
      . rename_i h1; rw [h1] at hx; simp at h; obtain ⟨rfl, rfl⟩:=h
        exact ⟨rfl, Qk (λw' => by simp [execOp, hx.q0p, convert, Q0 hs, Q0 hd]) (VRel.string _)⟩
      . cases h
    . cases hc
  case alloc t =>
    cases hz:zeroOf P t <;> simp [hz] at hc;subst hc; cases hq
  case box t x => simp at hc; subst hc; cases hq
  case buildSlice t len parts =>
    split at hc
    . rename_i e _
      cases hz:zeroOf P e with
      | none => simp [hz] at hc
      | some z =>
        simp only [hz, zJ, xp] at hc;split at hc
        . cases hc
        . simp at hc; subst hc; cases hq
    . cases hc
  case store t a x =>
    cases hi:P.info? t <;> simp [hi] at hc;subst hc; cases hq
  case makeSlice t l c =>
    split at hc
    . rename_i e _
      cases hi:P.info? e with
      | none => simp [hi] at hc
      | some ei =>
        cases hz:zeroOf P e with
        | none => simp [hi, hz] at hc
        | some z =>
          simp only [hi, hz, zJ, xp] at hc;split at hc
          . cases hc
          . simp at hc; subst hc; cases hq
    . cases hc
  case load t a =>
    have ha:=hE a (by simpa using ai);cases hi:P.info? t with
    | none => simp [hi] at hc
    | some ti =>
      cases hu:P.underlying t with
      | none => simp [hi, hu] at hc
      | some d =>
        simp [hi, hu] at hc; subst hc;simp only [Q6] at h;split at h
        . rename_i g o s h1
          rw [h1] at ha;split at h
          . rename_i c hb
            split at h
            . rename_i ae
              split at h
              . rename_i v0 hv
                simp at h; obtain ⟨rfl, rfl⟩:=h;obtain ⟨u, cD, hr⟩:=Su hH hi hu hb ae hv ha;exact ⟨rfl, u, cD, λw' hl => by simp [execOp, hr w' hl]⟩
              . cases h
            . cases h
          . cases h
        . rename_i i o h1
          rw [h1] at ha;split at h
          . rename_i c esz wr tight hb
            split at h
            . rename_i v0 hv
              simp at h; obtain ⟨rfl, rfl⟩:=h;obtain ⟨u, cD, hr⟩:=Ag hH hi hu hb hv ha;exact ⟨rfl, u, cD, λw' hl => by simp [execOp, hr w' hl]⟩
            . cases h
          . cases h
        . cases h
  case fieldAddr t a f =>
    have ha:=hE a (by simpa using ai);cases hf:DC P t f with
    | none => simp [hf] at hc
    | some fd =>
      cases hi:P.info? fd.type with
      | none => simp [hf, hi] at hc
      | some fi =>
        simp only [hf, hi, zJ, xp] at hc;split at hc
        . cases hc
        . rename_i aD
          simp at hc; subst hc;simp only [Q6] at h;split at h
          . rename_i i o h1
            rw [h1] at ha;simp at h; obtain ⟨rfl, rfl⟩:=h;unfold DC at hf;split at hf
            . rename_i fs hu
              simp at aD;obtain ⟨ad, heq, aO, aY⟩:=ha.q1g;cases hρ:ρ i with
              | none =>refine ⟨rfl, .pointer (some (ad.add fd.offset)), .ptr _ _ _ aO (λp hp => by rw [hρ] at hp; cases hp), λw' _ => ?_⟩;simp [execOp, heq, Instr.fieldAt, Q0 hu, hf, Instr.sureAddr, fieldPlace, Qa hi, aD]
              | some p =>obtain rfl:=aY p hρ;refine ⟨rfl, .pointer (some ⟨p.blk, p.shift + (o + fd.offset), none⟩), .ptr _ _ _ aO (λq hq => by rw [hρ] at hq; obtain rfl:=osj hq; rfl), λw' _ => ?_⟩;simp [execOp, heq, Instr.fieldAt, Q0 hu, hf, Instr.sureAddr, fieldPlace, Qa hi, aD, Xs, zk]
            . cases hf
          . cases h
  case field t x f =>
    have hx:=hE x (by simpa using ai);cases hf:DC P t f with
    | none => simp [hf] at hc
    | some fd =>
      cases hi:P.info? fd.type with
      | none => simp [hf, hi] at hc
      | some fi =>
        cases hu:P.underlying fd.type with
        | none => simp [hf, hi, hu] at hc
        | some d =>
          simp [hf, hi, hu] at hc; subst hc;simp only [Q6] at h;split at h
          . rename_i cs h1
            rw [h1] at hx;obtain ⟨ds, hds, hl⟩:=hx.q1k;split at h
            . rename_i v0 hv
              simp at h; obtain ⟨rfl, rfl⟩:=h;obtain ⟨u, cD, hr⟩:=Ai hi hu hv hl;unfold DC at hf;split at hf
              . rename_i fs pX
                exact ⟨rfl, u, cD, λw' _ => by simp [execOp, hds, Instr.field, Q0 pX, hf, asAgg, hr]⟩
              . cases hf
            . cases h
          . cases h
  case makeFunc fn first cap =>
    rw [Array.toList_append, List.all_append, z2] at ai;cases fn <;> simp at hc;rename_i f;subst hc;simp only [Q6] at h;simp at h; obtain ⟨rfl, rfl⟩:=h;have h1:=RP hE (l:=first.toList) ai.1;have h2:=RP hE (l:=cap.toList) ai.2;refine ⟨rfl, Qk (c:=.func (.func f) (first.map ev) (cap.map ev)) (λw' => by simp [execOp, Instr.makeFunc]) ?_⟩;refine .func _ _ _ _ _ (by simp) (by simp) (λi h3 h4 => ?_) (λi h3 h4 => ?_)
    . exact h1.2 i _ _ (by simp at h3 |-; exact ⟨_, xh h3, rfl⟩) (by simp at h4 |-; exact ⟨_, xh h4, rfl⟩)
    . exact h2.2 i _ _ (by simp at h3 |-; exact ⟨_, xh h3, rfl⟩) (by simp at h4 |-; exact ⟨_, xh h4, rfl⟩)
  case build t parts =>
    cases hz:zeroOf P t with
    | none => simp [hz] at hc
    | some z =>
      obtain ⟨ti, zv, hi, ec, ft, _, iU⟩:=Y2 hz;have aY:LRel ρ M.n z zv.cells.toList:=by rw [ft]; exact X9 iU
      have eQ:∀ q ∈ parts.toList, X6 q.2 = true:=λq hq => z6.1 ai q.2 (by simp; exact ⟨q.1, by simpa using hq⟩);simp only [hz, zJ, xp] at hc;split at hc
      . rename_i fs hu
        cases jW:fs.toList.mapM (λf => (P.info? f.type).map λi => (f.offset, i.size)) with
        | none => simp [jW] at hc
        | some places =>
          cases ep:parts.toList.mapM (λq => (places[q.1]?).map λos => (os.1, os.2, q.2)) with
          | none => simp [jW, ep] at hc
          | some ps =>
            simp [jW, ep] at hc; subst hc;simp only [Q6] at h;split at h
            . rename_i cs eG
              simp at h; obtain ⟨rfl, rfl⟩:=h;obtain ⟨eR, gY⟩:=Wl _ _ _ jW;obtain ⟨cj, dj⟩:=Wl _ _ _ ep
              obtain ⟨bA, ll, jX⟩:=S3 (ρ:=ρ) (n:=M.n) (λ(i:Nat) => places[i]?) _ ((parts.map λq => (q.1, ev q.2)).toList) z cs zv.cells (by simp [cj])
                (λk a b ha hb => by
                  simp only [zQ, Array.toList_map] at ha hb;cases hq:parts.toList[k]? with
                  | none => simp only [hq, wc] at hb; cases hb
                  | some q =>
                    obtain ⟨c0, mG, fJ⟩:=dj k q hq;simp only [hq, xj, xd] at hb;simp only [mG, xj, xd] at ha;subst hb; subst ha;cases mH:places[q.1]? with
                    | none => simp [mH] at fJ
                    | some os =>
                      simp [mH] at fJ; subst fJ;exact ⟨by simp, hE _ (eQ q (zE hq))⟩) eG aY
              refine ⟨rfl, .agg bA, by have:=VRel.q1m jX; simpa using this, λw' _ => ?_⟩;have aF:(fs.mapM λ(f:Field) => do pure (f.offset, <- sizeOf f.type)).run P w' = .ok places.toArray w':=by
                rw [Array.mapM_eq_mapM_toList];have pr:∀ f ∈ fs.toList, ((do pure (f.offset, <- sizeOf f.type):Sem (Nat × Nat))).run P w' = .ok (f.offset, ((P.info? f.type).map (·.size)).getD 0) w':=λf hf => by
                  obtain ⟨k, hk⟩:=List.getElem?_of_mem hf;obtain ⟨b, hb, cu⟩:=gY k f hk;cases jm:P.info? f.type with
                  | none => simp [jm] at cu
                  | some fi => simp [Qa jm]
                have:=Q17 (P:=P) _ _ w' fs.toList pr;simp only [Sem.run_map, this, zd];congr 2;apply zT;intro k;rw [zQ];cases hk:fs.toList[k]? with
                | none =>
                  have:places.length <= k:=by rw [eR]; exact List.getElem?_eq_none_iff.1 hk
                  simp [zj this]
                | some f =>
                  obtain ⟨b, hb, cu⟩:=gY k f hk;cases jm:P.info? f.type with
                  | none => simp [jm] at cu
                  | some fi => simp [jm] at cu |-; rw [hb, <- cu]
              have fX:(λ(i:Nat) => places.toArray[i]?) = (λ(i:Nat) => places[i]?):=by funext i; simp
              simp only [execOp];simp only [Instr.build, zt, Z2 hi ec, zd, Q0 hu, aF];have pY:Instr.fill (λ(i:Nat) => places.toArray[i]?) zv.cells (parts.map λq => (q.1, ev q.2)).toList = some bA:=by rw [fX]; exact ll
              simp only [pY];rfl
            . cases h
      . rename_i n e hu
        cases cB:P.info? e with
        | none => simp [cB] at hc
        | some ei =>
          simp [cB] at hc; subst hc;simp only [Q6] at h;split at h
          . rename_i cs eG
            simp at h; obtain ⟨rfl, rfl⟩:=h
            obtain ⟨bA, ll, jX⟩:=S3 (ρ:=ρ) (n:=M.n) (λi => some (i * ei.size, ei.size)) _ ((parts.map λq => (q.1, ev q.2)).toList) z cs zv.cells (by simp)
              (λk a b ha hb => by
                simp only [zQ, Array.toList_map] at ha hb;cases hq:parts.toList[k]? with
                | none => simp only [hq, wc] at hb; cases hb
                | some q =>
                  simp only [hq, xj, xd] at ha hb;subst hb; subst ha;exact ⟨rfl, hE _ (eQ q (zE hq))⟩) eG aY
            refine ⟨rfl, .agg bA, by have:=VRel.q1m jX; simpa using this, λw' _ => ?_⟩;simp only [execOp];simp only [Instr.build, zt, Z2 hi ec, zd, Q0 hu, Qa cB, ll];rfl
          . cases h
      . cases hc
  case index t x i =>
    simp at ai;have hx:=hE x ai.1;have hi:=hE i ai.2;split at hc
    . rename_i hu
      simp at hc; subst hc;simp only [Q6] at h;split at h
      . rename_i s k n h1 h2
        rw [h1] at hx; rw [h2] at hi;split at h
        . rename_i hn
          split at h
          . rename_i b hb
            simp at h; obtain ⟨rfl, rfl⟩:=h;have cu:s[n.toNat]? = some b:=by rw [<- hb]; simp [getElem?_def]; split <;> rfl
            refine ⟨rfl, Qk (λw' => ?_) (VRel.int _ _)⟩;simp [execOp, hx.q0p, hi.q0h, Instr.index, asIntOf, Q0 hu, hn, cu]
          . cases h
        . cases h
      . cases h
    . rename_i len e hu
      cases cB:P.info? e with
      | none => simp [cB] at hc
      | some ei =>
        cases jo:P.underlying e with
        | none => simp [cB, jo] at hc
        | some d =>
          simp [cB, jo] at hc; subst hc;simp only [Q6] at h;split at h
          . rename_i cs k n h1 h2
            rw [h1] at hx; rw [h2] at hi;obtain ⟨ds, hds, hl⟩:=hx.q1k;split at h
            . rename_i hn
              split at h
              . rename_i v0 hv
                simp at h; obtain ⟨rfl, rfl⟩:=h;obtain ⟨u, cD, hr⟩:=Ai cB jo hv hl;refine ⟨rfl, u, cD, λw' _ => ?_⟩;simp [execOp, hds, hi.q0h, Instr.index, asIntOf, Q0 hu, hn, Qa cB, hr]
              . cases h
            . cases h
          . cases h
    . cases hc
  case indexAddr t x i =>
    simp at ai;have hx:=hE x ai.1;have hi:=hE i ai.2;split at hc
    . rename_i e hu
      cases cB:P.info? e with
      | none => simp [cB] at hc
      | some ei =>
        simp [cB] at hc; subst hc;simp only [Q6] at h;split at h
        . rename_i b o n cap k j h1 h2
          rw [h1] at hx; rw [h2] at hi;split at h
          . rename_i hj
            simp at h; obtain ⟨rfl, rfl⟩:=h;obtain ⟨a, aq, bq, aO, aY⟩:=hx.q1b;refine ⟨rfl, .pointer (some (a.add (j.toNat * ei.size))), .ptr _ _ _ aO (λp hp => ?_), λw' _ => ?_⟩
            . obtain ⟨_, _, ⟨_, h0⟩ | ⟨o', rfl, _, ho⟩⟩:=aY p hp
              . omega
              have:o' = o:=by
                rcases ho with ho | ⟨h0, _⟩
                . exact ho
                . omega
              subst this;rw [Xs, zk]
            . simp [execOp, bq, hi.q0h, Instr.indexAt, asIntOf, Q0 hu, hj, Qa cB]
          . cases h
        . cases h
    . rename_i len e hu
      cases cB:P.info? e with
      | none => simp [cB] at hc
      | some ei =>
        simp [cB] at hc; subst hc;simp only [Q6] at h;split at h
        . rename_i g o s k j h1 h2
          rw [h1] at hx; rw [h2] at hi;split at h
          . rename_i hj
            simp at h; obtain ⟨rfl, rfl⟩:=h;have bq:ev x = .pointer (some ⟨g, o, none⟩):=by generalize ev x = c at hx; cases hx; rfl
            refine ⟨rfl, .pointer (some ((⟨g, o, none⟩:Addr).add (j.toNat * ei.size))), by rw [Xs]; exact .glob _ _ _, λw' _ => ?_⟩;simp [execOp, bq, hi.q0h, Instr.indexAt, Instr.sureAddr, asIntOf, Q0 hu, hj, Qa cB]
          . cases h
        . rename_i b o k j h1 h2
          rw [h1] at hx; rw [h2] at hi;split at h
          . rename_i hj
            simp at h; obtain ⟨rfl, rfl⟩:=h;obtain ⟨a, bq, aO, aY⟩:=hx.q1g;refine ⟨rfl, .pointer (some (a.add (j.toNat * ei.size))), .ptr _ _ _ aO (λp hp => ?_), λw' _ => ?_⟩
            . obtain rfl:=aY p hp
              rw [Xs, zk]
            . simp [execOp, bq, hi.q0h, Instr.indexAt, Instr.sureAddr, asIntOf, Q0 hu, hj, Qa cB]
          . cases h
        . cases h
    . cases hc
  case slice t x lo hi mx =>
    have ln:X6 x = true:=by simp at ai; exact ai.1
    have gC:∀ y, lo = some y -> X6 y = true:=λy hy => by subst hy; simp at ai; first | exact ai.2.1 | exact ai.2
    have gF:∀ y, hi = some y -> X6 y = true:=λy hy => by subst hy; cases lo <;> simp at ai <;> first | exact ai.2.1 | exact ai.2.2.1 | exact ai.2.2 | exact ai.2
    have hx:=hE x ln;split at hc
    . rename_i e hu
      cases cB:P.info? e with
      | none => simp [cB] at hc
      | some ei =>
        simp [cB] at hc; subst hc;cases mx with
        | some m => simp [VOp.quiet] at hq
        | none =>
          simp only [Q6] at h;split at h
          . rename_i a n cap h1
            rw [h1] at hx;split at h
            . rename_i l hh hl lk _
              have mI:=Y1 hE gC hl;have mJ:=Y1 hE gF lk;unfold WD at h;split at h
              . rename_i heq
                simp at heq; obtain ⟨rfl, rfl, rfl⟩:=heq;obtain ⟨_, _, bq⟩:=hx.q1j;split at h
                . rename_i ak
                  obtain ⟨rfl, rfl, _⟩:=ak;simp at h; obtain ⟨rfl, rfl⟩:=h;refine ⟨rfl, Qk (λw' => ?_) VRel.nilSl⟩;have:=Kw (P:=P) (isSlice:=true) (cap:=0) mI mJ (z5 _) (z5 _) w';simp [execOp, bq, Instr.sliceAt, Instr.slice, Q0 hu, this, Qa cB]
                . cases h
              . rename_i i o n' jq heq
                simp at heq; obtain ⟨rfl, rfl, rfl⟩:=heq;simp only at h;split at h
                . rename_i c esz wr tight hb
                  split at h
                  . rename_i ak
                    obtain ⟨nb, pZ, sM⟩:=ak;simp at h; obtain ⟨rfl, rfl⟩:=h;obtain ⟨ad, aq, bq, aO, aY⟩:=hx.q1b;obtain ⟨p, hp, hB⟩:=hH.live i _ hb;have dI:=(aY p hp).1;have b7:=λw' => Kw (P:=P) (isSlice:=true) (cap:=aq) mI mJ pZ (zZ sM dI) w';obtain ⟨-, nc, ⟨mG, jY⟩ | ⟨o', rfl, cX, ho⟩⟩:=aY p hp
                    . have aU:aq = l:=by omega
                      refine ⟨rfl, .slice (some ad) (hh - l) (aq - l), .sl _ _ _ _ _ _ aO (λq hq => ⟨by omega, λ_ => by omega, .inl ⟨by omega, by omega⟩⟩), λw' _ => ?_⟩;simp only [execOp, bq, Instr.sliceAt, zt, Q0 hu, zd, Instr.slice, wc, b7, Qa cB];simp [aU]
                    have dO:p.esz.sz = ei.size:=by rw [hB.1]; exact nb
                    rw [dO] at cX;refine ⟨rfl, .slice (some (if aq = l then ⟨p.blk, p.shift + o', none⟩ else ⟨p.blk, p.shift + (o' + l * ei.size), none⟩)) (hh - l) (aq - l), .sl _ _ _ _ _ _ aO (λq hq => ?_), λw' _ => ?_⟩
                    . obtain rfl:p = q:=osj (hp.symm.trans hq)
                      refine ⟨by omega, λht => by have:=nc ht; omega, .inr ?_⟩;rw [dO];by_cases cg:aq = l
                      . refine ⟨o', by rw [z0 cg], by rw [cg, wa]; omega, .inr (by omega)⟩
                      . refine ⟨o' + l * ei.size, by rw [z1 cg], ?_, ?_⟩
                        . have:aq = l + (aq - l):=by omega
                          rw [this, zG] at cX;omega
                        . rcases ho with rfl | ⟨h0, sN⟩
                          . exact .inl rfl
                          . exact .inr (by omega)
                    . simp only [execOp, bq, Instr.sliceAt, zt, Q0 hu, zd, Instr.slice, wc, b7, Qa cB]
                      by_cases cg:aq = l
                      . simp [cg]
                      . simp [cg, Xs, zk]
                  . cases h
                . cases h
              . cases h
            . simp_all
            . cases h
          . cases h
    . rename_i hu
      split at hc
      . rename_i p5
        cases mx with
        | some m => simp at p5
        | none =>
          simp at hc; subst hc;simp only [Q6] at h;split at h
          . rename_i s h1
            rw [h1] at hx;split at h
            . rename_i l hh hl lk
              have mI:=Y1 hE gC hl;have mJ:=Y1 hE gF lk;split at h
              . rename_i ak
                simp at h; obtain ⟨rfl, rfl⟩:=h;refine ⟨rfl, Qk (λw' => ?_) (VRel.string _)⟩;have:=Kw (P:=P) (isSlice:=false) (cap:=s.size) mI mJ ak.1 ak.2 w';simp [execOp, hx.q0p, Instr.sliceAt, Instr.slice, Q0 hu, this]
              . cases h
            . cases h
          . cases h
      . cases hc
    . cases hc
  case makeInterface t x =>
    have hx:=hE x (by simpa using ai);cases hu:P.underlying t with
    | none => simp [hu] at hc
    | some d =>
      have fY:∀ ms, d ≠ .interface ms:=λms e => by subst e; simp [hu] at hc
      have cO:vo = .iface t x:=by cases d <;> simp [hu] at hc <;> exact hc.symm
      subst cO;simp only [Q6] at h;split at h
      . cases h
      . simp at h; obtain ⟨rfl, rfl⟩:=h
        refine ⟨rfl, Qk (λw' => ?_) (VRel.iface t _ _ hx)⟩;have:(Instr.makeInterface t (ev x)).run P w' = .ok (.iface t (ev x)) w':=by cases d <;> first | (exact absurd rfl (fY _)) | simp [Instr.makeInterface, Q0 hu]
        simp [execOp, this]
  case extract x i =>
    have hx:=hE x (by simpa using ai);simp at hc; subst hc;simp only [Q6] at h;split at h
    . rename_i vs h1
      rw [h1] at hx;obtain ⟨ds, hds, hl⟩:=hx.q1l;split at h
      . rename_i v0 hv
        simp at h; obtain ⟨rfl, rfl⟩:=h;obtain ⟨u, hu, cD⟩:=hl.get hv;have cw:ds[i]? = some u:=by simpa using hu
        exact ⟨rfl, u, cD, λw' _ => by simp [execOp, hds, Instr.extract, cw]⟩
      . cases h
    . cases h
  case nilCheck x =>
    have hx:=hE x (by simpa using ai);simp at hc; subst hc;simp only [Q6] at h;split at h
    . rename_i a h1
      rw [h1] at hx;simp at h; obtain ⟨rfl, rfl⟩:=h;have:∃ a', ev x = .pointer (some a'):=by generalize ev x = c at hx;cases hx <;> exact ⟨_, rfl⟩
      obtain ⟨a', jZ⟩:=this;exact ⟨rfl, ev x, hx, λw' _ => by simp [execOp, jZ]⟩
    . rename_i f first cap h1
      rw [h1] at hx;simp at h; obtain ⟨rfl, rfl⟩:=h;have:∃ g' c', ev x = .func (.func f) g' c':=by generalize ev x = c at hx;cases hx; exact ⟨_, _, rfl⟩
      obtain ⟨g', c', jZ⟩:=this;exact ⟨rfl, ev x, hx, λw' _ => by simp [execOp, jZ]⟩
    . cases h
  case call c =>
    split at hc
    . simp at hc; subst hc; simp [Q6] at h
    . simp at hc; subst hc; simp [Q6] at h
    . rename_i aJ
      split at hc
      . rename_i t x ht ax
        have cP:c.args = #[x]:=by apply Array.ext'; simpa using ax
        have hx:=hE x (by simp [Call.operands, aJ, cP] at ai; exact ai);split at hc
        . rename_i hu
          simp at hc; subst hc;simp only [Q6] at h;split at h
          . rename_i s h1
            rw [h1] at hx; simp at h; obtain ⟨rfl, rfl⟩:=h;refine ⟨rfl, Qk (λw' => ?_) (VRel.int _ _)⟩;simp [execOp, resolve, aJ, cP, invoke, builtin, Builtin.len_, ht, hx.q0p, Q0 hu, goInt]
          . cases h
        . rename_i e hu
          simp at hc; subst hc;simp only [Q6] at h;split at h
          . rename_i a n cap h1
            rw [h1] at hx; simp at h; obtain ⟨rfl, rfl⟩:=h;obtain ⟨a', aq, bq⟩:=hx.q1t;refine ⟨rfl, Qk (λw' => ?_) (VRel.int _ _)⟩;simp [execOp, resolve, aJ, cP, invoke, builtin, Builtin.len_, ht, bq, Q0 hu, goInt]
          . cases h
        . cases hc
      . cases hc
    . rename_i aJ
      split at hc
      . rename_i t u s x ht hu ax
        split at hc
        . rename_i e f _ _
          cases hi:P.info? e with
          | none => simp [hi] at hc
          | some ei =>
            cases hz:zeroOf P e with
            | none => simp [hi, hz] at hc
            | some z =>
              simp only [hi, hz, zJ, xp] at hc;split at hc
              . cases hc
              . simp at hc; subst hc; cases hq
        . cases hc
      . cases hc
    . rename_i aJ
      split at hc
      . rename_i x y ax
        have cP:c.args = #[x, y]:=by apply Array.ext'; simpa using ax
        simp [Call.operands, aJ, cP] at ai;have hx:=hE x ai.1;have hy:=hE y ai.2;simp at hc; subst hc;simp only [Q6] at h;split at h
        . rename_i k a k' b h1 h2
          rw [h1] at hx; rw [h2] at hy;split at h
          . simp at h; obtain ⟨rfl, rfl⟩:=h
            refine ⟨rfl, Qk (λw' => ?_) (VRel.int _ _)⟩;simp [execOp, resolve, aJ, cP, invoke, builtin, Builtin.max_, Builtin.max2, hx.q0h, hy.q0h]
          . cases h
        . cases h
      . rename_i x y z ax
        have cP:c.args = #[x, y, z]:=by apply Array.ext'; simpa using ax
        simp [Call.operands, aJ, cP] at ai;have hx:=hE x ai.1;have hy:=hE y ai.2.1;have hz:=hE z ai.2.2;simp at hc; subst hc;simp only [Q6] at h;split at h
        . rename_i k a k2 b k3 c' k4 d h1 h2 h3 h4
          rw [h1] at hx; rw [h2] at hy; rw [h3] at hz;split at h
          . rename_i hk; obtain ⟨rfl, rfl, rfl⟩:=hk
            simp at h; obtain ⟨rfl, rfl⟩:=h;refine ⟨rfl, Qk (λw' => ?_) (VRel.int _ _)⟩;have sO:=(Value.int.inj (h3.symm.trans h4)).2;subst sO;simp only [IK];simp [execOp, resolve, aJ, cP, invoke, builtin, Builtin.max_, Builtin.max2, hx.q0h, hy.q0h, hz.q0h, EY]
          . cases h
        . cases h
      . rename_i x y z w ax
        have cP:c.args = #[x, y, z, w]:=by apply Array.ext'; simpa using ax
        simp [Call.operands, aJ, cP] at ai;have hx:=hE x ai.1;have hy:=hE y ai.2.1;have hz:=hE z ai.2.2.1;have hw:=hE w ai.2.2.2;simp at hc; subst hc;simp only [Q6] at h;split at h
        . rename_i k a k2 b k3 c' k4 d h1 h2 h3 h4
          rw [h1] at hx; rw [h2] at hy; rw [h3] at hz; rw [h4] at hw;split at h
          . rename_i hk; obtain ⟨rfl, rfl, rfl⟩:=hk
            simp at h; obtain ⟨rfl, rfl⟩:=h;refine ⟨rfl, Qk (λw' => ?_) (VRel.int _ _)⟩;simp [execOp, resolve, aJ, cP, invoke, builtin, Builtin.max_, Builtin.max2, hx.q0h, hy.q0h, hz.q0h, hw.q0h, EY]
          . cases h
        . cases h
      . cases hc
    . rename_i aJ
      split at hc
      . rename_i x y ax
        have cP:c.args = #[x, y]:=by apply Array.ext'; simpa using ax
        simp [Call.operands, aJ, cP] at ai;have hx:=hE x ai.1;have hy:=hE y ai.2;simp at hc; subst hc;simp only [Q6] at h;split at h
        . rename_i k a k' b h1 h2
          rw [h1] at hx; rw [h2] at hy;split at h
          . simp at h; obtain ⟨rfl, rfl⟩:=h
            refine ⟨rfl, Qk (λw' => ?_) (VRel.int _ _)⟩;simp [execOp, resolve, aJ, cP, invoke, builtin, Builtin.min_, Builtin.min2, hx.q0h, hy.q0h]
          . cases h
        . cases h
      . cases hc
    . cases hc
  all_goals (first | (cases hc; done) | (split at hc <;> cases hc; done))
end
end Go.V
namespace Go.V
open Go
section
variable {P:Program}{ρ:Plc}{M M':Heap}{w:World}{ev:Operand->Value}{env:Env}{v:Value}
def RA (P:Program) (ρ:Plc) (M:Heap) (w:World) (v:Value) (M':Heap) (s:Sem Next):Prop :=
 ∃ c w' ρ',(s.run P w=.ok (.value c) w'\/(s.run P w=.ok .skip w'/\c=undef))/\VRel ρ' M'.n v c/\HRel ρ' M' w'/\Ext ρ M w ρ' M' w'
theorem SE (z:List Value) (hz:z≠[]):∀ n,(List.range (n*z.length)).map (λi=>z[i % z.length]!)=(List.replicate n z).flatten:=by
 intro n;have br:0<z.length:=xJ.2 hz;induction n with
 |zero=>simp
 |succ n ih =>
  rw[xt,List.flatten_cons,<-ih,Nat.succ_mul,xP,List.range_add,xB,w5];congr 1
  .apply zT;intro k;by_cases hk:k<z.length
   .simp[hk,xq hk]
   .simp[hk]
  .apply x9;intro i _;simp
theorem VE (n:Nat) (z:List Value):H7 n z=(List.replicate n z).flatten:=by
 unfold H7;split
 .rename_i x;induction n with
  |zero=>rfl
  |succ n ih=>rw[xt,xt,List.flatten_cons,<-ih];rfl
 .rfl
theorem DV (zero:Array Value) (z:List Value) (h:zero.toList=z) (hz:z≠[]) (n:Nat):((Array.range (n*z.length)).map (λi=>zero[i % zero.size]!)).toList=H7 n z:=by rw[VE,<-SE z hz n];subst h;simp;intro a _;rw[getElem!_def];cases zero[a % zero.size]?<;>rfl
theorem Pj (n:Nat) (z:List Value):(H7 n z).length=n*z.length:=by rw[VE];simp[List.length_flatten,List.map_replicate,List.sum_replicate_nat]
theorem EU (n:Nat) (z:List Value) (h:z.all cellOk=true):(H7 n z).all cellOk=true:=by
 rw[VE];simp only[z6,List.mem_flatten,List.mem_replicate] at *
 rintro x ⟨l,⟨_,rfl⟩,hx⟩;exact h x hx
theorem DT (n:Nat) (z:List Value) (h:z.all QN=true):(H7 n z).all QN=true:=by rw[VE,List.all_flatten];simp[List.all_replicate,h]
theorem BF {lo:Option Operand}{yh ym:Operand}{n cap l h m:Nat}{kh km:IntKind}{ih im:Int}(po:(lo=none/\l=0)\/∃ x k i,lo=some x/\ev x=.int k i/\0<=i/\l=i.toNat)
  (jr:ev yh=.int kh ih) (pw:0<=ih) (hh:h=ih.toNat) (jt:ev ym=.int km im) (px:0<=im) (hm:m=im.toNat) (h1:l<=h) (h2:h<=m) (h3:m<=cap) (w:World) :
  (Instr.sliceBounds true n cap (lo.map ev) ((some yh).map ev) ((some ym).map ev)).run P w=.ok (l,h,m) w:=by
 subst hh;subst hm;rcases po with⟨rfl,rfl⟩|⟨x,k,i,rfl,hx,pq,rfl⟩
 .simp[Instr.sliceBounds,jr,jt,Z1 km im _ _ px h3,Z1 kh ih _ _ pw h2]
 .simp[Instr.sliceBounds,hx,jr,jt,Z1 km im _ _ px h3,Z1 kh ih _ _ pw h2,Z1 k i _ _ pq h1]
theorem Ss (hH:HRel ρ M w) {c:List Value}{C:Array Value}{esz:El}(hc:LRel ρ M.n c C.toList) {s:Sem Next}
  (hs:s.run P w=.ok (.value (.pointer (some ⟨w.heap.size,0,none⟩))) (w.alloc (.cells C esz.ty))) :
  RA P ρ M w (.pointer (some ⟨M.n,0,none⟩)) (M.push (.cells c esz true true)) s:=by
 have hl:c.length=C.size:=by have:=hc.1;simpa using this
 obtain⟨ρ',h1,h2,h3⟩:=hH.alloc c C esz.ty esz true rfl (by
  have:C.toList.take C.size=C.toList:=by rw[<-Array.length_toList];exact List.take_length
  rw[hl,this];exact hc) (by omega)
 refine⟨_,_,ρ',.inl hs,.ptr _ _ _ (by simp) (λp hp=>?_),h2,h3⟩;rw[h1] at hp;obtain rfl:=osj hp;rfl
theorem HA (hH:HRel ρ M w) {c:List Value}{C:Array Value}{esz:El}{n cap:Nat}(hc:LRel ρ M.n c C.toList) (hn:cap*esz.sz<=C.size) {s:Sem Next}
  (hs:s.run P w=.ok (.value (.slice (some ⟨w.heap.size,0,none⟩) n cap)) (w.alloc (.cells C esz.ty))) :
  RA P ρ M w (.slice (some ⟨M.n,0,none⟩) n cap) (M.push (.cells c esz true true)) s:=by
 have hl:c.length=C.size:=by have:=hc.1;simpa using this
 obtain⟨ρ',h1,h2,h3⟩:=hH.alloc c C esz.ty esz true rfl (by
  have:C.toList.take C.size=C.toList:=by rw[<-Array.length_toList];exact List.take_length
  rw[hl,this];exact hc) (by omega)
 refine⟨_,_,ρ',.inl hs,.sl _ _ _ _ _ _ (by simp) (λp hp=>?_),h2,h3⟩;rw[h1] at hp;obtain rfl:=osj hp;exact⟨z5 _,λ_=>rfl,.inr ⟨0,rfl,by simpa using hn,.inl rfl⟩⟩
theorem Rf (hH:HRel ρ M w) {esz n cap:Nat}{a:Option Addr}{xs:List Value}{c:Value}(h:M.sl esz (.slice a n cap)=some xs) (hv:VRel ρ M.n (.slice a n cap) c) :
  xs.length=n*esz/\∃ us:List Value,LRel ρ M.n xs us/\(∃ a' aq,c=.slice a' n aq)/\∀ w',Like ρ w w'->(Builtin.firstCells esz n c).run P w'=.ok us.toArray w':=by
 unfold Heap.sl at h;split at h
 .rename_i heq;simp at heq;obtain⟨rfl,rfl,rfl⟩:=heq;simp at h;subst h;obtain⟨_,_,rfl⟩:=hv.q1j;exact⟨by simp,[],LRel.nil _ _,⟨_,_,rfl⟩,λw' _=>by simp[Builtin.firstCells]⟩
 .rename_i i o n' jq heq;simp at heq;obtain⟨rfl,rfl,rfl⟩:=heq;split at h
  .rename_i c0 e wr tight hb;split at h
   .rename_i ak;obtain⟨nb,hlen⟩:=ak;simp at h;obtain⟨p,hp,_,_,_,_,h5,_⟩:=hH.live i _ hb;obtain⟨ad,aq,rfl,aO,aY⟩:=hv.q1b;have fZ:xs.length=n*esz:=by rw[<-h];simp;omega
    obtain⟨_,_,⟨_,jY⟩|⟨o',rfl,_,ho⟩⟩:=aY p hp
    .subst jY;rw[Nat.zero_mul] at fZ;obtain rfl:=zW.1 fZ;refine⟨by simp,[],.nil _ _,⟨_,_,rfl⟩,λw' hl=>?_⟩;have:=run_loadCells_list (P:=P) w' ad [] (λj v hj=>by simp at hj);simp only[List.length_nil] at this;simp[Builtin.firstCells,this]
    refine⟨fZ,?_⟩;have j5:n*esz=0\/o'=o:=by
     rcases ho with ho|⟨h0,_⟩
     .exact .inr ho
     .left;rw[h0,Nat.zero_mul]
    have hex:∀ k,k<n*esz->∃ u,w.cell? ⟨p.blk,p.shift+o'+k,none⟩=some u/\∀ v,xs[k]?=some v->VRel ρ M.n v u:=λk hk=>by have ng:o'=o:=j5.resolve_left (by omega);subst ng;obtain⟨u,hu,cD⟩:=h5 (o'+k) _ (z3 (by omega));rw[<-zk] at hu;refine⟨u,hu,λv hv=>?_⟩;rw[<-h,zL,z0 hk,zw,z3 (by omega)] at hv;obtain rfl:=osj hv;exact cD
    let us:List Value:=(List.range (n*esz)).map λk=>(w.cell? ⟨p.blk,p.shift+o'+k,none⟩).getD undef;have nh:us.length=n*esz:=by simp[us]
    have eo:∀ k,k<n*esz->∀ u,w.cell? ⟨p.blk,p.shift+o'+k,none⟩=some u->us[k]?=some u:=λk hk u hu=>by simp[us,hk,hu]
    refine⟨us,⟨by omega,λk v u hk hu=>?_⟩,⟨_,_,rfl⟩,λw' hl=>?_⟩
    .have bg:k<n*esz:=by have:=(z7.1 hk).1;omega
     obtain⟨u',cw,gB⟩:=hex k bg;rw[eo k bg u' cw] at hu;obtain rfl:=osj hu;exact gB v hk
    .have cL:∀ j v,us[j]?=some v->w'.cell? ((⟨p.blk,p.shift+o',none⟩:Addr).add j)=some v:=λj v hj=>by
      have bU:j<n*esz:=by have:=(z7.1 hj).1;omega
      obtain⟨u',cw,_⟩:=hex j bU;rw[eo j bU u' cw] at hj;obtain rfl:=osj hj;rw[Xs,HF hl hp];exact cw
     have:=run_loadCells_list (P:=P) w' ⟨p.blk,p.shift+o',none⟩ us cL;rw[nh] at this;simp[Builtin.firstCells,this]
   .cases h
  .cases h
 .cases h
theorem En (f_ aZ:Nat) (h:aZ<f_):Builtin.nextslicecap f_ aZ<=2*f_:=by
 unfold Builtin.nextslicecap;split
 .omega
 .split
  .omega
  .have key:∀ r c,c<=2*f_->256<=f_->Builtin.growBy f_ r c<=2*f_:=by
    intro r;induction r with
    |zero=>intro c hc _;exact hc
    |succ r ih =>
     intro c hc h2;unfold Builtin.growBy;split
     .exact hc
     .exact ih _ (by omega) h2
   exact key 4 aZ (by omega) (by omega)
theorem AI {n:Nat}{v c:Value}(h:cellOk v=true) (hv:VRel ρ n v c):c.oneCell'=true:=by cases hv<;>first|rfl|(simp[cellOk,poison] at h)
theorem Kc {n:Nat}{vs cs:List Value}(h:vs.all cellOk=true) (hv:LRel ρ n vs cs):∀ c∈cs,c.oneCell'=true:=by
 intro c hc;obtain⟨k,hk⟩:=List.getElem?_of_mem hc;have bg:k<vs.length:=by have:=(z7.1 hk).1;have:=hv.1;omega
 exact AI (z6.1 h _ (zn bg)) (hv.2 k _ _ (z3 bg) hk)
theorem X0 {t u e f:TypeId}{ei:TypeInfo}(ht:P.underlying t=some (.slice e)) (hu:P.underlying u=some (.slice f)) (hi:P.info? e=some ei) (ty:TypeId) (base:Option Addr) (n cap m:Nat) (x:Value) (us:List Value)
  (hx:∃ a' aq,x=.slice a' m aq) (fK:(Builtin.firstCells ei.size m x).run P w=.ok us.toArray w) (a7:n+m<=cap) (w':World)
  (aS:(match base with|some a=>storeCells (a.add (n*ei.size)) us|none=>pure ()).run P w=.ok () w') :
  (Builtin.append_ #[t,u] ty #[.slice base n cap,x]).run P w=.ok (.slice base (n+m) cap) w':=by
 obtain⟨a',aq,rfl⟩:=hx;unfold Builtin.append_;cases base with
 |none =>simp at aS;subst aS;simp[Q0 ht,Q0 hu,Qa hi,Builtin.lenOf,a7,fK]
 |some a =>simp at aS;simp[Q0 ht,Q0 hu,Qa hi,Builtin.lenOf,a7,fK,aS]
theorem Xq {t u e f:TypeId}{ei:TypeInfo}{zv:Value}(ht:P.underlying t=some (.slice e)) (hu:P.underlying u=some (.slice f)) (hi:P.info? e=some ei) (hz:ei.zero=some zv) (hb:ei.bytes≠0) (ty:TypeId) (base:Option Addr) (n cap m:Nat) (x:Value) (us os:List Value)
  (hx:∃ a' aq,x=.slice a' m aq) (fK:(Builtin.firstCells ei.size m x).run P w.drew=.ok us.toArray w.drew) (h_:(Builtin.firstCells ei.size n (.slice base n cap)).run P w.drew=.ok os.toArray w.drew)
  (a7:¬ n+m<=cap) (aD:(n+m)*ei.bytes<=2 ^ 46) :
  ∃ aV,n+m<=aV/\(Builtin.append_ #[t,u] ty #[.slice base n cap,x]).run P w =
   .ok (.slice (some ⟨w.heap.size,0,none⟩) (n+m) aV) (w.drew.alloc (.cells ((os++us).toArray++Builtin.zeroCells zv.cells (aV-(n+m))) e)):=by
 obtain⟨a',aq,rfl⟩:=hx;refine⟨(Question.appendCap (n+m) cap e).cut (w.tape w.drawn (.appendCap (n+m) cap e)),by simp[Question.cut],?_⟩;have h1:¬ (2 ^ 48<Builtin.nextslicecap (n+m) cap*ei.bytes):=by have:=En (n+m) cap (by omega);have h2:Builtin.nextslicecap (n+m) cap*ei.bytes<=2*(n+m)*ei.bytes:=zm _ this;rw[Nat.mul_assoc] at h2;omega
 have j6:∀ w:World,(typeInfo e).run P w=.ok ei w:=λw=>run_typeInfo w hi;have ec:∀ w:World,(zeroValue e).run P w=.ok zv w:=λw=>Z2 hi hz w;unfold Builtin.append_;simp[Q0 ht,Q0 hu,Qa hi,Builtin.lenOf,a7,j6,hb,h1,Question.forced,h_,fK,ec,newRow];congr 2;apply Array.ext';simp
theorem XP (_hH:HRel ρ M w) (_hE:Ext ρ M w ρ M w) {σ1:Heap}{ρ1:Plc}(iV:HRel ρ1 σ1 w) (fL:Ext ρ M w ρ1 σ1 w) (fM:σ1.n=M.n) {aZ xs os us:List Value}{zs:Array Value}{esz:El}{n aV:Nat}
  (ho:LRel ρ M.n aZ os) (hx:LRel ρ M.n xs us) (hlen:aZ.length+xs.length=n*esz.sz) (eu:zs.size=(aV-n)*esz.sz) (fN:n<=aV) {s:Sem Next}
  (hs:s.run P w=.ok (.value (.slice (some ⟨w.heap.size,0,none⟩) n aV)) (w.drew.alloc (.cells ((os++us).toArray++zs) esz.ty))) :
  RA P ρ M w (.slice (some ⟨M.n,0,none⟩) n n) (σ1.push (.cells (aZ++xs) esz true false)) s:=by
 have hl:(aZ++xs).length=(os++us).length:=by simp[ho.1,hx.1]
 have aG:LRel ρ1 σ1.n (aZ++xs) (((os++us).toArray++zs).toList.take (aZ++xs).length):=by
  have h1:((os++us).toArray++zs).toList.take (aZ++xs).length=os++us:=by rw[Array.toList_append,hl];show ((os++us)++zs.toList).take (os++us).length=_;exact List.take_left
  rw[h1];exact(ho.append hx).mono fL.n fL.pl
 have aD:((os++us).toArray++zs).size=n*esz.sz+(aV-n)*esz.sz:=by simp[eu];have:=ho.1;have:=hx.1;omega
 have cg:(aZ++xs).length<=((os++us).toArray++zs).size:=by rw[aD,zB];omega
 obtain⟨ρ',h1,h2,h3⟩:=(iV.drew).alloc (aZ++xs) ((os++us).toArray++zs) esz.ty esz false rfl aG cg;have hh:w.drew.heap.size=w.heap.size:=rfl;rw[fM] at h1;refine⟨_,_,ρ',.inl hs,.sl _ _ _ _ _ _ (by simp[fM]) (λp hp=>?_),h2,(fL.trans (Ext.drew ρ1 σ1 w)).trans h3⟩;rw[h1] at hp;obtain rfl:=osj hp;refine⟨fN,⟨λh=>(by cases h),.inr ⟨0,rfl,?_,Or.inl rfl⟩⟩⟩;show 0+aV*esz.sz<=((os++us).toArray++zs).size;rw[aD,<-zG];have:n+(aV-n)=aV:=by omega
 rw[this];omega
theorem Sk (hH:HRel ρ M w) {t u e f:TypeId}{ei:TypeInfo}{zv:Value}{z:List Value}(ht:P.underlying t=some (.slice e)) (hu:P.underlying u=some (.slice f)) (hi:P.info? e=some ei) (hz:ei.zero=some zv) (ft:zv.cells.toList=z) (eu:z.length=ei.size) (hb:ei.bytes≠0) (ty:TypeId)
  {s:Value}{a:Option Addr}{m lq:Nat}{xs:List Value}{cs cx:Value}(hs:VRel ρ M.n s cs) (hx:VRel ρ M.n (.slice a m lq) cx) (bB:M.sl z.length (.slice a m lq)=some xs) (ai:xs.all cellOk=true)
  (h:Yv ⟨z.length,e⟩ ei.bytes M s m xs=some (v,M')) {p6:Sem Next}(aR:∀ r w',(Builtin.append_ #[t,u] ty #[cs,cx]).run P w=.ok r w'->p6.run P w=.ok (.value r) w'):RA P ρ M w v M' p6:=by
 obtain⟨fZ,us,dP,ew,fK⟩:=Rf (P:=P) hH bB hx;rw[eu] at fK fZ;have hL:=Like.refl ρ w;have ju:Like ρ w w.drew:=⟨z5 _,λ_ _ _=>rfl,λ_ _ _=>rfl⟩;have nh:us.length=m*ei.size:=by have:=dP.1;omega
 have hzero:∀ k,(Builtin.zeroCells zv.cells k).size=k*z.length:=λk=>by rw[size_zeroCells];rw[<-ft];simp
 unfold Yv at h;split at h
 .
  obtain⟨_,_,rfl⟩:=hs.q1j;split at h
  .rename_i eH;subst eH;simp at h;obtain⟨rfl,rfl⟩:=h;have:us=[]:=zW.1 (by omega);subst this;have hr:=X0 (w:=w) ht hu hi ty none 0 0 0 cx [] ew (fK w hL) (z5 _) w rfl;exact⟨_,w,ρ,.inl (aR _ _ hr),VRel.nilSl,hH,Ext.refl _ _ _⟩
  .rename_i eH;split at h
   .rename_i aD;simp at h;obtain⟨rfl,rfl⟩:=h;obtain⟨aV,fN,hr⟩:=Xq (w:=w) ht hu hi hz hb ty none 0 0 m cx us [] ew (fK _ ju) (by simp[Builtin.firstCells]) (by omega) (by simpa using aD);simp only[zV,xe] at hr fN;have:=XP (P:=P) hH (Ext.refl _ _ _) hH (Ext.refl _ _ _) rfl (LRel.nil ρ M.n) dP (by simp;rw[fZ,<-eu]) (esz:=⟨z.length,e⟩) (n:=m) (hzero (aV-m)) fN (s:=p6) (by simpa using aR _ _ hr);simpa using this
   .cases h
 .
  rename_i i o n cap;obtain⟨ad,aq,rfl,aO,aY⟩:=hs.q1b;split at h
  .rename_i c e' wr tight aB;obtain⟨p,hp,hB⟩:=hH.live i _ aB;obtain⟨dI,nc,⟨mG,jY⟩|⟨o',rfl,cX,eS⟩⟩:=aY p hp
   .
    obtain rfl:cap=0:=by omega
    subst mG jY;split at h
    .rename_i ak;obtain⟨rfl,j7,ga⟩:=ak;dsimp only at ga h;split at h
     .rename_i eH;subst eH;simp at h;obtain⟨rfl,rfl⟩:=h;have:us=[]:=zW.1 (by omega);subst this;have hr:=X0 (w:=w) ht hu hi ty (some ad) 0 0 0 cx [] ew (fK w hL) (z5 _) w rfl;exact⟨_,w,ρ,.inl (aR _ _ hr),hs,hH,Ext.refl _ _ _⟩
     .rename_i eH;split at h
      .omega
      .split at h
       .rename_i aD;have gG:M.sl z.length (.slice (some ⟨i,o,none⟩) 0 0)=some ((c.drop o).take (0*z.length)):=by
         have:o<=c.length:=by omega
         simp[Heap.sl,aB,this]
        obtain⟨_,os,gb,_,h_⟩:=Rf (P:=P) hH gG hs;rw[eu] at h_;have hlen:((c.drop o).take (0*z.length)).length+xs.length=(0+m)*z.length:=by rw[fZ,eu];simp
        obtain⟨aV,fN,hr⟩:=Xq (w:=w) ht hu hi hz hb ty (some ad) 0 0 m cx us os ew (fK _ ju) (h_ _ ju) (by omega) aD;split at h
        .obtain⟨rfl,rfl⟩:=Prod.mk.inj (osj h);exact XP hH (Ext.refl _ _ _) hH (Ext.refl _ _ _) rfl gb dP hlen (hzero _) fN (aR _ _ hr)
        .split at h
         .obtain⟨rfl,rfl⟩:=Prod.mk.inj (osj h);obtain⟨bu,au⟩:=hH.kill i;exact XP hH (Ext.refl _ _ _) bu au rfl gb dP hlen (hzero _) fN (aR _ _ hr)
         .cases h
       .cases h
    .cases h
   have dO:p.esz=e':=hB.1;split at h
   .rename_i ak;obtain⟨rfl,j7,ga⟩:=ak;rw[dO] at cX;dsimp only at cX ga h;split at h
    .
     rename_i eH;subst eH;simp at h;obtain⟨rfl,rfl⟩:=h;have:us=[]:=zW.1 (by omega);subst this;have hr:=X0 (w:=w) ht hu hi ty (some ⟨p.blk,p.shift+o',none⟩) n aq 0 cx [] ew (fK w hL) (by omega) w rfl;exact⟨_,w,ρ,.inl (aR _ _ hr),hs,hH,Ext.refl _ _ _⟩
    .rename_i eH;split at h
     .
      rename_i a7;split at h
      .rename_i hw;obtain⟨rfl,fv⟩:=hw;simp at h;obtain⟨rfl,rfl⟩:=h;have j5:o'=o:=by
        rcases eS with h0|⟨_,h0⟩
        .exact h0
        .omega
       subst j5;have hmul:(n+m)*z.length=n*z.length+m*z.length:=zG _ _ _;have sP:m*ei.size=m*z.length:=by rw[eu]
       obtain⟨h2,h3⟩:=hH.store hp aB dP (o:=o'+n*z.length) (by omega)
       have aS:=run_storeCells_cells (P:=P) p.blk (p.shift+o'+n*z.length) us 0 w
        (λj hj=>by rw[zM,zk,zk];exact hB.q0t _ (by have:=hB.2.2.1;omega))
        (λj hj=>by rw[zM,zk,zk];exact(hB.2.2.2.2.2 rfl).2 _ (by have:=hB.2.2.1;omega))
        (Kc ai dP)
       have hr:=X0 (w:=w) ht hu hi ty (some ⟨p.blk,p.shift+o',none⟩) n aq m cx us ew (fK w hL) (by omega) _ (by
        simp only[Xs,<-eu];exact aS)
       refine⟨_,_,ρ,.inl (aR _ _ hr),.sl _ _ _ _ _ _ aO (λq hq=>?_),by rw[zM,zk];exact h2,by rw[zM,zk];exact h3⟩;obtain rfl:p=q:=osj (hp.symm.trans hq);exact⟨dI,nc,.inr ⟨o',rfl,by rw[dO];exact cX,.inl rfl⟩⟩
      .cases h
     .rename_i a7;split at h
      .rename_i aD;have hold:∀ k v,((c.drop o).take (n*z.length))[k]?=some v->∃ u,w.cell? ⟨p.blk,p.shift+o'+k,none⟩=some u/\VRel ρ M.n v u:=λk v hk=>by
        rw[zL] at hk;split at hk
        .rename_i bg;rw[zw] at hk;have j5:o'=o:=by
          rcases eS with h0|⟨h0,_⟩
          .exact h0
          .rw[h0,Nat.zero_mul] at bg;omega
         subst j5;obtain⟨u,hu,cD⟩:=hB.2.2.2.2.1 _ v hk;exact⟨u,by rw[zk];exact hu,cD⟩
        .cases hk
       have eI:((c.drop o).take (n*z.length)).length=n*z.length:=by simp;omega
       have gG:M.sl z.length (.slice (some ⟨i,o,none⟩) n cap)=some ((c.drop o).take (n*z.length)):=by simp[Heap.sl,aB,ga]
       obtain⟨_,os,gb,_,h_⟩:=Rf (P:=P) hH gG hs;rw[eu] at h_;have hlen:((c.drop o).take (n*z.length)).length+xs.length=(n+m)*z.length:=by rw[eI,fZ,zG,eu]
       split at h
       .
        rename_i gd;simp at h;obtain⟨rfl,rfl⟩:=h;have p7:aq=cap:=nc (by rw[hB.2.1];exact gd);subst p7;obtain⟨aV,fN,hr⟩:=Xq (w:=w) ht hu hi hz hb ty (some ⟨p.blk,p.shift+o',none⟩) n aq m cx us os ew (fK _ ju) (h_ _ ju) a7 aD;exact XP hH (Ext.refl _ _ _) hH (Ext.refl _ _ _) rfl gb dP hlen (hzero _) fN (aR _ _ hr)
       .rename_i gd;have sQ:tight=false:=by simpa using gd
        subst sQ;split at h
        .rename_i fU;subst fU;simp at h;obtain⟨rfl,rfl⟩:=h;by_cases gf:n+m<=aq
         .
          have hmul:aq*z.length=(n+m)*z.length+(aq-(n+m))*z.length:=by rw[<-zG];congr 1;omega
          have rG:(n+m)*z.length=n*z.length+m*z.length:=zG _ _ _;have sP:m*ei.size=m*z.length:=by rw[eu]
          obtain⟨ρ',h1,h2,h3⟩:=hH.onto hp aB o' hold dP (by rw[eI];omega)
          have aS:=run_storeCells_cells (P:=P) p.blk (p.shift+o'+n*z.length) us 0 w
           (λj hj=>by rw[zM,zk,zk];exact hB.q0t _ (by omega))
           (λj hj=>by rw[zM,zk,zk];exact(hB.2.2.2.2.2 rfl).2 _ (by omega))
           (Kc ai dP)
          have hr:=X0 (w:=w) ht hu hi ty (some ⟨p.blk,p.shift+o',none⟩) n aq m cx us ew (fK w hL) gf _ (by
           simp only[Xs,<-eu];exact aS)
          refine⟨_,_,ρ',.inl (aR _ _ hr),.sl _ _ _ _ _ _ (by simp) (λq hq=>?_),by rw[zM];rw[eI] at h2;exact h2,by rw[zM];rw[eI] at h3;exact h3⟩;rw[h1] at hq;obtain rfl:=osj hq;refine⟨gf,⟨λh=>(by cases h),.inr ⟨0,rfl,?_,Or.inl rfl⟩⟩⟩;show 0+aq*z.length<=p.ext-o';omega
         .obtain⟨aV,fN,hr⟩:=Xq (w:=w) ht hu hi hz hb ty (some ⟨p.blk,p.shift+o',none⟩) n aq m cx us os ew (fK _ ju) (h_ _ ju) gf aD;obtain⟨bu,au⟩:=hH.kill i;exact XP hH (Ext.refl _ _ _) bu au rfl gb dP hlen (hzero _) fN (aR _ _ hr)
        .cases h
      .cases h
   .cases h
  .cases h
 .
  rename_i i o n cap;obtain⟨ad,rfl,aO,aY,dB⟩:=hs.q2h;split at h
  .rename_i c e' wr tight aB;obtain⟨p,hp,hB⟩:=hH.live i _ aB;obtain⟨rfl,cX⟩:=aY p hp;have dO:p.esz=e':=hB.1;split at h
   .rename_i ak;obtain⟨rfl,j7,ga,eH,aD⟩:=ak;rw[dO] at cX;dsimp only at cX ga h;simp at h;obtain⟨rfl,rfl⟩:=h;have eI:((c.drop o).take (n*z.length)).length=n*z.length:=by simp;omega
    have gG:M.sl z.length (.slice (some ⟨i,o,none⟩) n cap)=some ((c.drop o).take (n*z.length)):=by simp[Heap.sl,aB,ga]
    obtain⟨_,os,gb,_,h_⟩:=Rf (P:=P) hH gG dB;rw[eu] at h_;have hlen:((c.drop o).take (n*z.length)).length+xs.length=(n+m)*z.length:=by rw[eI,fZ,zG,eu]
    obtain⟨aV,fN,hr⟩:=Xq (w:=w) ht hu hi hz hb ty (some ⟨p.blk,p.shift+o,none⟩) n cap m cx us os ew (fK _ ju) (h_ _ ju) (by omega) aD;exact XP hH (Ext.refl _ _ _) hH (Ext.refl _ _ _) rfl gb dP hlen (hzero _) fN (aR _ _ hr)
   .cases h
  .cases h
 .cases h
set_option maxHeartbeats 1000000 in
theorem AS {o:Oper}{vo:VOp}(hc:VD P o.op=some vo) (hq:vo.quiet=false) (hH:HRel ρ M w) (hE:∀ x,X6 x=true->VRel ρ M.n (Q3 env x) (ev x))
  (h:Q6 vo (Q3 env) M=some (v,M')):RA P ρ M w v M' (execOp ev o):=by
 obtain⟨dst,op,ty,pos,after,guard⟩:=o;simp only at hc;unfold VD at hc;split at hc
 .cases hc
 rename_i ai;simp only[xZ,xQ] at ai;cases op<;>simp only[Op.operands] at ai hc
 case alloc t =>
  cases hz:zeroOf P t with
  |none=>simp[hz] at hc
  |some z =>simp[hz] at hc;subst hc;obtain⟨ti,zv,hi,ec,ft,_,iU⟩:=Y2 hz;simp[Q6] at h;obtain⟨rfl,rfl⟩:=h;refine Ss hH (C:=zv.cells) (esz:=⟨z.length,t⟩) (by rw[ft];exact X9 iU) ?_;simp[execOp,Instr.alloc,Z2 hi ec,newVar,newRow]
 case box t x =>
  have hx:=hE x (by simpa using ai);simp at hc;subst hc;simp only[Q6] at h;split at h
  .rename_i vs cE;simp at h;obtain⟨rfl,rfl⟩:=h;refine Ss hH (C:=(ev x).cells) (esz:=⟨vs.length,t⟩) (DA cE hx) ?_;simp[execOp,Instr.box,newVar,newRow]
  .cases h
 case buildSlice t len parts =>
  split at hc
  .rename_i e hu;cases hz:zeroOf P e with
   |none=>simp[hz] at hc
   |some z =>
    obtain⟨ti,zv,hi,ec,ft,eu,iU⟩:=Y2 hz;simp only[hz,zJ,xp] at hc;split at hc
    .cases hc
    .rename_i ak;simp at ak;obtain⟨gZ,hlen⟩:=ak;simp at hc;subst hc;simp only[Q6] at h;split at h
     .rename_i cs eG;simp at h;obtain⟨rfl,rfl⟩:=h;have eQ:∀ q∈parts.toList,X6 q.2=true:=λq hq=>z6.1 ai q.2 (by simp;exact⟨q.1,by simpa using hq⟩);have j8:=DV zv.cells z ft gZ len
      obtain⟨bA,ll,jX⟩:=S3 (ρ:=ρ) (n:=M.n) (λi=>some (i*z.length,z.length)) _ ((parts.map λq=>(q.1,ev q.2)).toList) (H7 len z) cs ((Array.range (len*z.length)).map (λi=>zv.cells[i % zv.cells.size]!)) (by simp)
       (λk a b ha hb=>by
        simp only[zQ,Array.toList_map] at ha hb;cases hq:parts.toList[k]? with
        |none=>simp only[hq,wc] at hb;cases hb
        |some q =>
         simp only[hq,xj,xd] at ha hb;subst hb;subst ha;exact⟨rfl,hE _ (eQ q (zE hq))⟩) eG (by rw[j8];exact X9 (DT _ _ iU))
      have cg:cs.length=len*z.length:=by
       have h1:∀ (l:List (Nat×Nat×Value)) (c c':List Value),M0 c l=some c'->c'.length=c.length:=by
        intro l;induction l with
        |nil=>intro c c' h;simp[M0] at h;rw[h]
        |cons a r ih =>
         intro c c' h;obtain⟨o1,s1,v1⟩:=a;simp only[M0] at h;split at h
         .split at h
          .rw[ih _ _ h,XE]
          .cases h
         .cases h
       rw[h1 _ _ _ eG,Pj]
      refine HA hH (C:=bA) (esz:=⟨z.length,e⟩) jX (by have:=jX.1;simp at this;show len*z.length<=_;omega) ?_;have hle:¬ (len*ti.size > 2 ^ 24):=by
       rw[<-eu];have:(2:Nat) ^ 24=16777216:=by decide
       omega
      have p8:Instr.fill (λi=>some (i*ti.size,ti.size)) ((Array.range (len*ti.size)).map (λi=>zv.cells[i % zv.cells.size]!)) (parts.map λq=>(q.1,ev q.2)).toList=some bA:=by rw[<-eu];exact ll
      by_cases aU:len*ti.size=0
      .have iW:∀ f:Nat->Value,(Array.range 0).map f=#[]:=λf=>by simp
       simp only[execOp];simp only[Instr.buildSlice,zt,Q0 hu,zd,Qa hi,aU,zx,x5];rw[aU,iW] at p8;simp only[iW,p8];simp[newRow]
      .simp only[execOp];simp only[Instr.buildSlice,zt,Q0 hu,zd,Qa hi,z1 hle,z1 aU,Z2 hi ec,x5,p8];simp[newRow]
     .cases h
  .cases hc
 case store t a x =>
  simp at ai;have ha:=hE a ai.1;have hx:=hE x ai.2;cases hi:P.info? t with
  |none=>simp[hi] at hc
  |some ti =>
   simp[hi] at hc;subst hc;simp only[Q6] at h;split at h
   .rename_i i o vs h1 cE;rw[h1] at ha;split at h
    .rename_i c e wr tight hb;split at h
     .rename_i ak;obtain⟨rfl,ni,jv,ia⟩:=ak;simp at h;obtain⟨rfl,rfl⟩:=h;obtain⟨p,hp,hB⟩:=hH.live i _ hb;obtain⟨_,aO,py⟩:=ha.q0w hp;have hl:=DA cE hx;have aA:(ev x).cells.size=ti.size:=by have:=hl.1;simp at this;omega
      obtain⟨h2,h3⟩:=hH.store hp hb hl (o:=o) (by omega);refine⟨undef,_,ρ,.inr ⟨?_,rfl⟩,Js,h2,h3⟩
      have hr:=run_storeCells_cells (P:=P) p.blk (p.shift+o) (ev x).cells.toList 0 w
       (λj hj=>by rw[zM,zk];exact hB.q0t _ (by have:=hB.2.2.1;simp at hj;omega))
       (λj hj=>by rw[zM,zk];exact(hB.2.2.2.2.2 rfl).2 _ (by have:=hB.2.2.1;simp at hj;omega))
       (Kc ia hl)
      simp only[execOp];simp only[Instr.storeAt,py,Instr.sureAddr,zt,x5,zd,storeVar,Qa hi];rw[z1 (by simp[aA])];rw[hr];rfl
     .cases h
    .cases h
   .cases h
 case makeSlice t l c =>
  simp at ai;have hl:=hE l ai.1;have dI:=hE c ai.2;split at hc
  .rename_i e hu;cases hi:P.info? e with
   |none=>simp[hi] at hc
   |some ei =>
    cases hz:zeroOf P e with
    |none=>simp[hi,hz] at hc
    |some z =>
     obtain⟨ti,zv,cF,ec,ft,eu,iU⟩:=Y2 hz;obtain rfl:ei=ti:=osj (hi.symm.trans cF);simp only[hi,hz,zJ,xp] at hc;split at hc
     .cases hc
     .rename_i gZ;simp at gZ;simp at hc;subst hc;simp only[Q6] at h;split at h
      .rename_i k a k' b h1 h2;rw[h1] at hl;rw[h2] at dI;split at h
       .rename_i ak;obtain⟨u6,rF,nj,bE⟩:=ak;simp at h;obtain⟨rfl,rfl⟩:=h;have j8:=DV zv.cells z ft gZ b.toNat;have u7:(2:Int) ^ 46=70368744177664:=by decide
        have u9:(2:Int) ^ 48=281474976710656:=by decide
        have fg:IntKind.i64.wrap a=a:=IntWalk.i64_in _ (by omega);have sR:IntKind.i64.wrap b=b:=IntWalk.i64_in _ (by omega);refine HA hH (C:=(Array.range (b.toNat*z.length)).map (λi=>zv.cells[i % zv.cells.size]!)) (esz:=⟨z.length,e⟩) (by rw[j8];exact X9 (DT _ _ iU)) (by simp) ?_;have sS:((ei.bytes:Int)*b > 2 ^ 48)=False:=by rw[eq_iff_iff,iff_false,Int.mul_comm];omega
        have p9:(b<0)=False:=by rw[eq_iff_iff,iff_false];omega
        have nk:(a<0)=False:=by rw[eq_iff_iff,iff_false];omega
        have p_:(a > b)=False:=by rw[eq_iff_iff,iff_false];omega
        simp only[execOp];simp only[Instr.makeSlice,zt,Q0 hu,zd,hl.q0h,dI.q0h,asInt,asIntOf,x5,run_typeInfo w hi,fg,sR,sS,p9,nk,p_];simp only[decide_false,xU,Bool.false_or,zA,if_false,run_askRoom,zt,zd,Qa hi];rw[<-eu];by_cases aU:b.toNat*z.length=0
        .have iW:∀ f:Nat->Value,(Array.range 0).map f=#[]:=λf=>by simp
         simp only[aU,zx,iW];simp[newRow]
        .simp only[aU,if_false,Z2 hi ec,zt,x5,zd];simp[newRow]
       .cases h
      .cases h
  .cases hc
 case slice t x lo hi mx =>
  have ln:X6 x=true:=by simp at ai;exact ai.1
  have gC:∀ y,lo=some y->X6 y=true:=λy hy=>by subst hy;simp at ai;first|exact ai.2.1|exact ai.2
  have gF:∀ y,hi=some y->X6 y=true:=λy hy=>by subst hy;cases lo<;>simp at ai<;>first|exact ai.2.1|exact ai.2.2.1|exact ai.2.2|exact ai.2
  have qa:∀ y,mx=some y->X6 y=true:=λy hy=>by subst hy;cases lo<;>cases hi<;>simp at ai<;>first|exact ai.2.2.2|exact ai.2.2|exact ai.2
  have hx:=hE x ln;split at hc
  .rename_i e hu;cases cB:P.info? e with
   |none=>simp[cB] at hc
   |some ei =>
    simp[cB] at hc;subst hc;cases mx with
    |none=>simp[VOp.quiet] at hq
    |some mo =>
     simp only[Q6] at h;split at h
     .rename_i a n cap h1;rw[h1] at hx;split at h
      .simp_all
      .rename_i l hh u_ hl lk sU;split at h
       .rename_i m ho hm;have mI:=Y1 hE gC hl;have mJ:=Y1 hE gF lk;have sV:=Y1 hE qa hm;obtain⟨ym,km,im,sW,jt,px,lr⟩:=sV.resolve_left (λhh=>by cases hh.1);obtain rfl:=osj sW;obtain⟨yh,kh,ih,sX,jr,pw,qb⟩:=mJ.resolve_left (λhh=>by cases hh.1);obtain rfl:=osj sX;have iX:=λ(aq:Nat) (h1:l<=hh) (h2:hh<=m) (h3:m<=aq) w'=>BF (P:=P) (n:=n) (cap:=aq) mI jr pw qb jt px lr h1 h2 h3 w';unfold WD at h;split at h
        .rename_i heq;simp at heq;obtain⟨rfl,rfl,rfl⟩:=heq;obtain⟨_,_,bq⟩:=hx.q1j;split at h
         .rename_i ak;obtain⟨rfl,rfl,eH⟩:=ak;simp at eH;simp at h;obtain⟨rfl,rfl⟩:=h;subst eH;refine⟨.slice none 0 0,w,ρ,.inl ?_,VRel.nilSl,hH,Ext.refl _ _ _⟩;have:=iX 0 (z5 _) (z5 _) (z5 _) w;simp only[xj] at this;simp[execOp,bq,Instr.sliceAt,Instr.slice,Q0 hu,this,Qa cB]
         .cases h
        .rename_i i o n' jq heq;simp at heq;obtain⟨rfl,rfl,rfl⟩:=heq;simp only at h;split at h
         .rename_i c esz wr tight hb;split at h
          .rename_i ak;obtain⟨nb,pZ,sY,eJ⟩:=ak;obtain⟨ad,aq,bq,aO,aY⟩:=hx.q1b;obtain⟨p,hp,hB⟩:=hH.live i _ hb;have dI:=(aY p hp).1;have b7:=iX aq pZ sY (zZ eJ dI) w;simp only[xj] at b7;obtain⟨-,nc,⟨mG,jY⟩|⟨o',rfl,cX,eS⟩⟩:=aY p hp
           .split at h
            .rename_i gO;subst gO;simp at h;obtain⟨rfl,rfl⟩:=h;have qc:hh=m:=by omega
             subst qc;have fX:∀ j,j<M.n->∀ q,(ρ.put M.n (some ⟨p.blk,p.shift,0,esz,true⟩)) j=some q->ρ j=some q:=λj hj q hq=>by unfold Plc.put at hq;rwa [z1 (by omega)] at hq
             have bj:∀ j,j≠M.n->(ρ.put M.n (some ⟨p.blk,p.shift,0,esz,true⟩)) j=ρ j:=λj hj=>by simp[Plc.put,hj]
             have cY:(ρ.put M.n (some ⟨p.blk,p.shift,0,esz,true⟩)) M.n=some ⟨p.blk,p.shift,0,esz,true⟩:=by simp[Plc.put]
             have fU:∀ B,Wr (ρ.put M.n (some ⟨p.blk,p.shift,0,esz,true⟩)) (M.push (.cells [] esz false true)) B->Wr ρ M B:=by
              rintro B ⟨j,q,b,hq,cf,hw,rfl⟩;by_cases aN:j=M.n
              .subst aN;rw[Heap.q0a] at cf;obtain rfl:=osj cf;cases hw
              .rw[Heap.q0e _ _ aN] at cf;rw[bj j aN] at hq;exact⟨j,q,b,hq,cf,hw,rfl⟩
             refine⟨.slice (some ad) 0 0,w,ρ.put M.n (some ⟨p.blk,p.shift,0,esz,true⟩),.inl ?_,.sl _ _ _ _ _ _ (by simp) (λq hq=>?_),⟨⟨?_,?_,?_,?_⟩,λg cs hg=>⟨(hH.tab g cs hg).1,λhw=>(hH.tab g cs hg).2 (fU g hw)⟩⟩,
              ⟨rfl,rfl,rfl,z5 _,λ_ _ _=>rfl,λB _=>fU B,by simp,fX⟩⟩
             .simp[execOp,bq,Instr.sliceAt,Instr.slice,Q0 hu,b7,Qa cB]
             .rw[cY] at hq;obtain rfl:=osj hq;exact⟨z5 _,λ_=>rfl,.inl ⟨rfl,rfl⟩⟩
             .intro j b hj;by_cases aN:j=M.n
              .subst aN;rw[Heap.q0a] at hj;obtain rfl:=osj hj;obtain⟨C,e0,f0,hC,mD⟩:=hB.2.2.2.1;refine⟨_,cY,rfl,rfl,z5 _,⟨C,e0,f0,hC,?_⟩,λk v hk=>by simp at hk,λhw=>by cases hw⟩;refine⟨?_,mD.2⟩;show p.shift+0<=C.size;omega
              .rw[Heap.q0e _ _ aN] at hj;obtain⟨q,hq,fp⟩:=hH.live j b hj;exact⟨q,by rw[bj j aN];exact hq,fp.mono (by simp) fX rfl⟩
             .intro j hj;by_cases aN:j=M.n
              .subst aN;rw[Heap.q0a] at hj;cases hj
              .rw[Heap.q0e _ _ aN] at hj;rw[bj j aN];exact hH.dead j hj
             .intro j q hq;by_cases aN:j=M.n
              .subst aN;rw[cY] at hq;obtain rfl:=osj hq;exact hH.lt i p hp
              .rw[bj j aN] at hq;exact hH.lt j q hq
             .intro j k q r b cW hq hr cf hw nq;by_cases aN:j=M.n
              .subst aN;rw[Heap.q0a] at cf;obtain rfl:=osj cf;cases hw
              .rw[Heap.q0e _ _ aN] at cf;rw[bj j aN] at hq;by_cases iT:k=M.n
               .subst iT;rw[cY] at hr;obtain rfl:=osj hr;simp at nq
               .rw[bj k iT] at hr;exact hH.sep j k q r b cW hq hr cf hw nq
            .omega
           have dO:p.esz.sz=ei.size:=by rw[hB.1];exact nb
           rw[dO] at cX;split at h
           .rename_i gO;subst gO;simp at h;obtain⟨rfl,rfl⟩:=h;have qc:hh=m:=by omega
            subst qc;have fX:∀ j,j<M.n->∀ q,(ρ.put M.n (some ⟨p.blk,p.shift+o',0,esz,true⟩)) j=some q->ρ j=some q:=λj hj q hq=>by unfold Plc.put at hq;rwa [z1 (by omega)] at hq
            have bj:∀ j,j≠M.n->(ρ.put M.n (some ⟨p.blk,p.shift+o',0,esz,true⟩)) j=ρ j:=λj hj=>by simp[Plc.put,hj]
            have cY:(ρ.put M.n (some ⟨p.blk,p.shift+o',0,esz,true⟩)) M.n=some ⟨p.blk,p.shift+o',0,esz,true⟩:=by simp[Plc.put]
            have fU:∀ B,Wr (ρ.put M.n (some ⟨p.blk,p.shift+o',0,esz,true⟩)) (M.push (.cells [] esz false true)) B->Wr ρ M B:=by
             rintro B ⟨j,q,b,hq,cf,hw,rfl⟩;by_cases aN:j=M.n
             .subst aN;rw[Heap.q0a] at cf;obtain rfl:=osj cf;cases hw
             .rw[Heap.q0e _ _ aN] at cf;rw[bj j aN] at hq;exact⟨j,q,b,hq,cf,hw,rfl⟩
            refine⟨.slice (some ⟨p.blk,p.shift+o',none⟩) 0 0,w,ρ.put M.n (some ⟨p.blk,p.shift+o',0,esz,true⟩),.inl ?_,.sl _ _ _ _ _ _ (by simp) (λq hq=>?_),⟨⟨?_,?_,?_,?_⟩,λg cs hg=>⟨(hH.tab g cs hg).1,λhw=>(hH.tab g cs hg).2 (fU g hw)⟩⟩,
             ⟨rfl,rfl,rfl,z5 _,λ_ _ _=>rfl,λB _=>fU B,by simp,fX⟩⟩
            .simp[execOp,bq,Instr.sliceAt,Instr.slice,Q0 hu,b7,Qa cB]
            .rw[cY] at hq;obtain rfl:=osj hq;exact⟨z5 _,λ_=>rfl,.inr ⟨0,rfl,by simp,.inl rfl⟩⟩
            .intro j b hj;by_cases aN:j=M.n
             .subst aN;rw[Heap.q0a] at hj;obtain rfl:=osj hj;obtain⟨C,e0,f0,hC,mD⟩:=hB.2.2.2.1;refine⟨_,cY,rfl,rfl,z5 _,⟨C,e0,f0,hC,?_⟩,λk v hk=>by simp at hk,λhw=>by cases hw⟩;have h6:o'<=p.ext:=zZ (Nat.le_add_right _ _) cX;refine⟨?_,mD.2⟩;show p.shift+o'+0<=C.size;omega
             .rw[Heap.q0e _ _ aN] at hj;obtain⟨q,hq,fp⟩:=hH.live j b hj;exact⟨q,by rw[bj j aN];exact hq,fp.mono (by simp) fX rfl⟩
            .intro j hj;by_cases aN:j=M.n
             .subst aN;rw[Heap.q0a] at hj;cases hj
             .rw[Heap.q0e _ _ aN] at hj;rw[bj j aN];exact hH.dead j hj
            .intro j q hq;by_cases aN:j=M.n
             .subst aN;rw[cY] at hq;obtain rfl:=osj hq;exact hH.lt i p hp
             .rw[bj j aN] at hq;exact hH.lt j q hq
            .intro j k q r b cW hq hr cf hw nq;by_cases aN:j=M.n
             .subst aN;rw[Heap.q0a] at cf;obtain rfl:=osj cf;cases hw
             .rw[Heap.q0e _ _ aN] at cf;rw[bj j aN] at hq;by_cases iT:k=M.n
              .subst iT;rw[cY] at hr;obtain rfl:=osj hr;simp at nq
              .rw[bj k iT] at hr;exact hH.sep j k q r b cW hq hr cf hw nq
           rename_i gO;split at h
           .rename_i sZ;obtain⟨_,rfl⟩:=sZ;simp at h;obtain⟨rfl,rfl⟩:=h;have j5:o'=o:=by
             rcases eS with h0|⟨_,h0⟩
             .exact h0
             .omega
            subst j5;refine⟨.slice (some ⟨p.blk,p.shift+(o'+l*ei.size),none⟩) (hh-l) (hh-l),w,ρ,.inl ?_,.slx _ _ _ _ _ aO (λq hq=>?_),hH,Ext.refl _ _ _⟩
            .simp[execOp,bq,Instr.sliceAt,Instr.slice,Q0 hu,b7,Qa cB,gO,Xs,zk]
            .obtain rfl:p=q:=osj (hp.symm.trans hq);refine⟨rfl,?_⟩;rw[dO];have:aq=l+((hh-l)+(aq-hh)):=by omega
             rw[this,zG,zG] at cX;omega
           .simp at h;obtain⟨rfl,rfl⟩:=h;refine⟨.slice (some ⟨p.blk,p.shift+(o'+l*ei.size),none⟩) (hh-l) (m-l),w,ρ,.inl ?_,.sl _ _ _ _ _ _ aO (λq hq=>?_),hH,Ext.refl _ _ _⟩
            .simp[execOp,bq,Instr.sliceAt,Instr.slice,Q0 hu,b7,Qa cB,gO,Xs,zk]
            .obtain rfl:p=q:=osj (hp.symm.trans hq);refine⟨z5 _,λ_=>rfl,.inr ⟨o'+l*ei.size,rfl,?_,?_⟩⟩
             .rw[dO];have:aq=l+((m-l)+(aq-m)):=by omega
              rw[this,zG,zG] at cX;omega
             .rcases eS with rfl|⟨h0,sN⟩
              .exact .inl rfl
              .exact .inr (by omega)
          .cases h
         .cases h
        .cases h
       .cases h
      .cases h
     .cases h
  .rename_i hu;split at hc
   .rename_i p5;cases mx with
    |some m=>simp at p5
    |none=>simp at hc;subst hc;simp[VOp.quiet] at hq
   .cases hc
  .cases hc
 case call c =>
  split at hc
  .simp at hc;subst hc;simp[VOp.quiet] at hq
  .simp at hc;subst hc;simp[VOp.quiet] at hq
  .split at hc
   .split at hc
    .simp at hc;subst hc;simp[VOp.quiet] at hq
    .simp at hc;subst hc;simp[VOp.quiet] at hq
    .cases hc
   .cases hc
  .rename_i aJ;split at hc
   .rename_i t u s x ht pX ax;split at hc
    .rename_i e f hu mK;cases hi:P.info? e with
     |none=>simp[hi] at hc
     |some ei =>
      cases hz:zeroOf P e with
      |none=>simp[hi,hz] at hc
      |some z =>
       obtain⟨ti,zv,cF,ec,ft,eu,iU⟩:=Y2 hz;obtain rfl:ei=ti:=osj (hi.symm.trans cF);simp only[hi,hz,zJ,xp] at hc;split at hc
       .cases hc
       .rename_i ak;simp at ak;obtain⟨gZ,s5⟩:=ak;simp at hc;subst hc;have cP:c.args=#[s,x]:=by apply Array.ext';simpa using ax
        simp[Call.operands,aJ,cP] at ai;have hs:=hE s ai.1;have hx:=hE x ai.2;have nr:(Builtin.append_ c.argTypes ty #[ev s,ev x])=(Builtin.append_ #[t,u] ty #[ev s,ev x]):=by unfold Builtin.append_;simp[ht,pX]
        have aR:∀ r w',(Builtin.append_ #[t,u] ty #[ev s,ev x]).run P w=.ok r w'->(execOp ev {dst:=dst,op:=.call c,type:=ty,pos:=pos,after:=after,guard:=guard}).run P w=.ok (.value r) w':=λr w' hr=>by simp[execOp,resolve,aJ,cP,invoke,builtin,nr,hr]
        simp only[Q6] at h;split at h
        .rename_i xs a m lq bB nu;rw[nu] at hx;split at h
         .rename_i lu;rw[nu] at bB;exact Sk hH hu mK hi ec ft eu s5 ty hs hx bB lu h aR
         .cases h
        .cases h
    .cases hc
   .cases hc
  .split at hc
   .simp at hc;subst hc;simp[VOp.quiet] at hq
   .simp at hc;subst hc;simp[VOp.quiet] at hq
   .simp at hc;subst hc;simp[VOp.quiet] at hq
   .cases hc
  .split at hc
   .simp at hc;subst hc;simp[VOp.quiet] at hq
   .cases hc
  .cases hc
 case move x=>simp at hc;subst hc;simp[VOp.quiet] at hq
 case assign x=>simp at hc;subst hc;simp[VOp.quiet] at hq
 case pick c a b=>simp at hc;subst hc;simp[VOp.quiet] at hq
 case unOp=>simp at hc;subst hc;simp[VOp.quiet] at hq
 case extract=>simp at hc;subst hc;simp[VOp.quiet] at hq
 case nilCheck=>simp at hc;subst hc;simp[VOp.quiet] at hq
 all_goals
  repeat' first
   |(cases hc;done)
   |(simp at hc;subst hc;simp[VOp.quiet] at hq;done)
   |split at hc
 all_goals simp only[zJ,x4,reduceCtorEq,and_false,exists_false] at hc
 all_goals first
  |(obtain⟨_,_,rfl⟩:=hc;simp[VOp.quiet] at hq;done)
  |(obtain⟨_,_,hc⟩:=hc;simp at hc;subst hc;simp[VOp.quiet] at hq;done)
  |(obtain⟨_,_,_,_,hc⟩:=hc;simp at hc;subst hc;simp[VOp.quiet] at hq;done)
  |(obtain⟨_,_,_,_,_,_,hc⟩:=hc;simp at hc;subst hc;simp[VOp.quiet] at hq;done)
  |(obtain⟨d,_,hc⟩:=hc;cases d<;>simp at hc<;>subst hc<;>simp[VOp.quiet] at hq;done)
  |(obtain⟨_,_,_,_,hc⟩:=hc;split at hc<;>simp at hc;subst hc;simp[VOp.quiet] at hq;done)
end
end Go.V
namespace Go.V
open Go
section
variable {P:Program}{ρ:Plc}{M M':Heap}{w:World}{ev:Operand->Value}{env:Env}{v:Value}
theorem VRel.q0o {n:Nat}{c:Value}(h:VRel ρ n (.pointer none) c):c=.pointer none:=by cases h;rfl
theorem VRel.q1f {n:Nat}{a:Addr}{c:Value}(h:VRel ρ n (.pointer (some a)) c):∃ b,c=.pointer (some b):=by cases h<;>exact⟨_,rfl⟩
theorem VRel.q0u {n:Nat}{c:Value}(h:VRel ρ n (.map none) c):c=.map none:=by cases h;rfl
theorem VRel.q1i {n:Nat}{m:Nat}{c:Value}(h:VRel ρ n (.map (some m)) c):∃ r,c=.map (some r)/\m<n/\∀ p,ρ m=some p->r=p.blk:=by
 cases h with
 |map _ r hi h=>exact⟨r,rfl,hi,h⟩
theorem VRel.q0z {n:Nat}{c:Value}(h:VRel ρ n .nilFunc c):c=.nilFunc:=by cases h;rfl
theorem VRel.q1n {n:Nat}{f:Fn}{a b:Array Value}{c:Value}(h:VRel ρ n (.func f a b) c):∃ g a' b',c=.func g a' b':=by cases h<;>exact⟨_,_,_,rfl⟩
theorem VRel.q1r {n:Nat}{a:Addr}{l k:Nat}{c:Value}(h:VRel ρ n (.slice (some a) l k) c):∃ b k',c=.slice (some b) l k':=by cases h<;>exact⟨_,_,rfl⟩
theorem VRel.q0y {n:Nat}{l k:Nat}{c:Value}(h:VRel ρ n (.slice none l k) c):c=.slice none 0 0:=by cases h;rfl
theorem A7 (neg:Bool) (t:TypeId) (x y:Operand) (yt:TypeId) (ty:TypeId) (pos:String) (after:Array Edge) (dst:Option Tmp) (g:Option (Nat×Bool)) {a b:Value}{r:Bool}(hx:ev x=a) (hy:ev y=b)
  (hg:∀ op w',(eqGuard op t x y a b).run P w'=.ok () w') (h:∀ w',(binOp (if neg then .neq else .eql) t a b).run P w'=.ok (.bool (if neg then !r else r)) w') :
  Lm P ρ M w (.bool (if neg then !r else r)) (execOp ev ⟨dst,.binOp (if neg then .neq else .eql) t x y yt,ty,pos,after,g⟩):=by
 refine Qk (c:=.bool (if neg then !r else r)) (λw'=>?_) (.bool _);simp only[execOp,hx,hy];simp[hg,h]
theorem RT (op:BinOp) (t:TypeId) (x y:Operand) {a b:Value}(h:(∀ p q,¬ (a=.nilIface/\b=.nilIface)/\¬ (a=.agg p/\b=.agg q))) (w':World):(eqGuard op t x y a b).run P w'=.ok () w':=by
 have key:∀ op,op=.eql\/op=.neq->(eqGuard op t x y a b).run P w'=.ok () w':=by
  intro op ho;unfold eqGuard;rcases ho with rfl|rfl
  all_goals
   simp only[xW,zA,if_false];split
   .exact absurd ⟨rfl,rfl⟩ (h #[] #[]).1
   .rename_i p q;exact absurd ⟨rfl,rfl⟩ (h p q).2
   .rfl
 cases op<;>first|exact key _ (.inl rfl)|exact key _ (.inr rfl)|rfl
theorem Jc {t:TypeId}{a b:Value}{r:Bool}(h:∀ d w',(Op.equalIn (d+1) t a b).run P w'=.ok r w')
  (hb:∀ neg:Bool,binOp (if neg then .neq else .eql) t a b=(do let r <-Op.equal t a b;pure (.bool (if neg then !r else r)))) (neg:Bool) (w':World) :
  (binOp (if neg then .neq else .eql) t a b).run P w'=.ok (.bool (if neg then !r else r)) w':=by
 rw[hb,zt];have:(Op.equal t a b).run P w'=.ok r w':=h 9999 w';rw[this];rfl
theorem Em {kd:Nat}{t:TypeId}{a b c d:Value}{r:Bool}(hH:HRel ρ M w) (hk:(kd=0/\∃ e i,P.underlying t=some (.pointer e)/\P.info? e=some i)\/(kd=1/\∃ e,P.underlying t=some (.slice e)) \/
   (kd=2/\∃ k e,P.underlying t=some (.map k e))\/(kd=3/\∃ p q s,P.underlying t=some (.func p q s)))
  (ha:VRel ρ M.n a c) (hb:VRel ρ M.n b d) (h:J6 kd a b M=some r):(∀ (neg:Bool) w',(binOp (if neg then .neq else .eql) t c d).run P w'=.ok (.bool (if neg then !r else r)) w')/\(∀ p q,¬ (c=.nilIface/\d=.nilIface)/\¬ (c=.agg p/\d=.agg q)):=by
 unfold J6 at h;split at h
 .obtain rfl:=ha.q0o;obtain rfl:=hb.q0o;simp at h;subst h;rcases hk with⟨_,e,i,h1,h2⟩|⟨h0,_⟩|⟨h0,_⟩|⟨h0,_⟩<;>try (cases h0)
  exact⟨Jc (λd w'=>by simp[Op.equalIn,Q0 h1]) (λneg=>by cases neg<;>rfl),by simp⟩
 .obtain rfl:=ha.q0o;obtain⟨q,rfl⟩:=hb.q1f;simp at h;subst h;rcases hk with⟨_,e,i,h1,h2⟩|⟨h0,_⟩|⟨h0,_⟩|⟨h0,_⟩<;>try (cases h0)
  exact⟨Jc (λd w'=>by simp[Op.equalIn,Q0 h1]) (λneg=>by cases neg<;>rfl),by simp⟩
 .obtain⟨q,rfl⟩:=ha.q1f;obtain rfl:=hb.q0o;simp at h;subst h;rcases hk with⟨_,e,i,h1,h2⟩|⟨h0,_⟩|⟨h0,_⟩|⟨h0,_⟩<;>try (cases h0)
  exact⟨Jc (λd w'=>by simp[Op.equalIn,Q0 h1]) (λneg=>by cases neg<;>rfl),by simp⟩
 .rename_i i o j q;split at h
  .rename_i hc;obtain⟨rfl,rfl,hs⟩:=hc;simp at h;subst h;rcases hk with⟨_,e,i',h1,h2⟩|⟨h0,_⟩|⟨h0,_⟩|⟨h0,_⟩<;>try (cases h0)
   obtain⟨blk,aB⟩:=Option.isSome_iff_exists.1 hs;obtain⟨p,hp,_⟩:=hH.live _ _ aB;obtain⟨_,_,rfl⟩:=ha.q0w hp;obtain⟨_,_,rfl⟩:=hb.q0w hp;exact⟨Jc (λd w'=>by simp[Op.equalIn,Q0 h1,sizeOf,typeInfo,h2,run_sameAddr_same]) (λneg=>by cases neg<;>rfl),by simp⟩
  .cases h
 .obtain rfl:=ha.q0y;obtain rfl:=hb.q0y;simp at h;subst h;rcases hk with⟨h0,_⟩|⟨_,e,h1⟩|⟨h0,_⟩|⟨h0,_⟩<;>try (cases h0)
  exact⟨Jc (λd w'=>by simp[Op.equalIn,Q0 h1]) (λneg=>by cases neg<;>rfl),by simp⟩
 .obtain rfl:=ha.q0y;obtain⟨_,_,rfl⟩:=hb.q1r;simp at h;subst h;rcases hk with⟨h0,_⟩|⟨_,e,h1⟩|⟨h0,_⟩|⟨h0,_⟩<;>try (cases h0)
  exact⟨Jc (λd w'=>by simp[Op.equalIn,Q0 h1]) (λneg=>by cases neg<;>rfl),by simp⟩
 .obtain⟨_,_,rfl⟩:=ha.q1r;obtain rfl:=hb.q0y;simp at h;subst h;rcases hk with⟨h0,_⟩|⟨_,e,h1⟩|⟨h0,_⟩|⟨h0,_⟩<;>try (cases h0)
  exact⟨Jc (λd w'=>by simp[Op.equalIn,Q0 h1]) (λneg=>by cases neg<;>rfl),by simp⟩
 .obtain rfl:=ha.q0u;obtain rfl:=hb.q0u;simp at h;subst h;rcases hk with⟨h0,_⟩|⟨h0,_⟩|⟨_,k,e,h1⟩|⟨h0,_⟩<;>try (cases h0)
  exact⟨Jc (λd w'=>by simp[Op.equalIn,Q0 h1]) (λneg=>by cases neg<;>rfl),by simp⟩
 .obtain rfl:=ha.q0u;obtain⟨_,rfl,_⟩:=hb.q1i;simp at h;subst h;rcases hk with⟨h0,_⟩|⟨h0,_⟩|⟨_,k,e,h1⟩|⟨h0,_⟩<;>try (cases h0)
  exact⟨Jc (λd w'=>by simp[Op.equalIn,Q0 h1]) (λneg=>by cases neg<;>rfl),by simp⟩
 .obtain⟨_,rfl,_⟩:=ha.q1i;obtain rfl:=hb.q0u;simp at h;subst h;rcases hk with⟨h0,_⟩|⟨h0,_⟩|⟨_,k,e,h1⟩|⟨h0,_⟩<;>try (cases h0)
  exact⟨Jc (λd w'=>by simp[Op.equalIn,Q0 h1]) (λneg=>by cases neg<;>rfl),by simp⟩
 .obtain rfl:=ha.q0z;obtain rfl:=hb.q0z;simp at h;subst h;rcases hk with⟨h0,_⟩|⟨h0,_⟩|⟨h0,_⟩|⟨_,p,q,s,h1⟩<;>try (cases h0)
  exact⟨Jc (λd w'=>by simp[Op.equalIn,Q0 h1]) (λneg=>by cases neg<;>rfl),by simp⟩
 .obtain rfl:=ha.q0z;obtain⟨_,_,_,rfl⟩:=hb.q1n;simp at h;subst h;rcases hk with⟨h0,_⟩|⟨h0,_⟩|⟨h0,_⟩|⟨_,p,q,s,h1⟩<;>try (cases h0)
  exact⟨Jc (λd w'=>by simp[Op.equalIn,Q0 h1]) (λneg=>by cases neg<;>rfl),by simp⟩
 .obtain⟨_,_,_,rfl⟩:=ha.q1n;obtain rfl:=hb.q0z;simp at h;subst h;rcases hk with⟨h0,_⟩|⟨h0,_⟩|⟨h0,_⟩|⟨_,p,q,s,h1⟩<;>try (cases h0)
  exact⟨Jc (λd w'=>by simp[Op.equalIn,Q0 h1]) (λneg=>by cases neg<;>rfl),by simp⟩
 .cases h
def Q7u (ρ:Plc) (n:Nat) (e:MapEntry) (kv:Jo):Prop:=e.key=kv.1/\e.born=kv.2.2/\VRel ρ n kv.2.1 e.val
def LERel (ρ:Plc) (n:Nat) (E:List MapEntry) (es:List Jo):Prop:=E.length=es.length/\∀ (k:Nat) (e:MapEntry) (kv:Jo),E[k]?=some e->es[k]?=some kv->Q7u ρ n e kv
theorem LERel.cons_inv {n:Nat}{E:List MapEntry}{es:List Jo}{kv:Jo}(h:LERel ρ n E (kv::es)):∃ e E',E=e::E'/\Q7u ρ n e kv/\LERel ρ n E' es:=by
 cases E with
 |nil=>have:=h.1;simp at this
 |cons e E'=>exact⟨e,E',rfl,h.2 0 e kv rfl rfl,by have:=h.1;simpa using this,λk a b ha hb=>h.2 (k+1) a b (by simpa using ha) (by simpa using hb)⟩
theorem ORel.q0q {n:Nat}{es:List Jo}{clock:Nat}{O:Obj}:ORel ρ n (.map es clock) O<->∃ entries,O=.map entries clock/\LERel ρ n entries.toList es:=by
 constructor
 .rintro⟨entries,h1,h2,h3⟩;refine⟨entries,h1,by simpa using h2,λk e kv he dx=>?_⟩;obtain⟨e',h4,h5,h6,h7⟩:=h3 k kv dx;have:e=e':=by
   rw[Array.getElem?_toList] at he;exact osj (he.symm.trans h4)
  subst this;exact⟨h5,h6,h7⟩
 .rintro⟨entries,h1,h2,h3⟩;refine⟨entries,h1,by simpa using h2,λk kv dx=>?_⟩;have hk:k<es.length:=(z7.1 dx).1;have m_:k<entries.toList.length:=by omega
  obtain⟨h4,h5,h6⟩:=h3 k entries.toList[k] kv (z3 m_) dx;exact⟨entries.toList[k],by rw[<-Array.getElem?_toList];exact z3 m_,h4,h5,h6⟩
theorem Xw:∀ {s:List MK}{l:List Value},fits s l=true->l.length=s.length
 |[],[],_=>rfl
 |_::s,_::l,h=>by simp only[fits,z2] at h;simp[Xw h.2]
 |[],_::_,h=>by cases h
 |_::_,[],h=>by cases h
theorem Ue:∀ {s r:List MK}{l:List Value},fits (s++r) l=true->fits s (l.take s.length)=true/\fits r (l.drop s.length)=true
 |[],r,l,h=>by simpa [fits] using h
 |k::s,r,[],h=>by cases h
 |k::s,r,v::l,h=>by simp only[zY,fits,z2] at h;obtain⟨h1,h2⟩:=Ue h.2;simp only[zP,wb,wk,fits,z2];exact⟨⟨h.1,h1⟩,h2⟩
theorem ND:∀ (n:Nat) (l m:List Value),l.length=m.length->Ql l m=(Ql (l.take n) (m.take n)&&Ql (l.drop n) (m.drop n))
 |0,l,m,_=>by simp[Ql]
 |n+1,[],[],_=>by simp[Ql]
 |n+1,a::l,b::m,h=>by simp only[Ql,wb,wk];rw[ND n l m (by simpa using h),Bool.and_assoc]
 |n+1,[],_::_,h=>by simp at h
 |n+1,_::_,[],h=>by simp at h
def mkT (P:Program) (t:TypeId) (cs:List Value):Value:=match P.underlying t with
 |some (.struct _)=>.agg cs.toArray
 |some (.array _ _)=>.agg cs.toArray
 |_=>cs.headD undef
theorem M5 {m:Nat}{t:TypeId}{s:List MK}(hs:shp P m t=some s) (hc:P.cellsOf t=s.length) {xs:Array Value}{off:Nat}(hf:fits s ((xs.toList.drop off).take s.length)=true) (w:World) :
  (part t xs off).run P w=.ok (mkT P t ((xs.toList.drop off).take s.length)) w:=by
 cases m with
 |zero=>simp[shp] at hs
 |succ m =>
  simp only[shp] at hs;have plain:∀ kd,P.underlying t=some kd->(∀ n e,kd≠.array n e)->(∀ fs,kd≠.struct fs)->s.length=1->(part t xs off).run P w=.ok (mkT P t ((xs.toList.drop off).take s.length)) w:=λkd hu h1 h2 h3=>by
   have hl:=Xw hf;rw[h3] at hl |-;have ah:off<xs.size:=by rw[xV,xM] at hl;simp at hl;omega
   have e:(xs.toList.drop off).take 1=[xs[off]]:=by rw[List.drop_eq_getElem_cons (by simpa using ah)];simp
   rw[e];have:mkT P t [xs[off]]=xs[off]:=by
    unfold mkT;split
    .rename_i fs cw;rw[hu] at cw;exact absurd (osj cw) (h2 _)
    .rename_i n e cw;rw[hu] at cw;exact absurd (osj cw) (h1 _ _)
    .rfl
   rw[this];cases kd<;>first|(exact absurd rfl (h1 _ _))|(exact absurd rfl (h2 _))|simp[part,isAgg,run_underlying hu,xh ah]
  have agg:∀ kd,P.underlying t=some kd->((∃ n e,kd=.array n e)\/∃ fs,kd=.struct fs)->(part t xs off).run P w=.ok (mkT P t ((xs.toList.drop off).take s.length)) w:=λkd hu hk=>by
   obtain⟨i,hi⟩:=info_of_underlying hu;have hl:(xs.extract off (off+P.cellsOf t))=((xs.toList.drop off).take s.length).toArray:=by apply Array.toList_inj.1;rw[Array.toList_extract,hc];simp[List.extract]
   rcases hk with⟨n,e,rfl⟩|⟨fs,rfl⟩<;>simp[part,isAgg,run_underlying hu,run_sizeOf w hi,hl,mkT,hu]
  cases hu:P.underlying t with
  |none=>rw[hu] at hs;cases hs
  |some kd =>
   rw[hu] at hs;cases kd
   case bool=>obtain rfl:=osj hs;exact plain _ hu (by simp) (by simp) rfl
   case int q=>obtain rfl:=osj hs;exact plain _ hu (by simp) (by simp) rfl
   case string=>obtain rfl:=osj hs;exact plain _ hu (by simp) (by simp) rfl
   case array n e=>exact agg _ hu (.inl ⟨_,_,rfl⟩)
   case struct fs=>exact agg _ hu (.inr ⟨_,rfl⟩)
   all_goals cases hs
theorem CS {g:TypeId->Option (List MK)}{m d:Nat}(hg:g=shp P m) (ih:∀ t s,shp P m t=some s->∀ (w:World) (cs ds:List Value),fits s cs=true->fits s ds=true->(Op.equalIn (d+m) t (mkT P t cs) (mkT P t ds)).run P w=.ok (Ql cs ds) w) {xs ys:Array Value}(w:World) :
  ∀ (fs:List Field) (off:Nat) (ss:List MK),LW P g fs off=some ss->fits ss (xs.toList.drop off)=true->fits ss (ys.toList.drop off)=true->(Op.eqFields (d+m) xs ys fs).run P w=.ok (Ql (xs.toList.drop off) (ys.toList.drop off)) w
 |[],off,ss,h,h1,h2=>by simp only[LW,xd] at h;subst h;have e1:=Xw h1;have e2:=Xw h2;rw[List.eq_nil_of_length_eq_zero e1];simp[Op.eqFields,Ql]
 |f::r,off,ss,h,h1,h2=>by
  simp only[LW] at h;split at h
  .rename_i hn;obtain⟨hn,rfl⟩:=hn;split at h
   .rename_i s hs;split at h
    .rename_i hc;obtain⟨q,hq,rfl⟩:=zo.1 h;obtain⟨a1,a2⟩:=Ue h1;obtain⟨b1,b2⟩:=Ue h2;rw[List.drop_drop] at a2 b2;rw[hg] at hs;have p1:=M5 hs hc a1 w;have p2:=M5 hs hc b1 w;have p3:=ih f.type s hs w _ _ a1 b1;have hr:=CS hg ih w r (f.offset+s.length) q hq a2 b2;rw[ND s.length _ _ (by rw[Xw h1,Xw h2]),List.drop_drop,List.drop_drop];simp only[Op.eqFields,hn,ne_eq,not_false_eq_true,zx,zt,p1,p2,p3,zd];cases hb:Ql (List.take s.length (List.drop f.offset xs.toList)) (List.take s.length (List.drop f.offset ys.toList)) with
     |false=>simp
     |true=>simpa using hr
    .cases h
   .cases h
  .cases h
theorem H_ {m d:Nat}{e:TypeId}{s:List MK}(hs:shp P m e=some s) (hc:P.cellsOf e=s.length) (ih:∀ (w:World) (cs ds:List Value),fits s cs=true->fits s ds=true->(Op.equalIn (d+m) e (mkT P e cs) (mkT P e ds)).run P w=.ok (Ql cs ds) w) {xs ys:Array Value}(w:World) :
  ∀ (k i:Nat),fits (List.replicate k s).flatten (xs.toList.drop (i*s.length))=true->fits (List.replicate k s).flatten (ys.toList.drop (i*s.length))=true->(Op.eqItems (d+m) e (P.cellsOf e) xs ys (List.range' i k)).run P w=.ok (Ql (xs.toList.drop (i*s.length)) (ys.toList.drop (i*s.length))) w
 |0,i,h1,h2=>by have e1:=Xw h1;have e2:=Xw h2;simp only[List.replicate_zero,List.flatten_nil,List.length_nil] at e1 e2;rw[List.eq_nil_of_length_eq_zero e1];simp[Op.eqItems,Ql]
 |k+1,i,h1,h2=>by
  rw[xt,List.flatten_cons] at h1 h2;obtain⟨a1,a2⟩:=Ue h1;obtain⟨b1,b2⟩:=Ue h2;rw[List.drop_drop,<-Nat.succ_mul] at a2 b2;have p1:=M5 hs hc a1 w;have p2:=M5 hs hc b1 w;have p3:=ih w _ _ a1 b1;have hr:=H_ hs hc ih w k (i+1) a2 b2;rw[ND s.length _ _ (by rw[Xw h1,Xw h2]),List.drop_drop,List.drop_drop,<-Nat.succ_mul];rw[hc] at hr |-;simp only[List.range'_succ,Op.eqItems,zt,p1,p2,p3,zd];cases hb:Ql (List.take s.length (List.drop (i*s.length) xs.toList)) (List.take s.length (List.drop (i*s.length) ys.toList)) with
  |false=>simp
  |true=>simpa using hr
theorem Ud (d:Nat):∀ (m:Nat) (t:TypeId) (s:List MK),shp P m t=some s->∀ (w:World) (cs ds:List Value),fits s cs=true->fits s ds=true->(Op.equalIn (d+m) t (mkT P t cs) (mkT P t ds)).run P w=.ok (Ql cs ds) w
 |0,t,s,h=>by simp[shp] at h
 |m+1,t,s,h=>by
  intro w cs ds h1 h2;simp only[shp] at h;have one:∀ {k:MK}{cs:List Value},fits [k] cs=true->∃ a,cs=[a]/\E5 k a=true:=λ{k cs} h=>by
   cases cs with
   |nil=>cases h
   |cons a l =>
    cases l with
    |nil=>exact⟨a,rfl,by simpa [fits] using h⟩
    |cons b l=>simp[fits] at h
  cases hu:P.underlying t with
  |none=>rw[hu] at h;cases h
  |some kd =>
   rw[hu] at h;cases kd
   case bool =>
    obtain rfl:=osj h;obtain⟨a,rfl,ha⟩:=one h1;obtain⟨b,rfl,hb⟩:=one h2;cases a<;>first|(cases ha;done)|skip
    cases b<;>first|(cases hb;done)|skip
    simp only[mkT,hu,List.headD_cons,Ql,Kg,xT];exact run_equalIn_bool' w (d+m) t _ _ hu
   case int q =>
    obtain rfl:=osj h;obtain⟨a,rfl,ha⟩:=one h1;obtain⟨b,rfl,hb⟩:=one h2;cases a<;>first|(cases ha;done)|skip
    cases b<;>first|(cases hb;done)|skip
    simp only[E5,zi] at ha hb;subst ha;subst hb;simp only[mkT,hu,List.headD_cons,Ql,Kg,xT];exact run_equalIn_int w (d+m) t _ _ _ _ hu
   case string =>
    obtain rfl:=osj h;obtain⟨a,rfl,ha⟩:=one h1;obtain⟨b,rfl,hb⟩:=one h2;cases a<;>first|(cases ha;done)|skip
    cases b<;>first|(cases hb;done)|skip
    simp only[mkT,hu,List.headD_cons,Ql,Kg,xT];rw[<-ByteArray.toList_eq,<-ByteArray.toList_eq];exact run_equalIn_string w (d+m) t _ _ hu
   case array n e =>
    simp only at h;split at h
    .rename_i s' a8;split at h
     .rename_i hc;obtain rfl:=osj h;obtain⟨i,hi⟩:∃ i,P.info? e=some i:=by
       cases m with
       |zero=>simp[shp] at a8
       |succ m =>
        simp only[shp] at a8;cases jo:P.underlying e with
        |none=>rw[jo] at a8;cases a8
        |some _=>exact info_of_underlying jo
      simp only[mkT,hu];rw[show d+(m+1)=(d+m)+1 from rfl,run_equalIn_array w (d+m) _ _ hu hi,List.range_eq_range'];have:=H_ (d:=d) a8 hc (Ud d m e s' a8) (xs:=cs.toArray) (ys:=ds.toArray) w n 0 (by simpa using h1) (by simpa using h2);simpa using this
     .cases h
    .cases h
   case struct fs =>
    simp only at h;split at h
    .cases h
    .rename_i aS;have pr:P.fieldsOf t=fs:=by simp[Program.fieldsOf,hu]
     simp only[mkT,hu];rw[show d+(m+1)=(d+m)+1 from rfl,run_equalIn_struct w (d+m) t _ _ (by rw[pr];exact hu) (by simpa using aS),pr];have:=CS (d:=d) rfl (Ud d m) (xs:=cs.toArray) (ys:=ds.toArray) w fs.toList 0 s h (by simpa using h1) (by simpa using h2);simpa using this
   all_goals cases h
theorem H3 {n:Nat}:∀ {s:List MK}{l m:List Value},fits s l=true->LRel ρ n l m->m=l
 |[],[],m,_,hr=>by have:=hr.1;cases m with|nil=>rfl|cons=>simp at this
 |k::s,v::l,[],_,hr=>by have:=hr.1;simp at this
 |k::s,v::l,c::m,h,hr=>by
  simp only[fits,z2] at h;have h0:=hr.2 0 v c rfl rfl;have e:c=v:=by cases k<;>cases v<;>first|(cases h.1;done)|(cases h0;rfl)
  have lx:LRel ρ n l m:=⟨by have:=hr.1;simpa using this,λi a b ha hb=>hr.2 (i+1) a b (by simpa using ha) (by simpa using hb)⟩;rw[e,H3 h.2 lx]
 |[],_::_,_,h,_=>by cases h
 |_::_,[],_,h,_=>by cases h
def Q0s (P:Program) (t:TypeId):MK->TypeDesc->Prop
 |.int k,d=>d=.int k
 |.string,d=>d=.string
 |.bool,d=>d=.bool
 |.agg s,d=>shp P 8 t=some s/\((∃ fs,d=.struct fs)\/∃ n e,d=.array n e)
theorem Nx {t:TypeId}{mk:MK}(h:SZ P t=some mk):∃ d,P.underlying t=some d/\Q0s P t mk d:=by
 unfold SZ at h;split at h
 .rename_i k hk;simp at h;subst h;exact⟨_,hk,rfl⟩
 .rename_i hk;simp at h;subst h;exact⟨_,hk,rfl⟩
 .rename_i hk;simp at h;subst h;exact⟨_,hk,rfl⟩
 .rename_i fs hk;obtain⟨s,hs,rfl⟩:=zo.1 h;exact⟨_,hk,hs,.inl ⟨fs,rfl⟩⟩
 .rename_i n e hk;obtain⟨s,hs,rfl⟩:=zo.1 h;exact⟨_,hk,hs,.inr ⟨n,e,rfl⟩⟩
 .cases h
theorem KQ {n:Nat}{v c:Value}(h:QN v=true) (hv:VRel ρ n v c):c=v:=by cases hv<;>first|rfl|(simp[QN,poison] at h)
theorem Hv {mk:MK}{k c:Value}{n:Nat}(h:Zk mk k=true) (hv:VRel ρ n k c):c=k:=by
 unfold Zk at h;split at h<;>first|(cases h;done)|(exact KQ rfl hv)|skip
 obtain⟨ds,rfl,hl⟩:=hv.q1k;have:=H3 h hl;congr 1;exact Array.toList_inj.1 this
def MK.plain:MK->Bool
 |.agg _=>false
 |_=>true
theorem ES {mk:MK}(hp:mk.plain=true) {t:TypeId}{d:TypeDesc}(hd:Q0s P t mk d) {a b:Value}(ha:Zk mk a=true) (hb:Zk mk b=true):Instr.sameNow d a b=some (XB a b):=by
 cases mk
 case agg=>cases hp
 all_goals
  cases a<;>first|(cases ha;done)|skip
  cases b<;>first|(cases hb;done)|skip
  simp only[Q0s] at hd;subst hd
 .simp[Zk] at ha hb;subst ha;subst hb;simp[Instr.sameNow,XB]
 .simp[Instr.sameNow,XB,beq_toListBytes,ByteArray.toList_eq]
 .simp[Instr.sameNow,XB]
theorem TV:∀ {s:List MK}{l m:List Value},fits s l=true->fits s m=true->Ql l m=true->((m.zip l).all λp=>Instr.sameBits 9999 p.1 p.2)=true
 |[],[],[],_,_,_=>rfl
 |k::s,a::l,b::m,h1,h2,h3=>by
  simp only[fits,Ql,z2] at h1 h2 h3;simp only[List.zip_cons_cons,zR,z2];refine⟨?_,TV h1.2 h2.2 h3.2⟩;obtain⟨h1,_⟩:=h1;obtain⟨h2,_⟩:=h2;obtain⟨h3,_⟩:=h3;cases k<;>cases a<;>first|(cases h1;done)|(cases b<;>first|(cases h2;done)|skip)
  .simp only[E5,zi] at h1 h2;subst h1;subst h2;simp only[Kg,zS] at h3;subst h3;simp[Instr.sameBits]
  .simp only[Kg,zS] at h3;simp[Instr.sameBits,beq_toListBytes,ByteArray.toList_eq,h3]
  .simp only[Kg,zS] at h3;subst h3;simp[Instr.sameBits]
 |[],_::_,_,h,_,_=>by cases h
 |[],[],_::_,_,h,_=>by cases h
 |_::_,[],_,h,_,_=>by cases h
 |_::_,_::_,[],_,h,_=>by cases h
theorem Gb {mk:MK}{a b:Value}(ha:Zk mk a=true) (hb:Zk mk b=true) (h:XB a b=true):Instr.sameBits 10000 b a=true:=by
 cases mk
 case agg s =>
  cases a<;>first|(cases ha;done)|skip
  cases b<;>first|(cases hb;done)|skip
  rename_i x y;simp only[Zk] at ha hb;simp only[XB] at h;simp only[Instr.sameBits,z2,zS];have h1:=Xw ha;have h2:=Xw hb;exact⟨by simp at h1 h2;omega,TV ha hb h⟩
 all_goals
  cases a<;>first|(cases ha;done)|skip
  cases b<;>first|(cases hb;done)|skip
 .simp[Zk] at ha hb;subst ha;subst hb;simp[XB] at h;subst h;simp[Instr.sameBits]
 .simp[XB] at h;simp[Instr.sameBits,beq_toListBytes,ByteArray.toList_eq,h]
 .simp[XB] at h;simp[Instr.sameBits,h]
theorem YI {t:TypeId}{d:TypeDesc}(hd:P.underlying t=some d) {a:Value}(hm:(∃ k,d=.int k)\/d=.string\/d=.bool) (e:Bool) (n:Nat) (w':World):(Instr.checkKey e (n+1) t a).run P w'=.ok () w':=by simp only[Instr.checkKey,zt,Q0 hd,zd];rcases hm with⟨k,rfl⟩|rfl|rfl<;>rfl
theorem CI {e:Bool}{g:TypeId->Option (List MK)}{m d:Nat}(hg:g=shp P m) (ih:∀ t s,shp P m t=some s->∀ (w:World) (cs:List Value),fits s cs=true->(Instr.checkKey e (d+m) t (mkT P t cs)).run P w=.ok () w) {xs:Array Value}(w:World) :
  ∀ (fs:List Field) (off:Nat) (ss:List MK),LW P g fs off=some ss->fits ss (xs.toList.drop off)=true->(forIn fs PUnit.unit λf (_:PUnit)=>(do
   if f.name≠"_" then Instr.checkKey e (d+m) f.type (<-part f.type xs f.offset)
   pure (ForInStep.yield PUnit.unit):Sem (ForInStep PUnit))).run P w=.ok PUnit.unit w
 |[],off,ss,h,h1=>by simp
 |f::r,off,ss,h,h1=>by
  simp only[LW] at h;split at h
  .rename_i hn;obtain⟨hn,rfl⟩:=hn;split at h
   .rename_i s hs;split at h
    .rename_i hc;obtain⟨q,hq,rfl⟩:=zo.1 h;obtain⟨a1,a2⟩:=Ue h1;rw[List.drop_drop] at a2;rw[hg] at hs;have p1:=M5 hs hc a1 w;have p3:=ih f.type s hs w _ a1;have hr:=CI hg ih w r (f.offset+s.length) q hq a2;simp only[List.forIn_cons,zt,hn,ne_eq,not_false_eq_true,zx,zd,p1,p3,x5];exact hr
    .cases h
   .cases h
  .cases h
theorem HE (e:Bool) (d:Nat):∀ (m:Nat) (t:TypeId) (s:List MK),shp P m t=some s->∀ (w:World) (cs:List Value),fits s cs=true->(Instr.checkKey e (d+m) t (mkT P t cs)).run P w=.ok () w
 |0,t,s,h=>by simp[shp] at h
 |m+1,t,s,h=>by
  intro w cs h1;simp only[shp] at h;cases hu:P.underlying t with
  |none=>rw[hu] at h;cases h
  |some kd =>
   rw[hu] at h;cases kd
   case bool=>rw[show d+(m+1)=(d+m)+1 from rfl];exact YI hu (by simp) e (d+m) w
   case int q=>rw[show d+(m+1)=(d+m)+1 from rfl];exact YI hu (by simp) e (d+m) w
   case string=>rw[show d+(m+1)=(d+m)+1 from rfl];exact YI hu (by simp) e (d+m) w
   case array n el =>
    simp only at h;split at h
    .rename_i s' a8;split at h
     .rename_i hc;obtain rfl:=osj h;obtain⟨i,hi⟩:∃ i,P.info? el=some i:=by
       cases m with
       |zero=>simp[shp] at a8
       |succ m =>
        simp only[shp] at a8;cases jo:P.underlying el with
        |none=>rw[jo] at a8;cases a8
        |some _=>exact info_of_underlying jo
      simp only[mkT,hu];rw[show d+(m+1)=(d+m)+1 from rfl,Instr.checkKey];simp only[zt,run_underlying hu,zd];simp only[Std.Legacy.Range.forIn_eq_forIn_range',Std.Legacy.Range.size,Nat.sub_zero,Nat.add_one_sub_one,Nat.div_one]
      have key:∀ (k i:Nat),fits (List.replicate k s').flatten (cs.drop (i*s'.length))=true->(forIn (List.range' i k) PUnit.unit λi (_:PUnit)=>(do
        Instr.checkKey e (d+m) el (<-part el cs.toArray (i*(<-sizeOf el)))
        pure (ForInStep.yield PUnit.unit):Sem (ForInStep PUnit))).run P w=.ok PUnit.unit w:=by
       intro k;induction k with
       |zero=>intro i _;simp
       |succ k s6 =>intro i hf;rw[xt,List.flatten_cons] at hf;obtain⟨a1,a2⟩:=Ue hf;rw[List.drop_drop,<-Nat.succ_mul] at a2;have p1:=M5 (xs:=cs.toArray) (off:=i*s'.length) a8 hc (by simpa using a1) w;have p2:=HE e d m el s' a8 w _ a1;have hr:=s6 (i+1) a2;simp only[List.range'_succ,List.forIn_cons,zt,run_sizeOf w hi,hc,zd,p1,p2,x5];exact hr
      have:=key n 0 (by simpa using h1);simp at this |-;rw[this];rfl
     .cases h
    .cases h
   case struct fs =>
    simp only at h;split at h
    .cases h
    .simp only[mkT,hu];rw[show d+(m+1)=(d+m)+1 from rfl,Instr.checkKey];simp only[zt,run_underlying hu,zd];rw[<-Array.forIn_toList];have:=CI (e:=e) (d:=d) rfl (HE e d m) (xs:=cs.toArray) w fs.toList 0 s h (by simpa using h1);simp at this |-;rw[this];rfl
   all_goals cases h
theorem Ch {t:TypeId}{d:TypeDesc}(hd:P.underlying t=some d) (hk:(∃ fs,d=.struct fs)\/∃ n e,d=.array n e) (a:Array Value):mkT P t a.toList=.agg a:=by unfold mkT;rcases hk with⟨fs,rfl⟩|⟨n,e,rfl⟩<;>simp[hd]
theorem Zq {mk:MK}{t:TypeId}{d:TypeDesc}(hd:P.underlying t=some d) (hm:Q0s P t mk d) {a:Value}(ha:Zk mk a=true) (e:Bool) (w':World):(Instr.checkKey e 10000 t a).run P w'=.ok () w':=by
 cases mk
 case agg s =>
  cases a<;>first|(cases ha;done)|skip
  rename_i x;have:=HE (P:=P) e 9992 8 t s hm.1 w' x.toList ha;rw[Ch hd hm.2] at this;exact this
 all_goals (cases a<;>first|(cases ha;done)|(simp only[Q0s] at hm;subst hm;exact YI hd (by simp) e 9999 w'))
theorem Ed {mk:MK}(hp:mk.plain=true) {t:TypeId}{d:TypeDesc}(hd:Q0s P t mk d) {k:Value}(hk:Zk mk k=true) (nv:Value) (c:Nat) {n:Nat}:∀ (es:List Jo) (E:List MapEntry) (i:Nat),LERel ρ n E es->es.all (λe=>Zk mk e.1)=true ->
  (Qf k es=none/\Instr.findNow d k E i=some none/\Qq k nv c es=(es++[(k,nv,c)],c+1)) \/
  (∃ j e e',Qf k es=some e/\es[j]?=some e/\E[j]?=some e'/\Instr.findNow d k E i=some (some (i+j,e'.val))/\XB k e.1=true/\Qq k nv c es=(es.set j (k,nv,e.2.2),c)):=by
 intro es;induction es with
 |nil =>
  intro E i hE _;have:E=[]:=by have:=hE.1;simpa using this
  subst this;exact .inl ⟨rfl,rfl,rfl⟩
 |cons kv es ih =>
  intro E i hE ae;obtain⟨e,E',rfl,he,bZ⟩:=hE.cons_inv;simp only[zR,z2] at ae;have hs:Instr.sameNow d k e.key=some (XB k kv.1):=by rw[he.1];exact ES hp hd hk ae.1
  cases hq:XB k kv.1 with
  |true =>refine .inr ⟨0,kv,e,by simp[Qf,hq],rfl,rfl,?_,hq,by simp[Qq,hq]⟩;simp[Instr.findNow,hs,hq]
  |false =>
   rcases ih E' (i+1) bZ ae.2 with⟨h1,h2,h3⟩|⟨j,a,a',h1,h2,h3,h4,h5,h6⟩
   .refine .inl ⟨by simp[Qf,hq,h1],by simp[Instr.findNow,hs,hq,h2],by simp[Qq,hq,h3]⟩
   .refine .inr ⟨j+1,a,a',by simp[Qf,hq,h1],by simpa using h2,by simpa using h3,?_,h5,by simp[Qq,hq,h6]⟩;simp[Instr.findNow,hs,hq,h4];omega
theorem G7 {t:TypeId}{d:TypeDesc}(hd:P.underlying t=some d) {k:Value}{E:List MapEntry}{r:Option (Nat×Value)}(h:Instr.findNow d k E 0=some r) (w':World):(Instr.findKey t k E).run P w'=.ok r w':=by simp[Instr.findKey,Q0 hd,h]
theorem EA {s:List MK}{t:TypeId}{d:TypeDesc}(hu:P.underlying t=some d) (hd:Q0s P t (.agg s) d) {k:Value}(hk:Zk (.agg s) k=true) (nv:Value) (c:Nat) {n:Nat}:∀ (es:List Jo) (E:List MapEntry) (i:Nat),LERel ρ n E es->es.all (λe=>Zk (.agg s) e.1)=true ->
  (Qf k es=none/\(∀ w',(Instr.findAsking t k E i).run P w'=.ok none w')/\Qq k nv c es=(es++[(k,nv,c)],c+1)) \/
  (∃ j e e',Qf k es=some e/\es[j]?=some e/\E[j]?=some e'/\(∀ w',(Instr.findAsking t k E i).run P w'=.ok (some (i+j,e'.val)) w')/\XB k e.1=true/\Qq k nv c es=(es.set j (k,nv,e.2.2),c)):=by
 intro es;induction es with
 |nil =>
  intro E i hE _;have:E=[]:=by have:=hE.1;simpa using this
  subst this;exact .inl ⟨rfl,λw'=>by simp[Instr.findAsking],rfl⟩
 |cons kv es ih =>
  intro E i hE ae;obtain⟨e,E',rfl,he,bZ⟩:=hE.cons_inv;simp only[zR,z2] at ae;have hs:∀ w',(Op.equal t k e.key).run P w'=.ok (XB k kv.1) w':=λw'=>by
   rw[he.1];have h1:=ae.1;cases k<;>first|(cases hk;done)|skip
   rename_i x;generalize dx:kv.1=y at h1 |-;cases y<;>first|(cases h1;done)|skip
   rename_i y;have:=Ud 9992 8 t s hd.1 w' x.toList y.toList hk h1;rw[Ch hu hd.2,Ch hu hd.2] at this;exact this
  cases hq:XB k kv.1 with
  |true =>refine .inr ⟨0,kv,e,by simp[Qf,hq],rfl,rfl,λw'=>?_,hq,by simp[Qq,hq]⟩;simp[Instr.findAsking,hs,hq]
  |false =>
   rcases ih E' (i+1) bZ ae.2 with⟨h1,h2,h3⟩|⟨j,a,a',h1,h2,h3,h4,h5,h6⟩
   .refine .inl ⟨by simp[Qf,hq,h1],λw'=>by simp[Instr.findAsking,hs,hq,h2],by simp[Qq,hq,h3]⟩
   .refine .inr ⟨j+1,a,a',by simp[Qf,hq,h1],by simpa using h2,by simpa using h3,λw'=>?_,h5,by simp[Qq,hq,h6]⟩;simp[Instr.findAsking,hs,hq,h4];omega
theorem LO {t:TypeId}{s:List MK}{d:TypeDesc}(hd:Q0s P t (.agg s) d) {k:Value}{e:MapEntry}{E:List MapEntry}{i:Nat}:Instr.findNow d k (e::E) i=none:=by rcases hd.2 with⟨fs,rfl⟩|⟨n,el,rfl⟩<;>simp[Instr.findNow,Instr.sameNow]
theorem K1 {mk:MK}{t:TypeId}{d:TypeDesc}(hu:P.underlying t=some d) (hd:Q0s P t mk d) {k:Value}(hk:Zk mk k=true) (nv:Value) (c:Nat) {n:Nat}(es:List Jo) (E:List MapEntry) (hE:LERel ρ n E es) (ae:es.all (λe=>Zk mk e.1)=true) :
  (Qf k es=none/\(∀ w',(Instr.findKey t k E).run P w'=.ok none w')/\Qq k nv c es=(es++[(k,nv,c)],c+1)) \/
  (∃ j e e',Qf k es=some e/\es[j]?=some e/\E[j]?=some e'/\(∀ w',(Instr.findKey t k E).run P w'=.ok (some (0+j,e'.val)) w')/\XB k e.1=true/\Qq k nv c es=(es.set j (k,nv,e.2.2),c)):=by
 cases hp:mk.plain with
 |true =>
  rcases Ed hp hd hk nv c es E 0 hE ae with⟨h1,h2,h3⟩|⟨j,a,a',h1,h2,h3,h4,h5,h6⟩
  .exact .inl ⟨h1,G7 hu h2,h3⟩
  .exact .inr ⟨j,a,a',h1,h2,h3,G7 hu h4,h5,h6⟩
 |false =>
  cases mk with
  |agg s =>
   have e1:∀ w',(Instr.findKey t k E).run P w'=(Instr.findAsking t k E 0).run P w':=λw'=>by
    cases E with
    |nil=>simp[Instr.findKey,Q0 hu,Instr.findNow,Instr.findAsking]
    |cons e E=>simp[Instr.findKey,Q0 hu,LO hd]
   rcases EA hu hd hk nv c es E 0 hE ae with⟨h1,h2,h3⟩|⟨j,a,a',h1,h2,h3,h4,h5,h6⟩
   .exact .inl ⟨h1,λw'=>by rw[e1];exact h2 w',h3⟩
   .exact .inr ⟨j,a,a',h1,h2,h3,λw'=>by rw[e1];exact h4 w',h5,h6⟩
  |_=>cases hp
theorem Xk {m:Nat}{es:List Jo}{clock:Nat}{wr:Bool}(h:M.mapAt m=some (es,clock,wr)):M.get m=some (.obj (.map es clock) wr):=by
 unfold Heap.mapAt at h;split at h
 .rename_i he;simp at h;obtain⟨rfl,rfl,rfl⟩:=h;exact he
 .cases h
theorem Xm (hH:HRel ρ M w) {m:Nat}{es:List Jo}{clock:Nat}{wr:Bool}(h:M.mapAt m=some (es,clock,wr)) {c:Value}(hv:VRel ρ M.n (.map (some m)) c) :
  ∃ p entries,c=.map (some p.blk)/\ρ m=some p/\w.heap[p.blk]?=some (.map entries clock)/\LERel ρ M.n entries.toList es:=by
 obtain⟨p,hp,_,O,h1,h2⟩:=hH.live m _ (Xk h);obtain⟨entries,rfl,h3⟩:=ORel.q0q.1 h2;obtain⟨r,rfl,_,hr⟩:=hv.q1i;exact⟨p,entries,by rw[hr p hp],hp,h1,h3⟩
theorem Qv {w':World}{r:Nat}{O:Obj}(h:w'.heap[r]?=some O) (hc:∀ c e f,O≠.cells c e f):(getObj r).run P w'=.ok O w':=by cases O<;>first|(exact absurd rfl (hc _ _ _))|simp[getObj,Sem.run,h]
theorem QJ {w':World}{r:Nat}{O O':Obj}(h:w'.heap[r]?=some O) (hc:∀ c e f,O≠.cells c e f):(setObj r O').run P w'=.ok () (Pk w' r O'):=by cases O<;>first|(exact absurd rfl (hc _ _ _))|simp[setObj,Sem.run,h,Pk]
theorem TF {xs:List Value}{s:ByteArray}(h:B9 xs=some s):∃ ns:List Int,xs=ns.map (Value.int .u8)/\s=⟨(ns.map λn=>n.toNat.toUInt8).toArray⟩:=by
 unfold B9 at h;rw[zo] at h;obtain⟨bs,h1,rfl⟩:=h;have key:∀ (xs:List Value) (bs:List UInt8),xs.mapM Cw=some bs->∃ ns:List Int,xs=ns.map (Value.int .u8)/\bs=ns.map λn=>n.toNat.toUInt8:=by
  intro xs;induction xs with
  |nil=>intro bs h;simp at h;subst h;exact⟨[],rfl,rfl⟩
  |cons x xs ih =>
   intro bs h;rw[xk] at h;cases hx:Cw x with
   |none=>simp[hx] at h
   |some b =>
    cases hm:xs.mapM Cw with
    |none=>simp[hx,hm] at h
    |some vd =>
     simp[hx,hm] at h;obtain⟨ns,h1,h2⟩:=ih _ hm;unfold Cw at hx;split at hx
     .rename_i n;simp at hx;exact⟨n::ns,by simp[h1],by rw[<-h,h2,<-hx];rfl⟩
     .cases hx
 obtain⟨ns,h2,h3⟩:=key xs bs h1;exact⟨ns,h2,by rw[h3]⟩
theorem Q15 {n:Nat}{ns:List Int}{us:List Value}(h:LRel ρ n (ns.map (Value.int .u8)) us):us=ns.map (Value.int .u8):=by
 apply zT;intro i;cases hi:(ns.map (Value.int .u8))[i]? with
 |none =>have h1:(ns.map (Value.int .u8)).length<=i:=List.getElem?_eq_none_iff.1 hi;exact List.getElem?_eq_none_iff.2 (by rw[<-h.1];exact h1)
 |some v =>
  obtain⟨c,hc,hv⟩:=h.get hi;rw[hc];rw[zQ] at hi;cases hn:ns[i]? with
  |none=>rw[hn] at hi;cases hi
  |some x=>rw[hn] at hi;obtain rfl:=osj hi;rw[hv.q0h]
theorem EW (ns:List Int):∀ (acc:ByteArray),ns.foldl (λr n=>r.push (UInt8.ofNat n.toNat)) acc=⟨acc.data++(ns.map λn=>n.toNat.toUInt8).toArray⟩:=by
 induction ns with
 |nil=>intro acc;simp
 |cons n ns ih =>intro acc;rw[w4,ih];apply ByteArray.ext;simp[ByteArray.push]
theorem OT {n:Nat}(b:Nat):∀ (es:List Jo) (E:List MapEntry),LERel ρ n E es->∀ e,es.find? (λe=>e.2.2==b)=some e->∃ e',E.find? (λx=>x.born==b)=some e'/\Q7u ρ n e' e:=by
 intro es;induction es with
 |nil=>intro E _ e h;simp at h
 |cons kv es ih =>
  intro E hE e h;obtain⟨x,E',rfl,hx,bZ⟩:=hE.cons_inv;cases hb:kv.2.2==b with
  |true =>simp only[List.find?_cons,hb] at h;obtain rfl:=osj h;exact⟨x,by simp only[List.find?_cons,hx.2.1,hb],hx⟩
  |false =>simp only[List.find?_cons,hb] at h;obtain⟨e',h1,h2⟩:=ih E' bZ e h;exact⟨e',by simp only[List.find?_cons,hx.2.1,hb];exact h1,h2⟩
theorem EF {u:TypeId}(hc:P.cellsOf u≠0) (n off:Nat) (h0:off=0) (hn:P.cellsOf u<=n):liesAt P P.depth u (n / P.cellsOf u) off u 1=true:=by have hd:P.depth=(2*(P.types.size+Made.depth)+1)+1:=rfl;have h1:1<=n / P.cellsOf u:=(Nat.one_le_div_iff (by omega)).2 hn;subst h0;rw[hd];simp only[liesAt,zp];left;rw[hd];simp[rowAt,hc,sameLayout,h1]
set_option maxHeartbeats 1000000 in
theorem L5 {o:Oper}{xo:XOp}(hc:Tt P o.op=some xo) (hq:xo.quiet=true) (hH:HRel ρ M w) (hE:∀ x,X6 x=true->VRel ρ M.n (Q3 env x) (ev x))
  (h:Zc xo (Q3 env) M=some (v,M')):M'=M/\Lm P ρ M w v (execOp ev o):=by
 obtain⟨dst,op,ty,pos,after,guard⟩:=o;simp only at hc;unfold Tt at hc;split at hc
 .cases hc
 rename_i ai;simp only[xZ,xQ] at ai;cases op<;>simp only[Op.operands] at ai hc
 case binOp jl t x y yt =>
  simp at ai;have hx:=hE x ai.1;have hy:=hE y ai.2
  have key:∀ (kd:Nat) (neg:Bool),jl=(if neg then .neq else .eql)->((kd=0/\∃ e i,P.underlying t=some (.pointer e)/\P.info? e=some i)\/(kd=1/\∃ e,P.underlying t=some (.slice e)) \/
   (kd=2/\∃ k e,P.underlying t=some (.map k e))\/(kd=3/\∃ p q s,P.underlying t=some (.func p q s)))->xo=.eqNil kd neg x y->M'=M/\Lm P ρ M w v (execOp ev ⟨dst,.binOp jl t x y yt,ty,pos,after,guard⟩):=by
   intro kd neg ly hk mL;subst mL;simp only[Zc] at h;split at h
   .rename_i r hs;simp at h;obtain⟨rfl,rfl⟩:=h;obtain⟨h1,h2⟩:=Em hH hk hx hy hs;rw[ly];exact⟨rfl,A7 neg t x y yt ty pos after dst guard rfl rfl (λop w'=>RT op t x y h2 w') (h1 neg)⟩
   .cases h
  have jx:∀ (neg:Bool),jl=(if neg then .neq else .eql)->((∃ fs,P.underlying t=some (.struct fs))\/∃ n e,P.underlying t=some (.array n e))->T4 P neg t x y=some xo->M'=M/\Lm P ρ M w v (execOp ev ⟨dst,.binOp jl t x y yt,ty,pos,after,guard⟩):=by
   intro neg ly hk mL;unfold T4 at mL;split at mL
   .cases mL
   .rename_i p_;obtain⟨s,hs,rfl⟩:=zo.1 mL;simp only[Zc] at h;split at h
    .rename_i a b ha hb;split at h
     .rename_i fv;simp at h;obtain⟨rfl,rfl⟩:=h;rw[ha] at hx;rw[hb] at hy;obtain⟨ca,s7,nw⟩:=hx.q1k;obtain⟨cb,s8,pz⟩:=hy.q1k;have ea:=H3 fv.1 nw;have eb:=H3 fv.2 pz;have e1:mkT P t a.toList=.agg a:=by
       unfold mkT;rcases hk with⟨fs,hu⟩|⟨n,e,hu⟩<;>simp[hu]
      have e2:mkT P t b.toList=.agg b:=by unfold mkT;rcases hk with⟨fs,hu⟩|⟨n,e,hu⟩<;>simp[hu]
      have aR:=λw'=>Ud 9992 8 t s hs w' a.toList b.toList fv.1 fv.2;rw[e1,e2] at aR;have s9:ev x=.agg a:=by rw[s7];congr 1;rw[<-Array.toList_inj];simpa using ea
      have s_:ev y=.agg b:=by rw[s8];congr 1;rw[<-Array.toList_inj];simpa using eb
      rw[ly];refine⟨rfl,A7 neg t x y yt ty pos after dst guard s9 s_ (λop w'=>run_eqGuard_agg w' op t x y a b (by simpa using p_)) (λw'=>?_)⟩;have hr:=aR w';cases neg
      .simp only[zA,if_false];rw[run_eql_struct w' t a b,show (10000:Nat)=9992+8 from rfl,hr];rfl
      .simp only[zx];rw[run_neq_struct w' t a b,show (10000:Nat)=9992+8 from rfl,hr];rfl
     .cases h
    .cases h
  split at hc
  .rename_i e hu;cases hi:P.info? e with
   |none=>simp[hi] at hc
   |some i =>simp[hi] at hc;exact key 0 false rfl (.inl ⟨rfl,e,i,hu,hi⟩) hc.2.symm
  .rename_i e hu;cases hi:P.info? e with
   |none=>simp[hi] at hc
   |some i =>simp[hi] at hc;exact key 0 true rfl (.inl ⟨rfl,e,i,hu,hi⟩) hc.2.symm
  .rename_i e hu;simp at hc;exact key 1 false rfl (.inr (.inl ⟨rfl,e,hu⟩)) hc.symm
  .rename_i k e hu;simp at hc;exact key 2 false rfl (.inr (.inr (.inl ⟨rfl,k,e,hu⟩))) hc.symm
  .rename_i p q r hu;simp at hc;exact key 3 false rfl (.inr (.inr (.inr ⟨rfl,p,q,r,hu⟩))) hc.symm
  .rename_i e hu;simp at hc;exact key 1 true rfl (.inr (.inl ⟨rfl,e,hu⟩)) hc.symm
  .rename_i k e hu;simp at hc;exact key 2 true rfl (.inr (.inr (.inl ⟨rfl,k,e,hu⟩))) hc.symm
  .rename_i p q r hu;simp at hc;exact key 3 true rfl (.inr (.inr (.inr ⟨rfl,p,q,r,hu⟩))) hc.symm
  .rename_i fs hu;exact jx false rfl (.inl ⟨fs,hu⟩) hc
  .rename_i fs hu;exact jx true rfl (.inl ⟨fs,hu⟩) hc
  .rename_i n e hu;exact jx false rfl (.inr ⟨n,e,hu⟩) hc
  .rename_i n e hu;exact jx true rfl (.inr ⟨n,e,hu⟩) hc
  .cases hc
 case makeMap t r=>cases r<;>simp at hc;subst hc;cases hq
 case mapUpdate t m k x =>
  split at hc
  .rename_i kt e hu;cases hk:SZ P kt with
   |none=>simp[hk] at hc
   |some mk=>simp[hk] at hc;subst hc;cases hq
  .cases hc
 case insert t m k x =>
  split at hc
  .rename_i kt e hu;cases hk:SZ P kt with
   |none=>simp[hk] at hc
   |some mk=>simp[hk] at hc;subst hc;cases hq
  .cases hc
 case mapEntry t m k =>
  split at hc
  .rename_i kt e hu;cases hk:SZ P kt with
   |none=>simp[hk] at hc
   |some mk =>
    cases b8:P.info? e with
    |none=>simp[hk,b8] at hc
    |some inf =>
     cases hz:inf.zero with
     |none=>simp[hk,b8,hz] at hc
     |some z=>simp[hk,b8,hz] at hc;obtain⟨_,rfl⟩:=hc;cases hq
  .cases hc
 case entryStore t m s x=>simp at hc;subst hc;cases hq
 case range t x =>
  split at hc
  .simp at hc;subst hc;cases hq
  .cases hc
 case next x b=>cases b<;>simp at hc;subst hc;cases hq
 case lookup t x i iY =>
  simp at ai;have hx:=hE x ai.1;have hi:=hE i ai.2;split at hc
  .rename_i kt e hu;cases hk:SZ P kt with
   |none=>simp[hk] at hc
   |some mk =>
    cases b8:P.info? e with
    |none=>simp[hk,b8] at hc
    |some inf =>
     cases hz:inf.zero with
     |none=>simp[hk,b8,hz] at hc
     |some z =>
      simp[hk,b8,hz] at hc;obtain⟨lz,rfl⟩:=hc;obtain⟨d,hd,ez⟩:=Nx hk;have j8:∀ w',(zeroValue e).run P w'=.ok z w':=λw'=>Z2 b8 hz w';have ec:VRel ρ M.n z z:=Vp lz;simp only[Zc] at h;split at h
      .rename_i bO;have qd:ev i=Q3 env i:=Hv bO hi;split at h
       .rename_i bq;rw[bq] at hx;obtain cy:=hx.q0u;simp at h;obtain⟨rfl,rfl⟩:=h;refine⟨rfl,if iY then .tuple #[z,.bool false] else z,?_,λw' _=>?_⟩
        .cases iY
         .exact ec
         .exact VRel.q0j (LRel.cons ec (LRel.cons (.bool _) (LRel.nil _ _)))
        .simp only[execOp];simp only[Instr.lookup,zt,Q0 hu,zd,cy,x5,qd,Zq hd ez bO];rw[G7 hd (r:=none) rfl];cases iY<;>simp[j8]
       .rename_i m bq;rw[bq] at hx;split at h
        .rename_i es clock wr aF;split at h
         .rename_i ae;obtain⟨p,entries,cy,hp,aB,aG⟩:=Xm hH aF hx;have aR:∀ w',Like ρ w w'->(getObj p.blk).run P w'=.ok (.map entries clock) w':=λw' hl =>
           Qv (by rw[hl.blk m p hp];exact aB) (λ_ _ _ e=>by cases e)
          rcases K1 hd ez bO (.bool true) 0 es entries.toList aG ae with⟨h1,h2,_⟩|⟨j,a,a',h1,h2,h3,h4,_,_⟩
          .rw[h1] at h;simp at h;obtain⟨rfl,rfl⟩:=h;refine⟨rfl,if iY then .tuple #[z,.bool false] else z,?_,λw' hl=>?_⟩
           .cases iY
            .exact ec
            .exact VRel.q0j (LRel.cons ec (LRel.cons (.bool _) (LRel.nil _ _)))
           .simp only[execOp];simp only[Instr.lookup,zt,Q0 hu,zd,cy,aR w' hl,x5,qd,Zq hd ez bO];rw[h2];cases iY<;>simp[j8]
          .rw[h1] at h;simp at h;obtain⟨rfl,rfl⟩:=h;have ny:=(aG.2 j a' a h3 h2).2.2;refine⟨rfl,if iY then .tuple #[a'.val,.bool true] else a'.val,?_,λw' hl=>?_⟩
           .cases iY
            .exact ny
            .exact VRel.q0j (LRel.cons ny (LRel.cons (.bool _) (LRel.nil _ _)))
           .simp only[execOp];simp only[Instr.lookup,zt,Q0 hu,zd,cy,aR w' hl,x5,qd,Zq hd ez bO];rw[h4];cases iY<;>simp
         .cases h
        .cases h
       .cases h
      .cases h
  .cases hc
 case entry x =>
  simp at ai;have hx:=hE x ai;simp at hc;subst hc;simp only[Zc] at h;split at h
  .rename_i i bq;rw[bq] at hx;split at h
   .rename_i m since seen last wr hb;split at h
    .rename_i es clock lA b aF cJ;split at h
     .rename_i cg;split at h
      .rename_i e cZ;split at h
       rotate_left
       .cases h
       rename_i aY;simp at h;obtain⟨rfl,rfl⟩:=h;obtain⟨p,hp,⟨_,eT⟩,O,hO,rm,rfl,pA⟩:=hH.live i _ hb;obtain⟨q,entries,ic,cC,aB,aG⟩:=Xm hH aF pA;simp at ic;obtain⟨_,_,cy⟩:=hx.q0w hp;rw[eT] at cy;obtain⟨e',j9,gP⟩:=OT b es entries.toList aG e cZ;rw[Array.find?_toList] at j9;have eK:(seen.toArray).back?=some b:=by simpa using cJ
       have dx:VRel ρ M.n e.1 e'.key:=by rw[gP.1];exact Vp aY
       refine⟨rfl,.tuple #[e'.key,e'.val],VRel.q0j (LRel.cons dx (LRel.cons gP.2.2 (LRel.nil _ _))),λw' hl=>?_⟩;have h1:=Qv (P:=P) (w':=w') (r:=p.blk) (by rw[hl.blk i p hp];exact hO) (λ_ _ _ e=>by cases e);have h2:=Qv (P:=P) (w':=w') (r:=q.blk) (by rw[hl.blk m q cC];exact aB) (λ_ _ _ e=>by cases e);simp only[execOp];simp only[Instr.entry,cy,zV,zt,h1,zd,eK];rw[ic,];simp[h2,cg,j9]
      .cases h
     .cases h
    .cases h
   .cases h
  .cases h
 case convert s d x =>
  simp at ai;have hx:=hE x ai;split at hc
  .rename_i t hs hd;cases hi:P.info? t with
   |none=>simp[hi] at hc
   |some inf =>
    simp[hi] at hc;obtain⟨aD,rfl⟩:=hc;simp only[Zc] at h;split at h
    .rename_i bq;rw[bq] at hx;obtain cy:=hx.q0o;simp at h;obtain⟨rfl,rfl⟩:=h;refine⟨rfl,Qk (c:=.pointer none) (λw'=>?_) .nilPtr⟩;simp[execOp,cy,convert,Q0 hs,Q0 hd,Conv.unsafePointer]
    .rename_i i o bq;rw[bq] at hx;split at h
     .rename_i c e wr tight hb;split at h
      .rename_i ah;simp at h;obtain⟨rfl,rfl⟩:=h;obtain⟨p,hp,_,_,hl,⟨C,e',f,hC,pB,_⟩,_,_⟩:=hH.live i _ hb;obtain⟨_,_,cy⟩:=hx.q0w hp;refine⟨rfl,ev x,hx,λw' qe=>?_⟩;have eT:w'.shape? p.blk=some (e',C.size):=by
        have:w'.heap[p.blk]?=some (.cells C e' f):=by rw[qe.blk i p hp];exact hC
        simp[World.shape?,this]
       simp only[execOp,cy];have:=Go.Lib.run_to_unsafe (P:=P) w' (src:=s) (dst:=d) ⟨p.blk,p.shift+o,none⟩ hs hd hi (by simpa using aD) eT (by show p.shift+o<C.size;omega);simp[this]
      .cases h
     .cases h
    .cases h
  .rename_i u hs hd;cases hi:P.info? u with
   |none=>simp[hi] at hc
   |some inf =>
    simp[hi] at hc;obtain⟨⟨aD,ta⟩,rfl⟩:=hc;simp only[Zc] at h;split at h
    .rename_i bq;rw[bq] at hx;obtain cy:=hx.q0o;simp at h;obtain⟨rfl,rfl⟩:=h;refine⟨rfl,Qk (c:=.pointer none) (λw'=>?_) .nilPtr⟩;simp[execOp,cy,convert,Q0 hs,Q0 hd,Conv.unsafePointer]
    .rename_i i o bq;rw[bq] at hx;split at h
     .rename_i c e hb;split at h
      .rename_i ah;obtain⟨rfl,het,hle⟩:=ah;simp at h;obtain⟨rfl,rfl⟩:=h;obtain⟨p,hp,_,_,hl,⟨C,e',f,hC,pB,lB⟩,_,h6⟩:=hH.live i _ hb;obtain⟨_,_,cy⟩:=hx.q0w hp;have tc:=(h6 rfl).1 rfl;refine⟨rfl,ev x,hx,λw' qe=>?_⟩;have eT:w'.shape? p.blk=some (u,C.size):=by
        have:w'.heap[p.blk]?=some (.cells C e' f):=by rw[qe.blk i p hp];exact hC
        simp[World.shape?,this,lB,het]
       simp only[execOp,cy];rw[zM] at *
       have:=Go.Lib.run_from_unsafe (P:=P) w' (src:=s) (dst:=d) ⟨p.blk,p.shift,none⟩ hs hd hi eT (EF ta _ _ tc (by omega));simp[this]
      .cases h
     .cases h
    .cases h
  .rename_i e hs hd;split at hc
   .rename_i he;simp at hc;subst hc;simp only[Zc] at h;split at h
    .rename_i a n c bq;rw[bq] at hx;split at h
     .rename_i xs bB;split at h
      .rename_i s' qf;simp at h;obtain⟨rfl,rfl⟩:=h;obtain⟨ns,mM,rfl⟩:=TF qf;subst mM;obtain⟨hlen,us,eo,⟨a',aq,cy⟩,aR⟩:=Rf hH bB hx;have nz:=Q15 eo;refine⟨rfl,.string ⟨(ns.map λn=>n.toNat.toUInt8).toArray⟩,.string _,λw' hl=>?_⟩;have hr:=aR w' hl;rw[cy] at hr;simp only[execOp,cy];cases a' with
       |none =>
        simp[Builtin.firstCells] at hr;have:ns=[]:=by rw[nz] at hr;simpa using hr.symm
        subst this;simp[convert,Q0 hs,Q0 hd,Q0 he,Conv.bytesToString];rfl
       |some a' =>simp only[Builtin.firstCells,Nat.mul_one] at hr;rw[nz] at hr;have:=run_bytesToString (P:=P) w' a' n aq ns hr;rw[EW] at this;simp[convert,Q0 hs,Q0 hd,Q0 he,this]
      .cases h
     .cases h
    .cases h
   .cases hc
  .split at hc
   .simp at hc;subst hc;cases hq
   .cases hc
  .cases hc
 case call c =>
  split at hc
  .rename_i aJ;split at hc
   .rename_i t x dJ cP;split at hc
    .rename_i kt e hu;simp at hc;subst hc;have bF:c.args=#[x]:=Array.ext' (by simpa using cP);have hx:VRel ρ M.n (Q3 env x) (ev x):=hE x (by simpa [Call.operands,aJ,bF] using ai);simp only[Zc] at h;split at h
     .rename_i bq;rw[bq] at hx;obtain cy:=hx.q0u;simp at h;obtain⟨rfl,rfl⟩:=h;refine⟨rfl,Qk (c:=.int .i64 0) (λw'=>?_) (.int _ _)⟩;simp[execOp,resolve,aJ,bF,invoke,builtin,Builtin.len_,dJ,cy,Q0 hu,goInt]
     .rename_i m bq;rw[bq] at hx;split at h
      .rename_i es clock wr aF;simp at h;obtain⟨rfl,rfl⟩:=h;obtain⟨p,entries,cy,hp,aB,aG⟩:=Xm hH aF hx;refine⟨rfl,.int .i64 es.length,.int _ _,λw' hl=>?_⟩;have h1:=Qv (P:=P) (w':=w') (r:=p.blk) (by rw[hl.blk m p hp];exact aB) (λ_ _ _ e=>by cases e);have h2:entries.size=es.length:=by have:=aG.1;simpa using this
       simp[execOp,resolve,aJ,bF,invoke,builtin,Builtin.len_,dJ,cy,Q0 hu,goInt,h1,h2]
      .cases h
     .cases h
    .cases hc
   .cases hc
  .split at hc
   .split at hc
    .rename_i kt e hu;cases hk:SZ P kt with
     |none=>simp[hk] at hc
     |some mk=>simp[hk] at hc;subst hc;cases hq
    .cases hc
   .cases hc
  .split at hc
   .split at hc
    .rename_i e hu;cases hi:P.info? e with
     |none=>simp[hi] at hc
     |some inf=>simp[hi] at hc;subst hc;cases hq
    .cases hc
   .cases hc
  .split at hc
   .split at hc
    .rename_i e hu;cases hz:zeroOf P e with
     |none=>simp[hz] at hc
     |some z=>simp[hz] at hc;obtain⟨_,rfl⟩:=hc;cases hq
    .cases hc
   .cases hc
  .rename_i aJ;split at hc
   .rename_i x cP;simp at hc;subst hc;have bF:c.args=#[x]:=Array.ext' (by simpa using cP);have hx:VRel ρ M.n (Q3 env x) (ev x):=hE x (by simpa [Call.operands,aJ,bF] using ai);simp only[Zc] at h;split at h
    .rename_i bq;rw[bq] at hx;obtain cy:=hx.q0y;simp at h;obtain⟨rfl,rfl⟩:=h;refine⟨rfl,Qk (c:=.pointer none) (λw'=>?_) .nilPtr⟩;simp[execOp,resolve,aJ,bF,invoke,builtin,cy,Go.Lib.run_unsafeSliceData_nil]
    .rename_i i o n cap bq;rw[bq] at hx;split at h
     .rename_i cM;simp at h;obtain⟨rfl,rfl⟩:=h;obtain⟨cM,hs⟩:=cM;obtain⟨blk,aB⟩:=Option.isSome_iff_exists.1 hs;obtain⟨p,hp,_⟩:=hH.live _ _ aB;obtain⟨a,aq,cy,aO,aY⟩:=hx.q1b;obtain⟨h1,_,⟨mG,_⟩|⟨o',rfl,_,ho⟩⟩:=aY p hp
      .omega
      have eS:o'=o:=ho.resolve_right (λhh=>cM hh.2);subst eS;refine⟨rfl,.pointer (some ⟨p.blk,p.shift+o',none⟩),.ptr _ _ _ aO (λq hq=>by rw[hp] at hq;obtain rfl:=osj hq;rfl),λw' _=>?_⟩;simp[execOp,resolve,aJ,bF,invoke,builtin,cy,Go.Lib.run_unsafeSliceData_row w' _ _ _ n aq (by omega)]
     .cases h
    .cases h
   .cases hc
  .split at hc
   .split at hc
    .split at hc
     .simp at hc;subst hc;cases hq
     .cases hc
    .cases hc
   .cases hc
  .cases hc
 all_goals cases hc
theorem getElem?_modify_list {α:Type}(l:List α) (j:Nat) (f:α->α) (k:Nat):(l.modify j f)[k]?=if j=k then (l[k]?).map f else l[k]?:=by rw[List.getElem?_modify];split<;>simp_all
theorem Gr {n:Nat}{E:List MapEntry}{es:List Jo}(h:LERel ρ n E es) (j:Nat) (f:MapEntry->MapEntry) (kv:Jo) (hf:∀ e,E[j]?=some e->Q7u ρ n (f e) kv):LERel ρ n (E.modify j f) (es.set j kv):=by
 refine⟨by simp[h.1],λk e td he dx=>?_⟩;rw[getElem?_modify_list] at he;rw[xu] at dx;by_cases cW:j=k
 .subst cW;simp only[zx] at he dx;split at dx
  .simp at dx;subst dx;rw[zo] at he;obtain⟨e0,lC,rfl⟩:=he;exact hf e0 lC
  .cases dx
 .simp only[cW,if_false] at he dx;exact h.2 k e td he dx
theorem Dx {n:Nat}{E:List MapEntry}{es:List Jo}(h:LERel ρ n E es) {e:MapEntry}{kv:Jo}(he:Q7u ρ n e kv):LERel ρ n (E++[e]) (es++[kv]):=by
 refine⟨by simp[h.1],λk a b ha hb=>?_⟩;have hl:=h.1;rw[List.getElem?_append] at ha hb;split at ha<;>split at hb<;>try omega
 .exact h.2 k a b ha hb
 .have hk:k-E.length=k-es.length:=by omega
  rw[hk] at ha;cases hz:k-es.length with
  |zero=>rw[hz] at ha hb;simp at ha hb;subst ha;subst hb;exact he
  |succ m=>rw[hz] at ha;simp at ha
theorem RG {γ:Sort _}(f:Option Addr->Value->γ) (g:Array Value->γ) (p:Option Addr) (l:Value):Builtin.unsafeString_.match_3 (motive:=λ_=>γ) #[.pointer p,l] f g=f p l:=rfl
theorem RJ (ts:Array TypeId) (ty pt:TypeId) (h0:ts[0]?=some pt) (p:Option Addr) (w:World):(Builtin.unsafeString_ ts ty #[.pointer p,.int .i64 0]).run P w=.ok (.string .empty) w:=by
 have jy:IntKind.i64.max=9223372036854775807:=rfl;cases p with
 |none =>delta Builtin.unsafeString_;rw[RG];simp[asInt,asIntOf,jy,h0]
 |some a =>delta Builtin.unsafeString_;rw[RG];simp[asInt,asIntOf,jy,h0]
theorem LF:∀ (ns:List Int) (a:Addr) (acc:ByteArray) (w:World),(∀ j n,ns[j]?=some n->w.cell? (a.add j)=some (.int .u8 n)) ->
  (loadBytes a acc ns.length).run P w=.ok ⟨acc.data++(ns.map λn=>n.toNat.toUInt8).toArray⟩ w
 |[],a,acc,w,_=>by simp[loadBytes]
 |n::ns,a,acc,w,h=>by
  have h0:w.cell? a=some (.int .u8 n):=by have:=h 0 n rfl;simpa [Addr.add] using this
  have ih:=LF ns (a.add 1) (acc.push n.toNat.toUInt8) w (λj y hy=>by
   have:=h (j+1) y (by simpa using hy);have e:(a.add 1).add j=a.add (j+1):=by
    unfold Addr.add;by_cases hj:j=0
    .subst hj;simp
    .simp[hj];omega
   rw[e];exact this)
  simp only[zP,loadBytes,zt,run_load,h0,Result.andThen];rw[ih];congr 1;apply ByteArray.ext;simp[ByteArray.push]
theorem S4 {e:TypeId}(hc:P.cellsOf e=1) (count off n:Nat) (hn:off+n<=count):liesAt P P.depth e count off e n=true:=by have hd:P.depth=(2*(P.types.size+Made.depth)+1)+1:=rfl;rw[hd];simp only[liesAt,zp];left;rw[hd];simp[rowAt,hc,hn,sameLayout,Nat.mod_one]
theorem Q1e (ts:Array TypeId) (ty pt e:TypeId) (h0:ts[0]?=some pt) (hp:P.underlying pt=some (.pointer e)) (hc:P.cellsOf e=1) (a:Addr) (cells:Nat) (w:World) (eT:w.shape? a.block=some (e,cells)) (ns:List Int) (k:Int) (hk:0<k) (mN:ns.length=k.toNat) (hn:a.off+ns.length<=cells)
  (ve:k<=2 ^ 62) (a9:∀ j n,ns[j]?=some n->w.cell? (a.add j)=some (.int .u8 n)) :
  (Builtin.unsafeString_ ts ty #[.pointer (some a),.int .i64 k]).run P w=.ok (.string ⟨(ns.map λn=>n.toNat.toUInt8).toArray⟩) (w.freeze a k.toNat):=by
 have jy:IntKind.i64.max=9223372036854775807:=rfl;have vf:(2:Int) ^ 62=4611686018427387904:=by decide
 have pz:=LF (P:=P) ns a .empty w a9;have j_:=S4 (P:=P) hc (cells / P.cellsOf e) a.off ns.length (by rw[hc];simpa using hn);have h1:¬ k<0:=by omega
 have h2:¬ (9223372036854775807:Int)<k:=by omega
 have h3:¬ k=0:=by omega
 rw[<-mN];rw[mN] at pz j_;delta Builtin.unsafeString_;rw[RG];simp[asInt,asIntOf,jy,h0,h1,h2,h3,variablesAt,eT,elemOf,Q0 hp,j_,pz,mN]
theorem HRel.freeze (hH:HRel ρ M w) {i:Nat}{p:Pl}{c:List Value}{e:El}{tight:Bool}(hp:ρ i=some p) (hb:M.get i=some (.cells c e true tight)) (off n:Nat) :
  HRel ρ (M.upd i (.cells c e false tight)) (w.freeze ⟨p.blk,off,none⟩ n)/\Ext ρ M w ρ (M.upd i (.cells c e false tight)) (w.freeze ⟨p.blk,off,none⟩ n):=by
 have hi:=M.lt hb;obtain⟨p',bk,hB⟩:=hH.live i _ hb;obtain rfl:p=p':=osj (hp.symm.trans bk);obtain⟨h1,h2,h3,⟨C,e',f,h4,gX⟩,h5,h6⟩:=hB;have a_:∀ k,k≠p.blk->(w.freeze ⟨p.blk,off,none⟩ n).heap[k]?=w.heap[k]?:=λk hk=>by
  unfold World.freeze;split
  .rfl
  .simp only[Array.getElem?_modify];rw[z1 (Ne.symm hk)]
 have aD:(w.freeze ⟨p.blk,off,none⟩ n).heap.size=w.heap.size:=by
  unfold World.freeze;split
  .rfl
  .simp
 obtain⟨f',dQ⟩:∃ f',(w.freeze ⟨p.blk,off,none⟩ n).heap[p.blk]?=some (.cells C e' f'):=by
  unfold World.freeze;split
  .exact⟨f,h4⟩
  .simp only[Array.getElem?_modify,zx,h4];obtain⟨lo,cF⟩:=f;exact⟨_,rfl⟩
 have a9:∀ o,(w.freeze ⟨p.blk,off,none⟩ n).cell? ⟨p.blk,o,none⟩=w.cell? ⟨p.blk,o,none⟩:=λo=>by simp[World.cell?,dQ,h4]
 have qg:(w.freeze ⟨p.blk,off,none⟩ n).os=w.os/\(w.freeze ⟨p.blk,off,none⟩ n).tape=w.tape/\(w.freeze ⟨p.blk,off,none⟩ n).output=w.output:=by unfold World.freeze;split<;>exact⟨rfl,rfl,rfl⟩
 have hE:Ext ρ M w ρ (M.upd i (.cells c e false tight)) (w.freeze ⟨p.blk,off,none⟩ n):=by
  .refine⟨qg.1,qg.2.1,qg.2.2,by rw[aD];exact z5 _,λB hB hW=>a_ B (λe=>hW ⟨i,p,_,hp,hb,rfl,e.symm⟩),?_,z5 _,λ_ _ _ h=>h⟩;rintro B _ ⟨j,q,b,hq,cf,hw,rfl⟩;by_cases aL:j=i
   .subst aL;exact⟨j,q,_,hq,hb,rfl,rfl⟩
   .rw[Heap.q0b _ _ aL] at cf;exact⟨j,q,b,hq,cf,hw,rfl⟩
 refine⟨hH.ext ⟨λj b hj=>?_,λj hj=>?_,λj q hq=>by rw[aD];exact hH.lt j q hq,λj k q r b cW hq hr cu hw hx=>?_⟩ hE,hE⟩
 .by_cases aL:j=i
  .subst aL;rw[Heap.q0c _ _ hi] at hj;obtain rfl:=osj hj;exact⟨p,hp,h1,h2,h3,⟨C,e',f',dQ,gX⟩,λk v hk=>by rw[a9];exact h5 k v hk,λh=>by cases h⟩
  .rw[Heap.q0b _ _ aL] at hj;obtain⟨q,hq,fp⟩:=hH.live j b hj;exact⟨q,hq,fp.other (z5 _) (λ_ _ _ h=>h) p.blk C e' f h4 (λhx=>hH.sep i j p q _ (Ne.symm aL) hp hq hb rfl hx) ⟨C,f',dQ,z5 _⟩ (λk hk _=>a_ k hk) (hH.lt j q hq)⟩
 .by_cases aL:j=i
  .subst aL;rw[Heap.q0c _ _ hi] at hj;cases hj
  .rw[Heap.q0b _ _ aL] at hj;exact hH.dead j hj
 .by_cases aL:j=i
  .subst aL;rw[Heap.q0c _ _ hi] at cu;obtain rfl:=osj cu;cases hw
  .rw[Heap.q0b _ _ aL] at cu;exact hH.sep j k q r b cW hq hr cu hw hx
theorem HRel.freezeOut (hH:HRel ρ M w) {i:Nat}{p:Pl}{c:List Value}{e:El}{tight:Bool}(hp:ρ i=some p) (hb:M.get i=some (.cells c e true tight)) {C:Array Value}{e':TypeId}{f:Nat×Nat}(hC:w.heap[p.blk]?=some (.cells C e' f)) (hf:f.1=f.2) :
  HRel ρ M (w.freeze ⟨p.blk,C.size,none⟩ 1)/\Ext ρ M w ρ M (w.freeze ⟨p.blk,C.size,none⟩ 1):=by
 have a_:∀ k,k≠p.blk->(w.freeze ⟨p.blk,C.size,none⟩ 1).heap[k]?=w.heap[k]?:=λk hk=>by unfold World.freeze;rw[z1 (by omega)];simp only[Array.getElem?_modify];rw[z1 (Ne.symm hk)]
 have aD:(w.freeze ⟨p.blk,C.size,none⟩ 1).heap.size=w.heap.size:=by unfold World.freeze;rw[z1 (by omega)];simp
 have dQ:(w.freeze ⟨p.blk,C.size,none⟩ 1).heap[p.blk]?=some (.cells C e' (C.size,C.size+1)):=by unfold World.freeze;rw[z1 (by omega)];simp only[Array.getElem?_modify,zx,hC];obtain⟨lo,cF⟩:=f;obtain rfl:lo=cF:=hf;simp
 have a9:∀ o,(w.freeze ⟨p.blk,C.size,none⟩ 1).cell? ⟨p.blk,o,none⟩=w.cell? ⟨p.blk,o,none⟩:=λo=>by simp[World.cell?,dQ,hC]
 have hE:Ext ρ M w ρ M (w.freeze ⟨p.blk,C.size,none⟩ 1):=by refine⟨?_,?_,?_,by rw[aD];exact z5 _,λB hB hW=>a_ B (λe=>hW ⟨i,p,_,hp,hb,rfl,e.symm⟩),λ_ _ h=>h,z5 _,λ_ _ _ h=>h⟩<;>(unfold World.freeze;rw[z1 (by omega)])
 refine⟨hH.ext ⟨λj b hj=>?_,hH.dead,λj q hq=>by rw[aD];exact hH.lt j q hq,hH.sep⟩ hE,hE⟩;obtain⟨q,hq,fp⟩:=hH.live j b hj;refine⟨q,hq,?_⟩;by_cases hk:q.blk=p.blk
 .cases b with
  |cells c0 e0 tf t0 =>
   obtain⟨h1,h2,h3,⟨C0,e1,f1,h4,h5⟩,h6,h7⟩:=fp;rw[hk,hC] at h4;obtain⟨rfl,rfl,rfl⟩:=(by simpa using h4:C=C0/\e'=e1/\f=f1);refine⟨h1,h2,h3,⟨C,e',_,by rw[hk];exact dQ,h5⟩,λk v hv=>?_,λhw=>⟨(h7 hw).1,λk m_=>?_⟩⟩
   .rw[hk,a9,<-hk];exact h6 k v hv
   .unfold World.frozen?;rw[show (⟨q.blk,q.shift+k,none⟩:Addr).block=p.blk from hk,dQ];have:¬ C.size<=q.shift+k:=by omega
    simp[this]
  |obj o tf =>obtain⟨_,O,h4,h5⟩:=fp;rw[hk,hC] at h4;obtain rfl:=osj h4;exact absurd h5 ORel.q1s
 .exact fp.mono (z5 _) (λ_ _ _ h=>h) (a_ _ hk)
theorem Cs (hH:HRel ρ M w) {s:ByteArray}{st d e:TypeId}(hs:P.underlying st=some .string) (hd:P.underlying d=some (.slice e)) (he:P.underlying e=some (.int .u8)) {s0:Sem Next}(h0:s0=(do let v <-convert st d (.string s);pure (.value v))) :
  RA P ρ M w (.slice (some ⟨M.n,0,none⟩) s.size s.size) (M.push (.cells (s.data.toList.map λb=>.int .u8 b.toNat) ⟨1,e⟩ true false)) s0:=by
 obtain⟨cap,cM⟩:∃ cap,cap=(Question.appendCap s.size 0 e).cut (w.tape w.drawn (.appendCap s.size 0 e)):=⟨_,rfl⟩;have hle:s.size<=cap:=by rw[cM];simp[Question.cut]
 let C:Array Value:=(s.data.map λb=>Value.int .u8 b.toNat)++Array.replicate (cap-s.size) (.int .u8 0);have pB:C.size=cap:=by have:s.data.size=s.size:=rfl;simp[C,this];omega
 have nB:=hH.drew;have aG:LRel ρ M.n (s.data.toList.map λb=>Value.int .u8 b.toNat) (C.toList.take (s.data.toList.map λb=>Value.int .u8 b.toNat).length):=by
  have:C.toList.take (s.data.toList.map λb=>Value.int .u8 b.toNat).length=s.data.toList.map λb=>Value.int .u8 b.toNat:=by simp[C]
  rw[this];exact X9 (z6.2 λx hx=>by obtain⟨b,_,rfl⟩:=zq.1 hx;rfl)
 obtain⟨ρ',h1,h2,h3⟩:=nB.alloc (s.data.toList.map λb=>Value.int .u8 b.toNat) C e ⟨1,e⟩ false rfl aG (by
  have:s.data.size=s.size:=rfl;simp[pB,this];exact hle)
 have aB:(w.drew.alloc (.cells C e)).heap[w.drew.heap.size]?=some (.cells C e (0,0)):=by show (w.drew.heap.push _)[w.drew.heap.size]?=_;rw[Array.getElem?_push_size]
 obtain⟨h4,h5⟩:=h2.freezeOut (i:=M.n) h1 (Heap.q0a _ _) aB rfl;refine⟨.slice (some ⟨w.heap.size,0,none⟩) s.size cap,_,ρ',.inl ?_,.sl _ _ _ _ _ _ (by simp) (λp hp=>?_),h4,((Ext.drew ρ M w).trans h3).trans h5⟩
 .subst h0;have eT:(w.drew.alloc (.cells C e)).shape? w.drew.heap.size=some (e,C.size):=by
   unfold World.shape?;rw[aB]
  have hq:(Question.appendCap s.size 0 e).forced=false:=rfl;have rH:w.drew.heap.size=w.heap.size:=rfl;simp only[convert,zt,Q0 hs,Q0 hd,Q0 he,zd,Conv.stringToBytes,run_choose_drew,hq,zA,if_false,<-cM,newRow,run_newObj_alloc,x5,markStringish,run_shape,rH];rw[rH] at eT;have qh:(w.drew.alloc (.cells ((s.data.map λb=>Value.int .u8 b.toNat)++Array.replicate (cap-s.size) (.int .u8 0)) e)).shape? w.heap.size=some (e,C.size):=eT;rw[qh];rfl
 .rw[h1] at hp;obtain rfl:=osj hp;refine⟨hle,(λh=>by cases h),.inr ⟨0,rfl,?_,.inl rfl⟩⟩;show 0+cap*1<=C.size;omega
set_option maxHeartbeats 1000000 in
theorem TB {k nv:Value}{c:Nat}:∀ {es:List Jo}{e:Jo},Qf k es=some e->∃ j,es[j]?=some e/\Qq k nv c es=(es.set j (k,nv,e.2.2),c)/\V2 k es=es.eraseIdx j
 |[],e,h=>by cases h
 |a::es,e,h=>by
  simp only[Qf] at h;split at h
  .rename_i he;obtain rfl:=osj h;exact⟨0,rfl,by simp[Qq,he],by simp[V2,he]⟩
  .rename_i he;obtain⟨j,h1,h2,h3⟩:=TB (nv:=nv) (c:=c) h;exact⟨j+1,by simpa using h1,by simp[Qq,he,h2],by simp[V2,he,h3]⟩
theorem HL {k:Value}:∀ {es:List Jo},Qf k es=none->V2 k es=es
 |[],_=>rfl
 |a::es,h=>by
  simp only[Qf] at h;split at h
  .cases h
  .rename_i he;simp[V2,he,HL h]
def Z0w:Value->Nat
 |.int _ n=>n.natAbs
 |_=>0
theorem A4 {e:Jo}:∀ {es:List Jo},e∈es->Z0w e.2.1<=(es.map λx=>Z0w x.2.1).sum
 |a::es,h=>by
  rw[zF,xH];rcases zf.1 h with rfl|h
  .omega
  .have:=A4 h;omega
theorem F5 (es:List Jo):∃ nv:Value,∀ e∈es,e.2.1≠nv :=
 ⟨.int .i64 ((es.map λx=>Z0w x.2.1).sum+1:Nat),λe he h=>by
  have h1:=A4 he;rw[h] at h1;simp only[Z0w] at h1;omega⟩
theorem Q4s {es:List Jo}{i j:Nat}{x y:Jo}(hi:i<es.length) (_hj:j<es.length) (h:es.set i x=es.set j y) (hx:∀ e∈es,e.2.1≠x.2.1):i=j:=by
 by_cases e:j=i
 .exact e.symm
 .have h1:(es.set i x)[i]?=(es.set j y)[i]?:=by rw[h]
  rw[List.getElem?_set_self hi,List.getElem?_set_ne e,z3 hi] at h1;have h2:=osj h1;exact(hx _ (zn hi) (by rw[<-h2])).elim
theorem LY {n:Nat}{E:List MapEntry}{es:List Jo}(h:LERel ρ n E es) (j:Nat):LERel ρ n (E.eraseIdx j) (es.eraseIdx j):=by
 refine⟨by rw[List.length_eraseIdx,List.length_eraseIdx,h.1],λk e kv he dx=>?_⟩;rw[List.getElem?_eraseIdx] at he dx;split at he
 .rename_i ah;rw[z0 ah] at dx;exact h.2 _ _ _ he dx
 .rename_i ah;rw[z1 ah] at dx;exact h.2 _ _ _ he dx
theorem Cb {o:Oper}{xo:XOp}(hc:Tt P o.op = some xo) (hq:xo.quiet = false) (hH:HRel ρ M w) (hE:∀ x, X6 x = true -> VRel ρ M.n (Q3 env x) (ev x))
    (h:Zc xo (Q3 env) M = some (v, M')):RA P ρ M w v M' (execOp ev o):=by
  obtain ⟨dst, op, ty, pos, after, guard⟩:=o;simp only at hc;unfold Tt at hc;split at hc
  . cases hc
  rename_i ai;simp only [xZ, xQ] at ai;cases op <;> simp only [Op.operands] at ai hc
  case binOp jl t x y yt =>
    have nA:∀ neg, T4 P neg t x y = some xo -> False:=λneg hx => by
      unfold T4 at hx;split at hx
      . cases hx
      . obtain ⟨s, _, rfl⟩:=zo.1 hx; cases hq
    split at hc <;> first
      | exact (nA _ hc).elim
      | (simp at hc; subst hc; cases hq; done)
      | (rename_i e hu
         cases hi:P.info? e with
         | none => simp [hi] at hc
         | some i => simp [hi] at hc; obtain ⟨_, rfl⟩:=hc; cases hq)
      | cases hc
  case makeMap t r =>
    cases r with
    | some _ => cases hc
    | none =>
      simp at hc; subst hc;simp [Zc] at h;obtain ⟨rfl, rfl⟩:=h;obtain ⟨ρ', h1, h2, h3⟩:=hH.newObj (.map [] 0) (.map #[] 0) (ORel.q0q.2 ⟨#[], rfl, rfl, λk e kv he => by simp at he⟩);refine ⟨.map (some w.heap.size), _, ρ', .inl ?_, .map _ _ (by simp) (λp hp => ?_), h2, h3⟩
      . simp [execOp, Instr.makeMap]
      . rw [h1] at hp; obtain rfl:=osj hp; rfl
  case lookup t x i iY =>
    split at hc
    . rename_i kt e hu
      cases hk:SZ P kt with
      | none => simp [hk] at hc
      | some mk =>
        cases b8:P.info? e with
        | none => simp [hk, b8] at hc
        | some inf =>
          cases hz:inf.zero with
          | none => simp [hk, b8, hz] at hc
          | some z => simp [hk, b8, hz] at hc; obtain ⟨_, rfl⟩:=hc; cases hq
    . cases hc
  case mapUpdate t m k x =>
    simp at ai;have hm:=hE m ai.1;have ef:=hE k ai.2.1;have hx:=hE x ai.2.2;split at hc
    . rename_i kt e hu
      cases hk:SZ P kt with
      | none => simp [hk] at hc
      | some mk =>
        simp [hk] at hc; subst hc;obtain ⟨d, hd, ez⟩:=Nx hk;simp only [Zc] at h;split at h
        . rename_i i jz
          rw [jz] at hm;split at h
          . rename_i es clock aF
            split at h
            . rename_i ak
              simp only [z2] at ak;obtain ⟨bO, ae⟩:=ak;simp at h; obtain ⟨rfl, rfl⟩:=h;obtain ⟨p, entries, eJ, hp, aB, aG⟩:=Xm hH aF hm;have fh:ev k = Q3 env k:=Hv bO ef;have bP:(getObj p.blk).run P w = .ok (.map entries clock) w:=Qv aB (λ_ _ _ e => by cases e);have aW:∀ O', (setObj p.blk O').run P w = .ok () (Pk w p.blk O'):=λO' => QJ aB (λ_ _ _ e => by cases e);rcases K1 hd ez bO (Q3 env x) clock es entries.toList aG ae with ⟨h1, h2, h3⟩ | ⟨j, a, a', h1, h2, h3, h4, h5, h6⟩
              . rw [h3]
                obtain ⟨k1, k2⟩:=hH.setObj (i:=i) (p:=p) hp (Xk aF) (o':=.map (es ++ [(Q3 env k, Q3 env x, clock)]) (clock + 1))
                  (O':=.map (entries.push { key:=ev k, val:=ev x, born:=clock }) (clock + 1)) (ORel.q0q.2 ⟨_, rfl, by
                    rw [Array.toList_push];exact Dx aG ⟨fh, rfl, hx⟩⟩)
                refine ⟨undef, _, ρ, .inr ⟨?_, rfl⟩, Js, k1, k2⟩;simp only [execOp];simp only [Instr.mapUpdate, zt, Q0 hu, zd, eJ, bP, fh, Zq hd ez bO];rw [h2];simp only [zd, aW, x5]
              . rw [h6]
                have ie:((entries[j]?).map (·.key)).getD (Q3 env k) = a.1:=by
                  rw [<- Array.getElem?_toList, h3];simp [(aG.2 j a' a h3 h2).1]
                have fw:Zk mk a.1 = true:=z6.1 ae a (zE h2)
                obtain ⟨k1, k2⟩:=hH.setObj (i:=i) (p:=p) hp (Xk aF) (o':=.map (es.set j (Q3 env k, Q3 env x, a.2.2)) clock)
                  (O':=.map (entries.modify (0 + j) λe => { e with key:=Q3 env k, val:=ev x }) clock) (ORel.q0q.2 ⟨_, rfl, by
                    rw [Array.toList_modify, zV];exact Gr aG j _ _ (λe he => by
                      obtain rfl:a' = e:=osj (h3.symm.trans he);exact ⟨rfl, (aG.2 j a' a h3 h2).2.1, hx⟩)⟩)
                refine ⟨undef, _, ρ, .inr ⟨?_, rfl⟩, Js, k1, k2⟩;simp only [execOp];simp only [Instr.mapUpdate, zt, Q0 hu, zd, eJ, bP, fh, Zq hd ez bO];rw [h4];simp only [zd, zt, zV, ie];have aS:(Instr.keyThatStays a.1 (Q3 env k)).run P w = .ok (Q3 env k) w:=by unfold Instr.keyThatStays;rw [z0 (Gb bO fw h5)];rfl
                rw [aS];simp only [zd, aW, x5]
            . cases h
          . cases h
        . cases h
    . cases hc
  case insert t m k x =>
    simp at ai;have hm:=hE m ai.1;have ef:=hE k ai.2.1;have hx:=hE x ai.2.2;split at hc
    . rename_i kt e hu
      cases hk:SZ P kt with
      | none => simp [hk] at hc
      | some mk =>
        simp [hk] at hc; subst hc;obtain ⟨d, hd, ez⟩:=Nx hk;simp only [Zc] at h;split at h
        . rename_i i jz
          rw [jz] at hm;split at h
          . rename_i es clock aF
            split at h
            . rename_i ak
              simp only [z2] at ak;obtain ⟨bO, ae⟩:=ak;simp at h; obtain ⟨rfl, rfl⟩:=h;obtain ⟨p, entries, eJ, hp, aB, aG⟩:=Xm hH aF hm;have fh:ev k = Q3 env k:=Hv bO ef;have bP:(getObj p.blk).run P w = .ok (.map entries clock) w:=Qv aB (λ_ _ _ e => by cases e);have aW:∀ O', (setObj p.blk O').run P w = .ok () (Pk w p.blk O'):=λO' => QJ aB (λ_ _ _ e => by cases e);rcases K1 hd ez bO (Q3 env x) clock es entries.toList aG ae with ⟨h1, h2, h3⟩ | ⟨j, a, a', h1, h2, h3, h4, h5, h6⟩
              . rw [h3]
                obtain ⟨k1, k2⟩:=hH.setObj (i:=i) (p:=p) hp (Xk aF) (o':=.map (es ++ [(Q3 env k, Q3 env x, clock)]) (clock + 1))
                  (O':=.map (entries.push { key:=ev k, val:=ev x, born:=clock }) (clock + 1)) (ORel.q0q.2 ⟨_, rfl, by
                    rw [Array.toList_push];exact Dx aG ⟨fh, rfl, hx⟩⟩)
                refine ⟨undef, _, ρ, .inr ⟨?_, rfl⟩, Js, k1, k2⟩;simp only [execOp];simp only [Instr.mapUpdate, zt, Q0 hu, zd, eJ, bP, fh, Zq hd ez bO];rw [h2];simp only [zd, aW, x5]
              . rw [h6]
                have ie:((entries[j]?).map (·.key)).getD (Q3 env k) = a.1:=by
                  rw [<- Array.getElem?_toList, h3];simp [(aG.2 j a' a h3 h2).1]
                have fw:Zk mk a.1 = true:=z6.1 ae a (zE h2)
                obtain ⟨k1, k2⟩:=hH.setObj (i:=i) (p:=p) hp (Xk aF) (o':=.map (es.set j (Q3 env k, Q3 env x, a.2.2)) clock)
                  (O':=.map (entries.modify (0 + j) λe => { e with key:=Q3 env k, val:=ev x }) clock) (ORel.q0q.2 ⟨_, rfl, by
                    rw [Array.toList_modify, zV];exact Gr aG j _ _ (λe he => by
                      obtain rfl:a' = e:=osj (h3.symm.trans he);exact ⟨rfl, (aG.2 j a' a h3 h2).2.1, hx⟩)⟩)
                refine ⟨undef, _, ρ, .inr ⟨?_, rfl⟩, Js, k1, k2⟩;simp only [execOp];simp only [Instr.mapUpdate, zt, Q0 hu, zd, eJ, bP, fh, Zq hd ez bO];rw [h4];simp only [zd, zt, zV, ie];have aS:(Instr.keyThatStays a.1 (Q3 env k)).run P w = .ok (Q3 env k) w:=by unfold Instr.keyThatStays;rw [z0 (Gb bO fw h5)];rfl
                rw [aS];simp only [zd, aW, x5]
            . cases h
          . cases h
        . cases h
    . cases hc
  case mapEntry t m k =>
    simp at ai;have hm:=hE m ai.1;have ef:=hE k ai.2;split at hc
    . rename_i kt e hu
      cases hk:SZ P kt with
      | none => simp [hk] at hc
      | some mk =>
      cases b8:P.info? e with
      | none => simp [hk, b8] at hc
      | some inf =>
      cases hz:inf.zero with
      | none => simp [hk, b8, hz] at hc
      | some z =>
        simp [hk, b8, hz] at hc;obtain ⟨lz, rfl⟩:=hc;obtain ⟨d, hd, ez⟩:=Nx hk;have j8:∀ w', (zeroValue e).run P w' = .ok z w':=λw' => Z2 b8 hz w';have ec:VRel ρ M.n z z:=Vp lz;simp only [Zc] at h;split at h
        . rename_i i jz
          rw [jz] at hm;split at h
          . rename_i es clock aF
            split at h
            . rename_i ak
              simp only [z2] at ak;obtain ⟨bO, ae⟩:=ak;obtain ⟨p, entries, eJ, hp, aB, aG⟩:=Xm hH aF hm;have fh:ev k = Q3 env k:=Hv bO ef;have bP:(getObj p.blk).run P w = .ok (.map entries clock) w:=Qv aB (λ_ _ _ e => by cases e);have aW:∀ O', (setObj p.blk O').run P w = .ok () (Pk w p.blk O'):=λO' => QJ aB (λ_ _ _ e => by cases e);split at h
              . rename_i e0 hf
                simp at h; obtain ⟨rfl, rfl⟩:=h;rcases K1 hd ez bO e0.2.1 clock es entries.toList aG ae with ⟨h1, h2, h3⟩ | ⟨j, a, a', h1, h2, h3, h4, h5, h6⟩
                . rw [hf] at h1; cases h1
                . obtain rfl:e0 = a:=by rw [hf] at h1; exact osj h1
                  rw [h6];have lD:entries[j]? = some a':=by rw [<- Array.getElem?_toList]; exact h3
                  have ie:((entries[j]?).map (·.key)).getD (Q3 env k) = e0.1:=by
                    rw [lD]; simp [(aG.2 j a' e0 h3 h2).1]
                  have qi:((entries[j]?).map λx => (x.born:Int)).getD 0 = (e0.2.2:Int):=by rw [lD]; simp [(aG.2 j a' e0 h3 h2).2.1]
                  have fw:Zk mk e0.1 = true:=z6.1 ae e0 (zE h2);have ny:=(aG.2 j a' e0 h3 h2).2.2
                  obtain ⟨k1, k2⟩:=hH.setObj (i:=i) (p:=p) hp (Xk aF) (o':=.map (es.set j (Q3 env k, e0.2.1, e0.2.2)) clock)
                    (O':=.map (entries.modify (0 + j) λe => { e with key:=Q3 env k }) clock) (ORel.q0q.2 ⟨_, rfl, by
                      rw [Array.toList_modify, zV];exact Gr aG j _ _ (λe he => by
                        obtain rfl:a' = e:=osj (h3.symm.trans he);exact ⟨rfl, (aG.2 j a' e0 h3 h2).2.1, ny⟩)⟩)
                  refine ⟨.tuple #[a'.val, .int .i64 e0.2.2], _, ρ, .inl ?_, VRel.q0j (LRel.cons ny (LRel.cons (.int _ _) (LRel.nil _ _))), k1, k2⟩;simp only [execOp];simp only [Instr.mapEntry, zt, Q0 hu, zd, eJ, bP, fh, Zq hd ez bO];rw [h4];simp only [zd, zt, zV, ie, qi];have aS:(Instr.keyThatStays e0.1 (Q3 env k)).run P w = .ok (Q3 env k) w:=by unfold Instr.keyThatStays;rw [z0 (Gb bO fw h5)];rfl
                  rw [aS];simp only [zd, aW, x5];rfl
              . rename_i hf
                simp at h; obtain ⟨rfl, rfl⟩:=h;rcases K1 hd ez bO z clock es entries.toList aG ae with ⟨h1, h2, h3⟩ | ⟨j, a, a', h1, h2, h3, h4, h5, h6⟩
                . rw [h3]
                  obtain ⟨k1, k2⟩:=hH.setObj (i:=i) (p:=p) hp (Xk aF) (o':=.map (es ++ [(Q3 env k, z, clock)]) (clock + 1))
                    (O':=.map (entries.push { key:=Q3 env k, val:=z, born:=clock }) (clock + 1)) (ORel.q0q.2 ⟨_, rfl, by
                      rw [Array.toList_push];exact Dx aG ⟨rfl, rfl, ec⟩⟩)
                  refine ⟨.tuple #[z, .int .i64 clock], _, ρ, .inl ?_, VRel.q0j (LRel.cons ec (LRel.cons (.int _ _) (LRel.nil _ _))), k1, k2⟩;simp only [execOp];simp only [Instr.mapEntry, zt, Q0 hu, zd, eJ, bP, fh, Zq hd ez bO];rw [h2];simp only [zd, zt, j8, aW, x5];rfl
                . rw [hf] at h1; cases h1
            . cases h
          . cases h
        . cases h
    . cases hc
  case entryStore t m s x =>
    simp at ai;have hm:=hE m ai.1;have hs:=hE s ai.2.1;have hx:=hE x ai.2.2;simp at hc; subst hc;simp only [Zc] at h;split at h
    . rename_i i n jz qj
      rw [jz] at hm;rw [qj] at hs;split at h
      . rename_i es clock aF
        split at h
        . rename_i j jm
          split at h
          . rename_i e0 lC
            simp at h; obtain ⟨rfl, rfl⟩:=h;obtain ⟨p, entries, eJ, hp, aB, aG⟩:=Xm hH aF hm;have nC:ev s = .int .i64 n:=KQ rfl hs;have bP:(getObj p.blk).run P w = .ok (.map entries clock) w:=Qv aB (λ_ _ _ e => by cases e);have aW:∀ O', (setObj p.blk O').run P w = .ok () (Pk w p.blk O'):=λO' => QJ aB (λ_ _ _ e => by cases e);have nD:entries.toList.map (λx => (x.born:Int)) = es.map (λe => (e.2.2:Int)):=by
              refine zT λq => ?_;rw [zQ, zQ];cases h1:entries.toList[q]? with
              | none =>
                have:es[q]? = none:=by rw [List.getElem?_eq_none_iff] at h1 |-; rw [<- aG.1]; exact h1
                rw [this]; rfl
              | some a =>
                cases h2:es[q]? with
                | none => rw [List.getElem?_eq_none_iff, <- aG.1, <- List.getElem?_eq_none_iff, h1] at h2; cases h2
                | some b => simp [(aG.2 q a b h1 h2).2.1]
            have qk:entries.findIdx? (λe => (e.born:Int) == n) = some j:=by
              have e1:entries.toList.findIdx? (λe => (e.born:Int) == n) = (entries.toList.map (λx => (x.born:Int))).findIdx? (λb => b == n):=by rw [List.findIdx?_map]; rfl
              have e2:es.findIdx? (λe => (e.2.2:Int) == n) = (es.map (λe => (e.2.2:Int))).findIdx? (λb => b == n):=by rw [List.findIdx?_map]; rfl
              have e3:entries.findIdx? (λe => (e.born:Int) == n) = entries.toList.findIdx? (λe => (e.born:Int) == n):=by rw [<- List.findIdx?_toArray, Array.toArray_toList]
              rw [e3, e1, nD, <- e2, jm]
            have bU:j < entries.toList.length:=by rw [aG.1]; exact (z7.1 lC).1
            have lD:=z3 bU
            obtain ⟨k1, k2⟩:=hH.setObj (i:=i) (p:=p) hp (Xk aF) (o':=.map (es.set j (e0.1, Q3 env x, e0.2.2)) clock)
              (O':=.map (entries.modify j λe => { e with val:=ev x }) clock) (ORel.q0q.2 ⟨_, rfl, by
                rw [Array.toList_modify];exact Gr aG j _ _ (λe he => by
                  have hr:=aG.2 j e e0 he lC;exact ⟨hr.1, hr.2.1, hx⟩)⟩)
            refine ⟨undef, _, ρ, .inr ⟨?_, rfl⟩, Js, k1, k2⟩;simp only [execOp];simp only [Instr.entryStore, eJ, zt, bP, zd, nC];simp [asInt, asIntOf, qk, aW]
          . cases h
        . cases h
      . cases h
    . cases h
  case range t x =>
    simp at ai;have hx:=hE x ai;split at hc
    . rename_i kt e hu
      simp at hc; subst hc;simp only [Zc] at h;split at h
      . rename_i m bq
        rw [bq] at hx;split at h
        . rename_i es clock wr aF
          simp at h; obtain ⟨rfl, rfl⟩:=h;obtain ⟨p, entries, eJ, hp, aB, aG⟩:=Xm hH aF hx;rw [eJ] at hx;obtain ⟨ρ', h1, h2, h3⟩:=hH.newObj (.iter m clock [] clock) (.mapIter (some p.blk) clock #[] clock) ⟨p.blk, rfl, hx⟩;have bP:(getObj p.blk).run P w = .ok (.map entries clock) w:=Qv aB (λ_ _ _ e => by cases e);refine ⟨.pointer (some ⟨w.heap.size, 0, none⟩), _, ρ', .inl ?_, .ptr _ _ _ (by simp) (λq hq => ?_), h2, h3⟩
          . simp [execOp, Instr.range, Q0 hu, eJ, bP]
          . rw [h1] at hq; obtain rfl:=osj hq; rfl
        . cases h
      . cases h
    . cases hc
  case next x b => cases b <;> simp at hc; subst hc; simp [Zc] at h
  case entry x => simp at hc; subst hc; cases hq
  case convert s d x =>
    split at hc
    . rename_i t hs hd
      cases hi:P.info? t with
      | none => simp [hi] at hc
      | some inf => simp [hi] at hc; obtain ⟨_, rfl⟩:=hc; cases hq
    . rename_i u hs hd
      cases hi:P.info? u with
      | none => simp [hi] at hc
      | some inf => simp [hi] at hc; obtain ⟨_, rfl⟩:=hc; cases hq
    . split at hc
      . simp at hc; subst hc; cases hq
      . cases hc
    . rename_i e hs hd
      split at hc
      . rename_i he
        simp at hc; subst hc;simp only [Zc] at h;split at h
        . rename_i s' bq
          split at h
          . simp at h; obtain ⟨rfl, rfl⟩:=h
            have hx:=hE x (by simpa using ai);rw [bq] at hx;refine Cs hH hs hd he ?_;simp only [execOp, hx.q0p]
          . cases h
        . cases h
      . cases hc
    . cases hc
  case call c =>
    split at hc
    . split at hc
      . split at hc
        . simp at hc; subst hc; cases hq
        . cases hc
      . cases hc
    . rename_i aJ
      split at hc
      . rename_i t mm kk dJ cP
        split at hc
        . rename_i kt e hu
          cases hk:SZ P kt with
          | none => simp [hk] at hc
          | some mk =>
            simp [hk] at hc; subst hc;obtain ⟨d, hd, ez⟩:=Nx hk;have bF:c.args = #[mm, kk]:=Array.ext' (by simpa using cP);have c_:X6 mm = true /\ X6 kk = true:=by simpa [Call.operands, aJ, bF] using ai
            have hm:=hE mm c_.1;have ef:=hE kk c_.2;simp only [Zc] at h;split at h
            . rename_i i jz
              rw [jz] at hm;split at h
              . rename_i es clock aF
                split at h
                . rename_i ak
                  simp only [z2] at ak;obtain ⟨bO, ae⟩:=ak;simp at h; obtain ⟨rfl, rfl⟩:=h;obtain ⟨p, entries, eJ, hp, aB, aG⟩:=Xm hH aF hm;have fh:ev kk = Q3 env kk:=Hv bO ef;have bP:(getObj p.blk).run P w = .ok (.map entries clock) w:=Qv aB (λ_ _ _ e => by cases e);have aW:∀ O', (setObj p.blk O').run P w = .ok () (Pk w p.blk O'):=λO' => QJ aB (λ_ _ _ e => by cases e);obtain ⟨nv, nE⟩:=F5 es;rcases K1 hd ez bO nv clock es entries.toList aG ae with ⟨h1, h2, h3⟩ | ⟨j, a, a', h1, h2, h3, h4, h5, h6⟩
                  . rw [HL h1]
                    obtain ⟨k1, k2⟩:=hH.setObj (i:=i) (p:=p) hp (Xk aF) (o':=.map es clock) (O':=.map entries clock) (ORel.q0q.2 ⟨_, rfl, aG⟩);refine ⟨.tuple #[], _, ρ, .inl ?_, VRel.q0j (LRel.nil _ _), k1, k2⟩;simp only [execOp];simp [resolve, aJ, bF, invoke, builtin, Builtin.delete_, dJ, Q0 hu, eJ, bP, fh, Zq hd ez bO, h2, aW]
                  . obtain ⟨j0, g1, g2, g3⟩:=TB (nv:=nv) (c:=clock) h1
                    have hj:j = j0:=by rw [g2] at h6;have hs:=congrArg (λx:List Jo × Nat => x.1) h6;exact (Q4s (z7.1 g1).1 (z7.1 h2).1 hs nE).symm
                    subst hj;rw [g3];obtain ⟨k1, k2⟩:=hH.setObj (i:=i) (p:=p) hp (Xk aF) (o':=.map (es.eraseIdx j) clock) (O':=.map (entries.eraseIdxIfInBounds (0 + j)) clock) (ORel.q0q.2 ⟨_, rfl, by
                      have bU:j < entries.size:=by have:=(z7.1 h3).1;simpa using this
                      rw [zV];have e:(entries.eraseIdxIfInBounds j).toList = entries.toList.eraseIdx j:=by simp
                      rw [e];exact LY aG j⟩)
                    refine ⟨.tuple #[], _, ρ, .inl ?_, VRel.q0j (LRel.nil _ _), k1, k2⟩;simp only [execOp];simp [resolve, aJ, bF, invoke, builtin, Builtin.delete_, dJ, Q0 hu, eJ, bP, fh, Zq hd ez bO, h4, aW]
                . cases h
              . cases h
            . cases h
        . cases hc
      . cases hc
    . rename_i aJ
      split at hc
      . rename_i t dd ss dJ cP
        split at hc
        . rename_i e hu
          cases hi:P.info? e with
          | none => simp [hi] at hc
          | some inf =>
            simp [hi] at hc; subst hc;have bF:c.args = #[dd, ss]:=Array.ext' (by simpa using cP);have c_:X6 dd = true /\ X6 ss = true:=by simpa [Call.operands, aJ, bF] using ai
            have hd:=hE dd c_.1;have hs:=hE ss c_.2;simp only [Zc] at h;split at h
            . rename_i db dn dc sb sn sc ql qj
              rw [ql] at hd; rw [qj] at hs;obtain ⟨da, tg, qm⟩:=hd.q1t;obtain ⟨sa, jA, nC⟩:=hs.q1t;split at h
              . rename_i h0
                simp at h; obtain ⟨rfl, rfl⟩:=h;refine ⟨.int .i64 0, w, ρ, .inl ?_, .int _ _, hH, Ext.refl _ _ _⟩;simp only [execOp];have rI:Nat.min sn dn = 0:=h0;cases sa <;> cases da <;> simp [resolve, aJ, bF, invoke, builtin, Builtin.copy_, dJ, qm, nC, Q0 hu, Qa hi, Builtin.lenOf, rI, Builtin.firstCells, loadCells, loadCellsFrom, storeCells, goInt]
              . rename_i h0
                split at h
                . rename_i i o xs bB
                  split at h
                  . rename_i cc e' wr tight hb
                    split at h
                    . rename_i ak
                      obtain ⟨rfl, nb, jv, ia⟩:=ak;simp at h; obtain ⟨rfl, rfl⟩:=h;have a8:VRel ρ M.n (.slice sb (min sn dn) sc) (.slice sa (min sn dn) jA):=by
                        rw [nC] at hs;cases hs with
                        | nilSl => exact absurd (by simp) h0
                        | slx _ _ _ _ _ ig dk => exact .slx _ _ _ _ _ ig dk
                        | sl i2 o2 _ _ a2 _ ig dk =>
                          refine .sl _ _ _ _ _ _ ig λp hp => ?_;obtain ⟨k1, k2, ⟨k0, vg⟩ | ⟨o', k3, k4, k5⟩⟩:=dk p hp
                          . exact ⟨k1, k2, .inl ⟨k0, by omega⟩⟩
                          exact ⟨k1, k2, .inr ⟨o', k3, k4, k5.imp id (λhh => ⟨by rw [hh.1]; simp, hh.2⟩)⟩⟩
                      obtain ⟨fZ, us, eo, _, aR⟩:=Rf hH bB a8;have hr:=aR w (Like.refl ρ w);have qk:(Builtin.firstCells inf.size (min sn dn) (.slice sa sn jA)).run P w = .ok us.toArray w:=by rw [<- hr]; cases sa <;> rfl
                      obtain ⟨p, hp, hB⟩:=hH.live i _ hb;rw [qm] at hd;obtain ⟨a2, jq, ka, aO, aY⟩:=hd.q1b;simp at ka;obtain ⟨rfl, rfl⟩:=ka;obtain ⟨_, _, ⟨_, gZ⟩ | ⟨o', qn, _, ng⟩⟩:=aY p hp
                      . exact absurd (by rw [gZ]; simp) h0
                      have ho:o' = o:=ng.resolve_right (λhh => h0 (by rw [hh.1]; simp));subst ho;obtain ⟨h2, h3⟩:=hH.store hp hb eo (o:=o') (by omega);refine ⟨.int .i64 (min sn dn:Nat), _, ρ, .inl ?_, .int _ _, h2, h3⟩;have mE:us.length = xs.length:=eo.1.symm
                      have aS:=run_storeCells_cells (P:=P) p.blk (p.shift + o') us 0 w
                        (λj hj => by rw [zM, zk]; exact hB.q0t _ (by have:=hB.2.2.1; omega))
                        (λj hj => by rw [zM, zk]; exact (hB.2.2.2.2.2 rfl).2 _ (by have:=hB.2.2.1; omega))
                        (Kc ia eo)
                      rw [zM] at aS;have qo:Nat.min sn dn = min sn dn:=rfl;simp only [execOp];simp [resolve, aJ, bF, invoke, builtin, Builtin.copy_, dJ, qm, nC, Q0 hu, Qa hi, Builtin.lenOf, qo, qk, qn, aS, goInt]
                    . cases h
                  . cases h
                . cases h
            . cases h
        . cases hc
      . cases hc
    . rename_i aJ
      split at hc
      . rename_i t x dJ cP
        split at hc
        . rename_i e hu
          cases hz:zeroOf P e with
          | none => simp [hz] at hc
          | some z =>
            simp [hz] at hc;obtain ⟨gZ, rfl⟩:=hc;obtain ⟨inf, zv, b8, ec, ft, vh, iU⟩:=Y2 hz;have bF:c.args = #[x]:=Array.ext' (by simpa using cP);have c_:X6 x = true:=by simpa [Call.operands, aJ, bF] using ai
            have hx:=hE x c_;simp only [Zc] at h;split at h
            . rename_i b n cap bq
              rw [bq] at hx;obtain ⟨a, th, cy⟩:=hx.q1t;split at h
              . rename_i h0
                simp at h; obtain ⟨rfl, rfl⟩:=h;subst h0;refine ⟨.tuple #[], w, ρ, .inl ?_, VRel.q0j (LRel.nil _ _), hH, Ext.refl _ _ _⟩;simp only [execOp];cases a <;> simp [resolve, aJ, bF, invoke, builtin, Builtin.clear_, dJ, cy, Q0 hu]
              . rename_i h0
                split at h
                . rename_i i o
                  split at h
                  . rename_i cc e' wr tight hb
                    split at h
                    . rename_i ak
                      obtain ⟨rfl, jv, ia⟩:=ak;simp at h; obtain ⟨rfl, rfl⟩:=h;have eo:LRel ρ M.n (H7 n z) (H7 n z):=X9 (DT n z iU);have dm:=Pj n z;have bL:(H7 n z).all cellOk = true:=EU n z ia;obtain ⟨p, hp, hB⟩:=hH.live i _ hb;rw [cy] at hx;obtain ⟨a2, jq, ka, aO, aY⟩:=hx.q1b;simp at ka;obtain ⟨rfl, rfl⟩:=ka;obtain ⟨_, _, ⟨_, gZ⟩ | ⟨o', qn, _, ng⟩⟩:=aY p hp
                      . exact absurd gZ h0
                      have ho:o' = o:=ng.resolve_right (λhh => h0 hh.1);subst ho;obtain ⟨h2, h3⟩:=hH.store hp hb eo (o:=o') (by omega);refine ⟨.tuple #[], _, ρ, .inl ?_, VRel.q0j (LRel.nil _ _), h2, h3⟩
                      have aS:=run_storeCells_cells (P:=P) p.blk (p.shift + o') (H7 n z) 0 w
                        (λj hj => by rw [zM, zk]; exact hB.q0t _ (by have:=hB.2.2.1; omega))
                        (λj hj => by rw [zM, zk]; exact (hB.2.2.2.2.2 rfl).2 _ (by have:=hB.2.2.1; omega))
                        (Kc bL eo)
                      rw [zM] at aS;have tj:(Builtin.zeroCells zv.cells n).toList = H7 n z:=by have:=DV zv.cells z ft (by intro hh; rw [hh] at gZ; exact gZ rfl) n;simpa [Builtin.zeroCells, <- ft] using this
                      simp only [execOp];obtain ⟨n', rfl⟩:∃ k, n = k + 1:=⟨n - 1, by omega⟩;simp [resolve, aJ, bF, invoke, builtin, Builtin.clear_, dJ, cy, Q0 hu, Z2 b8 ec, tj, qn, aS]
                    . cases h
                  . cases h
                . cases h
            . cases h
        . cases hc
      . cases hc
    . split at hc
      . simp at hc; subst hc; cases hq
      . cases hc
    . rename_i aJ
      split at hc
      . rename_i t x nn dJ cP
        split at hc
        . rename_i e hu
          split at hc
          . rename_i p7
            simp at hc; subst hc;have bF:c.args = #[x, nn]:=Array.ext' (by simpa using cP);have c_:X6 x = true /\ X6 nn = true:=by simpa [Call.operands, aJ, bF] using ai
            have hx:=hE x c_.1;have hn:=hE nn c_.2;simp only [Zc] at h;split at h
            . rename_i q k bq av
              rw [bq] at hx; rw [av] at hn;have fN:=hn.q0h;split at h
              . rename_i h0
                simp at h; obtain ⟨rfl, rfl⟩:=h;subst h0;refine ⟨.string ⟨#[]⟩, w, ρ, .inl ?_, .string _, hH, Ext.refl _ _ _⟩;have cC:∃ q', ev x = .pointer q':=by
                  cases q with
                  | none => exact ⟨none, hx.q0o⟩
                  | some a => obtain ⟨b, hb⟩:=hx.q1f; exact ⟨_, hb⟩
                obtain ⟨q', cC⟩:=cC;simp [execOp, resolve, aJ, bF, invoke, builtin, cC, fN, RJ c.argTypes ty t dJ q' w];rfl
              . rename_i h0
                split at h
                . rename_i i o
                  split at h
                  . rename_i cc el tight hb
                    split at h
                    . rename_i ak
                      obtain ⟨iZ, mO, het, jv⟩:=ak;split at h
                      . rename_i s' qf
                        simp at h; obtain ⟨rfl, rfl⟩:=h;obtain ⟨ns, mM, rfl⟩:=TF qf;obtain ⟨p, hp, h1, h2, h3, ⟨C, e', f, hC, pB, lB⟩, h5, h6⟩:=hH.live i _ hb;obtain ⟨_, _, cy⟩:=hx.q0w hp;have ke:ns.length = k.toNat:=by have:=congrArg List.length mM;simp at this; omega
                        have a9:∀ j n, ns[j]? = some n -> w.cell? ((⟨p.blk, p.shift + o, none⟩:Addr).add j) = some (.int .u8 n):=λj n hj => by
                          have bU:j < ns.length:=(z7.1 hj).1;have dI:cc[o + j]? = some (.int .u8 n):=by
                            have:((cc.drop o).take k.toNat)[j]? = some (.int .u8 n):=by rw [mM, zQ, hj]; rfl
                            rwa [zL, z0 (by omega), zw] at this
                          obtain ⟨u, cw, cD⟩:=h5 (o + j) _ dI;have gg:(⟨p.blk, p.shift + o, none⟩:Addr).add j = ⟨p.blk, p.shift + (o + j), none⟩:=by unfold Addr.add; split <;> simp_all <;> omega
                          rw [gg, cw, cD.q0h]
                        have eT:w.shape? p.blk = some (e, C.size):=by simp [World.shape?, hC, lB, het]
                        have hr:=Q1e (P:=P) c.argTypes ty t e dJ hu p7 ⟨p.blk, p.shift + o, none⟩ C.size w eT ns k iZ ke (by show p.shift + o + ns.length <= C.size; omega) mO a9;obtain ⟨k1, k2⟩:=hH.freeze hp hb (p.shift + o) k.toNat;refine ⟨.string ⟨(ns.map λn => n.toNat.toUInt8).toArray⟩, _, ρ, .inl ?_, .string _, k1, k2⟩;simp [execOp, resolve, aJ, bF, invoke, builtin, cy, fN, hr]
                      . cases h
                    . cases h
                  . cases h
                . cases h
            . cases h
          . cases hc
        . cases hc
      . cases hc
    . cases hc
  all_goals cases hc
theorem Fc {o:Oper}{vo:VOp}(hc:K7 P o.op=vo) (hq:vo.quiet=true) (hH:HRel ρ M w) (hE:∀ x,X6 x=true->VRel ρ M.n (Q3 env x) (ev x))
  (h:Q6 vo (Q3 env) M=some (v,M')):M'=M/\Lm P ρ M w v (execOp ev o):=by
 unfold K7 at hc;split at hc
 .rename_i v' hv;subst hc;exact C8 hv hq hH hE h
 .split at hc
  .rename_i x hx;subst hc;exact L5 hx hq hH hE h
  .subst hc;simp[Q6] at h
theorem O_ {o:Oper}{vo:VOp}(hc:K7 P o.op=vo) (hq:vo.quiet=false) (hH:HRel ρ M w) (hE:∀ x,X6 x=true->VRel ρ M.n (Q3 env x) (ev x))
  (h:Q6 vo (Q3 env) M=some (v,M')):RA P ρ M w v M' (execOp ev o):=by
 unfold K7 at hc;split at hc
 .rename_i v' hv;subst hc;exact AS hv hq hH hE h
 .split at hc
  .rename_i x hx;subst hc;exact Cb hx hq hH hE h
  .subst hc;simp[Q6] at h
end
end Go.V