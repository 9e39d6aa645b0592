/- A framework for walks, contracts of functions, and their proofs: part 1. -/
import Derived.WalkKit
import Derived.Lib.Builder
import Derived.Lib.UnsafeStr
import Derived.DeepKeys
abbrev Go.z0:=@if_neg
abbrev Go.z3:=@if_pos
abbrev Go.z4:=@Bool.and_eq_true
abbrev Go.z5:=@List.getElem?_eq_getElem
abbrev Go.z6:=@List.getD_eq_getElem?_getD
abbrev Go.z7:=@Nat.le_refl
abbrev Go.z8:=@List.all_eq_true
abbrev Go.z9:=@List.getElem?_eq_some_iff
abbrev Go.zd:=@List.mem_singleton
abbrev Go.ze:=@List.mem_cons_of_mem
abbrev Go.zf:=@List.mem_cons_self
abbrev Go.zg:=@of_decide_eq_true
abbrev Go.zh:=@Int.toNat_natCast
abbrev Go.zi:=@Go.Result.andThen_ok
abbrev Go.zj:=@List.mem_cons
abbrev Go.zk:=@Nat.lt_or_ge
abbrev Go.zl:=@_root_.cond_true
abbrev Go.zm:=@of_decide_eq_false
abbrev Go.zn:=@decide_eq_true_eq
abbrev Go.zo:=@List.mem_map
abbrev Go.zp:=@Nat.add_assoc
abbrev Go.zq:=@Option.map_eq_some_iff
abbrev Go.zr:=@List.getElem?_eq_none
abbrev Go.zt:=@List.mem_filter
abbrev Go.zu:=@List.getElem_mem
abbrev Go.zw:=@Go.Sem.run_bind
abbrev Go.zx:=@Bool.or_eq_true
abbrev Go.zy:=@Bool.false_eq_true
abbrev Go.zz:=@List.mem_append
abbrev Go.zA:=@List.mem_range
abbrev Go.zB:=@if_true
abbrev Go.zC:=@List.getElem?_drop
abbrev Go.zD:=@Nat.mul_le_mul_right
abbrev Go.zE:=@List.map_cons
abbrev Go.zF:=@Nat.le_of_ble_eq_true
abbrev Go.zG:=@List.mem_of_getElem?
abbrev Go.zH:=@List.length_append
abbrev Go.zI:=@Nat.eq_of_beq_eq_true
abbrev Go.zJ:=@Nat.blt_eq
abbrev Go.zK:=@beq_iff_eq
abbrev Go.zL:=@Option.bind_eq_bind
abbrev Go.zM:=@List.take_of_length_le
abbrev Go.zN:=@Nat.add_mul
abbrev Go.zO:=@List.getElem?_take
abbrev Go.zP:=@List.cons.inj
abbrev Go.zQ:=@_root_.cond_false
abbrev Go.zR:=@Nat.add_zero
abbrev Go.zS:=@List.all_cons
abbrev Go.zT:=@List.length_cons
abbrev Go.zU:=@List.getElem?_map
abbrev Go.zV:=@List.cons_append
abbrev Go.zW:=@List.length_eq_zero_iff
abbrev Go.zX:=@decide_eq_true
abbrev Go.zY:=@List.append_assoc
abbrev Go.zZ:=@List.ext_getElem?
abbrev Go.z_:=@List.nodup_cons
abbrev Go.x3:=@Option.bind_eq_some_iff
abbrev Go.x4:=@Int.eq_ofNat_of_zero_le
abbrev Go.x5:=@Go.Sem.run_pure
abbrev Go.x6:=@List.length_map
abbrev Go.x7:=@Nat.lt_of_lt_of_le
abbrev Go.x8:=@Nat.le_trans
abbrev Go.x9:=@Option.some.injEq
abbrev Go.xc:=@List.pairwise_map
abbrev Go.xd:=@List.mem_iff_getElem?
abbrev Go.xe:=@List.length_singleton
abbrev Go.xg:=@List.drop_zero
abbrev Go.xh:=@Nat.zero_add
abbrev Go.xi:=@Array.getElem?_eq_getElem
abbrev Go.xj:=@List.length_eq_one_iff
abbrev Go.xk:=@Nat.mod_eq_of_lt
abbrev Go.xl:=@List.mapM_cons
abbrev Go.xm:=@Bool.not_eq_false'
abbrev Go.xn:=@decide_eq_false_iff_not
abbrev Go.xp:=@List.map_congr_left
abbrev Go.xq:=@beq_eq_false_iff_ne
abbrev Go.xr:=@List.getElem?_append_left
abbrev Go.xt:=@List.nil_append
abbrev Go.xu:=@Nat.shiftRight_eq_div_pow
abbrev Go.xw:=@decide_eq_false
abbrev Go.xx:=@Option.bind_some
abbrev Go.xy:=@List.append_nil
abbrev Go.xA:=@List.mem_append_right
abbrev Go.xB:=@Option.map_some
abbrev Go.xC:=@List.map_append
abbrev Go.xD:=@List.replicate_succ
abbrev Go.xE:=@List.getElem?_append_right
abbrev Go.xF:=@List.any_eq_true
abbrev Go.xG:=@List.perm_ext_iff_of_nodup
abbrev Go.xH:=@Array.getElem?_eq_some_iff
abbrev Go.xI:=@List.mem_append_left
abbrev Go.xJ:=@List.getLastD_eq_getLast?
abbrev Go.xK:=@List.drop_eq_getElem_cons
abbrev Go.xL:=@Nat.lt_of_le_of_lt
abbrev Go.xM:=@List.pairwise_cons
abbrev Go.xN:=@List.getElem?_set
abbrev Go.xO:=@Bool.not_eq_true
abbrev Go.xP:=@List.length_pos_iff
abbrev Go.xQ:=@List.any_eq_false
abbrev Go.xR:=@Nat.one_mul
abbrev Go.xS:=@List.getElem_map
abbrev Go.xT:=@List.sum_cons
abbrev Go.xU:=@List.length_set
abbrev Go.xV:=@Nat.add_comm
abbrev Go.xW:=@Bool.and_true
abbrev Go.xX:=@Nat.min_eq_left
abbrev Go.xY:=@Bool.not_true
abbrev Go.xZ:=@List.take_append_drop
abbrev Go.x_:=@List.length_replicate
abbrev Go.w4:=@Bool.or_false
abbrev Go.w5:=@Nat.mod_lt
abbrev Go.wa:=@List.length_take
abbrev Go.wb:=@List.filter_cons
abbrev Go.wc:=@List.foldl_cons
abbrev Go.we:=@Bool.not_eq_false
abbrev Go.wg:=@Nat.sub_self
abbrev Go.wh:=@List.length_drop
abbrev Go.wi:=@List.take_succ_cons
abbrev Go.wj:=@List.length_range
abbrev Go.wk:=@Nat.mul_comm
abbrev Go.wm:=@Option.map_none
abbrev Go.wq:=@Nat.not_lt
abbrev Go.wu:=@List.drop_succ_cons
abbrev Go.wx:=@List.take_zero
abbrev Go.wz:=@Nat.lt_irrefl
abbrev Go.wA:=@List.map_map
theorem Go.osj.{u} {α:Type u} {a b:α}:some a=some b->a=b:=Option.some.inj
namespace Go.V
open Go
def Q7c:Nat->Option (List Value):=λ_=>none
structure El where
 sz:Nat
 ty:Nat
 deriving DecidableEq,Inhabited
inductive VObj where
 |map (es:List (Value×Value×Nat)) (clock:Nat)
 |iter (m since:Nat) (seen:List Nat) (last:Nat)
 |lp (env:List Value) (r:Loop) (st:LoopState) (pend:Option Code)
 deriving Inhabited
inductive Blk where
 |cells (c:List Value) (esz:El) (wr tight:Bool)
 |obj (o:VObj) (wr:Bool)
 deriving Inhabited
def Blk.wr:Blk->Bool
 |.cells _ _ w _=>w
 |.obj _ w=>w
structure Heap where
 get:Nat->Option Blk
 n:Nat
 wf:∀ i,n<=i->get i=none
theorem Heap.lt (M:Heap) {i:Nat}{b:Blk}(h:M.get i=some b):i<M.n:=by
 rcases zk i M.n with h'|h'
 .exact h'
 .rw[M.wf i h'] at h;cases h
def Heap.push (M:Heap) (b:Blk):Heap where
 get i:=if i=M.n then some b else M.get i
 n:=M.n+1
 wf i h:=by rw[z0 (by omega)];exact M.wf i (by omega)
def Heap.upd (M:Heap) (i:Nat) (b:Blk):Heap where
 get j:=if j=i/\i<M.n then some b else M.get j
 n:=M.n
 wf j h:=by rw[z0 (by omega)];exact M.wf j h
def Heap.kill (M:Heap) (i:Nat):Heap where
 get j:=if j=i then none else M.get j
 n:=M.n
 wf j h:=by split;rfl;exact M.wf j h
@[simp] theorem Heap.push_n (M:Heap) (b:Blk):(M.push b).n=M.n+1:=rfl
@[simp] theorem Heap.q2i (M:Heap) (i:Nat) (b:Blk):(M.upd i b).n=M.n:=rfl
@[simp] theorem Heap.kill_n (M:Heap) (i:Nat):(M.kill i).n=M.n:=rfl
theorem Heap.q0a (M:Heap) (b:Blk):(M.push b).get M.n=some b:=by simp[Heap.push]
theorem Heap.q0e (M:Heap) (b:Blk) {i:Nat}(h:i≠M.n):(M.push b).get i=M.get i:=by simp[Heap.push,h]
theorem Heap.q0i (M:Heap) (b:Blk) {i:Nat}(h:i<M.n):(M.push b).get i=M.get i:=M.q0e b (Nat.ne_of_lt h)
theorem Heap.q0d (M:Heap) (b:Blk) {i:Nat}(h:i<M.n):(M.upd i b).get i=some b:=by simp[Heap.upd,h]
theorem Heap.q0b (M:Heap) (b:Blk) {i j:Nat}(h:j≠i):(M.upd i b).get j=M.get j:=by simp[Heap.upd,h]
theorem Heap.q0f (M:Heap) (i:Nat):(M.kill i).get i=none:=by simp[Heap.kill]
theorem Heap.q0c (M:Heap) {i j:Nat}(h:j≠i):(M.kill i).get j=M.get j:=by simp[Heap.kill,h]
structure Pl where
 blk:Nat
 shift:Nat
 ext:Nat
 esz:El
 tight:Bool
abbrev Plc:=Nat->Option Pl
def poison:Value:=.chan none
inductive VRel (ρ:Plc) (n:Nat):Value->Value->Prop
 |poison (c:Value):VRel ρ n poison c
 |bool (b:Bool):VRel ρ n (.bool b) (.bool b)
 |int (k:IntKind) (x:Int):VRel ρ n (.int k x) (.int k x)
 |string (s:ByteArray):VRel ρ n (.string s) (.string s)
 |nilPtr:VRel ρ n (.pointer none) (.pointer none)
 |nilSl:VRel ρ n (.slice none 0 0) (.slice none 0 0)
 |nilMap:VRel ρ n (.map none) (.map none)
 |nilFunc:VRel ρ n .nilFunc .nilFunc
 |nilIface:VRel ρ n .nilIface .nilIface
 |glob (g o s:Nat):VRel ρ n (.pointer (some ⟨g,o,some s⟩)) (.pointer (some ⟨g,o,none⟩))
 |ptr (i o:Nat) (a:Addr) (hi:i<n) (h:∀ p,ρ i=some p->a=⟨p.blk,p.shift+o,none⟩):VRel ρ n (.pointer (some ⟨i,o,none⟩)) (.pointer (some a))
 |sl (i o len cap:Nat) (a:Addr) (av:Nat) (hi:i<n)
   (h:∀ p,ρ i=some p->cap<=av/\(p.tight=true->av=cap)/\∃ o',a=⟨p.blk,p.shift+o',none⟩/\o'+av*p.esz.sz<=p.ext/\(o'=o\/(len=0/\cap=0))) :
   VRel ρ n (.slice (some ⟨i,o,none⟩) len cap) (.slice (some a) len av)
 |slx (i o len cap:Nat) (a:Addr) (hi:i<n) (h:∀ p,ρ i=some p->a=⟨p.blk,p.shift+o,none⟩/\o+cap*p.esz.sz<=p.ext) :
   VRel ρ n (.slice (some ⟨i,o,some 0⟩) len cap) (.slice (some a) len cap)
 |map (i r:Nat) (hi:i<n) (h:∀ p,ρ i=some p->r=p.blk):VRel ρ n (.map (some i)) (.map (some r))
 |yield (i r:Nat) (hi:i<n) (h:∀ p,ρ i=some p->r=p.blk):VRel ρ n (.func (.yield i) #[] #[]) (.func (.yield r) #[] #[])
 |iface (t:TypeId) (v c:Value) (h:VRel ρ n v c):VRel ρ n (.iface t v) (.iface t c)
 |func (fn:FuncId) (fs gs cs ds:Array Value) (hf:fs.size=gs.size) (hc:cs.size=ds.size)
   (h1:∀ i (h1:i<fs.size) (h2:i<gs.size),VRel ρ n fs[i] gs[i]) (h2:∀ i (h1:i<cs.size) (h2:i<ds.size),VRel ρ n cs[i] ds[i]):VRel ρ n (.func (.func fn) fs cs) (.func (.func fn) gs ds)
 |agg (cs ds:Array Value) (hc:cs.size=ds.size) (h:∀ i (h1:i<cs.size) (h2:i<ds.size),VRel ρ n cs[i] ds[i]):VRel ρ n (.agg cs) (.agg ds)
 |tuple (cs ds:Array Value) (hc:cs.size=ds.size) (h:∀ i (h1:i<cs.size) (h2:i<ds.size),VRel ρ n cs[i] ds[i]):VRel ρ n (.tuple cs) (.tuple ds)
theorem VRel.mono {ρ ρ':Plc}{n n':Nat}(hn:n<=n') (hρ:∀ i,i<n->∀ p,ρ' i=some p->ρ i=some p) {v c:Value}(h:VRel ρ n v c):VRel ρ' n' v c:=by
 induction h with
 |poison c=>exact .poison c
 |bool b=>exact .bool b
 |int k x=>exact .int k x
 |string s=>exact .string s
 |nilPtr=>exact .nilPtr
 |nilSl=>exact .nilSl
 |nilMap=>exact .nilMap
 |nilFunc=>exact .nilFunc
 |nilIface=>exact .nilIface
 |glob g o s=>exact .glob g o s
 |ptr i o a hi h=>exact .ptr i o a (by omega) λp hp=>h p (hρ i hi p hp)
 |sl i o len cap a av hi h=>exact .sl i o len cap a av (by omega) λp hp=>h p (hρ i hi p hp)
 |slx i o len cap a hi h=>exact .slx i o len cap a (by omega) λp hp=>h p (hρ i hi p hp)
 |map i r hi h=>exact .map i r (by omega) λp hp=>h p (hρ i hi p hp)
 |yield i r hi h=>exact .yield i r (by omega) λp hp=>h p (hρ i hi p hp)
 |iface t v c _ ih=>exact .iface t v c ih
 |func fn fs gs cs ds hf hc _ _ kW kX=>exact .func fn fs gs cs ds hf hc kW kX
 |agg cs ds hc _ ih=>exact .agg cs ds hc ih
 |tuple cs ds hc _ ih=>exact .tuple cs ds hc ih
def LRel (ρ:Plc) (n:Nat) (vs cs:List Value):Prop:=vs.length=cs.length/\∀ (i:Nat) (v c:Value),vs[i]?=some v->cs[i]?=some c->VRel ρ n v c
theorem LRel.mono {ρ ρ':Plc}{n n':Nat}(hn:n<=n') (hρ:∀ i,i<n->∀ p,ρ' i=some p->ρ i=some p) {v c:List Value}(h:LRel ρ n v c):LRel ρ' n' v c :=
 ⟨h.1,λi v c hv hc=>(h.2 i v c hv hc).mono hn hρ⟩
theorem LRel.nil (ρ:Plc) (n:Nat):LRel ρ n [] []:=⟨rfl,λi v c h _=>by simp at h⟩
theorem LRel.cons {ρ:Plc}{n:Nat}{v c:Value}{vs cs:List Value}(h:VRel ρ n v c) (hs:LRel ρ n vs cs):LRel ρ n (v::vs) (c::cs):=by
 refine⟨by simp[hs.1],λi v' c' hv hc=>?_⟩;cases i with
 |zero=>simp at hv hc;subst hv;subst hc;exact h
 |succ i=>simp at hv hc;exact hs.2 i v' c' hv hc
theorem LRel.get {ρ:Plc}{n:Nat}{vs cs:List Value}(h:LRel ρ n vs cs) {i:Nat}{v:Value}(hv:vs[i]?=some v):∃ c,cs[i]?=some c/\VRel ρ n v c:=by
 have af:i<vs.length:=(z9.1 hv).1;have bY:i<cs.length:=by have:=h.1;omega
 exact⟨cs[i],z5 bY,h.2 i v _ hv (z5 bY)⟩
theorem LRel.set {ρ:Plc}{n:Nat}{vs cs:List Value}(h:LRel ρ n vs cs) (i:Nat) {v c:Value}(hv:VRel ρ n v c):LRel ρ n (vs.set i v) (cs.set i c):=by
 refine⟨by simp[h.1],λj v' c' h1 h2=>?_⟩;rw[xN] at h1 h2;by_cases bQ:i=j
 .subst bQ;simp only[zB] at h1 h2;split at h1<;>split at h2<;>simp at h1 h2;subst h1;subst h2;exact hv
 .simp only[bQ,if_false] at h1 h2;exact h.2 j v' c' h1 h2
theorem LRel.append {ρ:Plc}{n:Nat}{vs cs cL cs':List Value}(h:LRel ρ n vs cs) (h':LRel ρ n cL cs'):LRel ρ n (vs++cL) (cs++cs'):=by
 refine⟨by simp[h.1,h'.1],λi v c hv hc=>?_⟩;have e:=h.1;rw[List.getElem?_append] at hv hc;split at hv<;>split at hc<;>try omega
 .exact h.2 i v c hv hc
 .rw[e] at hv;exact h'.2 _ v c hv hc
theorem VRel.q1m {ρ:Plc}{n:Nat}{cs ds:List Value}(h:LRel ρ n cs ds):VRel ρ n (.agg cs.toArray) (.agg ds.toArray) :=
 .agg _ _ (by simpa using h.1) λi h1 h2=>h.2 i _ _ (by simp) (by simp)
theorem VRel.q0j {ρ:Plc}{n:Nat}{cs ds:List Value}(h:LRel ρ n cs ds):VRel ρ n (.tuple cs.toArray) (.tuple ds.toArray) :=
 .tuple _ _ (by simpa using h.1) λi h1 h2=>h.2 i _ _ (by simp) (by simp)
theorem LRel.of_array {ρ:Plc}{n:Nat}{cs ds:Array Value}(hc:cs.size=ds.size) (h:∀ i (h1:i<cs.size) (h2:i<ds.size),VRel ρ n cs[i] ds[i]):LRel ρ n cs.toList ds.toList:=by refine⟨by simpa using hc,λi v c hv cM=>?_⟩;obtain⟨h1,rfl⟩:=z9.1 hv;obtain⟨h2,rfl⟩:=z9.1 cM;exact h i (by simpa using h1) (by simpa using h2)
def ORel (ρ:Plc) (n:Nat):VObj->Obj->Prop
 |.map es clock,o=>∃ entries,o=.map entries clock/\entries.size=es.length /\
   ∀ (k:Nat) (kv:Value×Value×Nat),es[k]?=some kv->∃ e:MapEntry,entries[k]?=some e/\e.key=kv.1/\e.born=kv.2.2/\VRel ρ n kv.2.1 e.val
 |.iter m since seen last,o=>∃ rm,o=.mapIter (some rm) since seen.toArray last/\VRel ρ n (.map (some m)) (.map (some rm))
 |.lp env r st pend,o=>o=.loop {r with state:=st,pending:=pend}/\LRel ρ n env r.tmps.toList
def BRel (ρ:Plc) (n:Nat) (p:Pl) (w:World):Blk->Prop
 |.cells c esz wr tight=>p.esz=esz/\p.tight=tight/\c.length<=p.ext /\
   (∃ C e f,w.heap[p.blk]?=some (.cells C e f)/\p.shift+p.ext<=C.size/\e=esz.ty) /\
   (∀ (k:Nat) (v:Value),c[k]?=some v->∃ u,w.cell? ⟨p.blk,p.shift+k,none⟩=some u/\VRel ρ n v u) /\
   (wr=true->(tight=true->p.shift=0)/\∀ k,k<p.ext->w.frozen? ⟨p.blk,p.shift+k,none⟩=false)
 |.obj o _=>(p.ext=1/\p.shift=0)/\∃ O,w.heap[p.blk]?=some O/\ORel ρ n o O
structure HRel0 (ρ:Plc) (M:Heap) (w:World):Prop where
 live:∀ i b,M.get i=some b->∃ p,ρ i=some p/\BRel ρ M.n p w b
 dead:∀ i,M.get i=none->ρ i=none
 lt:∀ i p,ρ i=some p->p.blk<w.heap.size
 sep:∀ i j p q b,i≠j->ρ i=some p->ρ j=some q->M.get i=some b->b.wr=true->0<q.ext->p.blk≠q.blk
theorem HRel0.idlt {ρ:Plc}{M:Heap}{w:World}(h:HRel0 ρ M w) {i:Nat}{p:Pl}(hp:ρ i=some p):i<M.n:=by
 cases hb:M.get i with
 |none=>rw[h.dead i hb] at hp;cases hp
 |some b=>exact M.lt hb
def Wr (ρ:Plc) (M:Heap) (B:Nat):Prop:=∃ i p b,ρ i=some p/\M.get i=some b/\b.wr=true/\p.blk=B
structure Ext (ρ:Plc) (M:Heap) (w:World) (ρ':Plc) (M':Heap) (w':World):Prop where
 os:w'.os=w.os
 tape:w'.tape=w.tape
 output:w'.output=w.output
 size:w.heap.size<=w'.heap.size
 keep:∀ B,B<w.heap.size->¬ Wr ρ M B->w'.heap[B]?=w.heap[B]?
 wr:∀ B,B<w.heap.size->Wr ρ' M' B->Wr ρ M B
 n:M.n<=M'.n
 pl:∀ i,i<M.n->∀ p,ρ' i=some p->ρ i=some p
theorem Ext.refl (ρ:Plc) (M:Heap) (w:World):Ext ρ M w ρ M w :=
 ⟨rfl,rfl,rfl,z7 _,λ_ _ _=>rfl,λ_ _ h=>h,z7 _,λ_ _ _ h=>h⟩
theorem Ext.trans {ρ ρ' eP:Plc}{M M' aE:Heap}{w w' o7:World}(h:Ext ρ M w ρ' M' w') (k:Ext ρ' M' w' eP aE o7):Ext ρ M w eP aE o7 where
 os:=k.os.trans h.os
 tape:=k.tape.trans h.tape
 output:=k.output.trans h.output
 size:=x8 h.size k.size
 keep B hB hW:=(k.keep B (x7 hB h.size) (λhw=>hW (h.wr B hB hw))).trans (h.keep B hB hW)
 wr B hB hW:=h.wr B hB (k.wr B (x7 hB h.size) hW)
 n:=x8 h.n k.n
 pl i hi p hp:=h.pl i hi p (k.pl i (x7 hi h.n) p hp)
theorem Ext.lrel {ρ ρ':Plc}{M M':Heap}{w w':World}(h:Ext ρ M w ρ' M' w') {v c:List Value}(hv:LRel ρ M.n v c):LRel ρ' M'.n v c:=hv.mono h.n h.pl
theorem ORel.mono {ρ ρ':Plc}{n n':Nat}(hn:n<=n') (hρ:∀ i,i<n->∀ p,ρ' i=some p->ρ i=some p) {o:VObj}{O:Obj}(h:ORel ρ n o O):ORel ρ' n' o O:=by
 cases o with
 |map es clock =>obtain⟨entries,h1,h2,h3⟩:=h;exact⟨entries,h1,h2,λk kv hk=>let ⟨e,he,h4,h5,hv⟩:=h3 k kv hk;⟨e,he,h4,h5,hv.mono hn hρ⟩⟩
 |iter m since seen last=>obtain⟨rm,h1,h2⟩:=h;exact⟨rm,h1,h2.mono hn hρ⟩
 |lp env r st pend=>exact⟨h.1,h.2.mono hn hρ⟩
theorem ORel.q1s {ρ:Plc}{n:Nat}{o:VObj}{C:Array Value}{e:TypeId}{f:Nat×Nat}:¬ ORel ρ n o (.cells C e f):=by
 cases o with
 |map es clock=>rintro⟨_,h,_⟩;cases h
 |iter m since seen last=>rintro⟨_,h,_⟩;cases h
 |lp env r st pend=>rintro⟨h,_⟩;cases h
theorem ORel.q0l {ρ:Plc}{n:Nat}{o:VObj}{d:Option (List Deferred)}:¬ ORel ρ n o (.deferred d):=by
 cases o with
 |map es clock=>rintro⟨_,h,_⟩;cases h
 |iter m since seen last=>rintro⟨_,h,_⟩;cases h
 |lp env r st pend=>rintro⟨h,_⟩;cases h
theorem BRel.mono {ρ ρ':Plc}{n n':Nat}(hn:n<=n') (hρ:∀ i,i<n->∀ p,ρ' i=some p->ρ i=some p) {p:Pl}{w w':World}(hw:w'.heap[p.blk]?=w.heap[p.blk]?) {b:Blk}(h:BRel ρ n p w b):BRel ρ' n' p w' b:=by
 cases b with
 |cells c esz wr tight =>
  obtain⟨h1,h2,h3,h4,h5,h6⟩:=h;refine⟨h1,h2,h3,by rw[hw];exact h4,λk v hk=>?_,λgM=>⟨(h6 gM).1,λk hk=>?_⟩⟩
  .obtain⟨u,hu,hv⟩:=h5 k v hk;exact⟨u,by rw[World.cell?_of_block (a:=⟨p.blk,p.shift+k,none⟩) hw];exact hu,hv.mono hn hρ⟩
  .rw[World.frozen?_of_block (a:=⟨p.blk,p.shift+k,none⟩) hw];exact(h6 gM).2 k hk
 |obj o wr =>obtain⟨h0,O,h1,h2⟩:=h;exact⟨h0,O,by rw[hw];exact h1,h2.mono hn hρ⟩
theorem HRel0.world {ρ:Plc}{M:Heap}{w w':World}(h:HRel0 ρ M w) (hs:w.heap.size<=w'.heap.size) (hb:∀ i p,ρ i=some p->w'.heap[p.blk]?=w.heap[p.blk]?):HRel0 ρ M w' where
 live i b hi:=by obtain⟨p,hp,hB⟩:=h.live i b hi;exact⟨p,hp,hB.mono (z7 _) (λ_ _ _ h=>h) (hb i p hp)⟩
 dead:=h.dead
 lt i p hp:=x7 (h.lt i p hp) hs
 sep:=h.sep
theorem HRel0.drew {ρ:Plc}{M:Heap}{w:World}(h:HRel0 ρ M w):HRel0 ρ M w.drew:=h.world (z7 _) (λ_ _ _=>rfl)
theorem Ext.drew (ρ:Plc) (M:Heap) (w:World):Ext ρ M w ρ M w.drew :=
 ⟨rfl,rfl,rfl,z7 _,λ_ _ _=>rfl,λ_ _ h=>h,z7 _,λ_ _ _ h=>h⟩
def Plc.put (ρ:Plc) (i:Nat) (p:Option Pl):Plc:=λj=>if j=i then p else ρ j
theorem HRel0.alloc {ρ:Plc}{M:Heap}{w:World}(h:HRel0 ρ M w) (c:List Value) (C:Array Value) (e:TypeId) (esz:El) (tight:Bool) (he:e=esz.ty)
  (hc:LRel ρ M.n c (C.toList.take c.length)) (hl:c.length<=C.size) :
  ∃ ρ',ρ' M.n=some ⟨w.heap.size,0,C.size,esz,tight⟩/\HRel0 ρ' (M.push (.cells c esz true tight)) (w.alloc (.cells C e))/\Ext ρ M w ρ' (M.push (.cells c esz true tight)) (w.alloc (.cells C e)):=by
 have hold:∀ k,k<w.heap.size->(w.alloc (.cells C e)).heap[k]?=w.heap[k]?:=λk hk=>by show (w.heap.push _)[k]?=_;rw[Array.getElem?_push,z0 (by omega)]
 have aL:(w.alloc (.cells C e)).heap.size=w.heap.size+1:=World.size_alloc w _;have aU:∀ i,i<M.n->∀ p,(ρ.put M.n (some ⟨w.heap.size,0,C.size,esz,tight⟩)) i=some p->ρ i=some p:=λi hi p hp=>by unfold Plc.put at hp;rwa [z0 (by omega)] at hp
 refine⟨ρ.put M.n (some ⟨w.heap.size,0,C.size,esz,tight⟩),by simp[Plc.put],⟨?_,?_,?_,?_⟩,⟨rfl,rfl,rfl,by omega,λB hB _=>hold B hB,?_,by simp,aU⟩⟩
 .intro i b hb;by_cases hi:i=M.n
  .subst hi;rw[Heap.q0a] at hb;obtain rfl:=osj hb;refine⟨⟨w.heap.size,0,C.size,esz,tight⟩,by simp[Plc.put],rfl,rfl,hl,⟨C,e,(0,0),?_,by simp,he⟩,λk v hk=>?_,λ_=>⟨λ_=>rfl,λk _=>?_⟩⟩
   .show (w.heap.push _)[w.heap.size]?=_;simp
   .obtain⟨u,hu,hv⟩:=hc.get hk;have a9:k<c.length:=(z9.1 hk).1;refine⟨u,?_,hv.mono (by simp) aU⟩;rw[xh,World.cell?_alloc_new];rw[zO,z3 a9] at hu;simpa using hu
   .rw[xh];exact World.frozen?_alloc_new w C e k
  .rw[Heap.q0e _ _ hi] at hb;obtain⟨p,hp,hB⟩:=h.live i b hb;exact⟨p,by simp[Plc.put,hi,hp],hB.mono (by simp) aU (hold _ (h.lt i p hp))⟩
 .intro i hi;by_cases aQ:i=M.n
  .subst aQ;rw[Heap.q0a] at hi;cases hi
  .rw[Heap.q0e _ _ aQ] at hi;simp[Plc.put,aQ,h.dead i hi]
 .intro i p hp;by_cases hi:i=M.n
  .subst hi;simp[Plc.put] at hp;subst hp;simp
  .simp[Plc.put,hi] at hp;have:=h.lt i p hp;omega
 .intro i j p q b bQ hp hq hb hw hx;by_cases hi:i=M.n
  .subst hi;simp[Plc.put] at hp;subst hp;simp[Plc.put,Ne.symm bQ] at hq;have:=h.lt j q hq;intro e;simp at e;omega
  .simp[Plc.put,hi] at hp;rw[Heap.q0e _ _ hi] at hb;by_cases hj:j=M.n
   .subst hj;simp[Plc.put] at hq;subst hq;have:=h.lt i p hp;intro e;simp at e;omega
   .simp[Plc.put,hj] at hq;exact h.sep i j p q b bQ hp hq hb hw hx
 .rintro B hB ⟨i,p,b,hp,hb,hw,rfl⟩;by_cases hi:i=M.n
  .subst hi;simp[Plc.put] at hp;subst hp;simp at hB
  .simp[Plc.put,hi] at hp;rw[Heap.q0e _ _ hi] at hb;exact⟨i,p,b,hp,hb,hw,rfl⟩
theorem HRel0.newObj {ρ:Plc}{M:Heap}{w:World}(h:HRel0 ρ M w) (o:VObj) (O:Obj) (ho:ORel ρ M.n o O) :
  ∃ ρ',ρ' M.n=some ⟨w.heap.size,0,1,default,true⟩/\HRel0 ρ' (M.push (.obj o true)) (w.alloc O)/\Ext ρ M w ρ' (M.push (.obj o true)) (w.alloc O):=by
 have hold:∀ k,k<w.heap.size->(w.alloc O).heap[k]?=w.heap[k]?:=λk hk=>by show (w.heap.push _)[k]?=_;rw[Array.getElem?_push,z0 (by omega)]
 have aL:(w.alloc O).heap.size=w.heap.size+1:=World.size_alloc w _;have aU:∀ i,i<M.n->∀ p,(ρ.put M.n (some ⟨w.heap.size,0,1,default,true⟩)) i=some p->ρ i=some p:=λi hi p hp=>by unfold Plc.put at hp;rwa [z0 (by omega)] at hp
 refine⟨ρ.put M.n (some ⟨w.heap.size,0,1,default,true⟩),by simp[Plc.put],⟨?_,?_,?_,?_⟩,⟨rfl,rfl,rfl,by omega,λB hB _=>hold B hB,?_,by simp,aU⟩⟩
 .intro i b hb;by_cases hi:i=M.n
  .subst hi;rw[Heap.q0a] at hb;obtain rfl:=osj hb;refine⟨⟨w.heap.size,0,1,default,true⟩,by simp[Plc.put],⟨rfl,rfl⟩,O,?_,ho.mono (by simp) aU⟩;show (w.heap.push _)[w.heap.size]?=_;simp
  .rw[Heap.q0e _ _ hi] at hb;obtain⟨p,hp,hB⟩:=h.live i b hb;exact⟨p,by simp[Plc.put,hi,hp],hB.mono (by simp) aU (hold _ (h.lt i p hp))⟩
 .intro i hi;by_cases aQ:i=M.n
  .subst aQ;rw[Heap.q0a] at hi;cases hi
  .rw[Heap.q0e _ _ aQ] at hi;simp[Plc.put,aQ,h.dead i hi]
 .intro i p hp;by_cases hi:i=M.n
  .subst hi;simp[Plc.put] at hp;subst hp;simp
  .simp[Plc.put,hi] at hp;have:=h.lt i p hp;omega
 .intro i j p q b bQ hp hq hb hw hx;by_cases hi:i=M.n
  .subst hi;simp[Plc.put] at hp;subst hp;simp[Plc.put,Ne.symm bQ] at hq;have:=h.lt j q hq;intro e;simp at e;omega
  .simp[Plc.put,hi] at hp;rw[Heap.q0e _ _ hi] at hb;by_cases hj:j=M.n
   .subst hj;simp[Plc.put] at hq;subst hq;have:=h.lt i p hp;intro e;simp at e;omega
   .simp[Plc.put,hj] at hq;exact h.sep i j p q b bQ hp hq hb hw hx
 .rintro B hB ⟨i,p,b,hp,hb,hw,rfl⟩;by_cases hi:i=M.n
  .subst hi;simp[Plc.put] at hp;subst hp;simp at hB
  .simp[Plc.put,hi] at hp;rw[Heap.q0e _ _ hi] at hb;exact⟨i,p,b,hp,hb,hw,rfl⟩
def TX (w:World) (b:Nat) (O:Obj):World:={w with heap:=w.heap.setIfInBounds b O}
theorem KP (w:World) (b:Nat) (O:Obj) (k:Nat) (h:k≠b):(TX w b O).heap[k]?=w.heap[k]?:=by simp only[TX];rw[Array.getElem?_setIfInBounds_ne (Ne.symm h)]
theorem Q4o (w:World) (b:Nat) (O:Obj) (h:b<w.heap.size):(TX w b O).heap[b]?=some O:=by simp only[TX];rw[Array.getElem?_setIfInBounds_self_of_lt h]
theorem Hd (w:World) (b:Nat) (O:Obj):(TX w b O).heap.size=w.heap.size:=by simp[TX]
theorem HRel0.setObj {ρ:Plc}{M:Heap}{w:World}(h:HRel0 ρ M w) {i:Nat}{p:Pl}{o:VObj}(hp:ρ i=some p) (hb:M.get i=some (.obj o true)) {o':VObj}{O':Obj}(ho:ORel ρ M.n o' O') :
  HRel0 ρ (M.upd i (.obj o' true)) (TX w p.blk O')/\Ext ρ M w ρ (M.upd i (.obj o' true)) (TX w p.blk O'):=by
 have hi:=M.lt hb;obtain⟨p',bm,h0,O,h1,h2⟩:=h.live i _ hb;obtain rfl:p=p':=osj (hp.symm.trans bm);have af:=h.lt i p hp;refine⟨⟨λj b hj=>?_,λj hj=>?_,λj q hq=>by rw[Hd];exact h.lt j q hq,λj k q r b dg hq hr cf hw hx=>?_⟩,?_⟩
 .by_cases aM:j=i
  .subst aM;rw[Heap.q0d _ _ hi] at hj;obtain rfl:=osj hj;exact⟨p,hp,h0,O',Q4o _ _ _ af,ho⟩
  .rw[Heap.q0b _ _ aM] at hj;obtain⟨q,hq,fN⟩:=h.live j b hj;refine⟨q,hq,?_⟩;by_cases hk:q.blk=p.blk
   .have hx:q.ext=0:=by
     rcases Nat.eq_zero_or_pos q.ext with h'|h'
     .exact h'
     .exact absurd hk.symm (h.sep i j p q _ (Ne.symm aM) hp hq hb rfl h')
    cases b with
    |cells c esz wr tight =>obtain⟨_,_,_,⟨C,e,f,k1,_⟩,_⟩:=fN;rw[hk,h1] at k1;obtain rfl:=osj k1;exact absurd h2 ORel.q1s
    |obj o2 wr=>have:=fN.1;omega
   .exact fN.mono (z7 _) (λ_ _ _ h=>h) (KP _ _ _ _ hk)
 .by_cases aM:j=i
  .subst aM;rw[Heap.q0d _ _ hi] at hj;cases hj
  .rw[Heap.q0b _ _ aM] at hj;exact h.dead j hj
 .by_cases aM:j=i
  .subst aM;exact h.sep j k q r _ dg hq hr hb rfl hx
  .rw[Heap.q0b _ _ aM] at cf;exact h.sep j k q r b dg hq hr cf hw hx
 .refine⟨rfl,rfl,rfl,by rw[Hd];exact z7 _,λB hB hW=>KP _ _ _ _ (λe=>hW ⟨i,p,_,hp,hb,rfl,e.symm⟩),?_,z7 _,λ_ _ _ h=>h⟩;rintro B _ ⟨j,q,b,hq,de,hw,rfl⟩;by_cases aM:j=i
  .subst aM;exact⟨j,q,_,hq,hb,rfl,rfl⟩
  .rw[Heap.q0b _ _ aM] at de;exact⟨j,q,b,hq,de,hw,rfl⟩
theorem HRel0.q0l {ρ:Plc}{M:Heap}{w:World}(h:HRel0 ρ M w) {D:Nat}{d:Option (List Deferred)}(hD:w.heap[D]?=some (.deferred d)) (i:Nat) (p:Pl) (hp:ρ i=some p):p.blk≠D:=by
 rintro rfl;cases hb:M.get i with
 |none=>rw[h.dead i hb] at hp;cases hp
 |some b =>
  obtain⟨p',bm,hB⟩:=h.live i b hb;obtain rfl:p=p':=osj (hp.symm.trans bm);cases b with
  |cells c esz wr tight =>obtain⟨_,_,_,⟨C,e,f,k1,_⟩,_⟩:=hB;rw[hD] at k1;cases k1
  |obj o wr =>obtain⟨_,O,k1,k2⟩:=hB;rw[hD] at k1;obtain rfl:=osj k1;exact ORel.q0l k2
theorem HRel0.kill {ρ:Plc}{M:Heap}{w:World}(h:HRel0 ρ M w) (i:Nat):HRel0 (ρ.put i none) (M.kill i) w/\Ext ρ M w (ρ.put i none) (M.kill i) w:=by
 have aU:∀ j,∀ p,(ρ.put i none) j=some p->ρ j=some p/\j≠i:=λj p hp=>by unfold Plc.put at hp;split at hp<;>simp_all
 refine⟨⟨λj b hb=>?_,λj hj=>?_,λj p hp=>h.lt j p (aU j p hp).1,λj k p q b dg hp hq hb hw hx=>?_⟩,⟨rfl,rfl,rfl,z7 _,λ_ _ _=>rfl,?_,z7 _,λj _ p hp=>(aU j p hp).1⟩⟩
 .by_cases aM:j=i
  .subst aM;rw[Heap.q0f] at hb;cases hb
  .rw[Heap.q0c _ aM] at hb;obtain⟨p,hp,hB⟩:=h.live j b hb;exact⟨p,by simp[Plc.put,aM,hp],hB.mono (z7 _) (λk _ p hp=>(aU k p hp).1) rfl⟩
 .by_cases aM:j=i
  .simp[Plc.put,aM]
  .rw[Heap.q0c _ aM] at hj;simp[Plc.put,aM,h.dead j hj]
 .obtain⟨bm,aM⟩:=aU j p hp;rw[Heap.q0c _ aM] at hb;exact h.sep j k p q b dg bm (aU k q hq).1 hb hw hx
 .rintro B _ ⟨j,p,b,hp,hb,hw,rfl⟩;obtain⟨bm,aM⟩:=aU j p hp;rw[Heap.q0c _ aM] at hb;exact⟨j,p,b,bm,hb,hw,rfl⟩
def GTabs (ρ:Plc) (M:Heap) (w:World):Prop:=∀ g cs,Q7c g=some cs->(∃ e f,w.heap[g]?=some (.cells cs.toArray e f))/\¬ Wr ρ M g
theorem GTabs.lt {ρ:Plc}{M:Heap}{w:World}(h:GTabs ρ M w) {g:Nat}{cs:List Value}(hg:Q7c g=some cs):g<w.heap.size:=by obtain⟨⟨e,f,h1⟩,_⟩:=h g cs hg;exact(xH.1 h1).1
theorem GTabs.ext {ρ ρ':Plc}{M M':Heap}{w w':World}(h:GTabs ρ M w) (k:Ext ρ M w ρ' M' w'):GTabs ρ' M' w':=λg cs hg=>by obtain⟨⟨e,f,h1⟩,h2⟩:=h g cs hg;have hl:=h.lt hg;exact⟨⟨e,f,by rw[k.keep g hl h2];exact h1⟩,λhw=>h2 (k.wr g hl hw)⟩
structure HRel (ρ:Plc) (M:Heap) (w:World):Prop where
 core:HRel0 ρ M w
 tab:GTabs ρ M w
section
variable {ρ:Plc}{M:Heap}{w:World}
theorem HRel.ext {ρ':Plc}{M':Heap}{w':World}(h:HRel ρ M w) (h':HRel0 ρ' M' w') (k:Ext ρ M w ρ' M' w'):HRel ρ' M' w':=⟨h',h.tab.ext k⟩
theorem HRel.live (h:HRel ρ M w):∀ i b,M.get i=some b->∃ p,ρ i=some p/\BRel ρ M.n p w b:=h.core.live
theorem HRel.dead (h:HRel ρ M w):∀ i,M.get i=none->ρ i=none:=h.core.dead
theorem HRel.lt (h:HRel ρ M w):∀ i p,ρ i=some p->p.blk<w.heap.size:=h.core.lt
theorem HRel.sep (h:HRel ρ M w):∀ i j p q b,i≠j->ρ i=some p->ρ j=some q->M.get i=some b->b.wr=true->0<q.ext->p.blk≠q.blk:=h.core.sep
theorem HRel.idlt (h:HRel ρ M w) {i:Nat}{p:Pl}(hp:ρ i=some p):i<M.n:=h.core.idlt hp
theorem HRel.world {w':World}(h:HRel ρ M w) (hs:w.heap.size<=w'.heap.size) (hb:∀ i p,ρ i=some p->w'.heap[p.blk]?=w.heap[p.blk]?) (ht:∀ g cs,Q7c g=some cs->w'.heap[g]?=w.heap[g]?):HRel ρ M w' :=
 ⟨h.core.world hs hb,λg cs hg=>by
  obtain⟨⟨e,f,h1⟩,h2⟩:=h.tab g cs hg;exact⟨⟨e,f,by rw[ht g cs hg];exact h1⟩,h2⟩⟩
theorem HRel.drew (h:HRel ρ M w):HRel ρ M w.drew:=⟨h.core.drew,h.tab⟩
theorem HRel.alloc (h:HRel ρ M w) (c:List Value) (C:Array Value) (e:TypeId) (esz:El) (tight:Bool) (he:e=esz.ty)
  (hc:LRel ρ M.n c (C.toList.take c.length)) (hl:c.length<=C.size) :
  ∃ ρ',ρ' M.n=some ⟨w.heap.size,0,C.size,esz,tight⟩/\HRel ρ' (M.push (.cells c esz true tight)) (w.alloc (.cells C e))/\Ext ρ M w ρ' (M.push (.cells c esz true tight)) (w.alloc (.cells C e)) :=
 let ⟨ρ',h1,h2,h3⟩:=h.core.alloc c C e esz tight he hc hl
 ⟨ρ',h1,h.ext h2 h3,h3⟩
theorem HRel.newObj (h:HRel ρ M w) (o:VObj) (O:Obj) (ho:ORel ρ M.n o O) :
  ∃ ρ',ρ' M.n=some ⟨w.heap.size,0,1,default,true⟩/\HRel ρ' (M.push (.obj o true)) (w.alloc O)/\Ext ρ M w ρ' (M.push (.obj o true)) (w.alloc O) :=
 let ⟨ρ',h1,h2,h3⟩:=h.core.newObj o O ho
 ⟨ρ',h1,h.ext h2 h3,h3⟩
theorem HRel.setObj (h:HRel ρ M w) {i:Nat}{p:Pl}{o:VObj}(hp:ρ i=some p) (hb:M.get i=some (.obj o true)) {o':VObj}{O':Obj}(ho:ORel ρ M.n o' O') :
  HRel ρ (M.upd i (.obj o' true)) (TX w p.blk O')/\Ext ρ M w ρ (M.upd i (.obj o' true)) (TX w p.blk O') :=
 let ⟨h2,h3⟩:=h.core.setObj hp hb ho
 ⟨h.ext h2 h3,h3⟩
theorem HRel.q0l (h:HRel ρ M w) {D:Nat}{d:Option (List Deferred)}(hD:w.heap[D]?=some (.deferred d)) (i:Nat) (p:Pl) (hp:ρ i=some p):p.blk≠D:=h.core.q0l hD i p hp
theorem HRel.kill (h:HRel ρ M w) (i:Nat):HRel (ρ.put i none) (M.kill i) w/\Ext ρ M w (ρ.put i none) (M.kill i) w :=
 let ⟨h2,h3⟩:=h.core.kill i
 ⟨h.ext h2 h3,h3⟩
end
end Go.V
namespace Go.V
open Go
abbrev Env:=List Value
inductive MK where
 |int (k:IntKind)
 |string
 |bool
 |agg (s:List MK)
 deriving Inhabited
inductive XOp where
 |eqNil (kd:Nat) (neg:Bool) (x y:Operand)
 |makeMap
 |lookup (mk:MK) (zero:Value) (ok:Bool) (x i:Operand)
 |mapUpdate (mk:MK) (m k v:Operand)
 |delete (mk:MK) (m k:Operand)
 |mapEntry (mk:MK) (zero:Value) (m k:Operand)
 |entryStore (m s v:Operand)
 |lenMap (x:Operand)
 |rangeMap (x:Operand)
 |nextMap (x:Operand)
 |entry (x:Operand)
 |copy (size:Nat) (d s:Operand)
 |clear (z:List Value) (x:Operand)
 |toUnsafe (x:Operand)
 |fromUnsafe (u size:Nat) (x:Operand)
 |sliceData (x:Operand)
 |unsafeStr (e:Nat) (x n:Operand)
 |bytesStr (x:Operand)
 |strBytes (e:Nat) (x:Operand)
 |eqAgg (neg:Bool) (s:List MK) (x y:Operand)
 deriving Inhabited
inductive VOp where
 |move (x:Operand)
 |pick (c a b:Operand)
 |arith (op:BinOp) (x y:Operand)
 |div (op:BinOp) (x y:Operand)
 |bits (op:BinOp) (x y:Operand)
 |shift (op:BinOp) (x y:Operand)
 |cmp (op:BinOp) (x y:Operand)
 |str (op:BinOp) (x y:Operand)
 |eqB (neg:Bool) (x y:Operand)
 |un (op:UnOp) (x:Operand)
 |convI (k:IntKind) (x:Operand)
 |convS (x:Operand)
 |alloc (t:Nat) (z:List Value)
 |box (t:Nat) (x:Operand)
 |build (z:List Value) (parts:List (Nat×Nat×Operand))
 |buildSlice (esz:El) (z:List Value) (len:Nat) (parts:List (Nat×Operand))
 |load (agg:Bool) (size:Nat) (a:Operand)
 |store (size:Nat) (a v:Operand)
 |fieldAddr (off:Nat) (a:Operand)
 |field (agg:Bool) (off size:Nat) (x:Operand)
 |indexAddr (size:Nat) (x i:Operand)
 |indexAddrArr (len size:Nat) (x i:Operand)
 |indexStr (x i:Operand)
 |indexArr (len:Nat) (agg:Bool) (size:Nat) (x i:Operand)
 |slice (size:Nat) (x:Operand) (lo hi mx:Option Operand)
 |sliceStr (x:Operand) (lo hi:Option Operand)
 |makeSlice (esz:El) (bytes:Nat) (z:List Value) (l c:Operand)
 |len (x:Operand)
 |lenStr (x:Operand)
 |append (esz:El) (bytes:Nat) (s x:Operand)
 |max (x y:Operand)
 |max4 (x y z w:Operand)
 |min (x y:Operand)
 |makeFunc (fn:Fn) (first cap:List Operand)
 |iface (t:TypeId) (x:Operand)
 |extract (x:Operand) (i:Nat)
 |nilCheck (x:Operand)
 |callF (f:FuncId) (args:List Operand)
 |callV (f:Operand) (args:List Operand)
 |ext (o:XOp)
 |bad
 deriving Inhabited
structure VOper where
 dst:Option Nat
 op:VOp
 guard:Option (Nat×Bool)
 deriving Inhabited
structure DOper where
 dst:Option Nat
 op:VOp
 guard:Option (Nat×Bool)
 kind:Nat
 kmin:Nat
 kmax:Nat
 deriving Inhabited
inductive DSeg where
 |one (o:VOper)
 |alts (l:List (List DOper))
 deriving Inhabited
inductive VCode where
 |skip
 |region (ops:List VOper)
 |regionD (aR:List DSeg)
 |rangeF (g:Operand) (ps:List Nat) (a b:VCode)
 |seq (a b:VCode)
 |cond (c:Operand) (a b:VCode)
 |block (id:Nat) (b:VCode)
 |loop (b:VCode)
 |exit (id:Nat)
 |ret
 |bad
 deriving Inhabited
def Zc:Value->Bool
 |.bool _|.int _ _|.string _|.pointer none|.slice none 0 0|.map none|.nilFunc|.nilIface=>true
 |_=>false
def Ua:Value->Bool
 |.agg cs=>cs.toList.all Zc
 |.tuple cs=>cs.toList.all Zc
 |v=>Zc v
def XI:Operand->Bool
 |.tmp _=>true
 |.const v=>Ua v
 |.global _=>true
 |.func _=>true
def NI:TypeDesc->Bool
 |.struct _|.array _ _=>true
 |_=>false
def zeroOf (P:Program) (t:TypeId):Option (List Value):=do
 let i <-P.info? t;let z <-i.zero;let cs:=z.cells.toList
 if cs.length==i.size&&cs.all Zc then some cs else none
def HU (P:Program) (t:TypeId) (f:Nat):Option Field :=
 match P.underlying t with
 |some (.struct fs)=>fs[f]?
 |_=>none
def Up (P:Program) (o:Op):Option VOp :=
 if !(o.operands.toList.all XI) then none else
 match o with
 |.move x|.assign x=>some (.move x)
 |.pick c a b=>some (.pick c a b)
 |.binOp op t x y _ =>
  match P.underlying t with
  |some (.int _) =>
   match op with
   |.add|.sub|.mul=>some (.arith op x y)
   |.quo|.rem=>some (.div op x y)
   |.and|.or|.xor|.andNot=>some (.bits op x y)
   |.shl|.shr=>some (.shift op x y)
   |_=>some (.cmp op x y)
  |some .string=>some (.str op x y)
  |some .bool=>match op with|.eql=>some (.eqB false x y)|.neq=>some (.eqB true x y)|_=>none
  |_=>none
 |.unOp op _ x=>some (.un op x)
 |.convert s d x =>
  match P.underlying s,P.underlying d with
  |some (.int _),some (.int k)=>some (.convI k x)
  |some .string,some .string=>some (.convS x)
  |_,_=>none
 |.alloc t=>do some (.alloc t (<-zeroOf P t))
 |.box t x=>some (.box t x)
 |.build t parts=>do
  let z <-zeroOf P t
  match P.underlying t with
  |some (.struct fs)=>do
   let places <-fs.toList.mapM λf=>(P.info? f.type).map λi=>(f.offset,i.size);let ps <-parts.toList.mapM λq=>(places[q.1]?).map λos=>(os.1,os.2,q.2)
   some (.build z ps)
  |some (.array _ e)=>do
   let ei <-P.info? e
   some (.build z (parts.toList.map λq=>(q.1*ei.size,ei.size,q.2)))
  |_=>none
 |.buildSlice t len parts =>
  match P.underlying t with
  |some (.slice e)=>do
   let z <-zeroOf P e
   if z.length==0||4096<len*z.length then none
   some (.buildSlice ⟨z.length,e⟩ z len parts.toList)
  |_=>none
 |.load t a=>do
  let i <-P.info? t;let d <-P.underlying t
  some (.load (NI d) i.size a)
 |.store t a v=>do
  let i <-P.info? t
  some (.store i.size a v)
 |.fieldAddr t a f=>do
  let fd <-HU P t f;let fi <-P.info? fd.type
  if fi.size==0 then none
  some (.fieldAddr fd.offset a)
 |.field t x f=>do
  let fd <-HU P t f;let fi <-P.info? fd.type;let d <-P.underlying fd.type
  some (.field (NI d) fd.offset fi.size x)
 |.indexAddr t x i =>
  match P.underlying t with
  |some (.slice e)=>do let ei <-P.info? e;some (.indexAddr ei.size x i)
  |some (.array n e)=>do let ei <-P.info? e;some (.indexAddrArr n ei.size x i)
  |_=>none
 |.index t x i =>
  match P.underlying t with
  |some .string=>some (.indexStr x i)
  |some (.array n e)=>do let ei <-P.info? e;let d <-P.underlying e;some (.indexArr n (NI d) ei.size x i)
  |_=>none
 |.slice t x lo hi mx =>
  match P.underlying t with
  |some (.slice e)=>do let ei <-P.info? e;some (.slice ei.size x lo hi mx)
  |some .string=>if mx.isNone then some (.sliceStr x lo hi) else none
  |_=>none
 |.makeSlice t l c =>
  match P.underlying t with
  |some (.slice e)=>do
   let ei <-P.info? e;let z <-zeroOf P e
   if z.length==0 then none
   some (.makeSlice ⟨z.length,e⟩ ei.bytes z l c)
  |_=>none
 |.makeFunc fn first cap=>match fn with|.func _=>some (.makeFunc fn first.toList cap.toList)|_=>none
 |.makeInterface t x=>do
  let d <-P.underlying t
  match d with
  |.interface _=>none
  |_=>some (.iface t x)
 |.extract x i=>some (.extract x i)
 |.nilCheck x=>some (.nilCheck x)
 |.call c =>
  match c.callee with
  |.value (.func f)=>some (.callF f c.args.toList)
  |.value f=>some (.callV f c.args.toList)
  |.builtin .len =>
   match c.argTypes[0]?,c.args.toList with
   |some t,[x] =>
    match P.underlying t with
    |some .string=>some (.lenStr x)
    |some (.slice _)=>some (.len x)
    |_=>none
   |_,_=>none
  |.builtin .append =>
   match c.argTypes[0]?,c.argTypes[1]?,c.args.toList with
   |some t,some u,[s,x] =>
    match P.underlying t,P.underlying u with
    |some (.slice e),some (.slice _)=>do
     let ei <-P.info? e;let z <-zeroOf P e
     if z.length==0||ei.bytes==0 then none
     some (.append ⟨z.length,e⟩ ei.bytes s x)
    |_,_=>none
   |_,_,_=>none
  |.builtin .max=>match c.args.toList with|[x,y]=>some (.max x y)|[x,y,z]=>some (.max4 x y z z)|[x,y,z,w]=>some (.max4 x y z w)|_=>none
  |.builtin .min=>match c.args.toList with|[x,y]=>some (.min x y)|_=>none
  |_=>none
 |_=>none
def Ie (P:Program) (g:TypeId->Option (List MK)):List Field->Nat->Option (List MK)
 |[],_=>some []
 |f::r,off=>if f.name≠"_"/\f.offset=off then (match g f.type with
  |some s=>if P.cellsOf f.type=s.length then (Ie P g r (off+s.length)).map λq=>s++q else none
  |none=>none) else none
def shp (P:Program):Nat->TypeId->Option (List MK)
 |0,_=>none
 |d+1,t=>match P.underlying t with
  |some .bool=>some [.bool]
  |some (.int q)=>some [.int q]
  |some .string=>some [.string]
  |some (.array n e)=>(match shp P d e with
   |some s=>if P.cellsOf e=s.length then some (List.replicate n s).flatten else none
   |none=>none)
  |some (.struct fs)=>if P.stoodInHeld t=true then none else Ie P (shp P d) fs.toList 0
  |_=>none
def Ow:MK->Value->Bool
 |.int q,.int q' _=>decide (q'=q)
 |.string,.string _=>true
 |.bool,.bool _=>true
 |_,_=>false
def fits:List MK->List Value->Bool
 |[],[]=>true
 |k::ks,v::vs=>Ow k v&&fits ks vs
 |_,_=>false
def V2:Value->Value->Bool
 |.int _ a,.int _ b=>a==b
 |.bool a,.bool b=>a==b
 |.string a,.string b=>a.data.toList==b.data.toList
 |_,_=>false
def Qv:List Value->List Value->Bool
 |a::l,b::m=>V2 a b&&Qv l m
 |_,_=>true
def SM (P:Program) (neg:Bool) (t:TypeId) (x y:Operand):Option XOp :=
 if P.eqGuardType P.depth t=true then none else (shp P 8 t).map λs=>.eqAgg neg s x y
theorem Q0l {P:Program}{neg:Bool}{t:TypeId}{x y:Operand}{o:XOp}(h:SM P neg t x y=some o):∃ s,o=.eqAgg neg s x y:=by
 unfold SM at h;split at h
 .cases h
 .obtain⟨s,_,rfl⟩:=zq.1 h;exact⟨s,rfl⟩
def EK (P:Program) (t:TypeId):Option MK :=
 match P.underlying t with
 |some (.int k)=>some (.int k)
 |some .string=>some .string
 |some .bool=>some .bool
 |some (.struct _)=>(shp P 8 t).map .agg
 |some (.array _ _)=>(shp P 8 t).map .agg
 |_=>none
def SY (P:Program) (o:Op):Option XOp :=
 if !(o.operands.toList.all XI) then none else
 match o with
 |.binOp op t x y _ =>
  match op,P.underlying t with
  |.eql,some (.pointer e)=>do let i <-P.info? e;if i.size==0 then none else some (.eqNil 0 false x y)
  |.neq,some (.pointer e)=>do let i <-P.info? e;if i.size==0 then none else some (.eqNil 0 true x y)
  |.eql,some (.slice _)=>some (.eqNil 1 false x y)
  |.eql,some (.map _ _)=>some (.eqNil 2 false x y)
  |.eql,some (.func _ _ _)=>some (.eqNil 3 false x y)
  |.neq,some (.slice _)=>some (.eqNil 1 true x y)
  |.neq,some (.map _ _)=>some (.eqNil 2 true x y)
  |.neq,some (.func _ _ _)=>some (.eqNil 3 true x y)
  |.eql,some (.struct _)=>SM P false t x y
  |.neq,some (.struct _)=>SM P true t x y
  |.eql,some (.array _ _)=>SM P false t x y
  |.neq,some (.array _ _)=>SM P true t x y
  |_,_=>none
 |.makeMap _ none=>some .makeMap
 |.lookup t x i ok =>
  match P.underlying t with
  |some (.map k e)=>do
   let mk <-EK P k;let inf <-P.info? e;let z <-inf.zero
   if Ua z then some (.lookup mk z ok x i) else none
  |_=>none
 |.mapUpdate t m k v =>
  match P.underlying t with
  |some (.map kt _)=>do some (.mapUpdate (<-EK P kt) m k v)
  |_=>none
 |.insert t m k v =>
  match P.underlying t with
  |some (.map kt _)=>do some (.mapUpdate (<-EK P kt) m k v)
  |_=>none
 |.mapEntry t m k =>
  match P.underlying t with
  |some (.map kt e)=>do
   let mk <-EK P kt;let inf <-P.info? e;let z <-inf.zero
   if Ua z then some (.mapEntry mk z m k) else none
  |_=>none
 |.entryStore _ m s v=>some (.entryStore m s v)
 |.range t x =>
  match P.underlying t with
  |some (.map _ _)=>some (.rangeMap x)
  |_=>none
 |.next x false=>some (.nextMap x)
 |.entry x=>some (.entry x)
 |.convert s d x =>
  match P.underlying s,P.underlying d with
  |some (.pointer t),some .unsafePointer=>do let i <-P.info? t;if i.size==0 then none else some (.toUnsafe x)
  |some .unsafePointer,some (.pointer u)=>do let i <-P.info? u;if i.size==0||P.cellsOf u==0 then none else some (.fromUnsafe u (P.cellsOf u) x)
  |some (.slice e),some .string=>match P.underlying e with|some (.int .u8)=>some (.bytesStr x)|_=>none
  |some .string,some (.slice e)=>match P.underlying e with|some (.int .u8)=>some (.strBytes e x)|_=>none
  |_,_=>none
 |.call c =>
  match c.callee with
  |.builtin .len =>
   match c.argTypes[0]?,c.args.toList with
   |some t,[x]=>match P.underlying t with|some (.map _ _)=>some (.lenMap x)|_=>none
   |_,_=>none
  |.builtin .delete =>
   match c.argTypes[0]?,c.args.toList with
   |some t,[m,k]=>match P.underlying t with|some (.map kt _)=>do some (.delete (<-EK P kt) m k)|_=>none
   |_,_=>none
  |.builtin .copy =>
   match c.argTypes[0]?,c.args.toList with
   |some t,[d,s]=>match P.underlying t with|some (.slice e)=>do let i <-P.info? e;some (.copy i.size d s)|_=>none
   |_,_=>none
  |.builtin .clear =>
   match c.argTypes[0]?,c.args.toList with
   |some t,[x]=>match P.underlying t with
    |some (.slice e)=>do
     let z <-zeroOf P e
     if z.length==0 then none
     some (.clear z x)
    |_=>none
   |_,_=>none
  |.builtin .unsafeSliceData=>match c.args.toList with|[x]=>some (.sliceData x)|_=>none
  |.builtin .unsafeString =>
   match c.argTypes[0]?,c.args.toList with
   |some t,[x,n]=>match P.underlying t with|some (.pointer e)=>if P.cellsOf e=1 then some (.unsafeStr e x n) else none|_=>none
   |_,_=>none
  |_=>none
 |_=>none
def Vv (P:Program) (o:Op):VOp :=
 match Up P o with
 |some v=>v
 |none=>match SY P o with
  |some x=>.ext x
  |none=>.bad
def JA (P:Program) (ops:Array Oper) (o:Oper):Option VOper:=do
 let v:=Vv P o.op
 match o.guard with
 |none=>some ⟨o.dst,v,none⟩
 |some (j,want)=>do
  let oj <-ops[j]?;let d <-oj.dst
  some ⟨o.dst,v,some (d,want)⟩
def XOp.quiet:XOp->Bool
 |.makeMap|.mapUpdate ..|.mapEntry ..|.entryStore ..|.delete ..|.rangeMap _|.nextMap _|.copy ..|.clear ..|.unsafeStr ..|.strBytes ..=>false
 |_=>true
def VOp.quiet:VOp->Bool
 |.ext o=>o.quiet
 |.alloc ..|.box ..|.buildSlice ..|.store ..|.makeSlice ..|.append ..=>false
 |.slice _ _ _ _ (some _)=>false
 |_=>true
def VOp.kind:VOp->Nat
 |.callF ..|.callV ..=>2
 |.load ..=>1
 |.slice _ _ _ _ none=>1
 |.ext (.eqNil ..)|.ext (.lookup ..)|.ext (.lenMap _)|.ext (.entry _)|.ext (.toUnsafe _)|.ext (.fromUnsafe ..)|.ext (.sliceData _)|.ext (.bytesStr _)=>1
 |o=>if o.quiet then 0 else 2
def Z1a (acc:List Nat) (es:List Nat):Nat:=es.foldl (λs e=>s ||| 2 ^ e ||| acc.getD e 0) 0
def Z88:List (List Nat)->List Nat->List Nat
 |[],acc=>acc
 |es::r,acc=>Z88 r (acc++[Z1a acc es])
def XOp.opds:XOp->List Operand
 |.eqNil _ _ x y=>[x,y]
 |.eqAgg _ _ x y=>[x,y]
 |.makeMap=>[]
 |.lookup _ _ _ x i=>[x,i]
 |.mapUpdate _ m k v=>[m,k,v]
 |.delete _ m k=>[m,k]
 |.mapEntry _ _ m k=>[m,k]
 |.entryStore m s v=>[m,s,v]
 |.lenMap x|.rangeMap x|.nextMap x|.entry x|.toUnsafe x|.fromUnsafe _ _ x|.sliceData x|.bytesStr x=>[x]
 |.copy _ d s=>[d,s]
 |.clear _ x=>[x]
 |.unsafeStr _ x n=>[x,n]
 |.strBytes _ x=>[x]
def VOp.opds:VOp->List Operand
 |.move x|.un _ x|.convI _ x|.convS x|.box _ x|.load _ _ x|.fieldAddr _ x|.field _ _ _ x|.len x|.lenStr x|.iface _ x|.extract x _|.nilCheck x=>[x]
 |.pick c a b=>[c,a,b]
 |.arith _ x y|.div _ x y|.bits _ x y|.shift _ x y|.cmp _ x y|.str _ x y|.eqB _ x y|.store _ x y|.indexAddr _ x y|.indexAddrArr _ _ x y|.indexStr x y|.indexArr _ _ _ x y|.makeSlice _ _ _ x y
 |.append _ _ x y|.max x y|.min x y=>[x,y]
 |.max4 x y z w=>[x,y,z,w]
 |.alloc ..|.bad=>[]
 |.build _ ps=>ps.map λp=>p.2.2
 |.buildSlice _ _ _ ps=>ps.map λp=>p.2
 |.slice _ x a b c=>x::(a.toList++b.toList++c.toList)
 |.sliceStr x a b=>x::(a.toList++b.toList)
 |.makeFunc _ a b=>a++b
 |.callF _ bM=>bM
 |.callV f bM=>f::bM
 |.ext o=>o.opds
def Q3w (l:List Operand):List Nat:=l.filterMap fun|.tmp t=>some t|_=>none
def Pk (o:Oper):List Nat:=(o.after.toList.filter (Region.binds .any)).map (·.on)
def U0 (v:VOper):List Nat:=v.dst.toList++Q3w v.op.opds++(v.guard.map (·.1)).toList
def Q88 (a b:List Nat×Option Nat):Bool:=(match a.2 with|some d=>b.1.contains d|none=>false)||(match b.2 with|some d=>a.1.contains d|none=>false)
structure DInfo where
 an:List Nat
 ed:List (List Nat)
 nm:List (List Nat×Option Nat)
 ks:List Nat
def KY (ops:List Oper) (vs:List VOper):DInfo:=⟨Z88 (ops.map Pk) [],ops.map Pk,vs.map λv=>(U0 v,v.dst),vs.map (·.op.kind)⟩
def DInfo.lt (d:DInfo) (i j:Nat):Bool:=(d.an.getD j 0).testBit i
def DInfo.k (d:DInfo) (i:Nat):Nat:=d.ks.getD i 0
def DInfo.rank (d:DInfo):Nat->Nat
 |0=>0
 |i+1=>if d.k i=2 then d.rank i+1 else d.rank i
def DInfo.kmin (d:DInfo) (i:Nat):Nat:=((List.range d.ks.length).filter λl=>d.k l==2&&d.lt l i).length
def DInfo.kmax (d:DInfo) (i:Nat):Nat:=((List.range d.ks.length).filter λl=>d.k l==2&&!(d.lt i l)).length
def DInfo.touch (d:DInfo) (i j:Nat):Bool:=Q88 (d.nm.getD i ([],none)) (d.nm.getD j ([],none))
def DInfo.okE (d:DInfo) (j:Nat):Bool:=(d.ed.getD j []).all λe=>decide (e<j)
def DInfo.okP (d:DInfo) (j:Nat):Bool:=(List.range j).all λi =>
 if d.lt i j then (d.ed.getD j []).any (λe=>e==i||decide (i<e)&&d.lt i e) else !(d.touch i j)&&!(d.k i==2&&d.k j==2)
def DInfo.okK (d:DInfo) (j:Nat):Bool:=!(d.k j==1) ||
 (decide (d.kmin j<=d.rank j/\d.rank j<=d.kmax j)&&(decide (d.kmax j<=d.rank d.ks.length)&&(List.range d.ks.length).all λl=>!(d.k l==2)||(d.lt l j==decide (d.rank l<d.kmin j)&&d.lt j l==decide (d.kmax j<=d.rank l))))
def DInfo.ok (d:DInfo):Bool:=(List.range d.ks.length).all λj=>d.okE j&&(d.okP j&&d.okK j)
def DInfo.opers (d:DInfo):List VOper->Nat->List DOper
 |[],_=>[]
 |v::r,i=>⟨v.dst,v.op,v.guard,v.op.kind,d.kmin i,d.kmax i⟩::d.opers r (i+1)
def DInfo.okB (d:DInfo):Bool:=decide (d.an.length=d.ks.length)&&(List.range d.ks.length).all λj=>d.okE j&&(decide (d.an.getD j 0<2 ^ j) &&
 (List.range j).all λi=>!(d.lt i j)||(d.ed.getD j []).any (λe=>e==i||decide (i<e)&&d.lt i e))
def exts (lt:Nat->Nat->Bool):Nat->List Nat->List (List Nat)
 |_,[]=>[[]]
 |0,_=>[]
 |n+1,l=>l.flatMap λk=>if l.all (λi=>i==k||!(lt i k)) then (exts lt n (l.erase k)).map (k::·) else []
def Z9z (ed:List (List Nat)) (ks idx:List Nat):Nat->List Nat->List Nat->List Nat
 |0,acc,_=>acc
 |f+1,acc,kq=>match idx.find? (λi=>!(acc.contains i)&&((ed.getD i []).all (λe=>!(idx.contains e)||acc.contains e)&&(!(ks.getD i 0==2)||kq.head?==some i))) with
  |none=>acc
  |some i=>Z9z ed ks idx f (acc++[i]) (if ks.getD i 0==2 then kq.tail else kq)
def Z1l (ed:List (List Nat)) (ks idx:List Nat):Nat->List Nat->List Nat->List Nat
 |0,acc,_=>acc
 |f+1,acc,kq=>match idx.find? (λi=>!(acc.contains i)&&((ed.getD i []).all (λe=>!(idx.contains e)||acc.contains e)&&!(ks.getD i 0==2))) with
  |some i=>Z1l ed ks idx f (acc++[i]) kq
  |none=>match idx.find? (λi=>!(acc.contains i)&&((ed.getD i []).all (λe=>!(idx.contains e)||acc.contains e)&&kq.head?==some i)) with
   |none=>acc
   |some i=>Z1l ed ks idx f (acc++[i]) kq.tail
def Z1y:VOp->Bool
 |.callF ..=>true
 |_=>false
def Z7v (b:Bool) (ed:List (List Nat)) (ks idx:List Nat) (n:Nat) (q:List Nat):List Nat:=if b then Z1l ed ks idx n [] q else Z9z ed ks idx n [] q
def Z07 (d:DInfo) (pm:List Nat) (p:Nat):List Nat :=
 ((d.ed.getD (pm.getD p 0) []).filter pm.contains).map (λe=>pm.idxOf e) ++
  (if d.k (pm.getD p 0)==2 then ((List.range p).filter λq=>d.k (pm.getD q 0)==2).getLast?.toList else [])
def UL (vs:List VOper) (pm:List Nat):List VOper:=pm.map λi=>vs.getD i default
def Fu (d:DInfo) (vs:List VOper) (pm:List Nat):DInfo :=
 let ed:=(List.range pm.length).map (Z07 d pm)
 ⟨Z88 ed [],ed,(UL vs pm).map λv=>(U0 v,v.dst),(UL vs pm).map (·.op.kind)⟩
def Z6g (d:DInfo) (vs:List VOper) (idx s pm:List Nat):Bool :=
 idx.all pm.contains&&(pm.all idx.contains&&(decide pm.Nodup&&(decide (pm.filter (λi=>d.k i==2)=s)&&(Fu d vs pm).ok)))
def Z9o (d:DInfo) (vs:List VOper) (s n:Nat):Option DSeg :=
 if n=1 then some (.one (vs.getD s default)) else
 let idx:=List.range' s n;let ss:=exts d.lt n (idx.filter λi=>d.k i==2);let ps:=ss.map λq=>(q,Z7v (decide (3<=(idx.filter λi=>Z1y (vs.getD i default).op).length)) d.ed d.ks idx n q)
 if ps.all λsp=>Z6g d vs idx sp.1 sp.2 then some (.alts (ps.map λsp=>(Fu d vs sp.2).opers (UL vs sp.2) 0)) else none
def cutAt (d:DInfo) (t:Nat):Bool:=(List.range' t (d.ks.length-t)).all λp=>(List.range t).all λi=>d.lt i p
def Q24 (d:DInfo) (vs:List VOper):Nat->Nat->Option (List DSeg)
 |0,s=>if s=d.ks.length then some [] else none
 |f+1,s=>if s=d.ks.length then some [] else
  match (List.range' (s+1) (d.ks.length-s)).find? (cutAt d) with
  |none=>none
  |some t=>match Z9o d vs s (t-s),Q24 d vs f t with
   |some x,some r=>some (x::r)
   |_,_=>none
def Z1k (d:DInfo) (vs:List VOper):Option (List DSeg):=if d.okB then Q24 d vs d.ks.length 0 else none
def DJ (d:DInfo) (vs:List VOper):Bool :=
 d.okB&&(vs.all (λv=>!(v.op.kind==2))&&Z6g d vs (List.range' 0 d.ks.length) [] (List.range' 0 d.ks.length))
def comp (P:Program):Code->Option VCode
 |.skip=>some .skip
 |.region _ ops false=>do some (.region (<-ops.toList.mapM (JA P ops)))
 |.region _ ops true=>do
  let l <-ops.toList.mapM (JA P ops)
  if DJ (KY ops.toList l) l then some (.region l) else
  match Z1k (KY ops.toList l) l with
  |some aR=>some (.regionD aR)
  |none=>some .bad
 |.seq a b=>do some (.seq (<-comp P a) (<-comp P b))
 |.cond c a b=>do if XI c then some (.cond c (<-comp P a) (<-comp P b)) else some .bad
 |.block id b=>do some (.block id (<-comp P b))
 |.loop b=>do some (.loop (<-comp P b))
 |.rangeFunc g ps a b=>do if XI g then some (.rangeF g ps.toList (<-comp P a) (<-comp P b)) else some .bad
 |.exit id=>some (.exit id)
 |.ret=>some .ret
 |_=>some .bad
def Q5 (env:Env):Operand->Value
 |.tmp t=>env.getD t undef
 |.const v=>v
 |.global g=>.pointer (some ⟨g,0,some 0⟩)
 |.func f=>.func (.func f) #[] #[]
def Lu:BinOp->IntKind->Int->Int->Int
 |.add,k,a,b=>k.wrap (a+b)
 |.sub,k,a,b=>k.wrap (a-b)
 |_,k,a,b=>k.wrap (a*b)
def Z2i:BinOp->IntKind->Int->Int->Int
 |.quo,k,a,b=>k.wrap (a.tdiv b)
 |_,_,a,b=>a.tmod b
def Qb (op:BinOp) (k:IntKind) (x y:Int):Int :=
 let a:=BitVec.ofInt k.bits x;let b:=BitVec.ofInt k.bits y
 match op with
 |.and=>k.wrap (a &&& b).toNat
 |.or=>k.wrap (a ||| b).toNat
 |.xor=>k.wrap (a ^^^ b).toNat
 |_=>k.wrap (a &&& ~~~b).toNat
def Ll:BinOp->IntKind->Int->Int->Int
 |.shl,k,x,y=>k.wrap (x*2 ^ (Nat.min y.toNat k.bits))
 |_,k,x,y=>x.fdiv (2 ^ (Nat.min y.toNat k.bits))
def Z6j:BinOp->Int->Int->Bool
 |.eql,a,b=>a==b
 |.neq,a,b=>a != b
 |.lss,a,b=>decide (a<b)
 |.leq,a,b=>decide (a<=b)
 |.gtr,a,b=>decide (a > b)
 |_,a,b=>decide (a>=b)
def cellOk:Value->Bool
 |.agg _|.tuple _|.chan _=>false
 |_=>true
def V9:Value->Option (List Value)
 |.agg cs=>some cs.toList
 |.chan _|.tuple _=>none
 |v=>some [v]
def KJ (c:List Value) (o:Nat):List Value->List Value
 |[]=>c
 |v::vs=>KJ (c.set o v) (o+1) vs
def Mq (c:List Value):List (Nat×Nat×Value)->Option (List Value)
 |[]=>some c
 |(o,s,v)::rest =>
  match V9 v with
  |some vs=>if vs.length=s/\o+s<=c.length then Mq (KJ c o vs) rest else none
  |none=>none
def Ta (n:Nat):List Value->List Value
 |[x]=>List.replicate n x
 |z=>(List.replicate n z).flatten
def Yc (agg:Bool) (size:Nat) (c:List Value) (o:Nat):Option Value :=
 if agg then (if o+size<=c.length then some (.agg ((c.drop o).take size).toArray) else none) else c[o]?
def Heap.sl (M:Heap) (esz:Nat):Value->Option (List Value)
 |.slice none 0 0=>some []
 |.slice (some ⟨i,o,none⟩) n _ =>
  match M.get i with
  |some (.cells c e _ _)=>if e.sz=esz/\o+n*esz<=c.length then some ((c.drop o).take (n*esz)) else none
  |_=>none
 |_=>none
def Ke (esz:El) (bytes:Nat) (M:Heap) (s:Value) (m:Nat) (xs:List Value):Option (Value×Heap) :=
 match s with
 |.slice none 0 0 =>
  if m=0 then some (s,M) else
  if m*bytes<=2 ^ 46 then some (.slice (some ⟨M.n,0,none⟩) m m,M.push (.cells xs esz true false)) else none
 |.slice (some ⟨i,o,none⟩) n cap =>
  match M.get i with
  |some (.cells c e wr tight) =>
   if e=esz/\n<=cap/\o+n*esz.sz<=c.length then
    if m=0 then some (s,M) else
    if n+m<=cap then
     (if wr=true/\o+(n+m)*esz.sz<=c.length then some (.slice (some ⟨i,o,none⟩) (n+m) cap,M.upd i (.cells (KJ c (o+n*esz.sz) xs) e wr tight)) else none)
    else if (n+m)*bytes<=2 ^ 46 then
     (if tight then some (.slice (some ⟨M.n,0,none⟩) (n+m) (n+m),M.push (.cells ((c.drop o).take (n*esz.sz)++xs) esz true false))
     else if wr then some (.slice (some ⟨M.n,0,none⟩) (n+m) (n+m),(M.kill i).push (.cells ((c.drop o).take (n*esz.sz)++xs) esz true false))
     else none)
    else none
   else none
  |_=>none
 |.slice (some ⟨i,o,some 0⟩) n cap =>
  match M.get i with
  |some (.cells c e _ _) =>
   if e=esz/\n=cap/\o+n*esz.sz<=c.length/\m≠0/\(n+m)*bytes<=2 ^ 46 then
    some (.slice (some ⟨M.n,0,none⟩) (n+m) (n+m),M.push (.cells ((c.drop o).take (n*esz.sz)++xs) esz true false))
   else none
  |_=>none
 |_=>none
def JU (ev:Operand->Value):Option Operand->Nat->Option Nat
 |none,d=>some d
 |some x,_=>match ev x with
  |.int _ i=>if 0<=i then some i.toNat else none
  |_=>none
def Kj (size:Nat) (M:Heap) (s:Value) (l h:Nat) (m:Option Nat):Option (Value×Heap) :=
 match s with
 |.slice none 0 0=>if l=0/\h=0/\(m.getD 0)=0 then some (.slice none 0 0,M) else none
 |.slice (some ⟨i,o,none⟩) _ cap =>
  match M.get i with
  |some (.cells _ e _ t) =>
   match m with
   |none=>if e.sz=size/\l<=h/\h<=cap then some (.slice (some ⟨i,o+l*size,none⟩) (h-l) (cap-l),M) else none
   |some m =>
    if e.sz=size/\l<=h/\h<=m/\m<=cap then
     if m=l then some (.slice (some ⟨M.n,0,none⟩) 0 0,M.push (.cells [] e false true))
     else if t=false/\h=m then some (.slice (some ⟨i,o+l*size,some 0⟩) (h-l) (m-l),M)
     else some (.slice (some ⟨i,o+l*size,none⟩) (h-l) (m-l),M)
    else none
  |_=>none
 |_=>none
def ZO:MK->Value->Bool
 |.int k,.int k' _=>decide (k=k')
 |.string,.string _|.bool,.bool _=>true
 |.agg s,.agg cs=>fits s cs.toList
 |_,_=>false
def Wf:Value->Value->Bool
 |.agg a,.agg b=>Qv a.toList b.toList
 |.int _ a,.int _ b=>a==b
 |.string a,.string b=>a.data.toList==b.data.toList
 |.bool a,.bool b=>a==b
 |_,_=>false
abbrev X1:=Value×Value×Nat
def Qo (k:Value):List X1->Option X1
 |[]=>none
 |e::es=>if Wf k e.1 then some e else Qo k es
def QD (k v:Value) (clock:Nat):List X1->List X1×Nat
 |[]=>([(k,v,clock)],clock+1)
 |e::es=>if Wf k e.1 then ((k,v,e.2.2)::es,clock) else (e::(QD k v clock es).1,(QD k v clock es).2)
def VM (k:Value):List X1->List X1
 |[]=>[]
 |e::es=>if Wf k e.1 then es else e::VM k es
def Heap.mapAt (M:Heap) (m:Nat):Option (List X1×Nat×Bool):=match M.get m with
 |some (.obj (.map es clock) wr)=>some (es,clock,wr)
 |_=>none
def FO:Value->Option UInt8
 |.int .u8 n=>some n.toNat.toUInt8
 |_=>none
def Pr (l:List Value):Option ByteArray:=(l.mapM FO).map λbs=>⟨bs.toArray⟩
def JD:Nat->Value->Value->Heap->Option Bool
 |0,.pointer none,.pointer none,_=>some true
 |0,.pointer none,.pointer (some _),_=>some false
 |0,.pointer (some _),.pointer none,_=>some false
 |0,.pointer (some ⟨i,o,none⟩),.pointer (some ⟨j,q,none⟩),M=>if i=j/\o=q/\(M.get i).isSome=true then some true else none
 |1,.slice none _ _,.slice none _ _,_=>some true
 |1,.slice none _ _,.slice (some _) _ _,_=>some false
 |1,.slice (some _) _ _,.slice none _ _,_=>some false
 |2,.map none,.map none,_=>some true
 |2,.map none,.map (some _),_=>some false
 |2,.map (some _),.map none,_=>some false
 |3,.nilFunc,.nilFunc,_=>some true
 |3,.nilFunc,.func _ _ _,_=>some false
 |3,.func _ _ _,.nilFunc,_=>some false
 |_,_,_,_=>none
def ZL (o:XOp) (ev:Operand->Value) (M:Heap):Option (Value×Heap) :=
 match o with
 |.eqNil kd neg x y=>match JD kd (ev x) (ev y) M with|some b=>some (.bool (if neg then !b else b),M)|none=>none
 |.eqAgg neg s x y=>match ev x,ev y with
  |.agg a,.agg b=>if fits s a.toList=true/\fits s b.toList=true then some (.bool (if neg then !(Qv a.toList b.toList) else Qv a.toList b.toList),M) else none
  |_,_=>none
 |.makeMap=>some (.map (some M.n),M.push (.obj (.map [] 0) true))
 |.lookup mk z ok x i =>
  let k:=ev i
  if ZO mk k then
   match ev x with
   |.map none=>some (if ok then .tuple #[z,.bool false] else z,M)
   |.map (some m)=>match M.mapAt m with
    |some (es,_,_)=>if es.all (λe=>ZO mk e.1) then
      (match Qo k es with
      |some e=>some (if ok then .tuple #[e.2.1,.bool true] else e.2.1,M)
      |none=>some (if ok then .tuple #[z,.bool false] else z,M)) else none
    |none=>none
   |_=>none
  else none
 |.mapUpdate mk m k v=>match ev m with
  |.map (some i)=>match M.mapAt i with
   |some (es,clock,true)=>if ZO mk (ev k)&&es.all (λe=>ZO mk e.1) then some (undef,M.upd i (.obj (.map (QD (ev k) (ev v) clock es).1 (QD (ev k) (ev v) clock es).2) true)) else none
   |_=>none
  |_=>none
 |.delete mk m k=>match ev m with
  |.map (some i)=>match M.mapAt i with
   |some (es,clock,true)=>if ZO mk (ev k)&&es.all (λe=>ZO mk e.1) then some (.tuple #[],M.upd i (.obj (.map (VM (ev k) es) clock) true)) else none
   |_=>none
  |_=>none
 |.mapEntry mk z m k=>match ev m with
  |.map (some i)=>match M.mapAt i with
   |some (es,clock,true)=>if ZO mk (ev k)&&es.all (λe=>ZO mk e.1) then
     (match Qo (ev k) es with
     |some e=>some (.tuple #[e.2.1,.int .i64 e.2.2],M.upd i (.obj (.map (QD (ev k) e.2.1 clock es).1 (QD (ev k) e.2.1 clock es).2) true))
     |none=>some (.tuple #[z,.int .i64 clock],M.upd i (.obj (.map (QD (ev k) z clock es).1 (QD (ev k) z clock es).2) true))) else none
   |_=>none
  |_=>none
 |.entryStore m s v=>match ev m,ev s with
  |.map (some i),.int .i64 n=>match M.mapAt i with
   |some (es,clock,true)=>(match es.findIdx? (λe=>(e.2.2:Int)==n) with
    |some j=>(match es[j]? with
     |some e=>some (undef,M.upd i (.obj (.map (es.set j (e.1,ev v,e.2.2)) clock) true))
     |none=>none)
    |none=>none)
   |_=>none
  |_,_=>none
 |.lenMap x=>match ev x with
  |.map none=>some (.int .i64 0,M)
  |.map (some m)=>match M.mapAt m with
   |some (es,_,_)=>some (.int .i64 es.length,M)
   |none=>none
  |_=>none
 |.rangeMap x=>match ev x with
  |.map (some m)=>match M.mapAt m with
   |some (_,clock,_)=>some (.pointer (some ⟨M.n,0,none⟩),M.push (.obj (.iter m clock [] clock) true))
   |none=>none
  |_=>none
 |.nextMap _=>none
 |.entry x=>match ev x with
  |.pointer (some ⟨i,0,none⟩)=>match M.get i with
   |some (.obj (.iter m _ seen last) _)=>match M.mapAt m,seen.getLast? with
    |some (es,clock,_),some b=>if clock=last then (match es.find? (λe=>e.2.2==b) with|some e=>if Ua e.1 then some (.tuple #[e.1,e.2.1],M) else none|none=>none) else none
    |_,_=>none
   |_=>none
  |_=>none
 |.copy size d s=>match ev d,ev s with
  |.slice db dn _,.slice sb sn sc =>
   if min sn dn=0 then some (.int .i64 0,M) else
   match db,M.sl size (.slice sb (min sn dn) sc) with
   |some ⟨i,o,none⟩,some xs=>match M.get i with
    |some (.cells c e wr tight)=>if wr=true/\e.sz=size/\o+xs.length<=c.length/\xs.all cellOk=true then some (.int .i64 (min sn dn:Nat),M.upd i (.cells (KJ c o xs) e wr tight)) else none
    |_=>none
   |_,_=>none
  |_,_=>none
 |.clear z x=>match ev x with
  |.slice b n _ =>
   if n=0 then some (.tuple #[],M) else
   match b with
   |some ⟨i,o,none⟩=>match M.get i with
    |some (.cells c e wr tight)=>if wr=true/\o+n*z.length<=c.length/\z.all cellOk=true then some (.tuple #[],M.upd i (.cells (KJ c o (Ta n z)) e wr tight)) else none
    |_=>none
   |_=>none
  |_=>none
 |.toUnsafe x=>match ev x with
  |.pointer none=>some (.pointer none,M)
  |.pointer (some ⟨i,o,none⟩)=>match M.get i with
   |some (.cells c _ _ _)=>if o<c.length then some (.pointer (some ⟨i,o,none⟩),M) else none
   |_=>none
  |_=>none
 |.fromUnsafe u size x=>match ev x with
  |.pointer none=>some (.pointer none,M)
  |.pointer (some ⟨i,o,none⟩)=>match M.get i with
   |some (.cells c e true true)=>if o=0/\e.ty=u/\size<=c.length then some (.pointer (some ⟨i,o,none⟩),M) else none
   |_=>none
  |_=>none
 |.sliceData x=>match ev x with
  |.slice none _ _=>some (.pointer none,M)
  |.slice (some ⟨i,o,none⟩) _ cap=>if cap≠0/\(M.get i).isSome=true then some (.pointer (some ⟨i,o,none⟩),M) else none
  |_=>none
 |.unsafeStr e x n=>match ev x,ev n with
  |.pointer p,.int .i64 k =>
   if k=0 then some (.string ⟨#[]⟩,M) else
   match p with
   |some ⟨i,o,none⟩=>match M.get i with
    |some (.cells c el true tight) =>
     if 0<k/\k<=2 ^ 62/\el.ty=e/\o+k.toNat<=c.length then
      (match Pr ((c.drop o).take k.toNat) with
      |some s=>some (.string s,M.upd i (.cells c el false tight))
      |none=>none) else none
    |_=>none
   |_=>none
  |_,_=>none
 |.strBytes e x=>match ev x with
  |.string s=>if s.size<=2 ^ 62 then some (.slice (some ⟨M.n,0,none⟩) s.size s.size,M.push (.cells (s.data.toList.map λb=>.int .u8 b.toNat) ⟨1,e⟩ true false)) else none
  |_=>none
 |.bytesStr x=>match ev x with
  |.slice a n c=>match M.sl 1 (.slice a n c) with
   |some xs=>match Pr xs with|some s=>some (.string s,M)|none=>none
   |none=>none
  |_=>none
def Q16 (a b:Int):Int:=if b > a then b else a
theorem Q2j (a b:Int):Q16 (Q16 a b) b=Q16 a b:=by unfold Q16;(repeat' split)<;>omega
def Qa (o:VOp) (ev:Operand->Value) (M:Heap):Option (Value×Heap) :=
 match o with
 |.move x=>some (ev x,M)
 |.pick c a b=>match ev c with|.bool t=>some (if t then ev a else ev b,M)|_=>none
 |.arith op x y=>match ev x,ev y with|.int k a,.int k' b=>if k=k' then some (.int k (Lu op k a b),M) else none|_,_=>none
 |.div op x y=>match ev x,ev y with|.int k a,.int k' b=>if k=k'/\b≠0 then some (.int k (Z2i op k a b),M) else none|_,_=>none
 |.bits op x y=>match ev x,ev y with|.int k a,.int k' b=>if k=k' then some (.int k (Qb op k a b),M) else none|_,_=>none
 |.shift op x y=>match ev x,ev y with|.int k a,.int _ b=>if 0<=b then some (.int k (Ll op k a b),M) else none|_,_=>none
 |.cmp op x y=>match ev x,ev y with|.int k a,.int k' b=>if k=k' then some (.bool (Z6j op a b),M) else none|_,_=>none
 |.str op x y=>match ev x,ev y with
  |.string a,.string b=>match op with
   |.add=>if a.size+b.size<=2 ^ 62 then some (.string (a++b),M) else none
   |.eql=>some (.bool (a.data.toList==b.data.toList),M)
   |.neq=>some (.bool (!(a.data.toList==b.data.toList)),M)
   |.lss=>some (.bool (Op.bytesLess a.data.toList b.data.toList),M)
   |_=>none
  |_,_=>none
 |.eqB neg x y=>match ev x,ev y with|.bool a,.bool b=>some (.bool (if neg then !(a==b) else (a==b)),M)|_,_=>none
 |.un op x=>match op,ev x with
  |.not,.bool b=>some (.bool (!b),M)
  |.neg,.int k n=>some (.int k (k.wrap (0-n)),M)
  |.xor,.int k n=>some (.int k (Qb .xor k (if k.signed then -1 else k.max) n),M)
  |_,_=>none
 |.convI k x=>match ev x with|.int _ n=>some (.int k (k.wrap n),M)|_=>none
 |.convS x=>match ev x with|.string s=>some (.string s,M)|_=>none
 |.alloc t z=>some (.pointer (some ⟨M.n,0,none⟩),M.push (.cells z ⟨z.length,t⟩ true true))
 |.box t x=>match V9 (ev x) with
  |some vs=>some (.pointer (some ⟨M.n,0,none⟩),M.push (.cells vs ⟨vs.length,t⟩ true true))
  |none=>none
 |.build z parts=>match Mq z (parts.map λp=>(p.1,p.2.1,ev p.2.2)) with|some cs=>some (.agg cs.toArray,M)|none=>none
 |.buildSlice esz z len parts=>match Mq (Ta len z) (parts.map λp=>(p.1*esz.sz,esz.sz,ev p.2)) with
  |some cs=>some (.slice (some ⟨M.n,0,none⟩) len len,M.push (.cells cs esz true true))
  |none=>none
 |.load agg size a=>match ev a with
  |.pointer (some ⟨g,o,some _⟩)=>(match Q7c g with
   |some c=>if c.all Zc then (match Yc agg size c o with|some v=>some (v,M)|none=>none) else none
   |none=>none)
  |.pointer (some ⟨i,o,none⟩)=>match M.get i with
   |some (.cells c _ _ _)=>match Yc agg size c o with|some v=>some (v,M)|none=>none
   |_=>none
  |_=>none
 |.store size a v=>match ev a,V9 (ev v) with
  |.pointer (some ⟨i,o,none⟩),some vs=>match M.get i with
   |some (.cells c e wr tight)=>if wr=true/\vs.length=size/\o+size<=c.length/\vs.all cellOk=true then some (undef,M.upd i (.cells (KJ c o vs) e wr tight)) else none
   |_=>none
  |_,_=>none
 |.fieldAddr off a=>match ev a with
  |.pointer (some ⟨i,o,none⟩)=>some (.pointer (some ⟨i,o+off,none⟩),M)
  |_=>none
 |.field agg off size x=>match ev x with
  |.agg cs=>match Yc agg size cs.toList off with|some v=>some (v,M)|none=>none
  |_=>none
 |.indexAddr size x i=>match ev x,ev i with
  |.slice (some ⟨b,o,none⟩) n _,.int _ k=>if 0<=k/\k<n then some (.pointer (some ⟨b,o+k.toNat*size,none⟩),M) else none
  |_,_=>none
 |.indexAddrArr len size x i=>match ev x,ev i with
  |.pointer (some ⟨g,o,some s⟩),.int _ k=>if 0<=k/\k<len then some (.pointer (some ⟨g,o+k.toNat*size,some s⟩),M) else none
  |.pointer (some ⟨b,o,none⟩),.int _ k=>if 0<=k/\k<len then some (.pointer (some ⟨b,o+k.toNat*size,none⟩),M) else none
  |_,_=>none
 |.indexStr x i=>match ev x,ev i with
  |.string s,.int _ k=>if 0<=k then (match s.data.toList[k.toNat]? with|some b=>some (.int .u8 b.toNat,M)|none=>none) else none
  |_,_=>none
 |.indexArr len agg size x i=>match ev x,ev i with
  |.agg cs,.int _ k=>if 0<=k/\k<len then (match Yc agg size cs.toList (k.toNat*size) with|some v=>some (v,M)|none=>none) else none
  |_,_=>none
 |.slice size x lo hi mx =>
  match ev x with
  |.slice a n cap =>
   match JU ev lo 0,JU ev hi n,mx with
   |some l,some h,none=>Kj size M (.slice a n cap) l h none
   |some l,some h,some _=>match JU ev mx 0,hi with
    |some m,some _=>Kj size M (.slice a n cap) l h (some m)
    |_,_=>none
   |_,_,_=>none
  |_=>none
 |.sliceStr x lo hi =>
  match ev x with
  |.string s =>
   match JU ev lo 0,JU ev hi s.size with
   |some l,some h=>if l<=h/\h<=s.size then some (.string (s.extract l h),M) else none
   |_,_=>none
  |_=>none
 |.makeSlice esz bytes z l c =>
  match ev l,ev c with
  |.int _ a,.int _ b=>if 0<=a/\a<=b/\b*bytes<=2 ^ 46/\b<=2 ^ 46 then some (.slice (some ⟨M.n,0,none⟩) a.toNat b.toNat,M.push (.cells (Ta b.toNat z) esz true true)) else none
  |_,_=>none
 |.len x=>match ev x with
  |.slice _ n _=>some (.int .i64 n,M)
  |_=>none
 |.lenStr x=>match ev x with
  |.string s=>some (.int .i64 s.size,M)
  |_=>none
 |.append esz bytes s x =>
  match M.sl esz.sz (ev x),ev x with
  |some xs,.slice _ m _=>if xs.all cellOk then Ke esz bytes M (ev s) m xs else none
  |_,_=>none
 |.max4 x y z w=>match ev x,ev y,ev z,ev w with|.int k a,.int k2 b,.int k3 c,.int k4 d=>if k=k2/\k=k3/\k=k4 then some (.int k (Q16 (Q16 (Q16 a b) c) d),M) else none|_,_,_,_=>none
 |.max x y=>match ev x,ev y with|.int k a,.int k' b=>if k=k' then some (.int k (if b > a then b else a),M) else none|_,_=>none
 |.min x y=>match ev x,ev y with|.int k a,.int k' b=>if k=k' then some (.int k (if b<a then b else a),M) else none|_,_=>none
 |.makeFunc fn first cap=>some (.func fn (first.map ev).toArray (cap.map ev).toArray,M)
 |.iface t x=>match ev x with|.chan _=>none|v=>some (.iface t v,M)
 |.extract x i=>match ev x with
  |.tuple vs=>match vs.toList[i]? with|some v=>some (v,M)|none=>none
  |_=>none
 |.nilCheck x=>match ev x with
  |.pointer (some a)=>some (.pointer (some a),M)
  |.func (.func f) first cap=>some (.func (.func f) first cap,M)
  |_=>none
 |.ext o=>ZL o ev M
 |.callF ..|.callV ..|.bad=>none
def Zo {α:Type}(o:Option α) (f:α->Prop):Prop:=match o with|some a=>f a|none=>False
def vif (b:Bool) (A B:Prop):Prop:=(b=true->A)/\(b=false->B)
def Q2g (v:Value) (A B:Prop):Prop:=match v with|.bool t=>vif t A B|_=>False
abbrev S5:=List Value->Heap->(Value->Heap->Prop)->Prop
structure VSpecs where
 fn:FuncId->Option S5
 yl:Nat->Option S5
 it:FuncId->Option (Nat->S5->S5)
def vcall (S:VSpecs) (f:FuncId) (args:List Value) (M:Heap) (K:Value->Heap->Prop):Prop :=
 match S.fn f with
 |some s=>s args M K
 |none=>False
def Iu (S:VSpecs) (i:Nat) (args:List Value) (M:Heap) (K:Value->Heap->Prop):Prop :=
 match S.yl i with
 |some s=>s args M K
 |none=>False
def FB (x:Value) (M:Heap) (K:Value->Heap->Prop):Prop :=
 match x with
 |.pointer (some ⟨i,0,none⟩)=>match M.get i with
  |some (.obj (.iter m since seen last) true)=>match M.mapAt m with
   |some (es,clock,_)=>(seen.isEmpty||es.isEmpty||es.any (λe=>decide (e.2.2<last)))=true/\es.all (λe=>Ua e.1)=true /\
     (es.all (λe=>seen.contains e.2.2||decide (since<=e.2.2))=true->K (.tuple #[.bool false]) M) /\
     ∀ e∈es,seen.contains e.2.2=false->K (.tuple #[.bool true,e.1,e.2.1]) (M.upd i (.obj (.iter m since (seen++[e.2.2]) clock) true))
   |none=>False
  |_=>False
 |_=>False
def XQ (env:Env) (d:Option Nat) (v:Value):Env :=
 match d with
 |some d=>env.set d v
 |none=>env
def vop (S:VSpecs) (o:VOp) (env:Env) (M:Heap) (K:Value->Heap->Prop):Prop :=
 match o with
 |.callF f args=>vcall S f (args.map (Q5 env)) M K
 |.callV f args=>match Q5 env f with
  |.func (.func g) first cap=>vcall S g (first.toList++args.map (Q5 env)++cap.toList) M K
  |.func (.yield i) _ _=>Iu S i (args.map (Q5 env)) M K
  |_=>False
 |.ext (.nextMap x)=>FB (Q5 env x) M K
 |o=>Zo (Qa o (Q5 env) M) λp=>K p.1 p.2
def Jy (env:Env):Option (Nat×Bool)->Option Bool
 |none=>some true
 |some (d,want)=>match env.getD d undef with
  |.bool b=>some (b==want)
  |.tuple _=>some false
  |_=>none
def Sq (S:VSpecs):List VOper->Env->Heap->(Env->Heap->Prop)->Prop
 |[],env,M,K=>K env M
 |o::rest,env,M,K=>Zo (Jy env o.guard) λb =>
   vif b (vop S o.op env M λv M'=>Sq S rest (XQ env o.dst v) M' K) (Sq S rest (XQ env o.dst undef) M K)
def Q0t:Value->Bool
 |.bool _|.int _ _|.string _|.pointer none|.slice none 0 0|.map none|.nilFunc|.nilIface=>true
 |.tuple vs=>vs.toList.all Zc
 |_=>false
def Heap.Le (M M':Heap):Prop:=M.n<=M'.n/\∀ i b,M.get i=some b->M'.get i=some b
def Hn (A:(Value->Heap->Prop)->Prop) (R:Value->Heap->Prop):Prop:=∃ v M',A (λv' aE=>v'=v/\aE=M')/\R v M'
def XE (op:VOp) (ev:Operand->Value) (v:Value) (U:Heap):Prop:=Zo (Qa op ev U) λq=>q.1=v
def Xz (r:Nat) (M:Heap):List (Nat×(Heap->Prop))->Prop
 |[]=>True
 |c::l=>(r<=c.1->c.2 M)/\Xz r M l
def waits:List Nat->List DOper->Bool
 |_,[]=>true
 |xs,o::r=>((o.kind==2)||(Q3w o.op.opds++(o.guard.map (·.1)).toList).any (λx=>xs.contains x))&&waits (o.dst.toList++xs) r
def ZT (S:VSpecs):List DOper->Env->List Heap->Heap->List (Nat×(Heap->Prop))->(Env->Heap->Prop)->Prop
 |[],env,_,M,_,K=>K env M
 |o::rest,env,hs,M,pend,K=>Zo (Jy env o.guard) λb =>
   vif b (if o.kind=2 then (Hn (λR=>vop S o.op env M R) λv M'=>Xz hs.length M' pend/\ZT S rest (XQ env o.dst v) (hs++[M']) M' pend K) \/
      (waits o.dst.toList rest=true/\vop S o.op env M λv M'=>Xz hs.length M' pend/\ZT S rest (XQ env o.dst v) (hs++[M']) M' pend K)
     else if o.kind=1 then Zo (Qa o.op (Q5 env) M) λp=>(∀ U∈hs.drop o.kmin,XE o.op (Q5 env) p.1 U) /\
      ZT S rest (XQ env o.dst p.1) hs M (if hs.length<=o.kmax then (o.kmax,XE o.op (Q5 env) p.1)::pend else pend) K
     else Zo (Qa o.op (Q5 env) M) λp=>ZT S rest (XQ env o.dst p.1) hs M pend K)
    (if o.kind=2 then Xz hs.length M pend/\ZT S rest (XQ env o.dst undef) (hs++[M]) M pend K else ZT S rest (XQ env o.dst undef) hs M pend K)
def DropE (σ0:Heap) (env:Env) (M:Heap) (ah:Env) (M':Heap):Prop :=
 ∀ ρ0 w0 ρ w cs,HRel ρ0 σ0 w0->Ext ρ0 σ0 w0 ρ M w->HRel ρ M w->LRel ρ M.n env cs->∃ ρ',LRel ρ' M'.n ah cs/\HRel ρ' M' w/\Ext ρ0 σ0 w0 ρ' M' w
theorem DropE.refl (σ0:Heap) (env:Env) (M:Heap):DropE σ0 env M env M:=λ_ _ ρ _ _ _ hE hH hL=>⟨ρ,hL,hH,hE⟩
def GN (S:VSpecs):List DSeg->Env->Heap->(Env->Heap->Prop)->Prop
 |[],env,M,K=>K env M
 |.one o::rest,env,M,K=>Sq S [o] env M λenv M=>GN S rest env M K
 |.alts l::rest,env,M,K=>∀ ops∈l,ZT S ops env [M] M [] λbr σ1=>∃ aS M2,DropE M br σ1 aS M2/\GN S rest aS M2 K
def PH (live:List Nat) (env:Env):List Value:=live.map λi=>env.getD i poison
def Wk:List Nat->List Value->Env->Env
 |i::l,v::vs,env=>Wk l vs (env.set i v)
 |_,_,env=>env
def Z7z (W:(Exit->Env->Heap->Prop)->Env->Heap->Prop) (Q:Exit->Env->Heap->Prop) (env:Env) (M:Heap):Prop :=
 ∃ (live:List Nat) (I:Nat->List Value->Heap->Prop) (n0:Nat),I n0 (PH live env) M /\
  ∀ n vs M',I n vs M'->W (λe ah aE=>match e with
   |.normal=>∃ n',n'<n/\I n' (PH live ah) aE
   |e=>Q e ah aE) (Wk live vs (List.replicate env.length poison)) M'
def J0d (R:Env->Heap->Prop) (Q:Exit->Env->Heap->Prop):Exit->Env->Heap->Prop
 |.normal,env,M=>R env M
 |e,env,M=>Q e env M
def Oo (id:Nat) (Q:Exit->Env->Heap->Prop):Exit->Env->Heap->Prop
 |.exit g9,env,M=>if g9=id then Q .normal env M else Q (.exit g9) env M
 |e,env,M=>Q e env M
def TP:Env->List Nat->List Value->Env
 |env,p::ps,v::vs=>TP (env.set p v) ps vs
 |env,_,_=>env
def Z39 (env:Env) (r:Loop) (i:Nat) (K:Value->Heap->Prop):Exit->Env->Heap->Prop:=λe _ M =>
 M.get i=some (.obj (.lp env r .busy none) true)/\match e with
  |.normal=>K (.bool true) (M.upd i (.obj (.lp env r .ready none) true))
  |.ret=>K (.bool false) (M.upd i (.obj (.lp env r .done (some .ret)) true))
  |.exit id=>K (.bool false) (M.upd i (.obj (.lp env r .done (some (.exit id))) true))
  |_=>False
def O3 (A B:(Exit->Env->Heap->Prop)->Env->Heap->Prop) (ps:List Nat) (env:Env) (r:Loop) (i:Nat):S5:=λargs M K =>
 M.get i=some (.obj (.lp env r .ready none) true)/\args.length=ps.length /\
  A (J0d (λbr σ1=>σ1.get i=some (.obj (.lp env r .ready none) true)/\B (Z39 env r i K) br (σ1.upd i (.obj (.lp env r .busy none) true))) (λ_ _ _=>False)) (TP env ps args) M
def Q6r (Q:Exit->Env->Heap->Prop) (env:Env) (i:Nat):Value->Heap->Prop:=λ_ M =>
 match M.get i with
 |some (.obj (.lp _ _ st pend) true)=>st≠.busy/\match pend with
  |none=>Q .normal env (M.kill i)
  |some .ret=>Q .ret env (M.kill i)
  |some (.exit id)=>Q (.exit id) env (M.kill i)
  |some _=>False
 |_=>False
def J09 (M:Heap):Option Nat->Prop
 |none=>True
 |some i=>∃ env r st pend,M.get i=some (.obj (.lp env r st pend) true)
def F9 (S:VSpecs) (ro:Option Nat) (A B:Option Nat->(Exit->Env->Heap->Prop)->Env->Heap->Prop) (g:Value) (ps:List Nat) (Q:Exit->Env->Heap->Prop) (env:Env) (M:Heap):Prop :=
 match g with
 |.func (.func f) first cap=>match S.it f with
  |some T=>J09 M ro/\∀ r:Loop,T M.n (O3 (A (some M.n)) (B (some M.n)) ps env r M.n) (first.toList++[.func (.yield M.n) #[] #[]]++cap.toList) (M.push (.obj (.lp env r .ready none) true)) (Q6r Q env M.n)
  |none=>False
 |_=>False
def vwp (S:VSpecs):VCode->Option Nat->(Exit->Env->Heap->Prop)->Env->Heap->Prop
 |.skip,_,Q,env,M=>Q .normal env M
 |.region ops,_,Q,env,M=>Sq S ops env M λenv M=>Q .normal env M
 |.regionD aR,_,Q,env,M=>GN S aR env M λenv M=>Q .normal env M
 |.seq a b,ro,Q,env,M=>vwp S a ro (J0d (vwp S b ro Q) Q) env M
 |.cond c a b,ro,Q,env,M=>Q2g (Q5 env c) (vwp S a ro Q env M) (vwp S b ro Q env M)
 |.block id b,ro,Q,env,M=>vwp S b ro (Oo id Q) env M
 |.loop b,ro,Q,env,M=>Z7z (vwp S b ro) Q env M
 |.rangeF g ps a b,ro,Q,env,M=>F9 S ro (vwp S a) (vwp S b) (Q5 env g) ps Q env M
 |.exit id,_,Q,env,M=>Q (.exit id) env M
 |.ret,_,Q,env,M=>Q .ret env M
 |.bad,_,_,_,_=>False
inductive VResult where
 |tmp (t:Nat)
 |cell (a:Nat) (agg:Bool) (size:Nat)
def Xc (P:Program):ResultVar->Option VResult
 |.tmp t=>some (.tmp t)
 |.cell a t =>
  match P.info? t,P.underlying t with
  |some i,some d=>some (.cell a (NI d) i.size)
  |_,_=>none
def UZ (P:Program) (rs:List ResultVar):Option (List VResult):=rs.mapM (Xc P)
def JW (env:Env) (M:Heap):VResult->Option Value
 |.tmp t=>some (env.getD t undef)
 |.cell a agg size=>(Qa (.load agg size (.tmp a)) (Q5 env) M).map (·.1)
def Je (env:Env) (M:Heap) (rs:List VResult):Option Value :=
 match rs with
 |[r]=>JW env M r
 |rs=>(rs.mapM (JW env M)).map λvs=>.tuple vs.toArray
def Z4x (rs:List VResult) (R:Value->Heap->Prop):Exit->Env->Heap->Prop
 |.normal,env,M|.ret,env,M=>Zo (Je env M rs) λv=>R v M
 |_,_,_=>False
theorem W2 (b:Nat):∀ (vs:List Value) (o:Nat) (w:World) (k:Nat),k≠b->(w.setCells b o vs).heap[k]?=w.heap[k]?
 |[],_,_,_,_=>rfl
 |v::r,o,w,k,h=>by rw[World.setCells,W2 b r (o+1) _ k h];exact heap_setCell_other w ⟨b,o,none⟩ k v h
theorem Y1 (b:Nat):∀ (vs:List Value) (o:Nat) (w:World),(w.setCells b o vs).heap.size=w.heap.size
 |[],_,_=>rfl
 |v::r,o,w=>by rw[World.setCells,Y1 b r];exact World.size_setCell w _ _
theorem DH (b:Nat):∀ (vs:List Value) (o:Nat) (w:World),(w.setCells b o vs).os=w.os/\(w.setCells b o vs).tape=w.tape/\(w.setCells b o vs).output=w.output
 |[],_,_=>⟨rfl,rfl,rfl⟩
 |v::r,o,w=>by rw[World.setCells];exact DH b r (o+1) _
theorem U7 (b:Nat):∀ (vs:List Value) (o:Nat) (w:World) (C:Array Value) (e:TypeId) (f:Nat×Nat),w.heap[b]?=some (.cells C e f) ->
  ∃ C',(w.setCells b o vs).heap[b]?=some (.cells C' e f)/\C'.size=C.size
 |[],_,_,C,_,_,h=>⟨C,h,rfl⟩
 |v::r,o,w,C,e,f,h=>by
  have h1:(w.setCell ⟨b,o,none⟩ v).heap[b]?=some (.cells (C.setIfInBounds o v) e f):=by simp only[World.setCell,Array.getElem?_modify,zB,h];simp
  obtain⟨C',h2,h3⟩:=U7 b r (o+1) _ _ e f h1;exact⟨C',by rw[World.setCells];exact h2,by rw[h3];simp⟩
theorem YA (vs:List Value):∀ (c:List Value) (o:Nat),(KJ c o vs).length=c.length:=by
 induction vs with
 |nil=>intro c o;rfl
 |cons v r ih=>intro c o;rw[KJ,ih];simp
theorem YT (vs:List Value):∀ (c:List Value) (o k:Nat),(k<o\/o+vs.length<=k)->(KJ c o vs)[k]?=c[k]?:=by
 induction vs with
 |nil=>intro c o k _;rfl
 |cons v r ih =>intro c o k h;rw[KJ,ih _ _ _ (by simp at h;omega),List.getElem?_set_ne (by simp at h;omega)]
theorem A0 (vs:List Value):∀ (c:List Value) (o k:Nat),o+vs.length<=c.length->k<vs.length->(KJ c o vs)[o+k]?=vs[k]?:=by
 induction vs with
 |nil=>intro c o k _ h;simp at h
 |cons v r ih =>
  intro c o k h hk;simp at h hk;cases k with
  |zero=>rw[KJ,YT _ _ _ _ (by left;omega),zR,List.getElem?_set_self (by omega)];rfl
  |succ k =>rw[KJ,show o+(k+1)=o+1+k by omega,ih _ _ _ (by simp;omega) (by omega)];simp
theorem BRel.q0s {ρ:Plc}{n:Nat}{p:Pl}{w:World}{c:List Value}{esz:El}{wr tight:Bool}(h:BRel ρ n p w (.cells c esz wr tight)) (k:Nat) (hk:k<p.ext):(w.cell? ⟨p.blk,p.shift+k,none⟩).isSome=true:=by
 obtain⟨_,_,_,⟨C,e,f,h1,h2⟩,_⟩:=h;have h3:p.shift+k<C.size:=by omega
 simp[World.cell?,h1,h3]
theorem BRel.other {ρ ρ':Plc}{n n':Nat}{q:Pl}{w w':World}{b:Blk}(hn:n<=n') (hρ:∀ i,i<n->∀ p,ρ' i=some p->ρ i=some p) (B:Nat) (C:Array Value) (e:TypeId) (f:Nat×Nat) (hB:w.heap[B]?=some (.cells C e f))
  (aw:0<q.ext->B≠q.blk) (hC:∃ C' f',w'.heap[B]?=some (.cells C' e f')/\C.size<=C'.size) (ho:∀ k,k≠B->k<w.heap.size->w'.heap[k]?=w.heap[k]?) (hq:q.blk<w.heap.size) (h:BRel ρ n q w b):BRel ρ' n' q w' b:=by
 by_cases hk:q.blk=B
 .have h0:q.ext=0:=by
   rcases Nat.eq_zero_or_pos q.ext with h'|h'
   .exact h'
   .exact absurd hk.symm (aw h')
  cases b with
  |cells c esz wr tight =>
   obtain⟨h1,h2,h3,⟨C0,e0,f0,h4,gN⟩,h5,h6⟩:=h;have hc:c=[]:=zW.1 (by omega);obtain⟨C',f',kY,o8⟩:=hC;have sI:C0=C/\e0=e:=by rw[hk,hB] at h4;simp at h4;exact⟨h4.1.symm,h4.2.1.symm⟩
   obtain⟨rfl,rfl⟩:=sI;refine⟨h1,h2,by omega,⟨C',e0,f',by rw[hk];exact kY,by omega,gN.2⟩,λk v hv=>by simp[hc] at hv,λhw=>⟨(h6 hw).1,λk hk=>by omega⟩⟩
  |obj o wr=>have:=h.1;omega
 .exact h.mono hn hρ (ho _ hk hq)
theorem HRel0.store {ρ:Plc}{M:Heap}{w:World}(h:HRel0 ρ M w) {i:Nat}{p:Pl}{c:List Value}{esz:El}{tight:Bool}(hp:ρ i=some p) (hb:M.get i=some (.cells c esz true tight))
  {o:Nat}{vs cs:List Value}(hv:LRel ρ M.n vs cs) (ho:o+vs.length<=c.length) :
  HRel0 ρ (M.upd i (.cells (KJ c o vs) esz true tight)) (w.setCells p.blk (p.shift+o) cs)/\Ext ρ M w ρ (M.upd i (.cells (KJ c o vs) esz true tight)) (w.setCells p.blk (p.shift+o) cs):=by
 have hi:=M.lt hb;obtain⟨p',bm,hB⟩:=h.live i _ hb;obtain rfl:p=p':=osj (hp.symm.trans bm);obtain⟨h1,h2,h3,⟨C,e,f,h4,gN⟩,h5,h6⟩:=hB;obtain⟨C',kY,o8⟩:=U7 p.blk cs (p.shift+o) w C e f h4;have cz:vs.length=cs.length:=hv.1;refine⟨⟨λj b hj=>?_,λj hj=>?_,λj q hq=>by rw[Y1];exact h.lt j q hq,λj k q r b dg hq hr cf hw hx=>?_⟩,?_⟩
 .by_cases aM:j=i
  .subst aM;rw[Heap.q0d _ _ hi] at hj;obtain rfl:=osj hj;refine⟨p,hp,h1,h2,by rw[YA];exact h3,⟨C',e,f,kY,by omega,gN.2⟩,λk v hk=>?_,λ_=>⟨(h6 rfl).1,λk hk=>by rw[World.frozen?_setCells];exact(h6 rfl).2 k hk⟩⟩;have a9:k<c.length:=by have:=(z9.1 hk).1;rwa [YA] at this
   by_cases bN:k<o\/o+vs.length<=k
   .rw[YT _ _ _ _ bN] at hk;obtain⟨u,hu,cB⟩:=h5 k v hk;exact⟨u,by rw[World.cell?_setCells_out _ _ _ _ _ (λ_ _=>by show p.shift+k<p.shift+o\/_;simp;omega)];exact hu,cB⟩
   .have mY:k=o+(k-o):=by omega
    rw[mY,A0 _ _ _ _ ho (by omega)] at hk;obtain⟨u,hu,cB⟩:=hv.get hk;have mB:k-o<cs.length:=(z9.1 hu).1;refine⟨u,?_,cB⟩;have:=World.cell?_setCells_in p.blk cs (p.shift+o) w (λj hj=>by
     rw[zp];exact BRel.q0s (ρ:=ρ) (n:=M.n) ⟨h1,h2,h3,⟨C,e,f,h4,gN⟩,h5,h6⟩ _ (by omega)) (k-o) mB
    rw[show p.shift+o+(k-o)=p.shift+k by omega] at this;rw[this,<-z5 mB,hu]
  .rw[Heap.q0b _ _ aM] at hj;obtain⟨q,hq,fN⟩:=h.live j b hj;refine⟨q,hq,fN.other (by exact z7 _) (λ_ _ _ h=>h) p.blk C e f h4 (λhx=>h.sep i j p q _ (Ne.symm aM) hp hq hb rfl hx) ⟨C',f,kY,by omega⟩ (λk hk _=>W2 _ _ _ _ _ hk) (h.lt j q hq)⟩
 .by_cases aM:j=i
  .subst aM;rw[Heap.q0d _ _ hi] at hj;cases hj
  .rw[Heap.q0b _ _ aM] at hj;exact h.dead j hj
 .by_cases aM:j=i
  .subst aM;exact h.sep j k q r _ dg hq hr hb rfl hx
  .rw[Heap.q0b _ _ aM] at cf;exact h.sep j k q r b dg hq hr cf hw hx
 .obtain⟨e1,e2,e3⟩:=DH p.blk cs (p.shift+o) w;refine⟨e1,e2,e3,by rw[Y1];exact z7 _,λB hB hW=>W2 _ _ _ _ _ (λe=>hW ⟨i,p,_,hp,hb,rfl,e.symm⟩),?_,z7 _,λ_ _ _ h=>h⟩;rintro B _ ⟨j,q,b,hq,de,hw,rfl⟩;by_cases aM:j=i
  .subst aM;exact⟨j,q,_,hq,hb,rfl,rfl⟩
  .rw[Heap.q0b _ _ aM] at de;exact⟨j,q,b,hq,de,hw,rfl⟩
theorem HRel0.onto {ρ:Plc}{M:Heap}{w:World}(h:HRel0 ρ M w) {i:Nat}{p:Pl}{c:List Value}{esz:El}(hp:ρ i=some p) (hb:M.get i=some (.cells c esz true false))
  (o':Nat) {aV vs cs:List Value}(hold:∀ k v,aV[k]?=some v->∃ u,w.cell? ⟨p.blk,p.shift+o'+k,none⟩=some u/\VRel ρ M.n v u) (hv:LRel ρ M.n vs cs) (ho:o'+aV.length+vs.length<=p.ext) :
  ∃ ρ',ρ' M.n=some ⟨p.blk,p.shift+o',p.ext-o',esz,false⟩/\HRel0 ρ' ((M.kill i).push (.cells (aV++vs) esz true false)) (w.setCells p.blk (p.shift+o'+aV.length) cs) /\
   Ext ρ M w ρ' ((M.kill i).push (.cells (aV++vs) esz true false)) (w.setCells p.blk (p.shift+o'+aV.length) cs):=by
 have hi:=M.lt hb;obtain⟨p',bm,hB⟩:=h.live i _ hb;obtain rfl:p=p':=osj (hp.symm.trans bm);have dI:=hB;obtain⟨h1,h2,h3,⟨C,e,f,h4,gN⟩,h5,h6⟩:=hB;obtain⟨C',kY,o8⟩:=U7 p.blk cs (p.shift+o'+aV.length) w C e f h4;have cz:vs.length=cs.length:=hv.1;let P':Pl:=⟨p.blk,p.shift+o',p.ext-o',esz,false⟩;let ρ':Plc:=(ρ.put i none).put M.n (some P');have gA:ρ' M.n=some P':=by simp[ρ',Plc.put]
 have fO:ρ' i=none:=by simp only[ρ',Plc.put];rw[z0 (by omega)];simp
 have fh:∀ j,j≠M.n->j≠i->ρ' j=ρ j:=λj h1 h2=>by simp[ρ',Plc.put,h1,h2]
 have aU:∀ j,j<M.n->∀ q,ρ' j=some q->ρ j=some q:=λj hj q hq=>by
  by_cases aM:j=i
  .subst aM;rw[fO] at hq;cases hq
  .rwa [fh j (by omega) aM] at hq
 refine⟨ρ',gA,⟨λj b hj=>?_,λj hj=>?_,λj q hq=>?_,λj k q r b dg hq hr cf hw hx=>?_⟩,?_⟩
 .by_cases aZ:j=M.n
  .subst aZ;have eE:((M.kill i).push (.cells (aV++vs) esz true false)).get M.n=some (.cells (aV++vs) esz true false):=Heap.q0a (M.kill i) _;rw[eE] at hj;obtain rfl:=osj hj;refine⟨P',gA,rfl,rfl,by simp[P'];omega,⟨C',e,f,kY,by simp[P'];omega,gN.2⟩,λk v hk=>?_,λ_=>⟨(λh=>by cases h),λk hk=>?_⟩⟩
   .by_cases bN:k<aV.length
    .rw[xr bN] at hk;obtain⟨u,hu,cB⟩:=hold k v hk;exact⟨u,by rw[World.cell?_setCells_out _ _ _ _ _ (λ_ _=>by left;simp[P'];omega)];exact hu,cB.mono (by simp) aU⟩
    .rw[xE (by omega)] at hk;obtain⟨u,hu,cB⟩:=hv.get hk;have mB:k-aV.length<cs.length:=(z9.1 hu).1;refine⟨u,?_,cB.mono (by simp) aU⟩;have:=World.cell?_setCells_in p.blk cs (p.shift+o'+aV.length) w (λj hj=>by
      rw[zp,zp];exact dI.q0s _ (by omega)) (k-aV.length) mB
     rw[show p.shift+o'+aV.length+(k-aV.length)=P'.shift+k by simp[P'];omega] at this;rw[this,<-z5 mB,hu]
   .rw[World.frozen?_setCells,show P'.shift+k=p.shift+(o'+k) by simp[P'];omega];exact(h6 rfl).2 _ (by simp[P'] at hk;omega)
  .have du:(M.kill i).get j=some b:=by rw[<-hj];exact(Heap.q0e (M.kill i) _ aZ).symm
   by_cases aM:j=i
   .subst aM;rw[Heap.q0f] at du;cases du
   .rw[Heap.q0c _ aM] at du;obtain⟨q,hq,fN⟩:=h.live j b du;exact⟨q,by rw[fh j aZ aM];exact hq,fN.other (by simp) aU p.blk C e f h4 (λhx=>h.sep i j p q _ (Ne.symm aM) hp hq hb rfl hx) ⟨C',f,kY,by omega⟩ (λk hk _=>W2 _ _ _ _ _ hk) (h.lt j q hq)⟩
 .by_cases aZ:j=M.n
  .subst aZ;have eE:((M.kill i).push (.cells (aV++vs) esz true false)).get M.n=some (.cells (aV++vs) esz true false):=Heap.q0a (M.kill i) _;rw[eE] at hj;cases hj
  .have du:(M.kill i).get j=none:=by rw[<-hj];exact(Heap.q0e (M.kill i) _ aZ).symm
   by_cases aM:j=i
   .subst aM;exact fO
   .rw[Heap.q0c _ aM] at du;rw[fh j aZ aM];exact h.dead j du
 .rw[Y1];by_cases aZ:j=M.n
  .subst aZ;rw[gA] at hq;obtain rfl:=osj hq;exact h.lt i p hp
  .by_cases aM:j=i
   .subst aM;rw[fO] at hq;cases hq
   .rw[fh j aZ aM] at hq;exact h.lt j q hq
 .by_cases aZ:j=M.n
  .subst aZ;rw[gA] at hq;obtain rfl:=osj hq;by_cases jU:k=i
   .subst jU;rw[fO] at hr;cases hr
   .rw[fh k (Ne.symm dg) jU] at hr;exact h.sep i k p r _ (Ne.symm jU) hp hr hb rfl hx
  .have bt:(M.kill i).get j=some b:=by rw[<-cf];exact(Heap.q0e (M.kill i) _ aZ).symm
   by_cases aM:j=i
   .subst aM;rw[fO] at hq;cases hq
   rw[Heap.q0c _ aM] at bt;rw[fh j aZ aM] at hq;by_cases kZ:k=M.n
   .subst kZ;rw[gA] at hr;obtain rfl:=osj hr;have mZ:0<p.ext:=by simp[P'] at hx;omega
    exact h.sep j i q p b aM hq hp bt hw mZ
   .by_cases jU:k=i
    .subst jU;rw[fO] at hr;cases hr
    .rw[fh k kZ jU] at hr;exact h.sep j k q r b dg hq hr bt hw hx
 .obtain⟨e1,e2,e3⟩:=DH p.blk cs (p.shift+o'+aV.length) w;refine⟨e1,e2,e3,by rw[Y1];exact z7 _,λB hB hW=>W2 _ _ _ _ _ (λe=>hW ⟨i,p,_,hp,hb,rfl,e.symm⟩),?_,by simp,aU⟩;rintro B _ ⟨j,q,b,hq,de,hw,rfl⟩;by_cases aZ:j=M.n
  .subst aZ;rw[gA] at hq;obtain rfl:=osj hq;exact⟨i,p,_,hp,hb,rfl,rfl⟩
  .have bt:(M.kill i).get j=some b:=by rw[<-de];exact(Heap.q0e (M.kill i) _ aZ).symm
   by_cases aM:j=i
   .subst aM;rw[fO] at hq;cases hq
   rw[Heap.q0c _ aM] at bt;rw[fh j aZ aM] at hq;exact⟨j,q,b,hq,bt,hw,rfl⟩
section
variable {ρ:Plc}{M:Heap}{w:World}
theorem HRel.store (h:HRel ρ M w) {i:Nat}{p:Pl}{c:List Value}{esz:El}{tight:Bool}(hp:ρ i=some p) (hb:M.get i=some (.cells c esz true tight))
  {o:Nat}{vs cs:List Value}(hv:LRel ρ M.n vs cs) (ho:o+vs.length<=c.length) :
  HRel ρ (M.upd i (.cells (KJ c o vs) esz true tight)) (w.setCells p.blk (p.shift+o) cs)/\Ext ρ M w ρ (M.upd i (.cells (KJ c o vs) esz true tight)) (w.setCells p.blk (p.shift+o) cs) :=
 let ⟨h2,h3⟩:=h.core.store hp hb hv ho
 ⟨h.ext h2 h3,h3⟩
theorem HRel.onto (h:HRel ρ M w) {i:Nat}{p:Pl}{c:List Value}{esz:El}(hp:ρ i=some p) (hb:M.get i=some (.cells c esz true false))
  (o':Nat) {aV vs cs:List Value}(hold:∀ k v,aV[k]?=some v->∃ u,w.cell? ⟨p.blk,p.shift+o'+k,none⟩=some u/\VRel ρ M.n v u) (hv:LRel ρ M.n vs cs) (ho:o'+aV.length+vs.length<=p.ext) :
  ∃ ρ',ρ' M.n=some ⟨p.blk,p.shift+o',p.ext-o',esz,false⟩/\HRel ρ' ((M.kill i).push (.cells (aV++vs) esz true false)) (w.setCells p.blk (p.shift+o'+aV.length) cs) /\
   Ext ρ M w ρ' ((M.kill i).push (.cells (aV++vs) esz true false)) (w.setCells p.blk (p.shift+o'+aV.length) cs) :=
 let ⟨ρ',h1,h2,h3⟩:=h.core.onto hp hb o' hold hv ho
 ⟨ρ',h1,h.ext h2 h3,h3⟩
end
end Go.V
namespace Go.V
open Go
structure Like (ρ:Plc) (w w':World):Prop where
 size:w.heap.size<=w'.heap.size
 blk:∀ i p,ρ i=some p->w'.heap[p.blk]?=w.heap[p.blk]?
 tab:∀ g cs,Q7c g=some cs->w'.heap[g]?=w.heap[g]?
theorem Like.refl (ρ:Plc) (w:World):Like ρ w w:=⟨z7 _,λ_ _ _=>rfl,λ_ _ _=>rfl⟩
section inv
variable {ρ:Plc}{n:Nat}{c:Value}
theorem VRel.q0g {k:IntKind}{x:Int}(h:VRel ρ n (.int k x) c):c=.int k x:=by cases h;rfl
theorem VRel.q1d {b:Bool}(h:VRel ρ n (.bool b) c):c=.bool b:=by cases h;rfl
theorem VRel.q0p {s:ByteArray}(h:VRel ρ n (.string s) c):c=.string s:=by cases h;rfl
theorem VRel.q1k {l k:Nat}(h:VRel ρ n (.slice none l k) c):l=0/\k=0/\c=.slice none 0 0:=by cases h;exact⟨rfl,rfl,rfl⟩
theorem VRel.q0w {i o:Nat}{p:Pl}(hp:ρ i=some p) (h:VRel ρ n (.pointer (some ⟨i,o,none⟩)) c):(none:Option Nat)=none/\i<n/\c=.pointer (some ⟨p.blk,p.shift+o,none⟩):=by
 cases h with
 |ptr _ _ a hi h=>exact⟨rfl,hi,by rw[h p hp]⟩
theorem VRel.q1l {cs:Array Value}(h:VRel ρ n (.agg cs) c):∃ ds:Array Value,c=.agg ds/\LRel ρ n cs.toList ds.toList:=by
 cases h with
 |agg _ ds hc h=>exact⟨ds,rfl,LRel.of_array hc h⟩
theorem VRel.q1j {cs:Array Value}(h:VRel ρ n (.tuple cs) c):∃ ds:Array Value,c=.tuple ds/\LRel ρ n cs.toList ds.toList:=by
 cases h with
 |tuple _ ds hc h=>exact⟨ds,rfl,LRel.of_array hc h⟩
end inv
theorem Ya {ρ:Plc}{n:Nat}{v:Value}(h:Zc v=true):VRel ρ n v v:=by unfold Zc at h;split at h<;>first|constructor|cases h
theorem XM {ρ:Plc}{n:Nat}{l:List Value}(h:l.all Zc=true):LRel ρ n l l:=by refine⟨rfl,λi v c hv hc=>?_⟩;obtain rfl:v=c:=osj (hv.symm.trans hc);exact Ya (z8.1 h v (zG hv))
theorem Uk {ρ:Plc}{n:Nat}{v:Value}(h:Ua v=true):VRel ρ n v v:=by
 unfold Ua at h;split at h
 .rename_i cs;have:=VRel.q1m (XM (ρ:=ρ) (n:=n) h);simpa using this
 .rename_i cs;have:=VRel.q0j (XM (ρ:=ρ) (n:=n) h);simpa using this
 .exact Ya h
theorem X9 {ρ:Plc}{n:Nat}:VRel ρ n undef undef:=Uk rfl
theorem WZ {ρ:Plc}{n:Nat}{env:Env}{a:Act}(h:LRel ρ n env a.tmps.toList) {x:Operand}(hx:XI x=true):VRel ρ n (Q5 env x) (a.eval x):=by
 cases x with
 |tmp t =>
  simp only[Q5,Act.eval];have e:List.length env=a.tmps.size:=by have:=h.1;rw[Array.length_toList] at this;exact this
  rcases zk t (List.length env) with ht|ht
  .have mC:t<a.tmps.size:=by rw[<-e];exact ht
   have:=h.2 t env[t] a.tmps[t] (z5 ht) (by simp[mC]);simpa [List.getD,ht,mC,Array.getD] using this
  .have mC:¬ t<a.tmps.size:=by rw[<-e];exact wq.2 ht
   simp[List.getD,zr ht,Array.getD,mC];exact X9
 |const v=>exact Uk hx
 |global g=>exact .glob g 0 0
 |func f=>exact .func _ #[] #[] #[] #[] rfl rfl (λi h1=>by simp at h1) (λi h1=>by simp at h1)
theorem Tq {ρ:Plc}{w w':World}(hl:Like ρ w w') {i:Nat}{p:Pl}(hp:ρ i=some p) (o:Nat):w'.cell? ⟨p.blk,o,none⟩=w.cell? ⟨p.blk,o,none⟩ :=
 World.cell?_of_block (a:=⟨p.blk,o,none⟩) (hl.blk i p hp)
section
variable {P:Program}{ρ:Plc}{M:Heap}{w:World}
theorem UF {t:TypeId}{d:TypeDesc}(h:P.underlying t=some d) (w:World):(isAgg t).run P w=.ok (NI d) w:=by cases d<;>simp[isAgg,run_underlying h,NI]
theorem Qk {t:TypeId}{i:TypeInfo}(h:P.info? t=some i) (w:World):(sizeOf t).run P w=.ok i.size w:=by simp[sizeOf,run_typeInfo w h]
theorem W7 (b o n:Nat):(⟨b,o,none⟩:Addr).add n=⟨b,o+n,none⟩:=by unfold Addr.add;split<;>simp_all
theorem Om (hH:HRel ρ M w) {t:TypeId}{ti:TypeInfo}{d:TypeDesc}(h1:P.info? t=some ti) (h2:P.underlying t=some d) {i o:Nat}{c:List Value}{esz:El}{wr tight:Bool}{v x:Value}
  (hb:M.get i=some (.cells c esz wr tight)) (hv:Yc (NI d) ti.size c o=some v) (hx:VRel ρ M.n (.pointer (some ⟨i,o,none⟩)) x) :
  ∃ u,VRel ρ M.n v u/\∀ w',Like ρ w w'->(Instr.loadAt t x).run P w'=.ok u w':=by
 obtain⟨p,hp,_,_,_,_,h5,_⟩:=hH.live i _ hb;obtain⟨_,_,rfl⟩:=hx.q0w hp;unfold Yc at hv;cases ec:NI d with
 |false =>
  simp[ec] at hv;obtain⟨u,hu,cB⟩:=h5 o v hv;refine⟨u,cB,λw' hl=>?_⟩;have:w'.cell? ⟨p.blk,p.shift+o,none⟩=some u:=by rw[Tq hl hp];exact hu
  simp[Instr.loadAt,Instr.sureAddr,loadVar,UF h2,ec,this]
 |true =>
  simp only[ec,zB] at hv;split at hv
  .rename_i hlen;simp at hv;subst hv;have hex:∃ us:List Value,us.length=ti.size/\∀ k,k<ti.size->∃ u,us[k]?=some u/\w.cell? ⟨p.blk,p.shift+o+k,none⟩=some u/\∀ v,c[o+k]?=some v->VRel ρ M.n v u:=by
    refine⟨(List.range ti.size).map λk=>(w.cell? ⟨p.blk,p.shift+o+k,none⟩).getD undef,by simp,λk hk=>?_⟩;obtain⟨u,hu,cB⟩:=h5 (o+k) _ (z5 (by omega));rw[<-zp] at hu;refine⟨u,by simp[hk,hu],hu,λv hv=>?_⟩;rw[z5 (by omega)] at hv;obtain rfl:=osj hv;exact cB
   obtain⟨us,sJ,ef⟩:=hex;refine⟨.agg us.toArray,VRel.q1m ⟨by simp;omega,λk v u hk hu=>?_⟩,λw' hl=>?_⟩
   .have a9:k<ti.size:=by have:=(z9.1 hu).1;omega
    rw[zO,z3 a9,zC] at hk;obtain⟨u',cg,_,gi⟩:=ef k a9;rw[hu] at cg;obtain rfl:=osj cg;exact gi v hk
   .have cK:∀ j v,us[j]?=some v->w'.cell? ((⟨p.blk,p.shift+o,none⟩:Addr).add j)=some v:=λj v hj=>by
     have cj:j<ti.size:=by have:=(z9.1 hj).1;omega
     obtain⟨u',cg,cM,_⟩:=ef j cj;rw[hj] at cg;obtain rfl:=osj cg;rw[W7,Tq hl hp];exact cM
    have:=run_loadCells_list (P:=P) w' ⟨p.blk,p.shift+o,none⟩ us cK;rw[sJ] at this;simp[Instr.loadAt,Instr.sureAddr,loadVar,UF h2,ec,Qk h1,this]
  .cases hv
theorem AK (hH:HRel ρ M w) {t:TypeId}{ti:TypeInfo}{d:TypeDesc}(h1:P.info? t=some ti) (h2:P.underlying t=some d) {g o s:Nat}{c:List Value}{v x:Value}
  (hb:Q7c g=some c) (aU:c.all Zc=true) (hv:Yc (NI d) ti.size c o=some v) (hx:VRel ρ M.n (.pointer (some ⟨g,o,some s⟩)) x) :
  ∃ u,VRel ρ M.n v u/\∀ w',Like ρ w w'->(Instr.loadAt t x).run P w'=.ok u w':=by
 obtain⟨⟨e,f,hw⟩,_⟩:=hH.tab g c hb;obtain rfl:x=.pointer (some ⟨g,o,none⟩):=by cases hx;rfl
 have bA:∀ w',Like ρ w w'->∀ k,w'.cell? ⟨g,k,none⟩=c[k]?:=λw' hl k=>by have:=hl.tab g c hb;simp[World.cell?,this,hw]
 unfold Yc at hv;cases ec:NI d with
 |false =>
  simp[ec] at hv;refine⟨v,Ya (z8.1 aU v (zG hv)),λw' hl=>?_⟩;have:w'.cell? ⟨g,o,none⟩=some v:=by rw[bA w' hl];exact hv
  simp[Instr.loadAt,Instr.sureAddr,loadVar,UF h2,ec,this]
 |true =>
  simp only[ec,zB] at hv;split at hv
  .rename_i hlen;simp at hv;subst hv;have ae:((c.drop o).take ti.size).all Zc=true:=z8.2 λx hx=>z8.1 aU x (List.mem_of_mem_drop (List.mem_of_mem_take hx));refine⟨_,VRel.q1m (XM ae),λw' hl=>?_⟩;have cK:∀ j v,((c.drop o).take ti.size)[j]?=some v->w'.cell? ((⟨g,o,none⟩:Addr).add j)=some v:=λj v hj=>by
    rw[W7,bA w' hl];rw[zO] at hj;split at hj
    .rw[zC] at hj;exact hj
    .cases hj
   have:=run_loadCells_list (P:=P) w' ⟨g,o,none⟩ _ cK;have ck:((c.drop o).take ti.size).length=ti.size:=by rw[wa,wh];omega
   rw[ck] at this;simp[Instr.loadAt,Instr.sureAddr,loadVar,UF h2,ec,Qk h1,this]
  .cases hv
theorem Ik {t:TypeId}{ti:TypeInfo}{d:TypeDesc}(h1:P.info? t=some ti) (h2:P.underlying t=some d) {cs ds:Array Value}{o:Nat}{v:Value}{n:Nat}
  (hv:Yc (NI d) ti.size cs.toList o=some v) (hl:LRel ρ n cs.toList ds.toList):∃ u,VRel ρ n v u/\∀ w',(part t ds o).run P w'=.ok u w':=by
 unfold Yc at hv;cases ec:NI d with
 |false =>
  simp only[ec,zy,if_false] at hv;obtain⟨u,hu,cB⟩:=hl.get hv;refine⟨u,cB,λw'=>?_⟩;have:ds[o]?=some u:=by simpa using hu
  simp[part,UF h2,ec,this]
 |true =>
  simp only[ec,zB] at hv;split at hv
  .rename_i hlen;simp at hv;subst hv;refine⟨.agg (ds.extract o (o+ti.size)),?_,λw'=>by simp[part,UF h2,ec,Qk h1]⟩;have:LRel ρ n ((cs.toList.drop o).take ti.size) ((ds.toList.drop o).take ti.size):=by
    refine⟨by have:=hl.1;simp at this |-;omega,λk v u hk hu=>?_⟩;rw[zO] at hk hu;split at hk
    .rename_i a9;rw[z3 a9,zC] at hu;rw[zC] at hk;exact hl.2 _ v u hk hu
    .cases hk
   have h3:=VRel.q1m this;have h4:((ds.toList.drop o).take ti.size).toArray=ds.extract o (o+ti.size):=by apply Array.ext';simp[Array.toList_extract,List.extract_eq_take_drop]
   rwa [h4] at h3
  .cases hv
end
end Go.V
namespace Go.V
open Go
theorem P2 {ρ:Plc}{n:Nat}{v c:Value}{vs:List Value}(h:V9 v=some vs) (hv:VRel ρ n v c):LRel ρ n vs c.cells.toList:=by
 unfold V9 at h;split at h
 .obtain⟨ds,rfl,hl⟩:=hv.q1l;simp at h;subst h;exact hl
 .cases h
 .cases h
 .rename_i h1 h2 h3;simp at h;subst h;have hc:c.cells.toList=[c]:=by
   cases hv<;>first|rfl|(exact absurd rfl (h1 _))|(exact absurd rfl (h2 _))|(exact absurd rfl (h3 _))
  rw[hc];exact LRel.cons hv (LRel.nil _ _)
theorem Q0u (off:Nat):∀ (vs:List Value) (k:Nat) (cells:Array Value),
  (((vs.zipIdx k).foldl (λ(cs:Array Value) (p:Value×Nat)=>cs.setIfInBounds (off+p.2) p.1) cells)).toList=KJ cells.toList (off+k) vs:=by
 intro vs;induction vs with
 |nil=>intro k cells;rfl
 |cons v r ih =>intro k cells;simp only[List.zipIdx_cons,wc];rw[ih,KJ];simp[zp]
theorem Q5t {ρ:Plc}{n:Nat}:∀ (vs us c d:List Value) (o:Nat),LRel ρ n c d->LRel ρ n vs us->LRel ρ n (KJ c o vs) (KJ d o us):=by
 intro vs;induction vs with
 |nil=>intro us c d o hc hv;cases us with
  |nil=>exact hc
  |cons _ _=>have:=hv.1;simp at this
 |cons v r ih =>
  intro us c d o hc hv;cases us with
  |nil=>have:=hv.1;simp at this
  |cons u us =>rw[KJ,KJ];have h0:VRel ρ n v u:=hv.2 0 v u rfl rfl;have hr:LRel ρ n r us:=⟨by have:=hv.1;simpa using this,λi a b ha hb=>hv.2 (i+1) a b (by simpa using ha) (by simpa using hb)⟩;exact ih us _ _ _ (hc.set o h0) hr
theorem LR {ρ:Plc}{n:Nat}(place:Nat->Option (Nat×Nat)):∀ (l:List (Nat×Nat×Value)) (l':List (Nat×Value)) (c c':List Value) (cells:Array Value),
  l.length=l'.length->(∀ (k:Nat) (a:Nat×Nat×Value) (b:Nat×Value),l[k]?=some a->l'[k]?=some b->place b.1=some (a.1,a.2.1)/\VRel ρ n a.2.2 b.2) ->
  Mq c l=some c'->LRel ρ n c cells.toList->∃ bu,Instr.fill place cells l'=some bu/\LRel ρ n c' bu.toList:=by
 intro l;induction l with
 |nil =>
  intro l' c c' cells hl _ hf hc;cases l' with
  |nil=>simp[Mq] at hf;subst hf;exact⟨cells,rfl,hc⟩
  |cons _ _=>simp at hl
 |cons a r ih =>
  intro l' c c' cells hl hk hf hc;cases l' with
  |nil=>simp at hl
  |cons b r' =>
   obtain⟨o,s,v⟩:=a;obtain⟨j,u⟩:=b;obtain⟨hp,hv⟩:=hk 0 _ _ rfl rfl;simp only at hp hv;simp only[Mq] at hf;split at hf
   .rename_i vs cC;split at hf
    .rename_i ak;obtain⟨hs,hle⟩:=ak;have eF:=P2 cC hv;have aB:u.cells.size=s:=by have:=eF.1;simp at this;omega
     have hlen:cells.size=c.length:=by have:=hc.1;simp at this;omega
     obtain⟨bu,h1,h2⟩:=ih r' (KJ c o vs) c' (u.cells.zipIdx.foldl (λcs (c,j)=>cs.setIfInBounds (o+j) c) cells) (by simpa using hl)
      (λk a b ha hb=>hk (k+1) a b (by simpa using ha) (by simpa using hb)) hf (by
       have:=Q0u o u.cells.toList 0 cells;rw[<-Array.foldl_toList,Array.toList_zipIdx];rw[show (o+0)=o from rfl] at this;refine Eq.subst (motive:=λx=>LRel ρ n (KJ c o vs) x) this.symm ?_;exact Q5t _ _ _ _ _ hc eF)
     refine⟨bu,?_,h2⟩;simp only[Instr.fill,hp];rw[z0 (by simp;omega)];exact h1
    .cases hf
   .cases hf
theorem Am {ρ:Plc}{n:Nat}{env:Env}{ev:Operand->Value}(hE:∀ x,XI x=true->VRel ρ n (Q5 env x) (ev x)) {l:List Operand}(h:l.all XI=true):LRel ρ n (l.map (Q5 env)) (l.map ev):=by
 refine⟨by simp,λi v c hv hc=>?_⟩;rw[zU] at hv hc;cases hx:l[i]? with
 |none=>simp[hx] at hv
 |some x =>simp[hx] at hv hc;subst hv;subst hc;exact hE x (z8.1 h x (zG hx))
theorem Q0 {P:Program}{t:TypeId}{d:TypeDesc}(h:P.underlying t=some d) (w:World):(underlying t).run P w=.ok d w:=run_underlying h w
def AG (P:Program) (ρ:Plc) (M:Heap) (w:World) (v:Value) (s:Sem Next):Prop :=
 ∃ c,VRel ρ M.n v c/\∀ w',Like ρ w w'->s.run P w'=.ok (.value c) w'
theorem WU {α β:Type}(f:α->Option β):∀ (l:List α) (r:List β),l.mapM f=some r->r.length=l.length/\∀ (i:Nat) (a:α),l[i]?=some a->∃ b,r[i]?=some b/\f a=some b:=by
 intro l;induction l with
 |nil=>intro r h;simp at h;subst h;exact⟨rfl,λi a h=>by simp at h⟩
 |cons a l ih =>
  intro r h;rw[xl] at h;cases hf:f a with
  |none=>simp[hf] at h
  |some b =>
   cases hm:l.mapM f with
   |none=>simp[hf,hm] at h
   |some r' =>
    simp[hf,hm] at h;subst h;obtain⟨h1,h2⟩:=ih r' hm;refine⟨by simp[h1],λi x hx=>?_⟩;cases i with
    |zero=>simp at hx;subst hx;exact⟨b,rfl,hf⟩
    |succ i=>simp at hx;simpa using h2 i x hx
theorem Q5k {P:Program}{α β:Type}(g:α->Sem β) (f:α->β) (w:World):∀ (l:List α),(∀ a∈l,(g a).run P w=.ok (f a) w)->(l.mapM g).run P w=.ok (l.map f) w:=by
 intro l;induction l with
 |nil=>intro _;rfl
 |cons a l ih =>intro h;rw[xl];simp[h a (by simp),ih (λb hb=>h b (by simp[hb]))]
theorem YG {P:Program}{t:TypeId}{z:List Value}(h:zeroOf P t=some z):∃ i zv,P.info? t=some i/\i.zero=some zv/\zv.cells.toList=z/\z.length=i.size/\z.all Zc=true:=by
 unfold zeroOf at h;cases hi:P.info? t with
 |none=>simp[hi] at h
 |some i =>
  cases hz:i.zero with
  |none=>simp[hi,hz] at h
  |some zv =>simp[hi,hz] at h;obtain⟨h1,h2⟩:=h;subst h2;exact⟨i,zv,rfl,hz,rfl,by simpa using h1.1,by simpa using h1.2⟩
theorem Zu {P:Program}{t:TypeId}{i:TypeInfo}{zv:Value}(h:P.info? t=some i) (hz:i.zero=some zv) (w:World):(zeroValue t).run P w=.ok zv w:=by simp[zeroValue,run_typeInfo w h,hz]
section
variable {P:Program}{ρ:Plc}{M M':Heap}{w:World}{ev:Operand->Value}{env:Env}{v:Value}
theorem Qt {s:Sem Next}{v c:Value}(h:∀ w',s.run P w'=.ok (.value c) w') (hc:VRel ρ M.n v c):AG P ρ M w v s:=⟨c,hc,λw' _=>h w'⟩
theorem MV (op:BinOp) (t:TypeId) (x y:Operand) (yt:TypeId) (ty:TypeId) (pos:String) (after:Array Edge) (dst:Option Tmp) (g:Option (Nat×Bool)) {v c a b:Value}(hx:ev x=a) (hy:ev y=b)
  (rD:(∃ k n k' n',a=.int k n/\b=.int k' n')\/(∃ s s',a=.string s/\b=.string s')\/(∃ s s',a=.bool s/\b=.bool s'))
  (h:∀ w',(binOp op t a b).run P w'=.ok c w') (hc:VRel ρ M.n v c):AG P ρ M w v (execOp ev ⟨dst,.binOp op t x y yt,ty,pos,after,g⟩):=by
 refine Qt (c:=c) (λw'=>?_) hc;have he:∀ w',(eqGuard op t x y a b).run P w'=.ok () w':=λw'=>by rcases rD with⟨k,n,k',n',rfl,rfl⟩|⟨s,s',rfl,rfl⟩|⟨s,s',rfl,rfl⟩<;>(unfold eqGuard;cases op<;>simp)
 simp only[execOp,hx,hy];simp[he,h]
theorem PO {t:TypeId}(h:P.underlying t=some .bool) (a b:Bool) (d:Nat) (w:World):(Op.equalIn (d+1) t (.bool a) (.bool b)).run P w=.ok (a==b) w:=by simp only[Op.equalIn,zw,Q0 h,zi,x5]
theorem Sj {t:TypeId}(h:P.underlying t=some .bool) (a b:Bool) (w:World):(Op.equal t (.bool a) (.bool b)).run P w=.ok (a==b) w :=
 PO h a b 9999 w
theorem VRel.q1g {n:Nat}{i o:Nat}{c:Value}(h:VRel ρ n (.pointer (some ⟨i,o,none⟩)) c):∃ a:Addr,c=.pointer (some a)/\i<n/\∀ p,ρ i=some p->a=⟨p.blk,p.shift+o,none⟩:=by
 cases h with
 |ptr _ _ a hi h=>exact⟨a,rfl,hi,h⟩
theorem VRel.q1b {n:Nat}{i o len cap:Nat}{c:Value}(h:VRel ρ n (.slice (some ⟨i,o,none⟩) len cap) c):∃ (a:Addr) (av:Nat),c=.slice (some a) len av/\i<n /\
  ∀ p,ρ i=some p->cap<=av/\(p.tight=true->av=cap)/\∃ o',a=⟨p.blk,p.shift+o',none⟩/\o'+av*p.esz.sz<=p.ext/\(o'=o\/(len=0/\cap=0)):=by
 cases h with
 |sl _ _ _ _ a av hi h=>exact⟨a,av,rfl,hi,h⟩
theorem VRel.q2h {n:Nat}{i o len cap:Nat}{c:Value}(h:VRel ρ n (.slice (some ⟨i,o,some 0⟩) len cap) c):∃ a:Addr,c=.slice (some a) len cap/\i<n/\(∀ p,ρ i=some p->a=⟨p.blk,p.shift+o,none⟩/\o+cap*p.esz.sz<=p.ext)/\VRel ρ n (.slice (some ⟨i,o,none⟩) len cap) c:=by
 cases h with
 |slx _ _ _ _ a hi h=>exact⟨a,rfl,hi,h,.sl _ _ _ _ _ _ hi λp hp=>⟨z7 _,λ_=>rfl,o,(h p hp).1,(h p hp).2,.inl rfl⟩⟩
theorem VRel.q1t {n:Nat}{a:Option Addr}{len cap:Nat}{c:Value}(h:VRel ρ n (.slice a len cap) c):∃ a' av,c=.slice a' len av:=by
 cases h with
 |sl _ _ _ _ a av hi h=>exact⟨_,av,rfl⟩
 |slx _ _ _ _ a hi h=>exact⟨_,_,rfl⟩
 |nilSl=>exact⟨_,_,rfl⟩
theorem YB {op:Option Operand}{d l:Nat}(hE:∀ x,XI x=true->VRel ρ M.n (Q5 env x) (ev x)) (ai:∀ x,op=some x->XI x=true) (h:JU (Q5 env) op d=some l) :
  (op=none/\l=d)\/∃ x k i,op=some x/\ev x=.int k i/\0<=i/\l=i.toNat:=by
 cases op with
 |none=>simp[JU] at h;exact .inl ⟨rfl,h.symm⟩
 |some x =>
  have hr:=hE x (ai x rfl);simp only[JU] at h;split at h
  .rename_i k i heq;rw[heq] at hr;split at h
   .rename_i hi;simp at h;exact .inr ⟨x,k,i,rfl,hr.q0g,hi,h.symm⟩
   .cases h
  .cases h
theorem Zt (k:IntKind) (i:Int) (y:Nat) (code:BoundsCode) (h:0<=i) (h':i.toNat<=y) (w:World):(Instr.sliceBound (.int k i) y code).run P w=.ok i.toNat w:=by
 have:i<=y:=by omega
 simp[Instr.sliceBound,asIntOf,h,this]
theorem V1 {lo hi:Option Operand}{isSlice:Bool}{n cap l h:Nat}(pP:(lo=none/\l=0)\/∃ x k i,lo=some x/\ev x=.int k i/\0<=i/\l=i.toNat)
  (k_:(hi=none/\h=n)\/∃ x k i,hi=some x/\ev x=.int k i/\0<=i/\h=i.toNat) (h1:l<=h) (h2:h<=cap) (w:World) :
  (Instr.sliceBounds isSlice n cap (lo.map ev) (hi.map ev) none).run P w=.ok (l,h,cap) w:=by
 rcases pP with⟨rfl,rfl⟩|⟨x,k,i,rfl,hx,o9,rfl⟩<;>rcases k_ with⟨rfl,rfl⟩|⟨y,k',i',rfl,hy,fD,rfl⟩
 .simp[Instr.sliceBounds]
 .simp[Instr.sliceBounds,hy,Zt k' i' _ _ fD h2]
 .simp[Instr.sliceBounds,hx,Zt k i _ _ o9 h1]
 .simp[Instr.sliceBounds,hx,hy,Zt k i _ _ o9 h1,Zt k' i' _ _ fD h2]
set_option maxHeartbeats 1000000 in
theorem FN {o:Oper}{vo:VOp}(hc:Up P o.op = some vo) (hq:vo.quiet = true) (hH:HRel ρ M w) (hE:∀ x, XI x = true -> VRel ρ M.n (Q5 env x) (ev x))
    (h:Qa vo (Q5 env) M = some (v, M')):M' = M /\ AG P ρ M w v (execOp ev o):=by
  obtain ⟨dst, op, ty, pos, after, guard⟩:=o;simp only at hc;unfold Up at hc;split at hc
  . cases hc
  rename_i ai;simp only [xO, xm] at ai;cases op <;> simp only [Op.operands] at ai hc
  case move x =>
    have hx:=hE x (by simpa using ai);simp at hc; subst hc;simp [Qa] at h;obtain ⟨rfl, rfl⟩:=h;exact ⟨rfl, Qt (λw' => by simp [execOp]) hx⟩
  case assign x =>
    have hx:=hE x (by simpa using ai);simp at hc; subst hc;simp [Qa] at h;obtain ⟨rfl, rfl⟩:=h;exact ⟨rfl, Qt (λw' => by simp [execOp]) hx⟩
  case pick c a b =>
    simp at ai;have hx:=hE c ai.1;have ha:=hE a ai.2.1;have hb:=hE b ai.2.2;simp at hc; subst hc;simp only [Qa] at h;split at h
    . rename_i t heq
      rw [heq] at hx;simp at h;obtain ⟨h1, rfl⟩:=h;refine ⟨rfl, Qt (c:=if t then ev a else ev b) (λw' => by simp [execOp, hx.q1d, asBool]) ?_⟩;rw [<- h1]; split <;> assumption
    . cases h
  case binOp ji t x y yt =>
    simp at ai;have hx:=hE x ai.1;have hy:=hE y ai.2;split at hc
    .
      cases ji <;> simp at hc <;> subst hc <;> simp only [Qa] at h <;> split at h <;> first
        | (cases h; done)
        | (rename_i k a k' b h1 h2
           rw [h1] at hx; rw [h2] at hy;have ex:=hx.q0g;have ey:=hy.q0g;split at h
           . rename_i ak
             simp at h; obtain ⟨rfl, rfl⟩:=h;refine ⟨rfl, ?_⟩
             first
              | refine MV _ t x y yt ty pos after dst guard ex ey (.inl ⟨_, _, _, _, rfl, rfl⟩) (λw' => ?_) (VRel.int _ _)
              | refine MV _ t x y yt ty pos after dst guard ex ey (.inl ⟨_, _, _, _, rfl, rfl⟩) (λw' => ?_) (VRel.bool _)
             first
              | (obtain rfl:=ak; simp [binOp, Op.intArith, Lu]; done)
              | (obtain ⟨rfl, sK⟩:=ak; simp [binOp, Op.intDiv, Z2i, sK]; done)
              | (obtain rfl:=ak; simp [binOp, Op.intBits, Qb]; done)
              | (obtain rfl:=ak; simp [binOp, Op.intCmp, Z6j]; done)
              | (simp [binOp, Op.shift, Ll, Int.not_lt.2 ak, Nat.min_def]; done)
           . cases h)
    .
      simp at hc; subst hc;simp only [Qa] at h;split at h
      . rename_i a b h1 h2
        rw [h1] at hx; rw [h2] at hy;have ex:=hx.q0p;have ey:=hy.q0p
        cases ji <;> simp only at h <;> first
          | (cases h; done)
          | (split at h
             . rename_i aL
               simp at h; obtain ⟨rfl, rfl⟩:=h;refine ⟨rfl, MV _ t x y yt ty pos after dst guard ex ey (.inr (.inl ⟨_, _, rfl, rfl⟩)) (c:=.string (a ++ b)) (λw' => ?_) (VRel.string _)⟩;have:¬ (((a.size + b.size:Nat):Int) > IntKind.i64.max):=by
                 have:IntKind.i64.max = 9223372036854775807:=by decide
                 omega
               simp only [binOp, Op.stringOp, z0 this]; rfl
             . cases h)
          | (simp at h; obtain ⟨rfl, rfl⟩:=h
             exact ⟨rfl, MV _ t x y yt ty pos after dst guard ex ey (.inr (.inl ⟨_, _, rfl, rfl⟩)) (λw' => by simp [binOp, Op.stringOp, ByteArray.toList_eq]) (VRel.bool _)⟩)
      . cases h
    .
      rename_i pQ
      cases ji <;> simp at hc <;> subst hc <;> simp only [Qa] at h <;> split at h <;> first
        | (cases h; done)
        | (rename_i a b h1 h2
           rw [h1] at hx; rw [h2] at hy;have ex:=hx.q1d;have ey:=hy.q1d;simp at h; obtain ⟨rfl, rfl⟩:=h;refine ⟨rfl, MV _ t x y yt ty pos after dst guard ex ey (.inr (.inr ⟨_, _, rfl, rfl⟩)) (λw' => ?_) (VRel.bool _)⟩;simp [binOp, Sj pQ])
    . cases hc
  case unOp vf t x =>
    have hx:=hE x (by simpa using ai);simp at hc; subst hc;simp only [Qa] at h
    split at h <;> first
      | (cases h; done)
      | (rename_i h1; rw [h1] at hx; simp at h; obtain ⟨rfl, rfl⟩:=h
         refine ⟨rfl, ?_⟩
         first
          | (have e:=hx.q1d; refine Qt (λw' => ?_) (VRel.bool _); simp [execOp, e, Op.unary]; done)
          | (have e:=hx.q0g; refine Qt (λw' => ?_) (VRel.int _ _); simp [execOp, e, Op.unary, Op.intArith]; done)
          | (have e:=hx.q0g; refine Qt (λw' => ?_) (VRel.int _ _); simp [execOp, e, Op.unary, Op.intBits, Qb]; done))
  case convert s d x =>
    have hx:=hE x (by simpa using ai);split at hc
    . rename_i k0 k hs hd
      simp at hc; subst hc;simp only [Qa] at h;split at h
      . rename_i h1; rw [h1] at hx; simp at h; obtain ⟨rfl, rfl⟩:=h
        exact ⟨rfl, Qt (λw' => by simp [execOp, hx.q0g, convert, Q0 hs, Q0 hd, Conv.intToInt]) (VRel.int _ _)⟩
      . cases h
    . rename_i hs hd
      simp at hc; subst hc;simp only [Qa] at h;split at h
      . rename_i h1; rw [h1] at hx; simp at h; obtain ⟨rfl, rfl⟩:=h
        exact ⟨rfl, Qt (λw' => by simp [execOp, hx.q0p, convert, Q0 hs, Q0 hd]) (VRel.string _)⟩
      . cases h
    . cases hc
  case alloc t =>
    cases hz:zeroOf P t <;> simp [hz] at hc;subst hc; cases hq
  case box t x => simp at hc; subst hc; cases hq
  case buildSlice t len parts =>
    split at hc
    . rename_i e _
      cases hz:zeroOf P e with
      | none => simp [hz] at hc
      | some z =>
        simp only [hz, zL, xx] at hc;split at hc
        . cases hc
        . simp at hc; subst hc; cases hq
    . cases hc
  case store t a x =>
    cases hi:P.info? t <;> simp [hi] at hc;subst hc; cases hq
  case makeSlice t l c =>
    split at hc
    . rename_i e _
      cases hi:P.info? e with
      | none => simp [hi] at hc
      | some ei =>
        cases hz:zeroOf P e with
        | none => simp [hi, hz] at hc
        | some z =>
          simp only [hi, hz, zL, xx] at hc;split at hc
          . cases hc
          . simp at hc; subst hc; cases hq
    . cases hc
  case load t a =>
    have ha:=hE a (by simpa using ai);cases hi:P.info? t with
    | none => simp [hi] at hc
    | some ti =>
      cases hu:P.underlying t with
      | none => simp [hi, hu] at hc
      | some d =>
        simp [hi, hu] at hc; subst hc;simp only [Qa] at h;split at h
        . rename_i g o s h1
          rw [h1] at ha;split at h
          . rename_i c hb
            split at h
            . rename_i ae
              split at h
              . rename_i v0 hv
                simp at h; obtain ⟨rfl, rfl⟩:=h;obtain ⟨u, cB, hr⟩:=AK hH hi hu hb ae hv ha;exact ⟨rfl, u, cB, λw' hl => by simp [execOp, hr w' hl]⟩
              . cases h
            . cases h
          . cases h
        . rename_i i o h1
          rw [h1] at ha;split at h
          . rename_i c esz wr tight hb
            split at h
            . rename_i v0 hv
              simp at h; obtain ⟨rfl, rfl⟩:=h;obtain ⟨u, cB, hr⟩:=Om hH hi hu hb hv ha;exact ⟨rfl, u, cB, λw' hl => by simp [execOp, hr w' hl]⟩
            . cases h
          . cases h
        . cases h
  case fieldAddr t a f =>
    have ha:=hE a (by simpa using ai);cases hf:HU P t f with
    | none => simp [hf] at hc
    | some fd =>
      cases hi:P.info? fd.type with
      | none => simp [hf, hi] at hc
      | some fi =>
        simp only [hf, hi, zL, xx] at hc;split at hc
        . cases hc
        . rename_i aL
          simp at hc; subst hc;simp only [Qa] at h;split at h
          . rename_i i o h1
            rw [h1] at ha;simp at h; obtain ⟨rfl, rfl⟩:=h;unfold HU at hf;split at hf
            . rename_i fs hu
              simp at aL;obtain ⟨ad, heq, aQ, aU⟩:=ha.q1g;cases hρ:ρ i with
              | none =>refine ⟨rfl, .pointer (some (ad.add fd.offset)), .ptr _ _ _ aQ (λp hp => by rw [hρ] at hp; cases hp), λw' _ => ?_⟩;simp [execOp, heq, Instr.fieldAt, Q0 hu, hf, Instr.sureAddr, fieldPlace, Qk hi, aL]
              | some p =>obtain rfl:=aU p hρ;refine ⟨rfl, .pointer (some ⟨p.blk, p.shift + (o + fd.offset), none⟩), .ptr _ _ _ aQ (λq hq => by rw [hρ] at hq; obtain rfl:=osj hq; rfl), λw' _ => ?_⟩;simp [execOp, heq, Instr.fieldAt, Q0 hu, hf, Instr.sureAddr, fieldPlace, Qk hi, aL, W7, zp]
            . cases hf
          . cases h
  case field t x f =>
    have hx:=hE x (by simpa using ai);cases hf:HU P t f with
    | none => simp [hf] at hc
    | some fd =>
      cases hi:P.info? fd.type with
      | none => simp [hf, hi] at hc
      | some fi =>
        cases hu:P.underlying fd.type with
        | none => simp [hf, hi, hu] at hc
        | some d =>
          simp [hf, hi, hu] at hc; subst hc;simp only [Qa] at h;split at h
          . rename_i cs h1
            rw [h1] at hx;obtain ⟨ds, hds, hl⟩:=hx.q1l;split at h
            . rename_i v0 hv
              simp at h; obtain ⟨rfl, rfl⟩:=h;obtain ⟨u, cB, hr⟩:=Ik hi hu hv hl;unfold HU at hf;split at hf
              . rename_i fs pR
                exact ⟨rfl, u, cB, λw' _ => by simp [execOp, hds, Instr.field, Q0 pR, hf, asAgg, hr]⟩
              . cases hf
            . cases h
          . cases h
  case makeFunc fn first cap =>
    rw [Array.toList_append, List.all_append, z4] at ai;cases fn <;> simp at hc;rename_i f;subst hc;simp only [Qa] at h;simp at h; obtain ⟨rfl, rfl⟩:=h;have h1:=Am hE (l:=first.toList) ai.1;have h2:=Am hE (l:=cap.toList) ai.2;refine ⟨rfl, Qt (c:=.func (.func f) (first.map ev) (cap.map ev)) (λw' => by simp [execOp, Instr.makeFunc]) ?_⟩;refine .func _ _ _ _ _ (by simp) (by simp) (λi h3 h4 => ?_) (λi h3 h4 => ?_)
    . exact h1.2 i _ _ (by simp at h3 |-; exact ⟨_, xi h3, rfl⟩) (by simp at h4 |-; exact ⟨_, xi h4, rfl⟩)
    . exact h2.2 i _ _ (by simp at h3 |-; exact ⟨_, xi h3, rfl⟩) (by simp at h4 |-; exact ⟨_, xi h4, rfl⟩)
  case build t parts =>
    cases hz:zeroOf P t with
    | none => simp [hz] at hc
    | some z =>
      obtain ⟨ti, zv, hi, d_, fj, _, gO⟩:=YG hz;have aU:LRel ρ M.n z zv.cells.toList:=by rw [fj]; exact XM gO
      have eQ:∀ q ∈ parts.toList, XI q.2 = true:=λq hq => z8.1 ai q.2 (by simp; exact ⟨q.1, by simpa using hq⟩);simp only [hz, zL, xx] at hc;split at hc
      . rename_i fs hu
        cases jV:fs.toList.mapM (λf => (P.info? f.type).map λi => (f.offset, i.size)) with
        | none => simp [jV] at hc
        | some places =>
          cases ek:parts.toList.mapM (λq => (places[q.1]?).map λos => (os.1, os.2, q.2)) with
          | none => simp [jV, ek] at hc
          | some ps =>
            simp [jV, ek] at hc; subst hc;simp only [Qa] at h;split at h
            . rename_i cs eG
              simp at h; obtain ⟨rfl, rfl⟩:=h;obtain ⟨eR, gP⟩:=WU _ _ _ jV;obtain ⟨ck, dh⟩:=WU _ _ _ ek
              obtain ⟨bu, jW, jX⟩:=LR (ρ:=ρ) (n:=M.n) (λ(i:Nat) => places[i]?) _ ((parts.map λq => (q.1, ev q.2)).toList) z cs zv.cells (by simp [ck])
                (λk a b ha hb => by
                  simp only [zU, Array.toList_map] at ha hb;cases hq:parts.toList[k]? with
                  | none => simp only [hq, wm] at hb; cases hb
                  | some q =>
                    obtain ⟨c0, sL, fE⟩:=dh k q hq;simp only [hq, xB, x9] at hb;simp only [sL, xB, x9] at ha;subst hb; subst ha;cases mD:places[q.1]? with
                    | none => simp [mD] at fE
                    | some os =>
                      simp [mD] at fE; subst fE;exact ⟨by simp, hE _ (eQ q (zG hq))⟩) eG aU
              refine ⟨rfl, .agg bu, by have:=VRel.q1m jX; simpa using this, λw' _ => ?_⟩;have aG:(fs.mapM λ(f:Field) => do pure (f.offset, <- sizeOf f.type)).run P w' = .ok places.toArray w':=by
                rw [Array.mapM_eq_mapM_toList];have o_:∀ f ∈ fs.toList, ((do pure (f.offset, <- sizeOf f.type):Sem (Nat × Nat))).run P w' = .ok (f.offset, ((P.info? f.type).map (·.size)).getD 0) w':=λf hf => by
                  obtain ⟨k, hk⟩:=List.getElem?_of_mem hf;obtain ⟨b, hb, cf⟩:=gP k f hk;cases jj:P.info? f.type with
                  | none => simp [jj] at cf
                  | some fi => simp [Qk jj]
                have:=Q5k (P:=P) _ _ w' fs.toList o_;simp only [Sem.run_map, this, zi];congr 2;apply zZ;intro k;rw [zU];cases hk:fs.toList[k]? with
                | none =>
                  have:places.length <= k:=by rw [eR]; exact List.getElem?_eq_none_iff.1 hk
                  simp [zr this]
                | some f =>
                  obtain ⟨b, hb, cf⟩:=gP k f hk;cases jj:P.info? f.type with
                  | none => simp [jj] at cf
                  | some fi => simp [jj] at cf |-; rw [hb, <- cf]
              have jk:(λ(i:Nat) => places.toArray[i]?) = (λ(i:Nat) => places[i]?):=by funext i; simp
              simp only [execOp];simp only [Instr.build, zw, Zu hi d_, zi, Q0 hu, aG];have pS:Instr.fill (λ(i:Nat) => places.toArray[i]?) zv.cells (parts.map λq => (q.1, ev q.2)).toList = some bu:=by rw [jk]; exact jW
              simp only [pS];rfl
            . cases h
      . rename_i n e hu
        cases cH:P.info? e with
        | none => simp [cH] at hc
        | some ei =>
          simp [cH] at hc; subst hc;simp only [Qa] at h;split at h
          . rename_i cs eG
            simp at h; obtain ⟨rfl, rfl⟩:=h
            obtain ⟨bu, jW, jX⟩:=LR (ρ:=ρ) (n:=M.n) (λi => some (i * ei.size, ei.size)) _ ((parts.map λq => (q.1, ev q.2)).toList) z cs zv.cells (by simp)
              (λk a b ha hb => by
                simp only [zU, Array.toList_map] at ha hb;cases hq:parts.toList[k]? with
                | none => simp only [hq, wm] at hb; cases hb
                | some q =>
                  simp only [hq, xB, x9] at ha hb;subst hb; subst ha;exact ⟨rfl, hE _ (eQ q (zG hq))⟩) eG aU
            refine ⟨rfl, .agg bu, by have:=VRel.q1m jX; simpa using this, λw' _ => ?_⟩;simp only [execOp];simp only [Instr.build, zw, Zu hi d_, zi, Q0 hu, Qk cH, jW];rfl
          . cases h
      . cases hc
  case index t x i =>
    simp at ai;have hx:=hE x ai.1;have hi:=hE i ai.2;split at hc
    . rename_i hu
      simp at hc; subst hc;simp only [Qa] at h;split at h
      . rename_i s k n h1 h2
        rw [h1] at hx; rw [h2] at hi;split at h
        . rename_i hn
          split at h
          . rename_i b hb
            simp at h; obtain ⟨rfl, rfl⟩:=h;have cf:s[n.toNat]? = some b:=by rw [<- hb]; simp [getElem?_def]; split <;> rfl
            refine ⟨rfl, Qt (λw' => ?_) (VRel.int _ _)⟩;simp [execOp, hx.q0p, hi.q0g, Instr.index, asIntOf, Q0 hu, hn, cf]
          . cases h
        . cases h
      . cases h
    . rename_i len e hu
      cases cH:P.info? e with
      | none => simp [cH] at hc
      | some ei =>
        cases jl:P.underlying e with
        | none => simp [cH, jl] at hc
        | some d =>
          simp [cH, jl] at hc; subst hc;simp only [Qa] at h;split at h
          . rename_i cs k n h1 h2
            rw [h1] at hx; rw [h2] at hi;obtain ⟨ds, hds, hl⟩:=hx.q1l;split at h
            . rename_i hn
              split at h
              . rename_i v0 hv
                simp at h; obtain ⟨rfl, rfl⟩:=h;obtain ⟨u, cB, hr⟩:=Ik cH jl hv hl;refine ⟨rfl, u, cB, λw' _ => ?_⟩;simp [execOp, hds, hi.q0g, Instr.index, asIntOf, Q0 hu, hn, Qk cH, hr]
              . cases h
            . cases h
          . cases h
    . cases hc
  case indexAddr t x i =>
    simp at ai;have hx:=hE x ai.1;have hi:=hE i ai.2;split at hc
    . rename_i e hu
      cases cH:P.info? e with
      | none => simp [cH] at hc
      | some ei =>
        simp [cH] at hc; subst hc;simp only [Qa] at h;split at h
        . rename_i b o n cap k j h1 h2
          rw [h1] at hx; rw [h2] at hi;split at h
          . rename_i hj
            simp at h; obtain ⟨rfl, rfl⟩:=h;obtain ⟨a, av, bw, aQ, aU⟩:=hx.q1b;refine ⟨rfl, .pointer (some (a.add (j.toNat * ei.size))), .ptr _ _ _ aQ (λp hp => ?_), λw' _ => ?_⟩
            . obtain ⟨_, _, o', rfl, _, ho⟩:=aU p hp
              have:o' = o:=by
                rcases ho with ho | ⟨h0, _⟩
                . exact ho
                . omega
              subst this;rw [W7, zp]
            . simp [execOp, bw, hi.q0g, Instr.indexAt, asIntOf, Q0 hu, hj, Qk cH]
          . cases h
        . cases h
    . rename_i len e hu
      cases cH:P.info? e with
      | none => simp [cH] at hc
      | some ei =>
        simp [cH] at hc; subst hc;simp only [Qa] at h;split at h
        . rename_i g o s k j h1 h2
          rw [h1] at hx; rw [h2] at hi;split at h
          . rename_i hj
            simp at h; obtain ⟨rfl, rfl⟩:=h;have bw:ev x = .pointer (some ⟨g, o, none⟩):=by generalize ev x = c at hx; cases hx; rfl
            refine ⟨rfl, .pointer (some ((⟨g, o, none⟩:Addr).add (j.toNat * ei.size))), by rw [W7]; exact .glob _ _ _, λw' _ => ?_⟩;simp [execOp, bw, hi.q0g, Instr.indexAt, Instr.sureAddr, asIntOf, Q0 hu, hj, Qk cH]
          . cases h
        . rename_i b o k j h1 h2
          rw [h1] at hx; rw [h2] at hi;split at h
          . rename_i hj
            simp at h; obtain ⟨rfl, rfl⟩:=h;obtain ⟨a, bw, aQ, aU⟩:=hx.q1g;refine ⟨rfl, .pointer (some (a.add (j.toNat * ei.size))), .ptr _ _ _ aQ (λp hp => ?_), λw' _ => ?_⟩
            . obtain rfl:=aU p hp
              rw [W7, zp]
            . simp [execOp, bw, hi.q0g, Instr.indexAt, Instr.sureAddr, asIntOf, Q0 hu, hj, Qk cH]
          . cases h
        . cases h
    . cases hc
  case slice t x lo hi mx =>
    have ld:XI x = true:=by simp at ai; exact ai.1
    have gj:∀ y, lo = some y -> XI y = true:=λy hy => by subst hy; simp at ai; first | exact ai.2.1 | exact ai.2
    have gk:∀ y, hi = some y -> XI y = true:=λy hy => by subst hy; cases lo <;> simp at ai <;> first | exact ai.2.1 | exact ai.2.2.1 | exact ai.2.2 | exact ai.2
    have hx:=hE x ld;split at hc
    . rename_i e hu
      cases cH:P.info? e with
      | none => simp [cH] at hc
      | some ei =>
        simp [cH] at hc; subst hc;cases mx with
        | some m => simp [VOp.quiet] at hq
        | none =>
          simp only [Qa] at h;split at h
          . rename_i a n cap h1
            rw [h1] at hx;split at h
            . rename_i l hh hl k_ _
              have iR:=YB hE gj hl;have mE:=YB hE gk k_;unfold Kj at h;split at h
              . rename_i heq
                simp at heq; obtain ⟨rfl, rfl, rfl⟩:=heq;obtain ⟨_, _, bw⟩:=hx.q1k;split at h
                . rename_i ak
                  obtain ⟨rfl, rfl, _⟩:=ak;simp at h; obtain ⟨rfl, rfl⟩:=h;refine ⟨rfl, Qt (λw' => ?_) VRel.nilSl⟩;have:=V1 (P:=P) (isSlice:=true) (cap:=0) iR mE (z7 _) (z7 _) w';simp [execOp, bw, Instr.sliceAt, Instr.slice, Q0 hu, this, Qk cH]
                . cases h
              . rename_i i o n' jm heq
                simp at heq; obtain ⟨rfl, rfl, rfl⟩:=heq;simp only at h;split at h
                . rename_i c esz wr tight hb
                  split at h
                  . rename_i ak
                    obtain ⟨m8, pT, sM⟩:=ak;simp at h; obtain ⟨rfl, rfl⟩:=h;obtain ⟨ad, av, bw, aQ, aU⟩:=hx.q1b;obtain ⟨p, hp, hB⟩:=hH.live i _ hb;obtain ⟨ep, m9, o', rfl, cT, ho⟩:=aU p hp;have dN:p.esz.sz = ei.size:=by rw [hB.1]; exact m8
                    rw [dN] at cT;have b9:=λw' => V1 (P:=P) (isSlice:=true) (cap:=av) iR mE pT (x8 sM ep) w';refine ⟨rfl, .slice (some (if av = l then ⟨p.blk, p.shift + o', none⟩ else ⟨p.blk, p.shift + (o' + l * ei.size), none⟩)) (hh - l) (av - l), .sl _ _ _ _ _ _ aQ (λq hq => ?_), λw' _ => ?_⟩
                    . obtain rfl:p = q:=osj (hp.symm.trans hq)
                      refine ⟨by omega, λht => by have:=m9 ht; omega, ?_⟩;rw [dN];by_cases cz:av = l
                      . refine ⟨o', by rw [z3 cz], by rw [cz, wg]; omega, .inr (by omega)⟩
                      . refine ⟨o' + l * ei.size, by rw [z0 cz], ?_, ?_⟩
                        . have:av = l + (av - l):=by omega
                          rw [this, zN] at cT;omega
                        . rcases ho with rfl | ⟨h0, sN⟩
                          . exact .inl rfl
                          . exact .inr (by omega)
                    . simp only [execOp, bw, Instr.sliceAt, zw, Q0 hu, zi, Instr.slice, wm, b9, Qk cH]
                      by_cases cz:av = l
                      . simp [cz]
                      . simp [cz, W7, zp]
                  . cases h
                . cases h
              . cases h
            . simp_all
            . cases h
          . cases h
    . rename_i hu
      split at hc
      . rename_i pU
        cases mx with
        | some m => simp at pU
        | none =>
          simp at hc; subst hc;simp only [Qa] at h;split at h
          . rename_i s h1
            rw [h1] at hx;split at h
            . rename_i l hh hl k_
              have iR:=YB hE gj hl;have mE:=YB hE gk k_;split at h
              . rename_i ak
                simp at h; obtain ⟨rfl, rfl⟩:=h;refine ⟨rfl, Qt (λw' => ?_) (VRel.string _)⟩;have:=V1 (P:=P) (isSlice:=false) (cap:=s.size) iR mE ak.1 ak.2 w';simp [execOp, hx.q0p, Instr.sliceAt, Instr.slice, Q0 hu, this]
              . cases h
            . cases h
          . cases h
      . cases hc
    . cases hc
  case makeInterface t x =>
    have hx:=hE x (by simpa using ai);cases hu:P.underlying t with
    | none => simp [hu] at hc
    | some d =>
      have fP:∀ ms, d ≠ .interface ms:=λms e => by subst e; simp [hu] at hc
      have cM:vo = .iface t x:=by cases d <;> simp [hu] at hc <;> exact hc.symm
      subst cM;simp only [Qa] at h;split at h
      . cases h
      . simp at h; obtain ⟨rfl, rfl⟩:=h
        refine ⟨rfl, Qt (λw' => ?_) (VRel.iface t _ _ hx)⟩;have:(Instr.makeInterface t (ev x)).run P w' = .ok (.iface t (ev x)) w':=by cases d <;> first | (exact absurd rfl (fP _)) | simp [Instr.makeInterface, Q0 hu]
        simp [execOp, this]
  case extract x i =>
    have hx:=hE x (by simpa using ai);simp at hc; subst hc;simp only [Qa] at h;split at h
    . rename_i vs h1
      rw [h1] at hx;obtain ⟨ds, hds, hl⟩:=hx.q1j;split at h
      . rename_i v0 hv
        simp at h; obtain ⟨rfl, rfl⟩:=h;obtain ⟨u, hu, cB⟩:=hl.get hv;have cg:ds[i]? = some u:=by simpa using hu
        exact ⟨rfl, u, cB, λw' _ => by simp [execOp, hds, Instr.extract, cg]⟩
      . cases h
    . cases h
  case nilCheck x =>
    have hx:=hE x (by simpa using ai);simp at hc; subst hc;simp only [Qa] at h;split at h
    . rename_i a h1
      rw [h1] at hx;simp at h; obtain ⟨rfl, rfl⟩:=h;have:∃ a', ev x = .pointer (some a'):=by generalize ev x = c at hx;cases hx <;> exact ⟨_, rfl⟩
      obtain ⟨a', jY⟩:=this;exact ⟨rfl, ev x, hx, λw' _ => by simp [execOp, jY]⟩
    . rename_i f first cap h1
      rw [h1] at hx;simp at h; obtain ⟨rfl, rfl⟩:=h;have:∃ g' c', ev x = .func (.func f) g' c':=by generalize ev x = c at hx;cases hx; exact ⟨_, _, rfl⟩
      obtain ⟨g', c', jY⟩:=this;exact ⟨rfl, ev x, hx, λw' _ => by simp [execOp, jY]⟩
    . cases h
  case call c =>
    split at hc
    . simp at hc; subst hc; simp [Qa] at h
    . simp at hc; subst hc; simp [Qa] at h
    . rename_i aJ
      split at hc
      . rename_i t x ht az
        have cN:c.args = #[x]:=by apply Array.ext'; simpa using az
        have hx:=hE x (by simp [Call.operands, aJ, cN] at ai; exact ai);split at hc
        . rename_i hu
          simp at hc; subst hc;simp only [Qa] at h;split at h
          . rename_i s h1
            rw [h1] at hx; simp at h; obtain ⟨rfl, rfl⟩:=h;refine ⟨rfl, Qt (λw' => ?_) (VRel.int _ _)⟩;simp [execOp, resolve, aJ, cN, invoke, builtin, Builtin.len_, ht, hx.q0p, Q0 hu, goInt]
          . cases h
        . rename_i e hu
          simp at hc; subst hc;simp only [Qa] at h;split at h
          . rename_i a n cap h1
            rw [h1] at hx; simp at h; obtain ⟨rfl, rfl⟩:=h;obtain ⟨a', av, bw⟩:=hx.q1t;refine ⟨rfl, Qt (λw' => ?_) (VRel.int _ _)⟩;simp [execOp, resolve, aJ, cN, invoke, builtin, Builtin.len_, ht, bw, Q0 hu, goInt]
          . cases h
        . cases hc
      . cases hc
    . rename_i aJ
      split at hc
      . rename_i t u s x ht hu az
        split at hc
        . rename_i e f _ _
          cases hi:P.info? e with
          | none => simp [hi] at hc
          | some ei =>
            cases hz:zeroOf P e with
            | none => simp [hi, hz] at hc
            | some z =>
              simp only [hi, hz, zL, xx] at hc;split at hc
              . cases hc
              . simp at hc; subst hc; cases hq
        . cases hc
      . cases hc
    . rename_i aJ
      split at hc
      . rename_i x y az
        have cN:c.args = #[x, y]:=by apply Array.ext'; simpa using az
        simp [Call.operands, aJ, cN] at ai;have hx:=hE x ai.1;have hy:=hE y ai.2;simp at hc; subst hc;simp only [Qa] at h;split at h
        . rename_i k a k' b h1 h2
          rw [h1] at hx; rw [h2] at hy;split at h
          . simp at h; obtain ⟨rfl, rfl⟩:=h
            refine ⟨rfl, Qt (λw' => ?_) (VRel.int _ _)⟩;simp [execOp, resolve, aJ, cN, invoke, builtin, Builtin.max_, Builtin.max2, hx.q0g, hy.q0g]
          . cases h
        . cases h
      . rename_i x y z az
        have cN:c.args = #[x, y, z]:=by apply Array.ext'; simpa using az
        simp [Call.operands, aJ, cN] at ai;have hx:=hE x ai.1;have hy:=hE y ai.2.1;have hz:=hE z ai.2.2;simp at hc; subst hc;simp only [Qa] at h;split at h
        . rename_i k a k2 b k3 c' k4 d h1 h2 h3 h4
          rw [h1] at hx; rw [h2] at hy; rw [h3] at hz;split at h
          . rename_i hk; obtain ⟨rfl, rfl, rfl⟩:=hk
            simp at h; obtain ⟨rfl, rfl⟩:=h;refine ⟨rfl, Qt (λw' => ?_) (VRel.int _ _)⟩;have sO:=(Value.int.inj (h3.symm.trans h4)).2;subst sO;simp only [Q2j];simp [execOp, resolve, aJ, cN, invoke, builtin, Builtin.max_, Builtin.max2, hx.q0g, hy.q0g, hz.q0g, Q16]
          . cases h
        . cases h
      . rename_i x y z w az
        have cN:c.args = #[x, y, z, w]:=by apply Array.ext'; simpa using az
        simp [Call.operands, aJ, cN] at ai;have hx:=hE x ai.1;have hy:=hE y ai.2.1;have hz:=hE z ai.2.2.1;have hw:=hE w ai.2.2.2;simp at hc; subst hc;simp only [Qa] at h;split at h
        . rename_i k a k2 b k3 c' k4 d h1 h2 h3 h4
          rw [h1] at hx; rw [h2] at hy; rw [h3] at hz; rw [h4] at hw;split at h
          . rename_i hk; obtain ⟨rfl, rfl, rfl⟩:=hk
            simp at h; obtain ⟨rfl, rfl⟩:=h;refine ⟨rfl, Qt (λw' => ?_) (VRel.int _ _)⟩;simp [execOp, resolve, aJ, cN, invoke, builtin, Builtin.max_, Builtin.max2, hx.q0g, hy.q0g, hz.q0g, hw.q0g, Q16]
          . cases h
        . cases h
      . cases hc
    . rename_i aJ
      split at hc
      . rename_i x y az
        have cN:c.args = #[x, y]:=by apply Array.ext'; simpa using az
        simp [Call.operands, aJ, cN] at ai;have hx:=hE x ai.1;have hy:=hE y ai.2;simp at hc; subst hc;simp only [Qa] at h;split at h
        . rename_i k a k' b h1 h2
          rw [h1] at hx; rw [h2] at hy;split at h
          . simp at h; obtain ⟨rfl, rfl⟩:=h
            refine ⟨rfl, Qt (λw' => ?_) (VRel.int _ _)⟩;simp [execOp, resolve, aJ, cN, invoke, builtin, Builtin.min_, Builtin.min2, hx.q0g, hy.q0g]
          . cases h
        . cases h
      . cases hc
    . cases hc
  all_goals (first | (cases hc; done) | (split at hc <;> cases hc; done))
end
end Go.V
namespace Go.V
open Go
section
variable {P:Program}{ρ:Plc}{M M':Heap}{w:World}{ev:Operand->Value}{env:Env}{v:Value}
def CP (P:Program) (ρ:Plc) (M:Heap) (w:World) (v:Value) (M':Heap) (s:Sem Next):Prop :=
 ∃ c w' ρ',(s.run P w=.ok (.value c) w'\/(s.run P w=.ok .skip w'/\c=undef))/\VRel ρ' M'.n v c/\HRel ρ' M' w'/\Ext ρ M w ρ' M' w'
theorem Ff (z:List Value) (hz:z≠[]):∀ n,(List.range (n*z.length)).map (λi=>z[i % z.length]!)=(List.replicate n z).flatten:=by
 intro n;have bE:0<z.length:=xP.2 hz;induction n with
 |zero=>simp
 |succ n ih =>
  rw[xD,List.flatten_cons,<-ih,Nat.succ_mul,xV,List.range_add,xC,wA];congr 1
  .apply zZ;intro k;by_cases hk:k<z.length
   .simp[hk,xk hk]
   .simp[hk]
  .apply xp;intro i _;simp
theorem UA (n:Nat) (z:List Value):Ta n z=(List.replicate n z).flatten:=by
 unfold Ta;split
 .rename_i x;induction n with
  |zero=>rfl
  |succ n ih=>rw[xD,xD,List.flatten_cons,<-ih];rfl
 .rfl
theorem HY (zero:Array Value) (z:List Value) (h:zero.toList=z) (hz:z≠[]) (n:Nat):((Array.range (n*z.length)).map (λi=>zero[i % zero.size]!)).toList=Ta n z:=by rw[UA,<-Ff z hz n];subst h;simp;intro a _;rw[getElem!_def];cases zero[a % zero.size]?<;>rfl
theorem TQ (n:Nat) (z:List Value):(Ta n z).length=n*z.length:=by rw[UA];simp[List.length_flatten,List.map_replicate,List.sum_replicate_nat]
theorem OX (n:Nat) (z:List Value) (h:z.all cellOk=true):(Ta n z).all cellOk=true:=by
 rw[UA];simp only[z8,List.mem_flatten,List.mem_replicate] at *
 rintro x ⟨l,⟨_,rfl⟩,hx⟩;exact h x hx
theorem HQ (n:Nat) (z:List Value) (h:z.all Zc=true):(Ta n z).all Zc=true:=by rw[UA,List.all_flatten];simp[List.all_replicate,h]
theorem PJ {lo:Option Operand}{yh ym:Operand}{n cap l h m:Nat}{kh km:IntKind}{ih im:Int}(pP:(lo=none/\l=0)\/∃ x k i,lo=some x/\ev x=.int k i/\0<=i/\l=i.toNat)
  (jo:ev yh=.int kh ih) (pa:0<=ih) (hh:h=ih.toNat) (jq:ev ym=.int km im) (pb:0<=im) (hm:m=im.toNat) (h1:l<=h) (h2:h<=m) (h3:m<=cap) (w:World) :
  (Instr.sliceBounds true n cap (lo.map ev) ((some yh).map ev) ((some ym).map ev)).run P w=.ok (l,h,m) w:=by
 subst hh;subst hm;rcases pP with⟨rfl,rfl⟩|⟨x,k,i,rfl,hx,o9,rfl⟩
 .simp[Instr.sliceBounds,jo,jq,Zt km im _ _ pb h3,Zt kh ih _ _ pa h2]
 .simp[Instr.sliceBounds,hx,jo,jq,Zt km im _ _ pb h3,Zt kh ih _ _ pa h2,Zt k i _ _ o9 h1]
theorem AU (hH:HRel ρ M w) {c:List Value}{C:Array Value}{esz:El}(hc:LRel ρ M.n c C.toList) {s:Sem Next}
  (hs:s.run P w=.ok (.value (.pointer (some ⟨w.heap.size,0,none⟩))) (w.alloc (.cells C esz.ty))) :
  CP P ρ M w (.pointer (some ⟨M.n,0,none⟩)) (M.push (.cells c esz true true)) s:=by
 have hl:c.length=C.size:=by have:=hc.1;simpa using this
 obtain⟨ρ',h1,h2,h3⟩:=hH.alloc c C esz.ty esz true rfl (by
  have:C.toList.take C.size=C.toList:=by rw[<-Array.length_toList];exact List.take_length
  rw[hl,this];exact hc) (by omega)
 refine⟨_,_,ρ',.inl hs,.ptr _ _ _ (by simp) (λp hp=>?_),h2,h3⟩;rw[h1] at hp;obtain rfl:=osj hp;rfl
theorem Rx (hH:HRel ρ M w) {c:List Value}{C:Array Value}{esz:El}{n cap:Nat}(hc:LRel ρ M.n c C.toList) (hn:cap*esz.sz<=C.size) {s:Sem Next}
  (hs:s.run P w=.ok (.value (.slice (some ⟨w.heap.size,0,none⟩) n cap)) (w.alloc (.cells C esz.ty))) :
  CP P ρ M w (.slice (some ⟨M.n,0,none⟩) n cap) (M.push (.cells c esz true true)) s:=by
 have hl:c.length=C.size:=by have:=hc.1;simpa using this
 obtain⟨ρ',h1,h2,h3⟩:=hH.alloc c C esz.ty esz true rfl (by
  have:C.toList.take C.size=C.toList:=by rw[<-Array.length_toList];exact List.take_length
  rw[hl,this];exact hc) (by omega)
 refine⟨_,_,ρ',.inl hs,.sl _ _ _ _ _ _ (by simp) (λp hp=>?_),h2,h3⟩;rw[h1] at hp;obtain rfl:=osj hp;exact⟨z7 _,λ_=>rfl,0,rfl,by simpa using hn,.inl rfl⟩
theorem Fc (hH:HRel ρ M w) {esz n cap:Nat}{a:Option Addr}{xs:List Value}{c:Value}(h:M.sl esz (.slice a n cap)=some xs) (hv:VRel ρ M.n (.slice a n cap) c) :
  xs.length=n*esz/\∃ us:List Value,LRel ρ M.n xs us/\(∃ a' av,c=.slice a' n av)/\∀ w',Like ρ w w'->(Builtin.firstCells esz n c).run P w'=.ok us.toArray w':=by
 unfold Heap.sl at h;split at h
 .rename_i heq;simp at heq;obtain⟨rfl,rfl,rfl⟩:=heq;simp at h;subst h;obtain⟨_,_,rfl⟩:=hv.q1k;exact⟨by simp,[],LRel.nil _ _,⟨_,_,rfl⟩,λw' _=>by simp[Builtin.firstCells]⟩
 .rename_i i o n' jm heq;simp at heq;obtain⟨rfl,rfl,rfl⟩:=heq;split at h
  .rename_i c0 e wr tight hb;split at h
   .rename_i ak;obtain⟨m8,hlen⟩:=ak;simp at h;obtain⟨p,hp,_,_,_,_,h5,_⟩:=hH.live i _ hb;obtain⟨ad,av,rfl,aQ,aU⟩:=hv.q1b;obtain⟨_,_,o',rfl,_,ho⟩:=aU p hp;have gQ:xs.length=n*esz:=by rw[<-h];simp;omega
    refine⟨gQ,?_⟩;have jZ:n*esz=0\/o'=o:=by
     rcases ho with ho|⟨h0,_⟩
     .exact .inr ho
     .left;rw[h0,Nat.zero_mul]
    have hex:∀ k,k<n*esz->∃ u,w.cell? ⟨p.blk,p.shift+o'+k,none⟩=some u/\∀ v,xs[k]?=some v->VRel ρ M.n v u:=λk hk=>by have m_:o'=o:=jZ.resolve_left (by omega);subst m_;obtain⟨u,hu,cB⟩:=h5 (o'+k) _ (z5 (by omega));rw[<-zp] at hu;refine⟨u,hu,λv hv=>?_⟩;rw[<-h,zO,z3 hk,zC,z5 (by omega)] at hv;obtain rfl:=osj hv;exact cB
    let us:List Value:=(List.range (n*esz)).map λk=>(w.cell? ⟨p.blk,p.shift+o'+k,none⟩).getD undef;have na:us.length=n*esz:=by simp[us]
    have ef:∀ k,k<n*esz->∀ u,w.cell? ⟨p.blk,p.shift+o'+k,none⟩=some u->us[k]?=some u:=λk hk u hu=>by simp[us,hk,hu]
    refine⟨us,⟨by omega,λk v u hk hu=>?_⟩,⟨_,_,rfl⟩,λw' hl=>?_⟩
    .have a9:k<n*esz:=by have:=(z9.1 hk).1;omega
     obtain⟨u',cg,gi⟩:=hex k a9;rw[ef k a9 u' cg] at hu;obtain rfl:=osj hu;exact gi v hk
    .have cK:∀ j v,us[j]?=some v->w'.cell? ((⟨p.blk,p.shift+o',none⟩:Addr).add j)=some v:=λj v hj=>by
      have cj:j<n*esz:=by have:=(z9.1 hj).1;omega
      obtain⟨u',cg,_⟩:=hex j cj;rw[ef j cj u' cg] at hj;obtain rfl:=osj hj;rw[W7,Tq hl hp];exact cg
     have:=run_loadCells_list (P:=P) w' ⟨p.blk,p.shift+o',none⟩ us cK;rw[na] at this;simp[Builtin.firstCells,this]
   .cases h
  .cases h
 .cases h
theorem Q0s (fQ aV:Nat) (h:aV<fQ):Builtin.nextslicecap fQ aV<=2*fQ:=by
 unfold Builtin.nextslicecap;split
 .omega
 .split
  .omega
  .have key:∀ r c,c<=2*fQ->256<=fQ->Builtin.growBy fQ r c<=2*fQ:=by
    intro r;induction r with
    |zero=>intro c hc _;exact hc
    |succ r ih =>
     intro c hc h2;unfold Builtin.growBy;split
     .exact hc
     .exact ih _ (by omega) h2
   exact key 4 aV (by omega) (by omega)
theorem OU {n:Nat}{v c:Value}(h:cellOk v=true) (hv:VRel ρ n v c):c.oneCell'=true:=by cases hv<;>first|rfl|(simp[cellOk,poison] at h)
theorem V6 {n:Nat}{vs cs:List Value}(h:vs.all cellOk=true) (hv:LRel ρ n vs cs):∀ c∈cs,c.oneCell'=true:=by
 intro c hc;obtain⟨k,hk⟩:=List.getElem?_of_mem hc;have a9:k<vs.length:=by have:=(z9.1 hk).1;have:=hv.1;omega
 exact OU (z8.1 h _ (zu a9)) (hv.2 k _ _ (z5 a9) hk)
theorem Y2 {t u e f:TypeId}{ei:TypeInfo}(ht:P.underlying t=some (.slice e)) (hu:P.underlying u=some (.slice f)) (hi:P.info? e=some ei) (ty:TypeId) (base:Option Addr) (n cap m:Nat) (x:Value) (us:List Value)
  (hx:∃ a' av,x=.slice a' m av) (gm:(Builtin.firstCells ei.size m x).run P w=.ok us.toArray w) (aY:n+m<=cap) (w':World)
  (a_:(match base with|some a=>storeCells (a.add (n*ei.size)) us|none=>pure ()).run P w=.ok () w') :
  (Builtin.append_ #[t,u] ty #[.slice base n cap,x]).run P w=.ok (.slice base (n+m) cap) w':=by
 obtain⟨a',av,rfl⟩:=hx;unfold Builtin.append_;cases base with
 |none =>simp at a_;subst a_;simp[Q0 ht,Q0 hu,Qk hi,Builtin.lenOf,aY,gm]
 |some a =>simp at a_;simp[Q0 ht,Q0 hu,Qk hi,Builtin.lenOf,aY,gm,a_]
theorem YQ {t u e f:TypeId}{ei:TypeInfo}{zv:Value}(ht:P.underlying t=some (.slice e)) (hu:P.underlying u=some (.slice f)) (hi:P.info? e=some ei) (hz:ei.zero=some zv) (hb:ei.bytes≠0) (ty:TypeId) (base:Option Addr) (n cap m:Nat) (x:Value) (us os:List Value)
  (hx:∃ a' av,x=.slice a' m av) (gm:(Builtin.firstCells ei.size m x).run P w.drew=.ok us.toArray w.drew) (iS:(Builtin.firstCells ei.size n (.slice base n cap)).run P w.drew=.ok os.toArray w.drew)
  (aY:¬ n+m<=cap) (aL:(n+m)*ei.bytes<=2 ^ 46) :
  ∃ aW,n+m<=aW/\(Builtin.append_ #[t,u] ty #[.slice base n cap,x]).run P w =
   .ok (.slice (some ⟨w.heap.size,0,none⟩) (n+m) aW) (w.drew.alloc (.cells ((os++us).toArray++Builtin.zeroCells zv.cells (aW-(n+m))) e)):=by
 obtain⟨a',av,rfl⟩:=hx;refine⟨(Question.appendCap (n+m) cap e).cut (w.tape w.drawn (.appendCap (n+m) cap e)),by simp[Question.cut],?_⟩;have h1:¬ (2 ^ 48<Builtin.nextslicecap (n+m) cap*ei.bytes):=by have:=Q0s (n+m) cap (by omega);have h2:Builtin.nextslicecap (n+m) cap*ei.bytes<=2*(n+m)*ei.bytes:=zD _ this;rw[Nat.mul_assoc] at h2;omega
 have j5:∀ w:World,(typeInfo e).run P w=.ok ei w:=λw=>run_typeInfo w hi;have d_:∀ w:World,(zeroValue e).run P w=.ok zv w:=λw=>Zu hi hz w;unfold Builtin.append_;simp[Q0 ht,Q0 hu,Qk hi,Builtin.lenOf,aY,j5,hb,h1,Question.forced,iS,gm,d_,newRow];congr 2;apply Array.ext';simp
theorem VV (_hH:HRel ρ M w) (_hE:Ext ρ M w ρ M w) {σ1:Heap}{ρ1:Plc}(iT:HRel ρ1 σ1 w) (fF:Ext ρ M w ρ1 σ1 w) (fG:σ1.n=M.n) {aV xs os us:List Value}{zs:Array Value}{esz:El}{n aW:Nat}
  (ho:LRel ρ M.n aV os) (hx:LRel ρ M.n xs us) (hlen:aV.length+xs.length=n*esz.sz) (eu:zs.size=(aW-n)*esz.sz) (gB:n<=aW) {s:Sem Next}
  (hs:s.run P w=.ok (.value (.slice (some ⟨w.heap.size,0,none⟩) n aW)) (w.drew.alloc (.cells ((os++us).toArray++zs) esz.ty))) :
  CP P ρ M w (.slice (some ⟨M.n,0,none⟩) n n) (σ1.push (.cells (aV++xs) esz true false)) s:=by
 have hl:(aV++xs).length=(os++us).length:=by simp[ho.1,hx.1]
 have aH:LRel ρ1 σ1.n (aV++xs) (((os++us).toArray++zs).toList.take (aV++xs).length):=by
  have h1:((os++us).toArray++zs).toList.take (aV++xs).length=os++us:=by rw[Array.toList_append,hl];show ((os++us)++zs.toList).take (os++us).length=_;exact List.take_left
  rw[h1];exact(ho.append hx).mono fF.n fF.pl
 have aL:((os++us).toArray++zs).size=n*esz.sz+(aW-n)*esz.sz:=by simp[eu];have:=ho.1;have:=hx.1;omega
 have cz:(aV++xs).length<=((os++us).toArray++zs).size:=by rw[aL,zH];omega
 obtain⟨ρ',h1,h2,h3⟩:=(iT.drew).alloc (aV++xs) ((os++us).toArray++zs) esz.ty esz false rfl aH cz;have hh:w.drew.heap.size=w.heap.size:=rfl;rw[fG] at h1;refine⟨_,_,ρ',.inl hs,.sl _ _ _ _ _ _ (by simp[fG]) (λp hp=>?_),h2,(fF.trans (Ext.drew ρ1 σ1 w)).trans h3⟩;rw[h1] at hp;obtain rfl:=osj hp;refine⟨gB,⟨λh=>(by cases h),⟨0,rfl,?_,Or.inl rfl⟩⟩⟩;show 0+aW*esz.sz<=((os++us).toArray++zs).size;rw[aL,<-zN];have:n+(aW-n)=aW:=by omega
 rw[this];omega
theorem EU (hH:HRel ρ M w) {t u e f:TypeId}{ei:TypeInfo}{zv:Value}{z:List Value}(ht:P.underlying t=some (.slice e)) (hu:P.underlying u=some (.slice f)) (hi:P.info? e=some ei) (hz:ei.zero=some zv) (fj:zv.cells.toList=z) (eu:z.length=ei.size) (hb:ei.bytes≠0) (ty:TypeId)
  {s:Value}{a:Option Addr}{m lf:Nat}{xs:List Value}{cs cx:Value}(hs:VRel ρ M.n s cs) (hx:VRel ρ M.n (.slice a m lf) cx) (bz:M.sl z.length (.slice a m lf)=some xs) (ai:xs.all cellOk=true)
  (h:Ke ⟨z.length,e⟩ ei.bytes M s m xs=some (v,M')) {pV:Sem Next}(aX:∀ r w',(Builtin.append_ #[t,u] ty #[cs,cx]).run P w=.ok r w'->pV.run P w=.ok (.value r) w'):CP P ρ M w v M' pV:=by
 obtain⟨gQ,us,eS,fk,gm⟩:=Fc (P:=P) hH bz hx;rw[eu] at gm gQ;have hL:=Like.refl ρ w;have lg:Like ρ w w.drew:=⟨z7 _,λ_ _ _=>rfl,λ_ _ _=>rfl⟩;have na:us.length=m*ei.size:=by have:=eS.1;omega
 have hzero:∀ k,(Builtin.zeroCells zv.cells k).size=k*z.length:=λk=>by rw[size_zeroCells];rw[<-fj];simp
 unfold Ke at h;split at h
 .
  obtain⟨_,_,rfl⟩:=hs.q1k;split at h
  .rename_i fl;subst fl;simp at h;obtain⟨rfl,rfl⟩:=h;have:us=[]:=zW.1 (by omega);subst this;have hr:=Y2 (w:=w) ht hu hi ty none 0 0 0 cx [] fk (gm w hL) (z7 _) w rfl;exact⟨_,w,ρ,.inl (aX _ _ hr),VRel.nilSl,hH,Ext.refl _ _ _⟩
  .rename_i fl;split at h
   .rename_i aL;simp at h;obtain⟨rfl,rfl⟩:=h;obtain⟨aW,gB,hr⟩:=YQ (w:=w) ht hu hi hz hb ty none 0 0 m cx us [] fk (gm _ lg) (by simp[Builtin.firstCells]) (by omega) (by simpa using aL);simp only[xh,xt] at hr gB;have:=VV (P:=P) hH (Ext.refl _ _ _) hH (Ext.refl _ _ _) rfl (LRel.nil ρ M.n) eS (by simp;rw[gQ,<-eu]) (esz:=⟨z.length,e⟩) (n:=m) (hzero (aW-m)) gB (s:=pV) (by simpa using aX _ _ hr);simpa using this
   .cases h
 .
  rename_i i o n cap;obtain⟨ad,av,rfl,aQ,aU⟩:=hs.q1b;split at h
  .rename_i c e' wr tight aF;obtain⟨p,hp,hB⟩:=hH.live i _ aF;obtain⟨ep,m9,o',rfl,cT,eT⟩:=aU p hp;have dN:p.esz=e':=hB.1;split at h
   .rename_i ak;obtain⟨rfl,nb,g_⟩:=ak;rw[dN] at cT;dsimp only at cT g_ h;split at h
    .
     rename_i fl;subst fl;simp at h;obtain⟨rfl,rfl⟩:=h;have:us=[]:=zW.1 (by omega);subst this;have hr:=Y2 (w:=w) ht hu hi ty (some ⟨p.blk,p.shift+o',none⟩) n av 0 cx [] fk (gm w hL) (by omega) w rfl;exact⟨_,w,ρ,.inl (aX _ _ hr),hs,hH,Ext.refl _ _ _⟩
    .rename_i fl;split at h
     .
      rename_i aY;split at h
      .rename_i hw;obtain⟨rfl,fm⟩:=hw;simp at h;obtain⟨rfl,rfl⟩:=h;have jZ:o'=o:=by
        rcases eT with h0|⟨_,h0⟩
        .exact h0
        .omega
       subst jZ;have hmul:(n+m)*z.length=n*z.length+m*z.length:=zN _ _ _;have sP:m*ei.size=m*z.length:=by rw[eu]
       obtain⟨h2,h3⟩:=hH.store hp aF eS (o:=o'+n*z.length) (by omega)
       have a_:=run_storeCells_cells (P:=P) p.blk (p.shift+o'+n*z.length) us 0 w
        (λj hj=>by rw[zR,zp,zp];exact hB.q0s _ (by have:=hB.2.2.1;omega))
        (λj hj=>by rw[zR,zp,zp];exact(hB.2.2.2.2.2 rfl).2 _ (by have:=hB.2.2.1;omega))
        (V6 ai eS)
       have hr:=Y2 (w:=w) ht hu hi ty (some ⟨p.blk,p.shift+o',none⟩) n av m cx us fk (gm w hL) (by omega) _ (by
        simp only[W7,<-eu];exact a_)
       refine⟨_,_,ρ,.inl (aX _ _ hr),.sl _ _ _ _ _ _ aQ (λq hq=>?_),by rw[zR,zp];exact h2,by rw[zR,zp];exact h3⟩;obtain rfl:p=q:=osj (hp.symm.trans hq);exact⟨ep,m9,o',rfl,by rw[dN];exact cT,.inl rfl⟩
      .cases h
     .rename_i aY;split at h
      .rename_i aL;have hold:∀ k v,((c.drop o).take (n*z.length))[k]?=some v->∃ u,w.cell? ⟨p.blk,p.shift+o'+k,none⟩=some u/\VRel ρ M.n v u:=λk v hk=>by
        rw[zO] at hk;split at hk
        .rename_i a9;rw[zC] at hk;have jZ:o'=o:=by
          rcases eT with h0|⟨h0,_⟩
          .exact h0
          .rw[h0,Nat.zero_mul] at a9;omega
         subst jZ;obtain⟨u,hu,cB⟩:=hB.2.2.2.2.1 _ v hk;exact⟨u,by rw[zp];exact hu,cB⟩
        .cases hk
       have eH:((c.drop o).take (n*z.length)).length=n*z.length:=by simp;omega
       have jr:M.sl z.length (.slice (some ⟨i,o,none⟩) n cap)=some ((c.drop o).take (n*z.length)):=by simp[Heap.sl,aF,g_]
       obtain⟨_,os,jt,_,iS⟩:=Fc (P:=P) hH jr hs;rw[eu] at iS;have hlen:((c.drop o).take (n*z.length)).length+xs.length=(n+m)*z.length:=by rw[eH,gQ,zN,eu]
       split at h
       .
        rename_i fR;simp at h;obtain⟨rfl,rfl⟩:=h;have pW:av=cap:=m9 (by rw[hB.2.1];exact fR);subst pW;obtain⟨aW,gB,hr⟩:=YQ (w:=w) ht hu hi hz hb ty (some ⟨p.blk,p.shift+o',none⟩) n av m cx us os fk (gm _ lg) (iS _ lg) aY aL;exact VV hH (Ext.refl _ _ _) hH (Ext.refl _ _ _) rfl jt eS hlen (hzero _) gB (aX _ _ hr)
       .rename_i fR;have sQ:tight=false:=by simpa using fR
        subst sQ;split at h
        .rename_i gM;subst gM;simp at h;obtain⟨rfl,rfl⟩:=h;by_cases fS:n+m<=av
         .
          have hmul:av*z.length=(n+m)*z.length+(av-(n+m))*z.length:=by rw[<-zN];congr 1;omega
          have rE:(n+m)*z.length=n*z.length+m*z.length:=zN _ _ _;have sP:m*ei.size=m*z.length:=by rw[eu]
          obtain⟨ρ',h1,h2,h3⟩:=hH.onto hp aF o' hold eS (by rw[eH];omega)
          have a_:=run_storeCells_cells (P:=P) p.blk (p.shift+o'+n*z.length) us 0 w
           (λj hj=>by rw[zR,zp,zp];exact hB.q0s _ (by omega))
           (λj hj=>by rw[zR,zp,zp];exact(hB.2.2.2.2.2 rfl).2 _ (by omega))
           (V6 ai eS)
          have hr:=Y2 (w:=w) ht hu hi ty (some ⟨p.blk,p.shift+o',none⟩) n av m cx us fk (gm w hL) fS _ (by
           simp only[W7,<-eu];exact a_)
          refine⟨_,_,ρ',.inl (aX _ _ hr),.sl _ _ _ _ _ _ (by simp) (λq hq=>?_),by rw[zR];rw[eH] at h2;exact h2,by rw[zR];rw[eH] at h3;exact h3⟩;rw[h1] at hq;obtain rfl:=osj hq;refine⟨fS,⟨λh=>(by cases h),⟨0,rfl,?_,Or.inl rfl⟩⟩⟩;show 0+av*z.length<=p.ext-o';omega
         .obtain⟨aW,gB,hr⟩:=YQ (w:=w) ht hu hi hz hb ty (some ⟨p.blk,p.shift+o',none⟩) n av m cx us os fk (gm _ lg) (iS _ lg) fS aL;obtain⟨bc,al⟩:=hH.kill i;exact VV hH (Ext.refl _ _ _) bc al rfl jt eS hlen (hzero _) gB (aX _ _ hr)
        .cases h
      .cases h
   .cases h
  .cases h
 .
  rename_i i o n cap;obtain⟨ad,rfl,aQ,aU,cO⟩:=hs.q2h;split at h
  .rename_i c e' wr tight aF;obtain⟨p,hp,hB⟩:=hH.live i _ aF;obtain⟨rfl,cT⟩:=aU p hp;have dN:p.esz=e':=hB.1;split at h
   .rename_i ak;obtain⟨rfl,nb,g_,fl,aL⟩:=ak;rw[dN] at cT;dsimp only at cT g_ h;simp at h;obtain⟨rfl,rfl⟩:=h;have eH:((c.drop o).take (n*z.length)).length=n*z.length:=by simp;omega
    have jr:M.sl z.length (.slice (some ⟨i,o,none⟩) n cap)=some ((c.drop o).take (n*z.length)):=by simp[Heap.sl,aF,g_]
    obtain⟨_,os,jt,_,iS⟩:=Fc (P:=P) hH jr cO;rw[eu] at iS;have hlen:((c.drop o).take (n*z.length)).length+xs.length=(n+m)*z.length:=by rw[eH,gQ,zN,eu]
    obtain⟨aW,gB,hr⟩:=YQ (w:=w) ht hu hi hz hb ty (some ⟨p.blk,p.shift+o,none⟩) n cap m cx us os fk (gm _ lg) (iS _ lg) (by omega) aL;exact VV hH (Ext.refl _ _ _) hH (Ext.refl _ _ _) rfl jt eS hlen (hzero _) gB (aX _ _ hr)
   .cases h
  .cases h
 .cases h
set_option maxHeartbeats 1000000 in
theorem Q0z {o:Oper}{vo:VOp}(hc:Up P o.op=some vo) (hq:vo.quiet=false) (hH:HRel ρ M w) (hE:∀ x,XI x=true->VRel ρ M.n (Q5 env x) (ev x))
  (h:Qa vo (Q5 env) M=some (v,M')):CP P ρ M w v M' (execOp ev o):=by
 obtain⟨dst,op,ty,pos,after,guard⟩:=o;simp only at hc;unfold Up at hc;split at hc
 .cases hc
 rename_i ai;simp only[xO,xm] at ai;cases op<;>simp only[Op.operands] at ai hc
 case alloc t =>
  cases hz:zeroOf P t with
  |none=>simp[hz] at hc
  |some z =>simp[hz] at hc;subst hc;obtain⟨ti,zv,hi,d_,fj,_,gO⟩:=YG hz;simp[Qa] at h;obtain⟨rfl,rfl⟩:=h;refine AU hH (C:=zv.cells) (esz:=⟨z.length,t⟩) (by rw[fj];exact XM gO) ?_;simp[execOp,Instr.alloc,Zu hi d_,newVar,newRow]
 case box t x =>
  have hx:=hE x (by simpa using ai);simp at hc;subst hc;simp only[Qa] at h;split at h
  .rename_i vs cC;simp at h;obtain⟨rfl,rfl⟩:=h;refine AU hH (C:=(ev x).cells) (esz:=⟨vs.length,t⟩) (P2 cC hx) ?_;simp[execOp,Instr.box,newVar,newRow]
  .cases h
 case buildSlice t len parts =>
  split at hc
  .rename_i e hu;cases hz:zeroOf P e with
   |none=>simp[hz] at hc
   |some z =>
    obtain⟨ti,zv,hi,d_,fj,eu,gO⟩:=YG hz;simp only[hz,zL,xx] at hc;split at hc
    .cases hc
    .rename_i ak;simp at ak;obtain⟨j6,hlen⟩:=ak;simp at hc;subst hc;simp only[Qa] at h;split at h
     .rename_i cs eG;simp at h;obtain⟨rfl,rfl⟩:=h;have eQ:∀ q∈parts.toList,XI q.2=true:=λq hq=>z8.1 ai q.2 (by simp;exact⟨q.1,by simpa using hq⟩);have j7:=HY zv.cells z fj j6 len
      obtain⟨bu,jW,jX⟩:=LR (ρ:=ρ) (n:=M.n) (λi=>some (i*z.length,z.length)) _ ((parts.map λq=>(q.1,ev q.2)).toList) (Ta len z) cs ((Array.range (len*z.length)).map (λi=>zv.cells[i % zv.cells.size]!)) (by simp)
       (λk a b ha hb=>by
        simp only[zU,Array.toList_map] at ha hb;cases hq:parts.toList[k]? with
        |none=>simp only[hq,wm] at hb;cases hb
        |some q =>
         simp only[hq,xB,x9] at ha hb;subst hb;subst ha;exact⟨rfl,hE _ (eQ q (zG hq))⟩) eG (by rw[j7];exact XM (HQ _ _ gO))
      have cz:cs.length=len*z.length:=by
       have h1:∀ (l:List (Nat×Nat×Value)) (c c':List Value),Mq c l=some c'->c'.length=c.length:=by
        intro l;induction l with
        |nil=>intro c c' h;simp[Mq] at h;rw[h]
        |cons a r ih =>
         intro c c' h;obtain⟨o1,s1,v1⟩:=a;simp only[Mq] at h;split at h
         .split at h
          .rw[ih _ _ h,YA]
          .cases h
         .cases h
       rw[h1 _ _ _ eG,TQ]
      refine Rx hH (C:=bu) (esz:=⟨z.length,e⟩) jX (by have:=jX.1;simp at this;show len*z.length<=_;omega) ?_;have hle:¬ (len*ti.size > 2 ^ 24):=by
       rw[<-eu];have:(2:Nat) ^ 24=16777216:=by decide
       omega
      have pX:Instr.fill (λi=>some (i*ti.size,ti.size)) ((Array.range (len*ti.size)).map (λi=>zv.cells[i % zv.cells.size]!)) (parts.map λq=>(q.1,ev q.2)).toList=some bu:=by rw[<-eu];exact jW
      by_cases aT:len*ti.size=0
      .have iU:∀ f:Nat->Value,(Array.range 0).map f=#[]:=λf=>by simp
       simp only[execOp];simp only[Instr.buildSlice,zw,Q0 hu,zi,Qk hi,aT,zB,x5];rw[aT,iU] at pX;simp only[iU,pX];simp[newRow]
      .simp only[execOp];simp only[Instr.buildSlice,zw,Q0 hu,zi,Qk hi,z0 hle,z0 aT,Zu hi d_,x5,pX];simp[newRow]
     .cases h
  .cases hc
 case store t a x =>
  simp at ai;have ha:=hE a ai.1;have hx:=hE x ai.2;cases hi:P.info? t with
  |none=>simp[hi] at hc
  |some ti =>
   simp[hi] at hc;subst hc;simp only[Qa] at h;split at h
   .rename_i i o vs h1 cC;rw[h1] at ha;split at h
    .rename_i c e wr tight hb;split at h
     .rename_i ak;obtain⟨rfl,pY,ju,hU⟩:=ak;simp at h;obtain⟨rfl,rfl⟩:=h;obtain⟨p,hp,hB⟩:=hH.live i _ hb;obtain⟨_,aQ,pc⟩:=ha.q0w hp;have hl:=P2 cC hx;have aB:(ev x).cells.size=ti.size:=by have:=hl.1;simp at this;omega
      obtain⟨h2,h3⟩:=hH.store hp hb hl (o:=o) (by omega);refine⟨undef,_,ρ,.inr ⟨?_,rfl⟩,X9,h2,h3⟩
      have hr:=run_storeCells_cells (P:=P) p.blk (p.shift+o) (ev x).cells.toList 0 w
       (λj hj=>by rw[zR,zp];exact hB.q0s _ (by have:=hB.2.2.1;simp at hj;omega))
       (λj hj=>by rw[zR,zp];exact(hB.2.2.2.2.2 rfl).2 _ (by have:=hB.2.2.1;simp at hj;omega))
       (V6 hU hl)
      simp only[execOp];simp only[Instr.storeAt,pc,Instr.sureAddr,zw,x5,zi,storeVar,Qk hi];rw[z0 (by simp[aB])];rw[hr];rfl
     .cases h
    .cases h
   .cases h
 case makeSlice t l c =>
  simp at ai;have hl:=hE l ai.1;have ep:=hE c ai.2;split at hc
  .rename_i e hu;cases hi:P.info? e with
   |none=>simp[hi] at hc
   |some ei =>
    cases hz:zeroOf P e with
    |none=>simp[hi,hz] at hc
    |some z =>
     obtain⟨ti,zv,cD,d_,fj,eu,gO⟩:=YG hz;obtain rfl:ei=ti:=osj (hi.symm.trans cD);simp only[hi,hz,zL,xx] at hc;split at hc
     .cases hc
     .rename_i j6;simp at j6;simp at hc;subst hc;simp only[Qa] at h;split at h
      .rename_i k a k' b h1 h2;rw[h1] at hl;rw[h2] at ep;split at h
       .rename_i ak;obtain⟨vg,rD,nc,bt⟩:=ak;simp at h;obtain⟨rfl,rfl⟩:=h;have j7:=HY zv.cells z fj j6 b.toNat;have vh:(2:Int) ^ 46=70368744177664:=by decide
        have vi:(2:Int) ^ 48=281474976710656:=by decide
        have fb:IntKind.i64.wrap a=a:=IntWalk.i64_in _ (by omega);have sR:IntKind.i64.wrap b=b:=IntWalk.i64_in _ (by omega);refine Rx hH (C:=(Array.range (b.toNat*z.length)).map (λi=>zv.cells[i % zv.cells.size]!)) (esz:=⟨z.length,e⟩) (by rw[j7];exact XM (HQ _ _ gO)) (by simp) ?_;have sS:((ei.bytes:Int)*b > 2 ^ 48)=False:=by rw[eq_iff_iff,iff_false,Int.mul_comm];omega
        have pZ:(b<0)=False:=by rw[eq_iff_iff,iff_false];omega
        have ng:(a<0)=False:=by rw[eq_iff_iff,iff_false];omega
        have p5:(a > b)=False:=by rw[eq_iff_iff,iff_false];omega
        simp only[execOp];simp only[Instr.makeSlice,zw,Q0 hu,zi,hl.q0g,ep.q0g,asInt,asIntOf,x5,run_typeInfo w hi,fb,sR,sS,pZ,ng,p5];simp only[decide_false,w4,Bool.false_or,zy,if_false,run_askRoom,zw,zi,Qk hi];rw[<-eu];by_cases aT:b.toNat*z.length=0
        .have iU:∀ f:Nat->Value,(Array.range 0).map f=#[]:=λf=>by simp
         simp only[aT,zB,iU];simp[newRow]
        .simp only[aT,if_false,Zu hi d_,zw,x5,zi];simp[newRow]
       .cases h
      .cases h
  .cases hc
 case slice t x lo hi mx =>
  have ld:XI x=true:=by simp at ai;exact ai.1
  have gj:∀ y,lo=some y->XI y=true:=λy hy=>by subst hy;simp at ai;first|exact ai.2.1|exact ai.2
  have gk:∀ y,hi=some y->XI y=true:=λy hy=>by subst hy;cases lo<;>simp at ai<;>first|exact ai.2.1|exact ai.2.2.1|exact ai.2.2|exact ai.2
  have p6:∀ y,mx=some y->XI y=true:=λy hy=>by subst hy;cases lo<;>cases hi<;>simp at ai<;>first|exact ai.2.2.2|exact ai.2.2|exact ai.2
  have hx:=hE x ld;split at hc
  .rename_i e hu;cases cH:P.info? e with
   |none=>simp[cH] at hc
   |some ei =>
    simp[cH] at hc;subst hc;cases mx with
    |none=>simp[VOp.quiet] at hq
    |some mo =>
     simp only[Qa] at h;split at h
     .rename_i a n cap h1;rw[h1] at hx;split at h
      .simp_all
      .rename_i l hh vj hl k_ sU;split at h
       .rename_i m ho hm;have iR:=YB hE gj hl;have mE:=YB hE gk k_;have sV:=YB hE p6 hm;obtain⟨ym,km,im,sW,jq,pb,lh⟩:=sV.resolve_left (λhh=>by cases hh.1);obtain rfl:=osj sW;obtain⟨yh,kh,ih,sX,jo,pa,p7⟩:=mE.resolve_left (λhh=>by cases hh.1);obtain rfl:=osj sX;have iV:=λ(av:Nat) (h1:l<=hh) (h2:hh<=m) (h3:m<=av) w'=>PJ (P:=P) (n:=n) (cap:=av) iR jo pa p7 jq pb lh h1 h2 h3 w';unfold Kj at h;split at h
        .rename_i heq;simp at heq;obtain⟨rfl,rfl,rfl⟩:=heq;obtain⟨_,_,bw⟩:=hx.q1k;split at h
         .rename_i ak;obtain⟨rfl,rfl,fl⟩:=ak;simp at fl;simp at h;obtain⟨rfl,rfl⟩:=h;subst fl;refine⟨.slice none 0 0,w,ρ,.inl ?_,VRel.nilSl,hH,Ext.refl _ _ _⟩;have:=iV 0 (z7 _) (z7 _) (z7 _) w;simp only[xB] at this;simp[execOp,bw,Instr.sliceAt,Instr.slice,Q0 hu,this,Qk cH]
         .cases h
        .rename_i i o n' jm heq;simp at heq;obtain⟨rfl,rfl,rfl⟩:=heq;simp only at h;split at h
         .rename_i c esz wr tight hb;split at h
          .rename_i ak;obtain⟨m8,pT,sY,eI⟩:=ak;obtain⟨ad,av,bw,aQ,aU⟩:=hx.q1b;obtain⟨p,hp,hB⟩:=hH.live i _ hb;obtain⟨ep,m9,o',rfl,cT,eT⟩:=aU p hp;have dN:p.esz.sz=ei.size:=by rw[hB.1];exact m8
           rw[dN] at cT;have b9:=iV av pT sY (x8 eI ep) w;simp only[xB] at b9;split at h
           .rename_i hZ;subst hZ;simp at h;obtain⟨rfl,rfl⟩:=h;have sZ:hh=m:=by omega
            subst sZ;have jk:∀ j,j<M.n->∀ q,(ρ.put M.n (some ⟨p.blk,p.shift+o',0,esz,true⟩)) j=some q->ρ j=some q:=λj hj q hq=>by unfold Plc.put at hq;rwa [z0 (by omega)] at hq
            have bT:∀ j,j≠M.n->(ρ.put M.n (some ⟨p.blk,p.shift+o',0,esz,true⟩)) j=ρ j:=λj hj=>by simp[Plc.put,hj]
            have gp:(ρ.put M.n (some ⟨p.blk,p.shift+o',0,esz,true⟩)) M.n=some ⟨p.blk,p.shift+o',0,esz,true⟩:=by simp[Plc.put]
            have gM:∀ B,Wr (ρ.put M.n (some ⟨p.blk,p.shift+o',0,esz,true⟩)) (M.push (.cells [] esz false true)) B->Wr ρ M B:=by
             rintro B ⟨j,q,b,hq,de,hw,rfl⟩;by_cases aZ:j=M.n
             .subst aZ;rw[Heap.q0a] at de;obtain rfl:=osj de;cases hw
             .rw[Heap.q0e _ _ aZ] at de;rw[bT j aZ] at hq;exact⟨j,q,b,hq,de,hw,rfl⟩
            refine⟨.slice (some ⟨p.blk,p.shift+o',none⟩) 0 0,w,ρ.put M.n (some ⟨p.blk,p.shift+o',0,esz,true⟩),.inl ?_,.sl _ _ _ _ _ _ (by simp) (λq hq=>?_),⟨⟨?_,?_,?_,?_⟩,λg cs hg=>⟨(hH.tab g cs hg).1,λhw=>(hH.tab g cs hg).2 (gM g hw)⟩⟩,
             ⟨rfl,rfl,rfl,z7 _,λ_ _ _=>rfl,λB _=>gM B,by simp,jk⟩⟩
            .simp[execOp,bw,Instr.sliceAt,Instr.slice,Q0 hu,b9,Qk cH]
            .rw[gp] at hq;obtain rfl:=osj hq;exact⟨z7 _,λ_=>rfl,0,rfl,by simp,.inl rfl⟩
            .intro j b hj;by_cases aZ:j=M.n
             .subst aZ;rw[Heap.q0a] at hj;obtain rfl:=osj hj;obtain⟨C,e0,f0,hC,o8⟩:=hB.2.2.2.1;refine⟨_,gp,rfl,rfl,z7 _,⟨C,e0,f0,hC,?_⟩,λk v hk=>by simp at hk,λhw=>by cases hw⟩;have h6:o'<=p.ext:=x8 (Nat.le_add_right _ _) cT;refine⟨?_,o8.2⟩;show p.shift+o'+0<=C.size;omega
             .rw[Heap.q0e _ _ aZ] at hj;obtain⟨q,hq,fN⟩:=hH.live j b hj;exact⟨q,by rw[bT j aZ];exact hq,fN.mono (by simp) jk rfl⟩
            .intro j hj;by_cases aZ:j=M.n
             .subst aZ;rw[Heap.q0a] at hj;cases hj
             .rw[Heap.q0e _ _ aZ] at hj;rw[bT j aZ];exact hH.dead j hj
            .intro j q hq;by_cases aZ:j=M.n
             .subst aZ;rw[gp] at hq;obtain rfl:=osj hq;exact hH.lt i p hp
             .rw[bT j aZ] at hq;exact hH.lt j q hq
            .intro j k q r b dg hq hr de hw rF;by_cases aZ:j=M.n
             .subst aZ;rw[Heap.q0a] at de;obtain rfl:=osj de;cases hw
             .rw[Heap.q0e _ _ aZ] at de;rw[bT j aZ] at hq;by_cases kZ:k=M.n
              .subst kZ;rw[gp] at hr;obtain rfl:=osj hr;simp at rF
              .rw[bT k kZ] at hr;exact hH.sep j k q r b dg hq hr de hw rF
           rename_i hZ;split at h
           .rename_i s5;obtain⟨_,rfl⟩:=s5;simp at h;obtain⟨rfl,rfl⟩:=h;have jZ:o'=o:=by
             rcases eT with h0|⟨_,h0⟩
             .exact h0
             .omega
            subst jZ;refine⟨.slice (some ⟨p.blk,p.shift+(o'+l*ei.size),none⟩) (hh-l) (hh-l),w,ρ,.inl ?_,.slx _ _ _ _ _ aQ (λq hq=>?_),hH,Ext.refl _ _ _⟩
            .simp[execOp,bw,Instr.sliceAt,Instr.slice,Q0 hu,b9,Qk cH,hZ,W7,zp]
            .obtain rfl:p=q:=osj (hp.symm.trans hq);refine⟨rfl,?_⟩;rw[dN];have:av=l+((hh-l)+(av-hh)):=by omega
             rw[this,zN,zN] at cT;omega
           .simp at h;obtain⟨rfl,rfl⟩:=h;refine⟨.slice (some ⟨p.blk,p.shift+(o'+l*ei.size),none⟩) (hh-l) (m-l),w,ρ,.inl ?_,.sl _ _ _ _ _ _ aQ (λq hq=>?_),hH,Ext.refl _ _ _⟩
            .simp[execOp,bw,Instr.sliceAt,Instr.slice,Q0 hu,b9,Qk cH,hZ,W7,zp]
            .obtain rfl:p=q:=osj (hp.symm.trans hq);refine⟨z7 _,λ_=>rfl,o'+l*ei.size,rfl,?_,?_⟩
             .rw[dN];have:av=l+((m-l)+(av-m)):=by omega
              rw[this,zN,zN] at cT;omega
             .rcases eT with rfl|⟨h0,sN⟩
              .exact .inl rfl
              .exact .inr (by omega)
          .cases h
         .cases h
        .cases h
       .cases h
      .cases h
     .cases h
  .rename_i hu;split at hc
   .rename_i pU;cases mx with
    |some m=>simp at pU
    |none=>simp at hc;subst hc;simp[VOp.quiet] at hq
   .cases hc
  .cases hc
 case call c =>
  split at hc
  .simp at hc;subst hc;simp[VOp.quiet] at hq
  .simp at hc;subst hc;simp[VOp.quiet] at hq
  .split at hc
   .split at hc
    .simp at hc;subst hc;simp[VOp.quiet] at hq
    .simp at hc;subst hc;simp[VOp.quiet] at hq
    .cases hc
   .cases hc
  .rename_i aJ;split at hc
   .rename_i t u s x ht pR az;split at hc
    .rename_i e f hu s6;cases hi:P.info? e with
     |none=>simp[hi] at hc
     |some ei =>
      cases hz:zeroOf P e with
      |none=>simp[hi,hz] at hc
      |some z =>
       obtain⟨ti,zv,cD,d_,fj,eu,gO⟩:=YG hz;obtain rfl:ei=ti:=osj (hi.symm.trans cD);simp only[hi,hz,zL,xx] at hc;split at hc
       .cases hc
       .rename_i ak;simp at ak;obtain⟨j6,s7⟩:=ak;simp at hc;subst hc;have cN:c.args=#[s,x]:=by apply Array.ext';simpa using az
        simp[Call.operands,aJ,cN] at ai;have hs:=hE s ai.1;have hx:=hE x ai.2;have nh:(Builtin.append_ c.argTypes ty #[ev s,ev x])=(Builtin.append_ #[t,u] ty #[ev s,ev x]):=by unfold Builtin.append_;simp[ht,pR]
        have aX:∀ r w',(Builtin.append_ #[t,u] ty #[ev s,ev x]).run P w=.ok r w'->(execOp ev {dst:=dst,op:=.call c,type:=ty,pos:=pos,after:=after,guard:=guard}).run P w=.ok (.value r) w':=λr w' hr=>by simp[execOp,resolve,aJ,cN,invoke,builtin,nh,hr]
        simp only[Qa] at h;split at h
        .rename_i xs a m lf bz ni;rw[ni] at hx;split at h
         .rename_i lj;rw[ni] at bz;exact EU hH hu s6 hi d_ fj eu s7 ty hs hx bz lj h aX
         .cases h
        .cases h
    .cases hc
   .cases hc
  .split at hc
   .simp at hc;subst hc;simp[VOp.quiet] at hq
   .simp at hc;subst hc;simp[VOp.quiet] at hq
   .simp at hc;subst hc;simp[VOp.quiet] at hq
   .cases hc
  .split at hc
   .simp at hc;subst hc;simp[VOp.quiet] at hq
   .cases hc
  .cases hc
 case move x=>simp at hc;subst hc;simp[VOp.quiet] at hq
 case assign x=>simp at hc;subst hc;simp[VOp.quiet] at hq
 case pick c a b=>simp at hc;subst hc;simp[VOp.quiet] at hq
 case unOp=>simp at hc;subst hc;simp[VOp.quiet] at hq
 case extract=>simp at hc;subst hc;simp[VOp.quiet] at hq
 case nilCheck=>simp at hc;subst hc;simp[VOp.quiet] at hq
 all_goals
  repeat' first
   |(cases hc;done)
   |(simp at hc;subst hc;simp[VOp.quiet] at hq;done)
   |split at hc
 all_goals simp only[zL,x3,reduceCtorEq,and_false,exists_false] at hc
 all_goals first
  |(obtain⟨_,_,rfl⟩:=hc;simp[VOp.quiet] at hq;done)
  |(obtain⟨_,_,hc⟩:=hc;simp at hc;subst hc;simp[VOp.quiet] at hq;done)
  |(obtain⟨_,_,_,_,hc⟩:=hc;simp at hc;subst hc;simp[VOp.quiet] at hq;done)
  |(obtain⟨_,_,_,_,_,_,hc⟩:=hc;simp at hc;subst hc;simp[VOp.quiet] at hq;done)
  |(obtain⟨d,_,hc⟩:=hc;cases d<;>simp at hc<;>subst hc<;>simp[VOp.quiet] at hq;done)
  |(obtain⟨_,_,_,_,hc⟩:=hc;split at hc<;>simp at hc;subst hc;simp[VOp.quiet] at hq;done)
end
end Go.V
namespace Go.V
open Go
section
variable {P:Program}{ρ:Plc}{M M':Heap}{w:World}{ev:Operand->Value}{env:Env}{v:Value}
theorem VRel.q0o {n:Nat}{c:Value}(h:VRel ρ n (.pointer none) c):c=.pointer none:=by cases h;rfl
theorem VRel.q1h {n:Nat}{a:Addr}{c:Value}(h:VRel ρ n (.pointer (some a)) c):∃ b,c=.pointer (some b):=by cases h<;>exact⟨_,rfl⟩
theorem VRel.q0u {n:Nat}{c:Value}(h:VRel ρ n (.map none) c):c=.map none:=by cases h;rfl
theorem VRel.q1i {n:Nat}{m:Nat}{c:Value}(h:VRel ρ n (.map (some m)) c):∃ r,c=.map (some r)/\m<n/\∀ p,ρ m=some p->r=p.blk:=by
 cases h with
 |map _ r hi h=>exact⟨r,rfl,hi,h⟩
theorem VRel.q0z {n:Nat}{c:Value}(h:VRel ρ n .nilFunc c):c=.nilFunc:=by cases h;rfl
theorem VRel.q1n {n:Nat}{f:Fn}{a b:Array Value}{c:Value}(h:VRel ρ n (.func f a b) c):∃ g a' b',c=.func g a' b':=by cases h<;>exact⟨_,_,_,rfl⟩
theorem VRel.q1r {n:Nat}{a:Addr}{l k:Nat}{c:Value}(h:VRel ρ n (.slice (some a) l k) c):∃ b k',c=.slice (some b) l k':=by cases h<;>exact⟨_,_,rfl⟩
theorem VRel.q0x {n:Nat}{l k:Nat}{c:Value}(h:VRel ρ n (.slice none l k) c):c=.slice none 0 0:=by cases h;rfl
theorem Ol (neg:Bool) (t:TypeId) (x y:Operand) (yt:TypeId) (ty:TypeId) (pos:String) (after:Array Edge) (dst:Option Tmp) (g:Option (Nat×Bool)) {a b:Value}{r:Bool}(hx:ev x=a) (hy:ev y=b)
  (hg:∀ op w',(eqGuard op t x y a b).run P w'=.ok () w') (h:∀ w',(binOp (if neg then .neq else .eql) t a b).run P w'=.ok (.bool (if neg then !r else r)) w') :
  AG P ρ M w (.bool (if neg then !r else r)) (execOp ev ⟨dst,.binOp (if neg then .neq else .eql) t x y yt,ty,pos,after,g⟩):=by
 refine Qt (c:=.bool (if neg then !r else r)) (λw'=>?_) (.bool _);simp only[execOp,hx,hy];simp[hg,h]
theorem CN (op:BinOp) (t:TypeId) (x y:Operand) {a b:Value}(h:(∀ p q,¬ (a=.nilIface/\b=.nilIface)/\¬ (a=.agg p/\b=.agg q))) (w':World):(eqGuard op t x y a b).run P w'=.ok () w':=by
 have key:∀ op,op=.eql\/op=.neq->(eqGuard op t x y a b).run P w'=.ok () w':=by
  intro op ho;unfold eqGuard;rcases ho with rfl|rfl
  all_goals
   simp only[xY,zy,if_false];split
   .exact absurd ⟨rfl,rfl⟩ (h #[] #[]).1
   .rename_i p q;exact absurd ⟨rfl,rfl⟩ (h p q).2
   .rfl
 cases op<;>first|exact key _ (.inl rfl)|exact key _ (.inr rfl)|rfl
theorem JI {t:TypeId}{a b:Value}{r:Bool}(h:∀ d w',(Op.equalIn (d+1) t a b).run P w'=.ok r w')
  (hb:∀ neg:Bool,binOp (if neg then .neq else .eql) t a b=(do let r <-Op.equal t a b;pure (.bool (if neg then !r else r)))) (neg:Bool) (w':World) :
  (binOp (if neg then .neq else .eql) t a b).run P w'=.ok (.bool (if neg then !r else r)) w':=by
 rw[hb,zw];have:(Op.equal t a b).run P w'=.ok r w':=h 9999 w';rw[this];rfl
theorem Ot {kd:Nat}{t:TypeId}{a b c d:Value}{r:Bool}(hH:HRel ρ M w) (hk:(kd=0/\∃ e i,P.underlying t=some (.pointer e)/\P.info? e=some i)\/(kd=1/\∃ e,P.underlying t=some (.slice e)) \/
   (kd=2/\∃ k e,P.underlying t=some (.map k e))\/(kd=3/\∃ p q s,P.underlying t=some (.func p q s)))
  (ha:VRel ρ M.n a c) (hb:VRel ρ M.n b d) (h:JD kd a b M=some r):(∀ (neg:Bool) w',(binOp (if neg then .neq else .eql) t c d).run P w'=.ok (.bool (if neg then !r else r)) w')/\(∀ p q,¬ (c=.nilIface/\d=.nilIface)/\¬ (c=.agg p/\d=.agg q)):=by
 unfold JD at h;split at h
 .obtain rfl:=ha.q0o;obtain rfl:=hb.q0o;simp at h;subst h;rcases hk with⟨_,e,i,h1,h2⟩|⟨h0,_⟩|⟨h0,_⟩|⟨h0,_⟩<;>try (cases h0)
  exact⟨JI (λd w'=>by simp[Op.equalIn,Q0 h1]) (λneg=>by cases neg<;>rfl),by simp⟩
 .obtain rfl:=ha.q0o;obtain⟨q,rfl⟩:=hb.q1h;simp at h;subst h;rcases hk with⟨_,e,i,h1,h2⟩|⟨h0,_⟩|⟨h0,_⟩|⟨h0,_⟩<;>try (cases h0)
  exact⟨JI (λd w'=>by simp[Op.equalIn,Q0 h1]) (λneg=>by cases neg<;>rfl),by simp⟩
 .obtain⟨q,rfl⟩:=ha.q1h;obtain rfl:=hb.q0o;simp at h;subst h;rcases hk with⟨_,e,i,h1,h2⟩|⟨h0,_⟩|⟨h0,_⟩|⟨h0,_⟩<;>try (cases h0)
  exact⟨JI (λd w'=>by simp[Op.equalIn,Q0 h1]) (λneg=>by cases neg<;>rfl),by simp⟩
 .rename_i i o j q;split at h
  .rename_i hc;obtain⟨rfl,rfl,hs⟩:=hc;simp at h;subst h;rcases hk with⟨_,e,i',h1,h2⟩|⟨h0,_⟩|⟨h0,_⟩|⟨h0,_⟩<;>try (cases h0)
   obtain⟨blk,aF⟩:=Option.isSome_iff_exists.1 hs;obtain⟨p,hp,_⟩:=hH.live _ _ aF;obtain⟨_,_,rfl⟩:=ha.q0w hp;obtain⟨_,_,rfl⟩:=hb.q0w hp;exact⟨JI (λd w'=>by simp[Op.equalIn,Q0 h1,sizeOf,typeInfo,h2,run_sameAddr_same]) (λneg=>by cases neg<;>rfl),by simp⟩
  .cases h
 .obtain rfl:=ha.q0x;obtain rfl:=hb.q0x;simp at h;subst h;rcases hk with⟨h0,_⟩|⟨_,e,h1⟩|⟨h0,_⟩|⟨h0,_⟩<;>try (cases h0)
  exact⟨JI (λd w'=>by simp[Op.equalIn,Q0 h1]) (λneg=>by cases neg<;>rfl),by simp⟩
 .obtain rfl:=ha.q0x;obtain⟨_,_,rfl⟩:=hb.q1r;simp at h;subst h;rcases hk with⟨h0,_⟩|⟨_,e,h1⟩|⟨h0,_⟩|⟨h0,_⟩<;>try (cases h0)
  exact⟨JI (λd w'=>by simp[Op.equalIn,Q0 h1]) (λneg=>by cases neg<;>rfl),by simp⟩
 .obtain⟨_,_,rfl⟩:=ha.q1r;obtain rfl:=hb.q0x;simp at h;subst h;rcases hk with⟨h0,_⟩|⟨_,e,h1⟩|⟨h0,_⟩|⟨h0,_⟩<;>try (cases h0)
  exact⟨JI (λd w'=>by simp[Op.equalIn,Q0 h1]) (λneg=>by cases neg<;>rfl),by simp⟩
 .obtain rfl:=ha.q0u;obtain rfl:=hb.q0u;simp at h;subst h;rcases hk with⟨h0,_⟩|⟨h0,_⟩|⟨_,k,e,h1⟩|⟨h0,_⟩<;>try (cases h0)
  exact⟨JI (λd w'=>by simp[Op.equalIn,Q0 h1]) (λneg=>by cases neg<;>rfl),by simp⟩
 .obtain rfl:=ha.q0u;obtain⟨_,rfl,_⟩:=hb.q1i;simp at h;subst h;rcases hk with⟨h0,_⟩|⟨h0,_⟩|⟨_,k,e,h1⟩|⟨h0,_⟩<;>try (cases h0)
  exact⟨JI (λd w'=>by simp[Op.equalIn,Q0 h1]) (λneg=>by cases neg<;>rfl),by simp⟩
 .obtain⟨_,rfl,_⟩:=ha.q1i;obtain rfl:=hb.q0u;simp at h;subst h;rcases hk with⟨h0,_⟩|⟨h0,_⟩|⟨_,k,e,h1⟩|⟨h0,_⟩<;>try (cases h0)
  exact⟨JI (λd w'=>by simp[Op.equalIn,Q0 h1]) (λneg=>by cases neg<;>rfl),by simp⟩
 .obtain rfl:=ha.q0z;obtain rfl:=hb.q0z;simp at h;subst h;rcases hk with⟨h0,_⟩|⟨h0,_⟩|⟨h0,_⟩|⟨_,p,q,s,h1⟩<;>try (cases h0)
  exact⟨JI (λd w'=>by simp[Op.equalIn,Q0 h1]) (λneg=>by cases neg<;>rfl),by simp⟩
 .obtain rfl:=ha.q0z;obtain⟨_,_,_,rfl⟩:=hb.q1n;simp at h;subst h;rcases hk with⟨h0,_⟩|⟨h0,_⟩|⟨h0,_⟩|⟨_,p,q,s,h1⟩<;>try (cases h0)
  exact⟨JI (λd w'=>by simp[Op.equalIn,Q0 h1]) (λneg=>by cases neg<;>rfl),by simp⟩
 .obtain⟨_,_,_,rfl⟩:=ha.q1n;obtain rfl:=hb.q0z;simp at h;subst h;rcases hk with⟨h0,_⟩|⟨h0,_⟩|⟨h0,_⟩|⟨_,p,q,s,h1⟩<;>try (cases h0)
  exact⟨JI (λd w'=>by simp[Op.equalIn,Q0 h1]) (λneg=>by cases neg<;>rfl),by simp⟩
 .cases h
def Z43 (ρ:Plc) (n:Nat) (e:MapEntry) (kv:X1):Prop:=e.key=kv.1/\e.born=kv.2.2/\VRel ρ n kv.2.1 e.val
def LERel (ρ:Plc) (n:Nat) (E:List MapEntry) (es:List X1):Prop:=E.length=es.length/\∀ (k:Nat) (e:MapEntry) (kv:X1),E[k]?=some e->es[k]?=some kv->Z43 ρ n e kv
theorem LERel.cons_inv {n:Nat}{E:List MapEntry}{es:List X1}{kv:X1}(h:LERel ρ n E (kv::es)):∃ e E',E=e::E'/\Z43 ρ n e kv/\LERel ρ n E' es:=by
 cases E with
 |nil=>have:=h.1;simp at this
 |cons e E'=>exact⟨e,E',rfl,h.2 0 e kv rfl rfl,by have:=h.1;simpa using this,λk a b ha hb=>h.2 (k+1) a b (by simpa using ha) (by simpa using hb)⟩
theorem ORel.q0q {n:Nat}{es:List X1}{clock:Nat}{O:Obj}:ORel ρ n (.map es clock) O<->∃ entries,O=.map entries clock/\LERel ρ n entries.toList es:=by
 constructor
 .rintro⟨entries,h1,h2,h3⟩;refine⟨entries,h1,by simpa using h2,λk e kv he dw=>?_⟩;obtain⟨e',h4,h5,h6,h7⟩:=h3 k kv dw;have:e=e':=by
   rw[Array.getElem?_toList] at he;exact osj (he.symm.trans h4)
  subst this;exact⟨h5,h6,h7⟩
 .rintro⟨entries,h1,h2,h3⟩;refine⟨entries,h1,by simpa using h2,λk kv dw=>?_⟩;have hk:k<es.length:=(z9.1 dw).1;have mY:k<entries.toList.length:=by omega
  obtain⟨h4,h5,h6⟩:=h3 k entries.toList[k] kv (z5 mY) dw;exact⟨entries.toList[k],by rw[<-Array.getElem?_toList];exact z5 mY,h4,h5,h6⟩
theorem W9:∀ {s:List MK}{l:List Value},fits s l=true->l.length=s.length
 |[],[],_=>rfl
 |_::s,_::l,h=>by simp only[fits,z4] at h;simp[W9 h.2]
 |[],_::_,h=>by cases h
 |_::_,[],h=>by cases h
theorem N8:∀ {s r:List MK}{l:List Value},fits (s++r) l=true->fits s (l.take s.length)=true/\fits r (l.drop s.length)=true
 |[],r,l,h=>by simpa [fits] using h
 |k::s,r,[],h=>by cases h
 |k::s,r,v::l,h=>by simp only[zV,fits,z4] at h;obtain⟨h1,h2⟩:=N8 h.2;simp only[zT,wi,wu,fits,z4];exact⟨⟨h.1,h1⟩,h2⟩
theorem G3:∀ (n:Nat) (l m:List Value),l.length=m.length->Qv l m=(Qv (l.take n) (m.take n)&&Qv (l.drop n) (m.drop n))
 |0,l,m,_=>by simp[Qv]
 |n+1,[],[],_=>by simp[Qv]
 |n+1,a::l,b::m,h=>by simp only[Qv,wi,wu];rw[G3 n l m (by simpa using h),Bool.and_assoc]
 |n+1,[],_::_,h=>by simp at h
 |n+1,_::_,[],h=>by simp at h
def mkT (P:Program) (t:TypeId) (cs:List Value):Value:=match P.underlying t with
 |some (.struct _)=>.agg cs.toArray
 |some (.array _ _)=>.agg cs.toArray
 |_=>cs.headD undef
theorem Gs {m:Nat}{t:TypeId}{s:List MK}(hs:shp P m t=some s) (hc:P.cellsOf t=s.length) {xs:Array Value}{off:Nat}(hf:fits s ((xs.toList.drop off).take s.length)=true) (w:World) :
  (part t xs off).run P w=.ok (mkT P t ((xs.toList.drop off).take s.length)) w:=by
 cases m with
 |zero=>simp[shp] at hs
 |succ m =>
  simp only[shp] at hs;have plain:∀ kd,P.underlying t=some kd->(∀ n e,kd≠.array n e)->(∀ fs,kd≠.struct fs)->s.length=1->(part t xs off).run P w=.ok (mkT P t ((xs.toList.drop off).take s.length)) w:=λkd hu h1 h2 h3=>by
   have hl:=W9 hf;rw[h3] at hl |-;have af:off<xs.size:=by rw[wa,wh] at hl;simp at hl;omega
   have e:(xs.toList.drop off).take 1=[xs[off]]:=by rw[xK (by simpa using af)];simp
   rw[e];have:mkT P t [xs[off]]=xs[off]:=by
    unfold mkT;split
    .rename_i fs cg;rw[hu] at cg;exact absurd (osj cg) (h2 _)
    .rename_i n e cg;rw[hu] at cg;exact absurd (osj cg) (h1 _ _)
    .rfl
   rw[this];cases kd<;>first|(exact absurd rfl (h1 _ _))|(exact absurd rfl (h2 _))|simp[part,isAgg,run_underlying hu,xi af]
  have agg:∀ kd,P.underlying t=some kd->((∃ n e,kd=.array n e)\/∃ fs,kd=.struct fs)->(part t xs off).run P w=.ok (mkT P t ((xs.toList.drop off).take s.length)) w:=λkd hu hk=>by
   obtain⟨i,hi⟩:=info_of_underlying hu;have hl:(xs.extract off (off+P.cellsOf t))=((xs.toList.drop off).take s.length).toArray:=by apply Array.toList_inj.1;rw[Array.toList_extract,hc];simp[List.extract]
   rcases hk with⟨n,e,rfl⟩|⟨fs,rfl⟩<;>simp[part,isAgg,run_underlying hu,run_sizeOf w hi,hl,mkT,hu]
  cases hu:P.underlying t with
  |none=>rw[hu] at hs;cases hs
  |some kd =>
   rw[hu] at hs;cases kd
   case bool=>obtain rfl:=osj hs;exact plain _ hu (by simp) (by simp) rfl
   case int q=>obtain rfl:=osj hs;exact plain _ hu (by simp) (by simp) rfl
   case string=>obtain rfl:=osj hs;exact plain _ hu (by simp) (by simp) rfl
   case array n e=>exact agg _ hu (.inl ⟨_,_,rfl⟩)
   case struct fs=>exact agg _ hu (.inr ⟨_,rfl⟩)
   all_goals cases hs
theorem Oa {g:TypeId->Option (List MK)}{m d:Nat}(hg:g=shp P m) (ih:∀ t s,shp P m t=some s->∀ (w:World) (cs ds:List Value),fits s cs=true->fits s ds=true->(Op.equalIn (d+m) t (mkT P t cs) (mkT P t ds)).run P w=.ok (Qv cs ds) w) {xs ys:Array Value}(w:World) :
  ∀ (fs:List Field) (off:Nat) (ss:List MK),Ie P g fs off=some ss->fits ss (xs.toList.drop off)=true->fits ss (ys.toList.drop off)=true->(Op.eqFields (d+m) xs ys fs).run P w=.ok (Qv (xs.toList.drop off) (ys.toList.drop off)) w
 |[],off,ss,h,h1,h2=>by simp only[Ie,x9] at h;subst h;have e1:=W9 h1;have e2:=W9 h2;rw[List.eq_nil_of_length_eq_zero e1];simp[Op.eqFields,Qv]
 |f::r,off,ss,h,h1,h2=>by
  simp only[Ie] at h;split at h
  .rename_i hn;obtain⟨hn,rfl⟩:=hn;split at h
   .rename_i s hs;split at h
    .rename_i hc;obtain⟨q,hq,rfl⟩:=zq.1 h;obtain⟨a1,a2⟩:=N8 h1;obtain⟨b1,b2⟩:=N8 h2;rw[List.drop_drop] at a2 b2;rw[hg] at hs;have p1:=Gs hs hc a1 w;have p2:=Gs hs hc b1 w;have p3:=ih f.type s hs w _ _ a1 b1;have hr:=Oa hg ih w r (f.offset+s.length) q hq a2 b2;rw[G3 s.length _ _ (by rw[W9 h1,W9 h2]),List.drop_drop,List.drop_drop];simp only[Op.eqFields,hn,ne_eq,not_false_eq_true,zB,zw,p1,p2,p3,zi];cases hb:Qv (List.take s.length (List.drop f.offset xs.toList)) (List.take s.length (List.drop f.offset ys.toList)) with
     |false=>simp
     |true=>simpa using hr
    .cases h
   .cases h
  .cases h
theorem TJ {m d:Nat}{e:TypeId}{s:List MK}(hs:shp P m e=some s) (hc:P.cellsOf e=s.length) (ih:∀ (w:World) (cs ds:List Value),fits s cs=true->fits s ds=true->(Op.equalIn (d+m) e (mkT P e cs) (mkT P e ds)).run P w=.ok (Qv cs ds) w) {xs ys:Array Value}(w:World) :
  ∀ (k i:Nat),fits (List.replicate k s).flatten (xs.toList.drop (i*s.length))=true->fits (List.replicate k s).flatten (ys.toList.drop (i*s.length))=true->(Op.eqItems (d+m) e (P.cellsOf e) xs ys (List.range' i k)).run P w=.ok (Qv (xs.toList.drop (i*s.length)) (ys.toList.drop (i*s.length))) w
 |0,i,h1,h2=>by have e1:=W9 h1;have e2:=W9 h2;simp only[List.replicate_zero,List.flatten_nil,List.length_nil] at e1 e2;rw[List.eq_nil_of_length_eq_zero e1];simp[Op.eqItems,Qv]
 |k+1,i,h1,h2=>by
  rw[xD,List.flatten_cons] at h1 h2;obtain⟨a1,a2⟩:=N8 h1;obtain⟨b1,b2⟩:=N8 h2;rw[List.drop_drop,<-Nat.succ_mul] at a2 b2;have p1:=Gs hs hc a1 w;have p2:=Gs hs hc b1 w;have p3:=ih w _ _ a1 b1;have hr:=TJ hs hc ih w k (i+1) a2 b2;rw[G3 s.length _ _ (by rw[W9 h1,W9 h2]),List.drop_drop,List.drop_drop,<-Nat.succ_mul];rw[hc] at hr |-;simp only[List.range'_succ,Op.eqItems,zw,p1,p2,p3,zi];cases hb:Qv (List.take s.length (List.drop (i*s.length) xs.toList)) (List.take s.length (List.drop (i*s.length) ys.toList)) with
  |false=>simp
  |true=>simpa using hr
theorem N6 (d:Nat):∀ (m:Nat) (t:TypeId) (s:List MK),shp P m t=some s->∀ (w:World) (cs ds:List Value),fits s cs=true->fits s ds=true->(Op.equalIn (d+m) t (mkT P t cs) (mkT P t ds)).run P w=.ok (Qv cs ds) w
 |0,t,s,h=>by simp[shp] at h
 |m+1,t,s,h=>by
  intro w cs ds h1 h2;simp only[shp] at h;have one:∀ {k:MK}{cs:List Value},fits [k] cs=true->∃ a,cs=[a]/\Ow k a=true:=λ{k cs} h=>by
   cases cs with
   |nil=>cases h
   |cons a l =>
    cases l with
    |nil=>exact⟨a,rfl,by simpa [fits] using h⟩
    |cons b l=>simp[fits] at h
  cases hu:P.underlying t with
  |none=>rw[hu] at h;cases h
  |some kd =>
   rw[hu] at h;cases kd
   case bool =>
    obtain rfl:=osj h;obtain⟨a,rfl,ha⟩:=one h1;obtain⟨b,rfl,hb⟩:=one h2;cases a<;>first|(cases ha;done)|skip
    cases b<;>first|(cases hb;done)|skip
    simp only[mkT,hu,List.headD_cons,Qv,V2,xW];exact run_equalIn_bool' w (d+m) t _ _ hu
   case int q =>
    obtain rfl:=osj h;obtain⟨a,rfl,ha⟩:=one h1;obtain⟨b,rfl,hb⟩:=one h2;cases a<;>first|(cases ha;done)|skip
    cases b<;>first|(cases hb;done)|skip
    simp only[Ow,zn] at ha hb;subst ha;subst hb;simp only[mkT,hu,List.headD_cons,Qv,V2,xW];exact run_equalIn_int w (d+m) t _ _ _ _ hu
   case string =>
    obtain rfl:=osj h;obtain⟨a,rfl,ha⟩:=one h1;obtain⟨b,rfl,hb⟩:=one h2;cases a<;>first|(cases ha;done)|skip
    cases b<;>first|(cases hb;done)|skip
    simp only[mkT,hu,List.headD_cons,Qv,V2,xW];rw[<-ByteArray.toList_eq,<-ByteArray.toList_eq];exact run_equalIn_string w (d+m) t _ _ hu
   case array n e =>
    simp only at h;split at h
    .rename_i s' a7;split at h
     .rename_i hc;obtain rfl:=osj h;obtain⟨i,hi⟩:∃ i,P.info? e=some i:=by
       cases m with
       |zero=>simp[shp] at a7
       |succ m =>
        simp only[shp] at a7;cases jl:P.underlying e with
        |none=>rw[jl] at a7;cases a7
        |some _=>exact info_of_underlying jl
      simp only[mkT,hu];rw[show d+(m+1)=(d+m)+1 from rfl,run_equalIn_array w (d+m) _ _ hu hi,List.range_eq_range'];have:=TJ (d:=d) a7 hc (N6 d m e s' a7) (xs:=cs.toArray) (ys:=ds.toArray) w n 0 (by simpa using h1) (by simpa using h2);simpa using this
     .cases h
    .cases h
   case struct fs =>
    simp only at h;split at h
    .cases h
    .rename_i a_;have o_:P.fieldsOf t=fs:=by simp[Program.fieldsOf,hu]
     simp only[mkT,hu];rw[show d+(m+1)=(d+m)+1 from rfl,run_equalIn_struct w (d+m) t _ _ (by rw[o_];exact hu) (by simpa using a_),o_];have:=Oa (d:=d) rfl (N6 d m) (xs:=cs.toArray) (ys:=ds.toArray) w fs.toList 0 s h (by simpa using h1) (by simpa using h2);simpa using this
   all_goals cases h
theorem Tl {n:Nat}:∀ {s:List MK}{l m:List Value},fits s l=true->LRel ρ n l m->m=l
 |[],[],m,_,hr=>by have:=hr.1;cases m with|nil=>rfl|cons=>simp at this
 |k::s,v::l,[],_,hr=>by have:=hr.1;simp at this
 |k::s,v::l,c::m,h,hr=>by
  simp only[fits,z4] at h;have h0:=hr.2 0 v c rfl rfl;have e:c=v:=by cases k<;>cases v<;>first|(cases h.1;done)|(cases h0;rfl)
  have lk:LRel ρ n l m:=⟨by have:=hr.1;simpa using this,λi a b ha hb=>hr.2 (i+1) a b (by simpa using ha) (by simpa using hb)⟩;rw[e,Tl h.2 lk]
 |[],_::_,_,h,_=>by cases h
 |_::_,[],_,h,_=>by cases h
def Q5i (P:Program) (t:TypeId):MK->TypeDesc->Prop
 |.int k,d=>d=.int k
 |.string,d=>d=.string
 |.bool,d=>d=.bool
 |.agg s,d=>shp P 8 t=some s/\((∃ fs,d=.struct fs)\/∃ n e,d=.array n e)
theorem Ge {t:TypeId}{mk:MK}(h:EK P t=some mk):∃ d,P.underlying t=some d/\Q5i P t mk d:=by
 unfold EK at h;split at h
 .rename_i k hk;simp at h;subst h;exact⟨_,hk,rfl⟩
 .rename_i hk;simp at h;subst h;exact⟨_,hk,rfl⟩
 .rename_i hk;simp at h;subst h;exact⟨_,hk,rfl⟩
 .rename_i fs hk;obtain⟨s,hs,rfl⟩:=zq.1 h;exact⟨_,hk,hs,.inl ⟨fs,rfl⟩⟩
 .rename_i n e hk;obtain⟨s,hs,rfl⟩:=zq.1 h;exact⟨_,hk,hs,.inr ⟨n,e,rfl⟩⟩
 .cases h
theorem VS {n:Nat}{v c:Value}(h:Zc v=true) (hv:VRel ρ n v c):c=v:=by cases hv<;>first|rfl|(simp[Zc,poison] at h)
theorem TL {mk:MK}{k c:Value}{n:Nat}(h:ZO mk k=true) (hv:VRel ρ n k c):c=k:=by
 unfold ZO at h;split at h<;>first|(cases h;done)|(exact VS rfl hv)|skip
 obtain⟨ds,rfl,hl⟩:=hv.q1l;have:=Tl h hl;congr 1;exact Array.toList_inj.1 this
def MK.plain:MK->Bool
 |.agg _=>false
 |_=>true
theorem Q0h {mk:MK}(hp:mk.plain=true) {t:TypeId}{d:TypeDesc}(hd:Q5i P t mk d) {a b:Value}(ha:ZO mk a=true) (hb:ZO mk b=true):Instr.sameNow d a b=some (Wf a b):=by
 cases mk
 case agg=>cases hp
 all_goals
  cases a<;>first|(cases ha;done)|skip
  cases b<;>first|(cases hb;done)|skip
  simp only[Q5i] at hd;subst hd
 .simp[ZO] at ha hb;subst ha;subst hb;simp[Instr.sameNow,Wf]
 .simp[Instr.sameNow,Wf,beq_toListBytes,ByteArray.toList_eq]
 .simp[Instr.sameNow,Wf]
theorem LB:∀ {s:List MK}{l m:List Value},fits s l=true->fits s m=true->Qv l m=true->((m.zip l).all λp=>Instr.sameBits 9999 p.1 p.2)=true
 |[],[],[],_,_,_=>rfl
 |k::s,a::l,b::m,h1,h2,h3=>by
  simp only[fits,Qv,z4] at h1 h2 h3;simp only[List.zip_cons_cons,zS,z4];refine⟨?_,LB h1.2 h2.2 h3.2⟩;obtain⟨h1,_⟩:=h1;obtain⟨h2,_⟩:=h2;obtain⟨h3,_⟩:=h3;cases k<;>cases a<;>first|(cases h1;done)|(cases b<;>first|(cases h2;done)|skip)
  .simp only[Ow,zn] at h1 h2;subst h1;subst h2;simp only[V2,zK] at h3;subst h3;simp[Instr.sameBits]
  .simp only[V2,zK] at h3;simp[Instr.sameBits,beq_toListBytes,ByteArray.toList_eq,h3]
  .simp only[V2,zK] at h3;subst h3;simp[Instr.sameBits]
 |[],_::_,_,h,_,_=>by cases h
 |[],[],_::_,_,h,_=>by cases h
 |_::_,[],_,h,_,_=>by cases h
 |_::_,_::_,[],_,h,_=>by cases h
theorem B4 {mk:MK}{a b:Value}(ha:ZO mk a=true) (hb:ZO mk b=true) (h:Wf a b=true):Instr.sameBits 10000 b a=true:=by
 cases mk
 case agg s =>
  cases a<;>first|(cases ha;done)|skip
  cases b<;>first|(cases hb;done)|skip
  rename_i x y;simp only[ZO] at ha hb;simp only[Wf] at h;simp only[Instr.sameBits,z4,zK];have h1:=W9 ha;have h2:=W9 hb;exact⟨by simp at h1 h2;omega,LB ha hb h⟩
 all_goals
  cases a<;>first|(cases ha;done)|skip
  cases b<;>first|(cases hb;done)|skip
 .simp[ZO] at ha hb;subst ha;subst hb;simp[Wf] at h;subst h;simp[Instr.sameBits]
 .simp[Wf] at h;simp[Instr.sameBits,beq_toListBytes,ByteArray.toList_eq,h]
 .simp[Wf] at h;simp[Instr.sameBits,h]
theorem Ky {t:TypeId}{d:TypeDesc}(hd:P.underlying t=some d) {a:Value}(hm:(∃ k,d=.int k)\/d=.string\/d=.bool) (e:Bool) (n:Nat) (w':World):(Instr.checkKey e (n+1) t a).run P w'=.ok () w':=by simp only[Instr.checkKey,zw,Q0 hd,zi];rcases hm with⟨k,rfl⟩|rfl|rfl<;>rfl
theorem O0 {e:Bool}{g:TypeId->Option (List MK)}{m d:Nat}(hg:g=shp P m) (ih:∀ t s,shp P m t=some s->∀ (w:World) (cs:List Value),fits s cs=true->(Instr.checkKey e (d+m) t (mkT P t cs)).run P w=.ok () w) {xs:Array Value}(w:World) :
  ∀ (fs:List Field) (off:Nat) (ss:List MK),Ie P g fs off=some ss->fits ss (xs.toList.drop off)=true->(forIn fs PUnit.unit λf (_:PUnit)=>(do
   if f.name≠"_" then Instr.checkKey e (d+m) f.type (<-part f.type xs f.offset)
   pure (ForInStep.yield PUnit.unit):Sem (ForInStep PUnit))).run P w=.ok PUnit.unit w
 |[],off,ss,h,h1=>by simp
 |f::r,off,ss,h,h1=>by
  simp only[Ie] at h;split at h
  .rename_i hn;obtain⟨hn,rfl⟩:=hn;split at h
   .rename_i s hs;split at h
    .rename_i hc;obtain⟨q,hq,rfl⟩:=zq.1 h;obtain⟨a1,a2⟩:=N8 h1;rw[List.drop_drop] at a2;rw[hg] at hs;have p1:=Gs hs hc a1 w;have p3:=ih f.type s hs w _ a1;have hr:=O0 hg ih w r (f.offset+s.length) q hq a2;simp only[List.forIn_cons,zw,hn,ne_eq,not_false_eq_true,zB,zi,p1,p3,x5];exact hr
    .cases h
   .cases h
  .cases h
theorem RC (e:Bool) (d:Nat):∀ (m:Nat) (t:TypeId) (s:List MK),shp P m t=some s->∀ (w:World) (cs:List Value),fits s cs=true->(Instr.checkKey e (d+m) t (mkT P t cs)).run P w=.ok () w
 |0,t,s,h=>by simp[shp] at h
 |m+1,t,s,h=>by
  intro w cs h1;simp only[shp] at h;cases hu:P.underlying t with
  |none=>rw[hu] at h;cases h
  |some kd =>
   rw[hu] at h;cases kd
   case bool=>rw[show d+(m+1)=(d+m)+1 from rfl];exact Ky hu (by simp) e (d+m) w
   case int q=>rw[show d+(m+1)=(d+m)+1 from rfl];exact Ky hu (by simp) e (d+m) w
   case string=>rw[show d+(m+1)=(d+m)+1 from rfl];exact Ky hu (by simp) e (d+m) w
   case array n el =>
    simp only at h;split at h
    .rename_i s' a7;split at h
     .rename_i hc;obtain rfl:=osj h;obtain⟨i,hi⟩:∃ i,P.info? el=some i:=by
       cases m with
       |zero=>simp[shp] at a7
       |succ m =>
        simp only[shp] at a7;cases jl:P.underlying el with
        |none=>rw[jl] at a7;cases a7
        |some _=>exact info_of_underlying jl
      simp only[mkT,hu];rw[show d+(m+1)=(d+m)+1 from rfl,Instr.checkKey];simp only[zw,run_underlying hu,zi];simp only[Std.Legacy.Range.forIn_eq_forIn_range',Std.Legacy.Range.size,Nat.sub_zero,Nat.add_one_sub_one,Nat.div_one]
      have key:∀ (k i:Nat),fits (List.replicate k s').flatten (cs.drop (i*s'.length))=true->(forIn (List.range' i k) PUnit.unit λi (_:PUnit)=>(do
        Instr.checkKey e (d+m) el (<-part el cs.toArray (i*(<-sizeOf el)))
        pure (ForInStep.yield PUnit.unit):Sem (ForInStep PUnit))).run P w=.ok PUnit.unit w:=by
       intro k;induction k with
       |zero=>intro i _;simp
       |succ k s8 =>intro i hf;rw[xD,List.flatten_cons] at hf;obtain⟨a1,a2⟩:=N8 hf;rw[List.drop_drop,<-Nat.succ_mul] at a2;have p1:=Gs (xs:=cs.toArray) (off:=i*s'.length) a7 hc (by simpa using a1) w;have p2:=RC e d m el s' a7 w _ a1;have hr:=s8 (i+1) a2;simp only[List.range'_succ,List.forIn_cons,zw,run_sizeOf w hi,hc,zi,p1,p2,x5];exact hr
      have:=key n 0 (by simpa using h1);simp at this |-;rw[this];rfl
     .cases h
    .cases h
   case struct fs =>
    simp only at h;split at h
    .cases h
    .simp only[mkT,hu];rw[show d+(m+1)=(d+m)+1 from rfl,Instr.checkKey];simp only[zw,run_underlying hu,zi];rw[<-Array.forIn_toList];have:=O0 (e:=e) (d:=d) rfl (RC e d m) (xs:=cs.toArray) w fs.toList 0 s h (by simpa using h1);simp at this |-;rw[this];rfl
   all_goals cases h
theorem Ij {t:TypeId}{d:TypeDesc}(hd:P.underlying t=some d) (hk:(∃ fs,d=.struct fs)\/∃ n e,d=.array n e) (a:Array Value):mkT P t a.toList=.agg a:=by unfold mkT;rcases hk with⟨fs,rfl⟩|⟨n,e,rfl⟩<;>simp[hd]
theorem ZV {mk:MK}{t:TypeId}{d:TypeDesc}(hd:P.underlying t=some d) (hm:Q5i P t mk d) {a:Value}(ha:ZO mk a=true) (e:Bool) (w':World):(Instr.checkKey e 10000 t a).run P w'=.ok () w':=by
 cases mk
 case agg s =>
  cases a<;>first|(cases ha;done)|skip
  rename_i x;have:=RC (P:=P) e 9992 8 t s hm.1 w' x.toList ha;rw[Ij hd hm.2] at this;exact this
 all_goals (cases a<;>first|(cases ha;done)|(simp only[Q5i] at hm;subst hm;exact Ky hd (by simp) e 9999 w'))
theorem Q0c {mk:MK}(hp:mk.plain=true) {t:TypeId}{d:TypeDesc}(hd:Q5i P t mk d) {k:Value}(hk:ZO mk k=true) (nv:Value) (c:Nat) {n:Nat}:∀ (es:List X1) (E:List MapEntry) (i:Nat),LERel ρ n E es->es.all (λe=>ZO mk e.1)=true ->
  (Qo k es=none/\Instr.findNow d k E i=some none/\QD k nv c es=(es++[(k,nv,c)],c+1)) \/
  (∃ j e e',Qo k es=some e/\es[j]?=some e/\E[j]?=some e'/\Instr.findNow d k E i=some (some (i+j,e'.val))/\Wf k e.1=true/\QD k nv c es=(es.set j (k,nv,e.2.2),c)):=by
 intro es;induction es with
 |nil =>
  intro E i hE _;have:E=[]:=by have:=hE.1;simpa using this
  subst this;exact .inl ⟨rfl,rfl,rfl⟩
 |cons kv es ih =>
  intro E i hE ae;obtain⟨e,E',rfl,he,bX⟩:=hE.cons_inv;simp only[zS,z4] at ae;have hs:Instr.sameNow d k e.key=some (Wf k kv.1):=by rw[he.1];exact Q0h hp hd hk ae.1
  cases hq:Wf k kv.1 with
  |true =>refine .inr ⟨0,kv,e,by simp[Qo,hq],rfl,rfl,?_,hq,by simp[QD,hq]⟩;simp[Instr.findNow,hs,hq]
  |false =>
   rcases ih E' (i+1) bX ae.2 with⟨h1,h2,h3⟩|⟨j,a,a',h1,h2,h3,h4,h5,h6⟩
   .refine .inl ⟨by simp[Qo,hq,h1],by simp[Instr.findNow,hs,hq,h2],by simp[QD,hq,h3]⟩
   .refine .inr ⟨j+1,a,a',by simp[Qo,hq,h1],by simpa using h2,by simpa using h3,?_,h5,by simp[QD,hq,h6]⟩;simp[Instr.findNow,hs,hq,h4];omega
theorem Bc {t:TypeId}{d:TypeDesc}(hd:P.underlying t=some d) {k:Value}{E:List MapEntry}{r:Option (Nat×Value)}(h:Instr.findNow d k E 0=some r) (w':World):(Instr.findKey t k E).run P w'=.ok r w':=by simp[Instr.findKey,Q0 hd,h]
theorem OA {s:List MK}{t:TypeId}{d:TypeDesc}(hu:P.underlying t=some d) (hd:Q5i P t (.agg s) d) {k:Value}(hk:ZO (.agg s) k=true) (nv:Value) (c:Nat) {n:Nat}:∀ (es:List X1) (E:List MapEntry) (i:Nat),LERel ρ n E es->es.all (λe=>ZO (.agg s) e.1)=true ->
  (Qo k es=none/\(∀ w',(Instr.findAsking t k E i).run P w'=.ok none w')/\QD k nv c es=(es++[(k,nv,c)],c+1)) \/
  (∃ j e e',Qo k es=some e/\es[j]?=some e/\E[j]?=some e'/\(∀ w',(Instr.findAsking t k E i).run P w'=.ok (some (i+j,e'.val)) w')/\Wf k e.1=true/\QD k nv c es=(es.set j (k,nv,e.2.2),c)):=by
 intro es;induction es with
 |nil =>
  intro E i hE _;have:E=[]:=by have:=hE.1;simpa using this
  subst this;exact .inl ⟨rfl,λw'=>by simp[Instr.findAsking],rfl⟩
 |cons kv es ih =>
  intro E i hE ae;obtain⟨e,E',rfl,he,bX⟩:=hE.cons_inv;simp only[zS,z4] at ae;have hs:∀ w',(Op.equal t k e.key).run P w'=.ok (Wf k kv.1) w':=λw'=>by
   rw[he.1];have h1:=ae.1;cases k<;>first|(cases hk;done)|skip
   rename_i x;generalize dw:kv.1=y at h1 |-;cases y<;>first|(cases h1;done)|skip
   rename_i y;have:=N6 9992 8 t s hd.1 w' x.toList y.toList hk h1;rw[Ij hu hd.2,Ij hu hd.2] at this;exact this
  cases hq:Wf k kv.1 with
  |true =>refine .inr ⟨0,kv,e,by simp[Qo,hq],rfl,rfl,λw'=>?_,hq,by simp[QD,hq]⟩;simp[Instr.findAsking,hs,hq]
  |false =>
   rcases ih E' (i+1) bX ae.2 with⟨h1,h2,h3⟩|⟨j,a,a',h1,h2,h3,h4,h5,h6⟩
   .refine .inl ⟨by simp[Qo,hq,h1],λw'=>by simp[Instr.findAsking,hs,hq,h2],by simp[QD,hq,h3]⟩
   .refine .inr ⟨j+1,a,a',by simp[Qo,hq,h1],by simpa using h2,by simpa using h3,λw'=>?_,h5,by simp[QD,hq,h6]⟩;simp[Instr.findAsking,hs,hq,h4];omega
theorem I1 {t:TypeId}{s:List MK}{d:TypeDesc}(hd:Q5i P t (.agg s) d) {k:Value}{e:MapEntry}{E:List MapEntry}{i:Nat}:Instr.findNow d k (e::E) i=none:=by rcases hd.2 with⟨fs,rfl⟩|⟨n,el,rfl⟩<;>simp[Instr.findNow,Instr.sameNow]
theorem KS {mk:MK}{t:TypeId}{d:TypeDesc}(hu:P.underlying t=some d) (hd:Q5i P t mk d) {k:Value}(hk:ZO mk k=true) (nv:Value) (c:Nat) {n:Nat}(es:List X1) (E:List MapEntry) (hE:LERel ρ n E es) (ae:es.all (λe=>ZO mk e.1)=true) :
  (Qo k es=none/\(∀ w',(Instr.findKey t k E).run P w'=.ok none w')/\QD k nv c es=(es++[(k,nv,c)],c+1)) \/
  (∃ j e e',Qo k es=some e/\es[j]?=some e/\E[j]?=some e'/\(∀ w',(Instr.findKey t k E).run P w'=.ok (some (0+j,e'.val)) w')/\Wf k e.1=true/\QD k nv c es=(es.set j (k,nv,e.2.2),c)):=by
 cases hp:mk.plain with
 |true =>
  rcases Q0c hp hd hk nv c es E 0 hE ae with⟨h1,h2,h3⟩|⟨j,a,a',h1,h2,h3,h4,h5,h6⟩
  .exact .inl ⟨h1,Bc hu h2,h3⟩
  .exact .inr ⟨j,a,a',h1,h2,h3,Bc hu h4,h5,h6⟩
 |false =>
  cases mk with
  |agg s =>
   have e1:∀ w',(Instr.findKey t k E).run P w'=(Instr.findAsking t k E 0).run P w':=λw'=>by
    cases E with
    |nil=>simp[Instr.findKey,Q0 hu,Instr.findNow,Instr.findAsking]
    |cons e E=>simp[Instr.findKey,Q0 hu,I1 hd]
   rcases OA hu hd hk nv c es E 0 hE ae with⟨h1,h2,h3⟩|⟨j,a,a',h1,h2,h3,h4,h5,h6⟩
   .exact .inl ⟨h1,λw'=>by rw[e1];exact h2 w',h3⟩
   .exact .inr ⟨j,a,a',h1,h2,h3,λw'=>by rw[e1];exact h4 w',h5,h6⟩
  |_=>cases hp
theorem W0 {m:Nat}{es:List X1}{clock:Nat}{wr:Bool}(h:M.mapAt m=some (es,clock,wr)):M.get m=some (.obj (.map es clock) wr):=by
 unfold Heap.mapAt at h;split at h
 .rename_i he;simp at h;obtain⟨rfl,rfl,rfl⟩:=h;exact he
 .cases h
theorem W6 (hH:HRel ρ M w) {m:Nat}{es:List X1}{clock:Nat}{wr:Bool}(h:M.mapAt m=some (es,clock,wr)) {c:Value}(hv:VRel ρ M.n (.map (some m)) c) :
  ∃ p entries,c=.map (some p.blk)/\ρ m=some p/\w.heap[p.blk]?=some (.map entries clock)/\LERel ρ M.n entries.toList es:=by
 obtain⟨p,hp,_,O,h1,h2⟩:=hH.live m _ (W0 h);obtain⟨entries,rfl,h3⟩:=ORel.q0q.1 h2;obtain⟨r,rfl,_,hr⟩:=hv.q1i;exact⟨p,entries,by rw[hr p hp],hp,h1,h3⟩
theorem QH {w':World}{r:Nat}{O:Obj}(h:w'.heap[r]?=some O) (hc:∀ c e f,O≠.cells c e f):(getObj r).run P w'=.ok O w':=by cases O<;>first|(exact absurd rfl (hc _ _ _))|simp[getObj,Sem.run,h]
theorem Z1 {w':World}{r:Nat}{O O':Obj}(h:w'.heap[r]?=some O) (hc:∀ c e f,O≠.cells c e f):(setObj r O').run P w'=.ok () (TX w' r O'):=by cases O<;>first|(exact absurd rfl (hc _ _ _))|simp[setObj,Sem.run,h,TX]
theorem Lz {xs:List Value}{s:ByteArray}(h:Pr xs=some s):∃ ns:List Int,xs=ns.map (Value.int .u8)/\s=⟨(ns.map λn=>n.toNat.toUInt8).toArray⟩:=by
 unfold Pr at h;rw[zq] at h;obtain⟨bs,h1,rfl⟩:=h;have key:∀ (xs:List Value) (bs:List UInt8),xs.mapM FO=some bs->∃ ns:List Int,xs=ns.map (Value.int .u8)/\bs=ns.map λn=>n.toNat.toUInt8:=by
  intro xs;induction xs with
  |nil=>intro bs h;simp at h;subst h;exact⟨[],rfl,rfl⟩
  |cons x xs ih =>
   intro bs h;rw[xl] at h;cases hx:FO x with
   |none=>simp[hx] at h
   |some b =>
    cases hm:xs.mapM FO with
    |none=>simp[hx,hm] at h
    |some vl =>
     simp[hx,hm] at h;obtain⟨ns,h1,h2⟩:=ih _ hm;unfold FO at hx;split at hx
     .rename_i n;simp at hx;exact⟨n::ns,by simp[h1],by rw[<-h,h2,<-hx];rfl⟩
     .cases hx
 obtain⟨ns,h2,h3⟩:=key xs bs h1;exact⟨ns,h2,by rw[h3]⟩
theorem Q6t {n:Nat}{ns:List Int}{us:List Value}(h:LRel ρ n (ns.map (Value.int .u8)) us):us=ns.map (Value.int .u8):=by
 apply zZ;intro i;cases hi:(ns.map (Value.int .u8))[i]? with
 |none =>have h1:(ns.map (Value.int .u8)).length<=i:=List.getElem?_eq_none_iff.1 hi;exact List.getElem?_eq_none_iff.2 (by rw[<-h.1];exact h1)
 |some v =>
  obtain⟨c,hc,hv⟩:=h.get hi;rw[hc];rw[zU] at hi;cases hn:ns[i]? with
  |none=>rw[hn] at hi;cases hi
  |some x=>rw[hn] at hi;obtain rfl:=osj hi;rw[hv.q0g]
theorem OT (ns:List Int):∀ (acc:ByteArray),ns.foldl (λr n=>r.push (UInt8.ofNat n.toNat)) acc=⟨acc.data++(ns.map λn=>n.toNat.toUInt8).toArray⟩:=by
 induction ns with
 |nil=>intro acc;simp
 |cons n ns ih =>intro acc;rw[wc,ih];apply ByteArray.ext;simp[ByteArray.push]
theorem Q5m {n:Nat}(b:Nat):∀ (es:List X1) (E:List MapEntry),LERel ρ n E es->∀ e,es.find? (λe=>e.2.2==b)=some e->∃ e',E.find? (λx=>x.born==b)=some e'/\Z43 ρ n e' e:=by
 intro es;induction es with
 |nil=>intro E _ e h;simp at h
 |cons kv es ih =>
  intro E hE e h;obtain⟨x,E',rfl,hx,bX⟩:=hE.cons_inv;cases hb:kv.2.2==b with
  |true =>simp only[List.find?_cons,hb] at h;obtain rfl:=osj h;exact⟨x,by simp only[List.find?_cons,hx.2.1,hb],hx⟩
  |false =>simp only[List.find?_cons,hb] at h;obtain⟨e',h1,h2⟩:=ih E' bX e h;exact⟨e',by simp only[List.find?_cons,hx.2.1,hb];exact h1,h2⟩
theorem Q05 {u:TypeId}(hc:P.cellsOf u≠0) (n off:Nat) (h0:off=0) (hn:P.cellsOf u<=n):liesAt P P.depth u (n / P.cellsOf u) off u 1=true:=by have hd:P.depth=(2*(P.types.size+Made.depth)+1)+1:=rfl;have h1:1<=n / P.cellsOf u:=(Nat.one_le_div_iff (by omega)).2 hn;subst h0;rw[hd];simp only[liesAt,zx];left;rw[hd];simp[rowAt,hc,sameLayout,h1]
set_option maxHeartbeats 1000000 in
theorem EY {o:Oper}{xo:XOp}(hc:SY P o.op=some xo) (hq:xo.quiet=true) (hH:HRel ρ M w) (hE:∀ x,XI x=true->VRel ρ M.n (Q5 env x) (ev x))
  (h:ZL xo (Q5 env) M=some (v,M')):M'=M/\AG P ρ M w v (execOp ev o):=by
 obtain⟨dst,op,ty,pos,after,guard⟩:=o;simp only at hc;unfold SY at hc;split at hc
 .cases hc
 rename_i ai;simp only[xO,xm] at ai;cases op<;>simp only[Op.operands] at ai hc
 case binOp ji t x y yt =>
  simp at ai;have hx:=hE x ai.1;have hy:=hE y ai.2
  have key:∀ (kd:Nat) (neg:Bool),ji=(if neg then .neq else .eql)->((kd=0/\∃ e i,P.underlying t=some (.pointer e)/\P.info? e=some i)\/(kd=1/\∃ e,P.underlying t=some (.slice e)) \/
   (kd=2/\∃ k e,P.underlying t=some (.map k e))\/(kd=3/\∃ p q s,P.underlying t=some (.func p q s)))->xo=.eqNil kd neg x y->M'=M/\AG P ρ M w v (execOp ev ⟨dst,.binOp ji t x y yt,ty,pos,after,guard⟩):=by
   intro kd neg ll hk mF;subst mF;simp only[ZL] at h;split at h
   .rename_i r hs;simp at h;obtain⟨rfl,rfl⟩:=h;obtain⟨h1,h2⟩:=Ot hH hk hx hy hs;rw[ll];exact⟨rfl,Ol neg t x y yt ty pos after dst guard rfl rfl (λop w'=>CN op t x y h2 w') (h1 neg)⟩
   .cases h
  have jv:∀ (neg:Bool),ji=(if neg then .neq else .eql)->((∃ fs,P.underlying t=some (.struct fs))\/∃ n e,P.underlying t=some (.array n e))->SM P neg t x y=some xo->M'=M/\AG P ρ M w v (execOp ev ⟨dst,.binOp ji t x y yt,ty,pos,after,guard⟩):=by
   intro neg ll hk mF;unfold SM at mF;split at mF
   .cases mF
   .rename_i p5;obtain⟨s,hs,rfl⟩:=zq.1 mF;simp only[ZL] at h;split at h
    .rename_i a b ha hb;split at h
     .rename_i fm;simp at h;obtain⟨rfl,rfl⟩:=h;rw[ha] at hx;rw[hb] at hy;obtain⟨ca,s9,nj⟩:=hx.q1l;obtain⟨cb,s_,pg⟩:=hy.q1l;have ea:=Tl fm.1 nj;have eb:=Tl fm.2 pg;have e1:mkT P t a.toList=.agg a:=by
       unfold mkT;rcases hk with⟨fs,hu⟩|⟨n,e,hu⟩<;>simp[hu]
      have e2:mkT P t b.toList=.agg b:=by unfold mkT;rcases hk with⟨fs,hu⟩|⟨n,e,hu⟩<;>simp[hu]
      have aX:=λw'=>N6 9992 8 t s hs w' a.toList b.toList fm.1 fm.2;rw[e1,e2] at aX;have ta:ev x=.agg a:=by rw[s9];congr 1;rw[<-Array.toList_inj];simpa using ea
      have tc:ev y=.agg b:=by rw[s_];congr 1;rw[<-Array.toList_inj];simpa using eb
      rw[ll];refine⟨rfl,Ol neg t x y yt ty pos after dst guard ta tc (λop w'=>run_eqGuard_agg w' op t x y a b (by simpa using p5)) (λw'=>?_)⟩;have hr:=aX w';cases neg
      .simp only[zy,if_false];rw[run_eql_struct w' t a b,show (10000:Nat)=9992+8 from rfl,hr];rfl
      .simp only[zB];rw[run_neq_struct w' t a b,show (10000:Nat)=9992+8 from rfl,hr];rfl
     .cases h
    .cases h
  split at hc
  .rename_i e hu;cases hi:P.info? e with
   |none=>simp[hi] at hc
   |some i =>simp[hi] at hc;exact key 0 false rfl (.inl ⟨rfl,e,i,hu,hi⟩) hc.2.symm
  .rename_i e hu;cases hi:P.info? e with
   |none=>simp[hi] at hc
   |some i =>simp[hi] at hc;exact key 0 true rfl (.inl ⟨rfl,e,i,hu,hi⟩) hc.2.symm
  .rename_i e hu;simp at hc;exact key 1 false rfl (.inr (.inl ⟨rfl,e,hu⟩)) hc.symm
  .rename_i k e hu;simp at hc;exact key 2 false rfl (.inr (.inr (.inl ⟨rfl,k,e,hu⟩))) hc.symm
  .rename_i p q r hu;simp at hc;exact key 3 false rfl (.inr (.inr (.inr ⟨rfl,p,q,r,hu⟩))) hc.symm
  .rename_i e hu;simp at hc;exact key 1 true rfl (.inr (.inl ⟨rfl,e,hu⟩)) hc.symm
  .rename_i k e hu;simp at hc;exact key 2 true rfl (.inr (.inr (.inl ⟨rfl,k,e,hu⟩))) hc.symm
  .rename_i p q r hu;simp at hc;exact key 3 true rfl (.inr (.inr (.inr ⟨rfl,p,q,r,hu⟩))) hc.symm
  .rename_i fs hu;exact jv false rfl (.inl ⟨fs,hu⟩) hc
  .rename_i fs hu;exact jv true rfl (.inl ⟨fs,hu⟩) hc
  .rename_i n e hu;exact jv false rfl (.inr ⟨n,e,hu⟩) hc
  .rename_i n e hu;exact jv true rfl (.inr ⟨n,e,hu⟩) hc
  .cases hc
 case makeMap t r=>cases r<;>simp at hc;subst hc;cases hq
 case mapUpdate t m k x =>
  split at hc
  .rename_i kt e hu;cases hk:EK P kt with
   |none=>simp[hk] at hc
   |some mk=>simp[hk] at hc;subst hc;cases hq
  .cases hc
 case insert t m k x =>
  split at hc
  .rename_i kt e hu;cases hk:EK P kt with
   |none=>simp[hk] at hc
   |some mk=>simp[hk] at hc;subst hc;cases hq
  .cases hc
 case mapEntry t m k =>
  split at hc
  .rename_i kt e hu;cases hk:EK P kt with
   |none=>simp[hk] at hc
   |some mk =>
    cases bZ:P.info? e with
    |none=>simp[hk,bZ] at hc
    |some inf =>
     cases hz:inf.zero with
     |none=>simp[hk,bZ,hz] at hc
     |some z=>simp[hk,bZ,hz] at hc;obtain⟨_,rfl⟩:=hc;cases hq
  .cases hc
 case entryStore t m s x=>simp at hc;subst hc;cases hq
 case range t x =>
  split at hc
  .simp at hc;subst hc;cases hq
  .cases hc
 case next x b=>cases b<;>simp at hc;subst hc;cases hq
 case lookup t x i iW =>
  simp at ai;have hx:=hE x ai.1;have hi:=hE i ai.2;split at hc
  .rename_i kt e hu;cases hk:EK P kt with
   |none=>simp[hk] at hc
   |some mk =>
    cases bZ:P.info? e with
    |none=>simp[hk,bZ] at hc
    |some inf =>
     cases hz:inf.zero with
     |none=>simp[hk,bZ,hz] at hc
     |some z =>
      simp[hk,bZ,hz] at hc;obtain⟨ln,rfl⟩:=hc;obtain⟨d,hd,ew⟩:=Ge hk;have j7:∀ w',(zeroValue e).run P w'=.ok z w':=λw'=>Zu bZ hz w';have d_:VRel ρ M.n z z:=Uk ln;simp only[ZL] at h;split at h
      .rename_i bN;have p8:ev i=Q5 env i:=TL bN hi;split at h
       .rename_i bw;rw[bw] at hx;obtain cm:=hx.q0u;simp at h;obtain⟨rfl,rfl⟩:=h;refine⟨rfl,if iW then .tuple #[z,.bool false] else z,?_,λw' _=>?_⟩
        .cases iW
         .exact d_
         .exact VRel.q0j (LRel.cons d_ (LRel.cons (.bool _) (LRel.nil _ _)))
        .simp only[execOp];simp only[Instr.lookup,zw,Q0 hu,zi,cm,x5,p8,ZV hd ew bN];rw[Bc hd (r:=none) rfl];cases iW<;>simp[j7]
       .rename_i m bw;rw[bw] at hx;split at h
        .rename_i es clock wr aG;split at h
         .rename_i ae;obtain⟨p,entries,cm,hp,aF,aH⟩:=W6 hH aG hx;have aX:∀ w',Like ρ w w'->(getObj p.blk).run P w'=.ok (.map entries clock) w':=λw' hl =>
           QH (by rw[hl.blk m p hp];exact aF) (λ_ _ _ e=>by cases e)
          rcases KS hd ew bN (.bool true) 0 es entries.toList aH ae with⟨h1,h2,_⟩|⟨j,a,a',h1,h2,h3,h4,_,_⟩
          .rw[h1] at h;simp at h;obtain⟨rfl,rfl⟩:=h;refine⟨rfl,if iW then .tuple #[z,.bool false] else z,?_,λw' hl=>?_⟩
           .cases iW
            .exact d_
            .exact VRel.q0j (LRel.cons d_ (LRel.cons (.bool _) (LRel.nil _ _)))
           .simp only[execOp];simp only[Instr.lookup,zw,Q0 hu,zi,cm,aX w' hl,x5,p8,ZV hd ew bN];rw[h2];cases iW<;>simp[j7]
          .rw[h1] at h;simp at h;obtain⟨rfl,rfl⟩:=h;have nk:=(aH.2 j a' a h3 h2).2.2;refine⟨rfl,if iW then .tuple #[a'.val,.bool true] else a'.val,?_,λw' hl=>?_⟩
           .cases iW
            .exact nk
            .exact VRel.q0j (LRel.cons nk (LRel.cons (.bool _) (LRel.nil _ _)))
           .simp only[execOp];simp only[Instr.lookup,zw,Q0 hu,zi,cm,aX w' hl,x5,p8,ZV hd ew bN];rw[h4];cases iW<;>simp
         .cases h
        .cases h
       .cases h
      .cases h
  .cases hc
 case entry x =>
  simp at ai;have hx:=hE x ai;simp at hc;subst hc;simp only[ZL] at h;split at h
  .rename_i i bw;rw[bw] at hx;split at h
   .rename_i m since seen last wr hb;split at h
    .rename_i es clock lq b aG cI;split at h
     .rename_i cz;split at h
      .rename_i e cU;split at h
       rotate_left
       .cases h
       rename_i aU;simp at h;obtain⟨rfl,rfl⟩:=h;obtain⟨p,hp,⟨_,ez⟩,O,hO,rm,rfl,ph⟩:=hH.live i _ hb;obtain⟨q,entries,h_,cA,aF,aH⟩:=W6 hH aG ph;simp at h_;obtain⟨_,_,cm⟩:=hx.q0w hp;rw[ez] at cm;obtain⟨e',j8,gC⟩:=Q5m b es entries.toList aH e cU;rw[Array.find?_toList] at j8;have eJ:(seen.toArray).back?=some b:=by simpa using cI
       have dw:VRel ρ M.n e.1 e'.key:=by rw[gC.1];exact Uk aU
       refine⟨rfl,.tuple #[e'.key,e'.val],VRel.q0j (LRel.cons dw (LRel.cons gC.2.2 (LRel.nil _ _))),λw' hl=>?_⟩;have h1:=QH (P:=P) (w':=w') (r:=p.blk) (by rw[hl.blk i p hp];exact hO) (λ_ _ _ e=>by cases e);have h2:=QH (P:=P) (w':=w') (r:=q.blk) (by rw[hl.blk m q cA];exact aF) (λ_ _ _ e=>by cases e);simp only[execOp];simp only[Instr.entry,cm,xh,zw,h1,zi,eJ];rw[h_,];simp[h2,cz,j8]
      .cases h
     .cases h
    .cases h
   .cases h
  .cases h
 case convert s d x =>
  simp at ai;have hx:=hE x ai;split at hc
  .rename_i t hs hd;cases hi:P.info? t with
   |none=>simp[hi] at hc
   |some inf =>
    simp[hi] at hc;obtain⟨aL,rfl⟩:=hc;simp only[ZL] at h;split at h
    .rename_i bw;rw[bw] at hx;obtain cm:=hx.q0o;simp at h;obtain⟨rfl,rfl⟩:=h;refine⟨rfl,Qt (c:=.pointer none) (λw'=>?_) .nilPtr⟩;simp[execOp,cm,convert,Q0 hs,Q0 hd,Conv.unsafePointer]
    .rename_i i o bw;rw[bw] at hx;split at h
     .rename_i c e wr tight hb;split at h
      .rename_i af;simp at h;obtain⟨rfl,rfl⟩:=h;obtain⟨p,hp,_,_,hl,⟨C,e',f,hC,pj,_⟩,_,_⟩:=hH.live i _ hb;obtain⟨_,_,cm⟩:=hx.q0w hp;refine⟨rfl,ev x,hx,λw' p9=>?_⟩;have ez:w'.shape? p.blk=some (e',C.size):=by
        have:w'.heap[p.blk]?=some (.cells C e' f):=by rw[p9.blk i p hp];exact hC
        simp[World.shape?,this]
       simp only[execOp,cm];have:=Go.Lib.run_to_unsafe (P:=P) w' (src:=s) (dst:=d) ⟨p.blk,p.shift+o,none⟩ hs hd hi (by simpa using aL) ez (by show p.shift+o<C.size;omega);simp[this]
      .cases h
     .cases h
    .cases h
  .rename_i u hs hd;cases hi:P.info? u with
   |none=>simp[hi] at hc
   |some inf =>
    simp[hi] at hc;obtain⟨⟨aL,td⟩,rfl⟩:=hc;simp only[ZL] at h;split at h
    .rename_i bw;rw[bw] at hx;obtain cm:=hx.q0o;simp at h;obtain⟨rfl,rfl⟩:=h;refine⟨rfl,Qt (c:=.pointer none) (λw'=>?_) .nilPtr⟩;simp[execOp,cm,convert,Q0 hs,Q0 hd,Conv.unsafePointer]
    .rename_i i o bw;rw[bw] at hx;split at h
     .rename_i c e hb;split at h
      .rename_i af;obtain⟨rfl,het,hle⟩:=af;simp at h;obtain⟨rfl,rfl⟩:=h;obtain⟨p,hp,_,_,hl,⟨C,e',f,hC,pj,lr⟩,_,h6⟩:=hH.live i _ hb;obtain⟨_,_,cm⟩:=hx.q0w hp;have tf:=(h6 rfl).1 rfl;refine⟨rfl,ev x,hx,λw' p9=>?_⟩;have ez:w'.shape? p.blk=some (u,C.size):=by
        have:w'.heap[p.blk]?=some (.cells C e' f):=by rw[p9.blk i p hp];exact hC
        simp[World.shape?,this,lr,het]
       simp only[execOp,cm];rw[zR] at *
       have:=Go.Lib.run_from_unsafe (P:=P) w' (src:=s) (dst:=d) ⟨p.blk,p.shift,none⟩ hs hd hi ez (Q05 td _ _ tf (by omega));simp[this]
      .cases h
     .cases h
    .cases h
  .rename_i e hs hd;split at hc
   .rename_i he;simp at hc;subst hc;simp only[ZL] at h;split at h
    .rename_i a n c bw;rw[bw] at hx;split at h
     .rename_i xs bz;split at h
      .rename_i s' p_;simp at h;obtain⟨rfl,rfl⟩:=h;obtain⟨ns,mG,rfl⟩:=Lz p_;subst mG;obtain⟨hlen,us,ef,⟨a',av,cm⟩,aX⟩:=Fc hH bz hx;have nq:=Q6t ef;refine⟨rfl,.string ⟨(ns.map λn=>n.toNat.toUInt8).toArray⟩,.string _,λw' hl=>?_⟩;have hr:=aX w' hl;rw[cm] at hr;simp only[execOp,cm];cases a' with
       |none =>
        simp[Builtin.firstCells] at hr;have:ns=[]:=by rw[nq] at hr;simpa using hr.symm
        subst this;simp[convert,Q0 hs,Q0 hd,Q0 he,Conv.bytesToString];rfl
       |some a' =>simp only[Builtin.firstCells,Nat.mul_one] at hr;rw[nq] at hr;have:=run_bytesToString (P:=P) w' a' n av ns hr;rw[OT] at this;simp[convert,Q0 hs,Q0 hd,Q0 he,this]
      .cases h
     .cases h
    .cases h
   .cases hc
  .split at hc
   .simp at hc;subst hc;cases hq
   .cases hc
  .cases hc
 case call c =>
  split at hc
  .rename_i aJ;split at hc
   .rename_i t x dJ cN;split at hc
    .rename_i kt e hu;simp at hc;subst hc;have bF:c.args=#[x]:=Array.ext' (by simpa using cN);have hx:VRel ρ M.n (Q5 env x) (ev x):=hE x (by simpa [Call.operands,aJ,bF] using ai);simp only[ZL] at h;split at h
     .rename_i bw;rw[bw] at hx;obtain cm:=hx.q0u;simp at h;obtain⟨rfl,rfl⟩:=h;refine⟨rfl,Qt (c:=.int .i64 0) (λw'=>?_) (.int _ _)⟩;simp[execOp,resolve,aJ,bF,invoke,builtin,Builtin.len_,dJ,cm,Q0 hu,goInt]
     .rename_i m bw;rw[bw] at hx;split at h
      .rename_i es clock wr aG;simp at h;obtain⟨rfl,rfl⟩:=h;obtain⟨p,entries,cm,hp,aF,aH⟩:=W6 hH aG hx;refine⟨rfl,.int .i64 es.length,.int _ _,λw' hl=>?_⟩;have h1:=QH (P:=P) (w':=w') (r:=p.blk) (by rw[hl.blk m p hp];exact aF) (λ_ _ _ e=>by cases e);have h2:entries.size=es.length:=by have:=aH.1;simpa using this
       simp[execOp,resolve,aJ,bF,invoke,builtin,Builtin.len_,dJ,cm,Q0 hu,goInt,h1,h2]
      .cases h
     .cases h
    .cases hc
   .cases hc
  .split at hc
   .split at hc
    .rename_i kt e hu;cases hk:EK P kt with
     |none=>simp[hk] at hc
     |some mk=>simp[hk] at hc;subst hc;cases hq
    .cases hc
   .cases hc
  .split at hc
   .split at hc
    .rename_i e hu;cases hi:P.info? e with
     |none=>simp[hi] at hc
     |some inf=>simp[hi] at hc;subst hc;cases hq
    .cases hc
   .cases hc
  .split at hc
   .split at hc
    .rename_i e hu;cases hz:zeroOf P e with
     |none=>simp[hz] at hc
     |some z=>simp[hz] at hc;obtain⟨_,rfl⟩:=hc;cases hq
    .cases hc
   .cases hc
  .rename_i aJ;split at hc
   .rename_i x cN;simp at hc;subst hc;have bF:c.args=#[x]:=Array.ext' (by simpa using cN);have hx:VRel ρ M.n (Q5 env x) (ev x):=hE x (by simpa [Call.operands,aJ,bF] using ai);simp only[ZL] at h;split at h
    .rename_i bw;rw[bw] at hx;obtain cm:=hx.q0x;simp at h;obtain⟨rfl,rfl⟩:=h;refine⟨rfl,Qt (c:=.pointer none) (λw'=>?_) .nilPtr⟩;simp[execOp,resolve,aJ,bF,invoke,builtin,cm,Go.Lib.run_unsafeSliceData_nil]
    .rename_i i o n cap bw;rw[bw] at hx;split at h
     .rename_i di;simp at h;obtain⟨rfl,rfl⟩:=h;obtain⟨di,hs⟩:=di;obtain⟨blk,aF⟩:=Option.isSome_iff_exists.1 hs;obtain⟨p,hp,_⟩:=hH.live _ _ aF;obtain⟨a,av,cm,aQ,aU⟩:=hx.q1b;obtain⟨h1,_,o',rfl,_,ho⟩:=aU p hp;have eT:o'=o:=ho.resolve_right (λhh=>di hh.2);subst eT;refine⟨rfl,.pointer (some ⟨p.blk,p.shift+o',none⟩),.ptr _ _ _ aQ (λq hq=>by rw[hp] at hq;obtain rfl:=osj hq;rfl),λw' _=>?_⟩;simp[execOp,resolve,aJ,bF,invoke,builtin,cm,Go.Lib.run_unsafeSliceData_row w' _ _ _ n av (by omega)]
     .cases h
    .cases h
   .cases hc
  .split at hc
   .split at hc
    .split at hc
     .simp at hc;subst hc;cases hq
     .cases hc
    .cases hc
   .cases hc
  .cases hc
 all_goals cases hc
theorem getElem?_modify_list {α:Type}(l:List α) (j:Nat) (f:α->α) (k:Nat):(l.modify j f)[k]?=if j=k then (l[k]?).map f else l[k]?:=by rw[List.getElem?_modify];split<;>simp_all
theorem BR {n:Nat}{E:List MapEntry}{es:List X1}(h:LERel ρ n E es) (j:Nat) (f:MapEntry->MapEntry) (kv:X1) (hf:∀ e,E[j]?=some e->Z43 ρ n (f e) kv):LERel ρ n (E.modify j f) (es.set j kv):=by
 refine⟨by simp[h.1],λk e tg he dw=>?_⟩;rw[getElem?_modify_list] at he;rw[xN] at dw;by_cases dg:j=k
 .subst dg;simp only[zB] at he dw;split at dw
  .simp at dw;subst dw;rw[zq] at he;obtain⟨e0,lu,rfl⟩:=he;exact hf e0 lu
  .cases dw
 .simp only[dg,if_false] at he dw;exact h.2 k e tg he dw
theorem HW {n:Nat}{E:List MapEntry}{es:List X1}(h:LERel ρ n E es) {e:MapEntry}{kv:X1}(he:Z43 ρ n e kv):LERel ρ n (E++[e]) (es++[kv]):=by
 refine⟨by simp[h.1],λk a b ha hb=>?_⟩;have hl:=h.1;rw[List.getElem?_append] at ha hb;split at ha<;>split at hb<;>try omega
 .exact h.2 k a b ha hb
 .have hk:k-E.length=k-es.length:=by omega
  rw[hk] at ha;cases hz:k-es.length with
  |zero=>rw[hz] at ha hb;simp at ha hb;subst ha;subst hb;exact he
  |succ m=>rw[hz] at ha;simp at ha
theorem Cs {γ:Sort _}(f:Option Addr->Value->γ) (g:Array Value->γ) (p:Option Addr) (l:Value):Builtin.unsafeString_.match_3 (motive:=λ_=>γ) #[.pointer p,l] f g=f p l:=rfl
theorem Ab (ts:Array TypeId) (ty pt:TypeId) (h0:ts[0]?=some pt) (p:Option Addr) (w:World):(Builtin.unsafeString_ ts ty #[.pointer p,.int .i64 0]).run P w=.ok (.string .empty) w:=by
 have jx:IntKind.i64.max=9223372036854775807:=rfl;cases p with
 |none =>delta Builtin.unsafeString_;rw[Cs];simp[asInt,asIntOf,jx,h0]
 |some a =>delta Builtin.unsafeString_;rw[Cs];simp[asInt,asIntOf,jx,h0]
theorem AE:∀ (ns:List Int) (a:Addr) (acc:ByteArray) (w:World),(∀ j n,ns[j]?=some n->w.cell? (a.add j)=some (.int .u8 n)) ->
  (loadBytes a acc ns.length).run P w=.ok ⟨acc.data++(ns.map λn=>n.toNat.toUInt8).toArray⟩ w
 |[],a,acc,w,_=>by simp[loadBytes]
 |n::ns,a,acc,w,h=>by
  have h0:w.cell? a=some (.int .u8 n):=by have:=h 0 n rfl;simpa [Addr.add] using this
  have ih:=AE ns (a.add 1) (acc.push n.toNat.toUInt8) w (λj y hy=>by
   have:=h (j+1) y (by simpa using hy);have e:(a.add 1).add j=a.add (j+1):=by
    unfold Addr.add;by_cases hj:j=0
    .subst hj;simp
    .simp[hj];omega
   rw[e];exact this)
  simp only[zT,loadBytes,zw,run_load,h0,Result.andThen];rw[ih];congr 1;apply ByteArray.ext;simp[ByteArray.push]
theorem LQ {e:TypeId}(hc:P.cellsOf e=1) (count off n:Nat) (hn:off+n<=count):liesAt P P.depth e count off e n=true:=by have hd:P.depth=(2*(P.types.size+Made.depth)+1)+1:=rfl;rw[hd];simp only[liesAt,zx];left;rw[hd];simp[rowAt,hc,hn,sameLayout,Nat.mod_one]
theorem Q5z (ts:Array TypeId) (ty pt e:TypeId) (h0:ts[0]?=some pt) (hp:P.underlying pt=some (.pointer e)) (hc:P.cellsOf e=1) (a:Addr) (cells:Nat) (w:World) (ez:w.shape? a.block=some (e,cells)) (ns:List Int) (k:Int) (hk:0<k) (mH:ns.length=k.toNat) (hn:a.off+ns.length<=cells)
  (vn:k<=2 ^ 62) (bA:∀ j n,ns[j]?=some n->w.cell? (a.add j)=some (.int .u8 n)) :
  (Builtin.unsafeString_ ts ty #[.pointer (some a),.int .i64 k]).run P w=.ok (.string ⟨(ns.map λn=>n.toNat.toUInt8).toArray⟩) (w.freeze a k.toNat):=by
 have jx:IntKind.i64.max=9223372036854775807:=rfl;have vp:(2:Int) ^ 62=4611686018427387904:=by decide
 have pg:=AE (P:=P) ns a .empty w bA;have j9:=LQ (P:=P) hc (cells / P.cellsOf e) a.off ns.length (by rw[hc];simpa using hn);have h1:¬ k<0:=by omega
 have h2:¬ (9223372036854775807:Int)<k:=by omega
 have h3:¬ k=0:=by omega
 rw[<-mH];rw[mH] at pg j9;delta Builtin.unsafeString_;rw[Cs];simp[asInt,asIntOf,jx,h0,h1,h2,h3,variablesAt,ez,elemOf,Q0 hp,j9,pg,mH]
theorem HRel.freeze (hH:HRel ρ M w) {i:Nat}{p:Pl}{c:List Value}{e:El}{tight:Bool}(hp:ρ i=some p) (hb:M.get i=some (.cells c e true tight)) (off n:Nat) :
  HRel ρ (M.upd i (.cells c e false tight)) (w.freeze ⟨p.blk,off,none⟩ n)/\Ext ρ M w ρ (M.upd i (.cells c e false tight)) (w.freeze ⟨p.blk,off,none⟩ n):=by
 have hi:=M.lt hb;obtain⟨p',bm,hB⟩:=hH.live i _ hb;obtain rfl:p=p':=osj (hp.symm.trans bm);obtain⟨h1,h2,h3,⟨C,e',f,h4,gN⟩,h5,h6⟩:=hB;have bj:∀ k,k≠p.blk->(w.freeze ⟨p.blk,off,none⟩ n).heap[k]?=w.heap[k]?:=λk hk=>by
  unfold World.freeze;split
  .rfl
  .simp only[Array.getElem?_modify];rw[z0 (Ne.symm hk)]
 have aL:(w.freeze ⟨p.blk,off,none⟩ n).heap.size=w.heap.size:=by
  unfold World.freeze;split
  .rfl
  .simp
 obtain⟨f',dO⟩:∃ f',(w.freeze ⟨p.blk,off,none⟩ n).heap[p.blk]?=some (.cells C e' f'):=by
  unfold World.freeze;split
  .exact⟨f,h4⟩
  .simp only[Array.getElem?_modify,zB,h4];obtain⟨lo,cD⟩:=f;exact⟨_,rfl⟩
 have bA:∀ o,(w.freeze ⟨p.blk,off,none⟩ n).cell? ⟨p.blk,o,none⟩=w.cell? ⟨p.blk,o,none⟩:=λo=>by simp[World.cell?,dO,h4]
 have qa:(w.freeze ⟨p.blk,off,none⟩ n).os=w.os/\(w.freeze ⟨p.blk,off,none⟩ n).tape=w.tape/\(w.freeze ⟨p.blk,off,none⟩ n).output=w.output:=by unfold World.freeze;split<;>exact⟨rfl,rfl,rfl⟩
 have hE:Ext ρ M w ρ (M.upd i (.cells c e false tight)) (w.freeze ⟨p.blk,off,none⟩ n):=by
  .refine⟨qa.1,qa.2.1,qa.2.2,by rw[aL];exact z7 _,λB hB hW=>bj B (λe=>hW ⟨i,p,_,hp,hb,rfl,e.symm⟩),?_,z7 _,λ_ _ _ h=>h⟩;rintro B _ ⟨j,q,b,hq,de,hw,rfl⟩;by_cases aM:j=i
   .subst aM;exact⟨j,q,_,hq,hb,rfl,rfl⟩
   .rw[Heap.q0b _ _ aM] at de;exact⟨j,q,b,hq,de,hw,rfl⟩
 refine⟨hH.ext ⟨λj b hj=>?_,λj hj=>?_,λj q hq=>by rw[aL];exact hH.lt j q hq,λj k q r b dg hq hr cf hw hx=>?_⟩ hE,hE⟩
 .by_cases aM:j=i
  .subst aM;rw[Heap.q0d _ _ hi] at hj;obtain rfl:=osj hj;exact⟨p,hp,h1,h2,h3,⟨C,e',f',dO,gN⟩,λk v hk=>by rw[bA];exact h5 k v hk,λh=>by cases h⟩
  .rw[Heap.q0b _ _ aM] at hj;obtain⟨q,hq,fN⟩:=hH.live j b hj;exact⟨q,hq,fN.other (z7 _) (λ_ _ _ h=>h) p.blk C e' f h4 (λhx=>hH.sep i j p q _ (Ne.symm aM) hp hq hb rfl hx) ⟨C,f',dO,z7 _⟩ (λk hk _=>bj k hk) (hH.lt j q hq)⟩
 .by_cases aM:j=i
  .subst aM;rw[Heap.q0d _ _ hi] at hj;cases hj
  .rw[Heap.q0b _ _ aM] at hj;exact hH.dead j hj
 .by_cases aM:j=i
  .subst aM;rw[Heap.q0d _ _ hi] at cf;obtain rfl:=osj cf;cases hw
  .rw[Heap.q0b _ _ aM] at cf;exact hH.sep j k q r b dg hq hr cf hw hx
theorem HRel.freezeOut (hH:HRel ρ M w) {i:Nat}{p:Pl}{c:List Value}{e:El}{tight:Bool}(hp:ρ i=some p) (hb:M.get i=some (.cells c e true tight)) {C:Array Value}{e':TypeId}{f:Nat×Nat}(hC:w.heap[p.blk]?=some (.cells C e' f)) (hf:f.1=f.2) :
  HRel ρ M (w.freeze ⟨p.blk,C.size,none⟩ 1)/\Ext ρ M w ρ M (w.freeze ⟨p.blk,C.size,none⟩ 1):=by
 have bj:∀ k,k≠p.blk->(w.freeze ⟨p.blk,C.size,none⟩ 1).heap[k]?=w.heap[k]?:=λk hk=>by unfold World.freeze;rw[z0 (by omega)];simp only[Array.getElem?_modify];rw[z0 (Ne.symm hk)]
 have aL:(w.freeze ⟨p.blk,C.size,none⟩ 1).heap.size=w.heap.size:=by unfold World.freeze;rw[z0 (by omega)];simp
 have dO:(w.freeze ⟨p.blk,C.size,none⟩ 1).heap[p.blk]?=some (.cells C e' (C.size,C.size+1)):=by unfold World.freeze;rw[z0 (by omega)];simp only[Array.getElem?_modify,zB,hC];obtain⟨lo,cD⟩:=f;obtain rfl:lo=cD:=hf;simp
 have bA:∀ o,(w.freeze ⟨p.blk,C.size,none⟩ 1).cell? ⟨p.blk,o,none⟩=w.cell? ⟨p.blk,o,none⟩:=λo=>by simp[World.cell?,dO,hC]
 have hE:Ext ρ M w ρ M (w.freeze ⟨p.blk,C.size,none⟩ 1):=by refine⟨?_,?_,?_,by rw[aL];exact z7 _,λB hB hW=>bj B (λe=>hW ⟨i,p,_,hp,hb,rfl,e.symm⟩),λ_ _ h=>h,z7 _,λ_ _ _ h=>h⟩<;>(unfold World.freeze;rw[z0 (by omega)])
 refine⟨hH.ext ⟨λj b hj=>?_,hH.dead,λj q hq=>by rw[aL];exact hH.lt j q hq,hH.sep⟩ hE,hE⟩;obtain⟨q,hq,fN⟩:=hH.live j b hj;refine⟨q,hq,?_⟩;by_cases hk:q.blk=p.blk
 .cases b with
  |cells c0 e0 th t0 =>
   obtain⟨h1,h2,h3,⟨C0,e1,f1,h4,h5⟩,h6,h7⟩:=fN;rw[hk,hC] at h4;obtain⟨rfl,rfl,rfl⟩:=(by simpa using h4:C=C0/\e'=e1/\f=f1);refine⟨h1,h2,h3,⟨C,e',_,by rw[hk];exact dO,h5⟩,λk v hv=>?_,λhw=>⟨(h7 hw).1,λk mY=>?_⟩⟩
   .rw[hk,bA,<-hk];exact h6 k v hv
   .unfold World.frozen?;rw[show (⟨q.blk,q.shift+k,none⟩:Addr).block=p.blk from hk,dO];have:¬ C.size<=q.shift+k:=by omega
    simp[this]
  |obj o th =>obtain⟨_,O,h4,h5⟩:=fN;rw[hk,hC] at h4;obtain rfl:=osj h4;exact absurd h5 ORel.q1s
 .exact fN.mono (z7 _) (λ_ _ _ h=>h) (bj _ hk)
theorem Fp (hH:HRel ρ M w) {s:ByteArray}{st d e:TypeId}(hs:P.underlying st=some .string) (hd:P.underlying d=some (.slice e)) (he:P.underlying e=some (.int .u8)) {s0:Sem Next}(h0:s0=(do let v <-convert st d (.string s);pure (.value v))) :
  CP P ρ M w (.slice (some ⟨M.n,0,none⟩) s.size s.size) (M.push (.cells (s.data.toList.map λb=>.int .u8 b.toNat) ⟨1,e⟩ true false)) s0:=by
 obtain⟨cap,di⟩:∃ cap,cap=(Question.appendCap s.size 0 e).cut (w.tape w.drawn (.appendCap s.size 0 e)):=⟨_,rfl⟩;have hle:s.size<=cap:=by rw[di];simp[Question.cut]
 let C:Array Value:=(s.data.map λb=>Value.int .u8 b.toNat)++Array.replicate (cap-s.size) (.int .u8 0);have pj:C.size=cap:=by have:s.data.size=s.size:=rfl;simp[C,this];omega
 have nr:=hH.drew;have aH:LRel ρ M.n (s.data.toList.map λb=>Value.int .u8 b.toNat) (C.toList.take (s.data.toList.map λb=>Value.int .u8 b.toNat).length):=by
  have:C.toList.take (s.data.toList.map λb=>Value.int .u8 b.toNat).length=s.data.toList.map λb=>Value.int .u8 b.toNat:=by simp[C]
  rw[this];exact XM (z8.2 λx hx=>by obtain⟨b,_,rfl⟩:=zo.1 hx;rfl)
 obtain⟨ρ',h1,h2,h3⟩:=nr.alloc (s.data.toList.map λb=>Value.int .u8 b.toNat) C e ⟨1,e⟩ false rfl aH (by
  have:s.data.size=s.size:=rfl;simp[pj,this];exact hle)
 have aF:(w.drew.alloc (.cells C e)).heap[w.drew.heap.size]?=some (.cells C e (0,0)):=by show (w.drew.heap.push _)[w.drew.heap.size]?=_;rw[Array.getElem?_push_size]
 obtain⟨h4,h5⟩:=h2.freezeOut (i:=M.n) h1 (Heap.q0a _ _) aF rfl;refine⟨.slice (some ⟨w.heap.size,0,none⟩) s.size cap,_,ρ',.inl ?_,.sl _ _ _ _ _ _ (by simp) (λp hp=>?_),h4,((Ext.drew ρ M w).trans h3).trans h5⟩
 .subst h0;have ez:(w.drew.alloc (.cells C e)).shape? w.drew.heap.size=some (e,C.size):=by
   unfold World.shape?;rw[aF]
  have hq:(Question.appendCap s.size 0 e).forced=false:=rfl;have rG:w.drew.heap.size=w.heap.size:=rfl;simp only[convert,zw,Q0 hs,Q0 hd,Q0 he,zi,Conv.stringToBytes,run_choose_drew,hq,zy,if_false,<-di,newRow,run_newObj_alloc,x5,markStringish,run_shape,rG];rw[rG] at ez;have qb:(w.drew.alloc (.cells ((s.data.map λb=>Value.int .u8 b.toNat)++Array.replicate (cap-s.size) (.int .u8 0)) e)).shape? w.heap.size=some (e,C.size):=ez;rw[qb];rfl
 .rw[h1] at hp;obtain rfl:=osj hp;refine⟨hle,(λh=>by cases h),0,rfl,?_,.inl rfl⟩;show 0+cap*1<=C.size;omega
set_option maxHeartbeats 1000000 in
theorem LJ {k nv:Value}{c:Nat}:∀ {es:List X1}{e:X1},Qo k es=some e->∃ j,es[j]?=some e/\QD k nv c es=(es.set j (k,nv,e.2.2),c)/\VM k es=es.eraseIdx j
 |[],e,h=>by cases h
 |a::es,e,h=>by
  simp only[Qo] at h;split at h
  .rename_i he;obtain rfl:=osj h;exact⟨0,rfl,by simp[QD,he],by simp[VM,he]⟩
  .rename_i he;obtain⟨j,h1,h2,h3⟩:=LJ (nv:=nv) (c:=c) h;exact⟨j+1,by simpa using h1,by simp[QD,he,h2],by simp[VM,he,h3]⟩
theorem RK {k:Value}:∀ {es:List X1},Qo k es=none->VM k es=es
 |[],_=>rfl
 |a::es,h=>by
  simp only[Qo] at h;split at h
  .cases h
  .rename_i he;simp[VM,he,RK h]
def Z6k:Value->Nat
 |.int _ n=>n.natAbs
 |_=>0
theorem Ip {e:X1}:∀ {es:List X1},e∈es->Z6k e.2.1<=(es.map λx=>Z6k x.2.1).sum
 |a::es,h=>by
  rw[zE,xT];rcases zj.1 h with rfl|h
  .omega
  .have:=Ip h;omega
theorem Q26 (es:List X1):∃ nv:Value,∀ e∈es,e.2.1≠nv :=
 ⟨.int .i64 ((es.map λx=>Z6k x.2.1).sum+1:Nat),λe he h=>by
  have h1:=Ip he;rw[h] at h1;simp only[Z6k] at h1;omega⟩
theorem Z0f {es:List X1}{i j:Nat}{x y:X1}(hi:i<es.length) (_hj:j<es.length) (h:es.set i x=es.set j y) (hx:∀ e∈es,e.2.1≠x.2.1):i=j:=by
 by_cases e:j=i
 .exact e.symm
 .have h1:(es.set i x)[i]?=(es.set j y)[i]?:=by rw[h]
  rw[List.getElem?_set_self hi,List.getElem?_set_ne e,z5 hi] at h1;have h2:=osj h1;exact(hx _ (zu hi) (by rw[<-h2])).elim
theorem FZ {n:Nat}{E:List MapEntry}{es:List X1}(h:LERel ρ n E es) (j:Nat):LERel ρ n (E.eraseIdx j) (es.eraseIdx j):=by
 refine⟨by rw[List.length_eraseIdx,List.length_eraseIdx,h.1],λk e kv he dw=>?_⟩;rw[List.getElem?_eraseIdx] at he dw;split at he
 .rename_i af;rw[z3 af] at dw;exact h.2 _ _ _ he dw
 .rename_i af;rw[z0 af] at dw;exact h.2 _ _ _ he dw
theorem Fv {o:Oper}{xo:XOp}(hc:SY P o.op = some xo) (hq:xo.quiet = false) (hH:HRel ρ M w) (hE:∀ x, XI x = true -> VRel ρ M.n (Q5 env x) (ev x))
    (h:ZL xo (Q5 env) M = some (v, M')):CP P ρ M w v M' (execOp ev o):=by
  obtain ⟨dst, op, ty, pos, after, guard⟩:=o;simp only at hc;unfold SY at hc;split at hc
  . cases hc
  rename_i ai;simp only [xO, xm] at ai;cases op <;> simp only [Op.operands] at ai hc
  case binOp ji t x y yt =>
    have nA:∀ neg, SM P neg t x y = some xo -> False:=λneg hx => by
      unfold SM at hx;split at hx
      . cases hx
      . obtain ⟨s, _, rfl⟩:=zq.1 hx; cases hq
    split at hc <;> first
      | exact (nA _ hc).elim
      | (simp at hc; subst hc; cases hq; done)
      | (rename_i e hu
         cases hi:P.info? e with
         | none => simp [hi] at hc
         | some i => simp [hi] at hc; obtain ⟨_, rfl⟩:=hc; cases hq)
      | cases hc
  case makeMap t r =>
    cases r with
    | some _ => cases hc
    | none =>
      simp at hc; subst hc;simp [ZL] at h;obtain ⟨rfl, rfl⟩:=h;obtain ⟨ρ', h1, h2, h3⟩:=hH.newObj (.map [] 0) (.map #[] 0) (ORel.q0q.2 ⟨#[], rfl, rfl, λk e kv he => by simp at he⟩);refine ⟨.map (some w.heap.size), _, ρ', .inl ?_, .map _ _ (by simp) (λp hp => ?_), h2, h3⟩
      . simp [execOp, Instr.makeMap]
      . rw [h1] at hp; obtain rfl:=osj hp; rfl
  case lookup t x i iW =>
    split at hc
    . rename_i kt e hu
      cases hk:EK P kt with
      | none => simp [hk] at hc
      | some mk =>
        cases bZ:P.info? e with
        | none => simp [hk, bZ] at hc
        | some inf =>
          cases hz:inf.zero with
          | none => simp [hk, bZ, hz] at hc
          | some z => simp [hk, bZ, hz] at hc; obtain ⟨_, rfl⟩:=hc; cases hq
    . cases hc
  case mapUpdate t m k x =>
    simp at ai;have hm:=hE m ai.1;have fH:=hE k ai.2.1;have hx:=hE x ai.2.2;split at hc
    . rename_i kt e hu
      cases hk:EK P kt with
      | none => simp [hk] at hc
      | some mk =>
        simp [hk] at hc; subst hc;obtain ⟨d, hd, ew⟩:=Ge hk;simp only [ZL] at h;split at h
        . rename_i i gR
          rw [gR] at hm;split at h
          . rename_i es clock aG
            split at h
            . rename_i ak
              simp only [z4] at ak;obtain ⟨bN, ae⟩:=ak;simp at h; obtain ⟨rfl, rfl⟩:=h;obtain ⟨p, entries, eI, hp, aF, aH⟩:=W6 hH aG hm;have fc:ev k = Q5 env k:=TL bN fH;have bO:(getObj p.blk).run P w = .ok (.map entries clock) w:=QH aF (λ_ _ _ e => by cases e);have aO:∀ O', (setObj p.blk O').run P w = .ok () (TX w p.blk O'):=λO' => Z1 aF (λ_ _ _ e => by cases e);rcases KS hd ew bN (Q5 env x) clock es entries.toList aH ae with ⟨h1, h2, h3⟩ | ⟨j, a, a', h1, h2, h3, h4, h5, h6⟩
              . rw [h3]
                obtain ⟨k1, k2⟩:=hH.setObj (i:=i) (p:=p) hp (W0 aG) (o':=.map (es ++ [(Q5 env k, Q5 env x, clock)]) (clock + 1))
                  (O':=.map (entries.push { key:=ev k, val:=ev x, born:=clock }) (clock + 1)) (ORel.q0q.2 ⟨_, rfl, by
                    rw [Array.toList_push];exact HW aH ⟨fc, rfl, hx⟩⟩)
                refine ⟨undef, _, ρ, .inr ⟨?_, rfl⟩, X9, k1, k2⟩;simp only [execOp];simp only [Instr.mapUpdate, zw, Q0 hu, zi, eI, bO, fc, ZV hd ew bN];rw [h2];simp only [zi, aO, x5]
              . rw [h6]
                have ia:((entries[j]?).map (·.key)).getD (Q5 env k) = a.1:=by
                  rw [<- Array.getElem?_toList, h3];simp [(aH.2 j a' a h3 h2).1]
                have fp:ZO mk a.1 = true:=z8.1 ae a (zG h2)
                obtain ⟨k1, k2⟩:=hH.setObj (i:=i) (p:=p) hp (W0 aG) (o':=.map (es.set j (Q5 env k, Q5 env x, a.2.2)) clock)
                  (O':=.map (entries.modify (0 + j) λe => { e with key:=Q5 env k, val:=ev x }) clock) (ORel.q0q.2 ⟨_, rfl, by
                    rw [Array.toList_modify, xh];exact BR aH j _ _ (λe he => by
                      obtain rfl:a' = e:=osj (h3.symm.trans he);exact ⟨rfl, (aH.2 j a' a h3 h2).2.1, hx⟩)⟩)
                refine ⟨undef, _, ρ, .inr ⟨?_, rfl⟩, X9, k1, k2⟩;simp only [execOp];simp only [Instr.mapUpdate, zw, Q0 hu, zi, eI, bO, fc, ZV hd ew bN];rw [h4];simp only [zi, zw, xh, ia];have a_:(Instr.keyThatStays a.1 (Q5 env k)).run P w = .ok (Q5 env k) w:=by unfold Instr.keyThatStays;rw [z3 (B4 bN fp h5)];rfl
                rw [a_];simp only [zi, aO, x5]
            . cases h
          . cases h
        . cases h
    . cases hc
  case insert t m k x =>
    simp at ai;have hm:=hE m ai.1;have fH:=hE k ai.2.1;have hx:=hE x ai.2.2;split at hc
    . rename_i kt e hu
      cases hk:EK P kt with
      | none => simp [hk] at hc
      | some mk =>
        simp [hk] at hc; subst hc;obtain ⟨d, hd, ew⟩:=Ge hk;simp only [ZL] at h;split at h
        . rename_i i gR
          rw [gR] at hm;split at h
          . rename_i es clock aG
            split at h
            . rename_i ak
              simp only [z4] at ak;obtain ⟨bN, ae⟩:=ak;simp at h; obtain ⟨rfl, rfl⟩:=h;obtain ⟨p, entries, eI, hp, aF, aH⟩:=W6 hH aG hm;have fc:ev k = Q5 env k:=TL bN fH;have bO:(getObj p.blk).run P w = .ok (.map entries clock) w:=QH aF (λ_ _ _ e => by cases e);have aO:∀ O', (setObj p.blk O').run P w = .ok () (TX w p.blk O'):=λO' => Z1 aF (λ_ _ _ e => by cases e);rcases KS hd ew bN (Q5 env x) clock es entries.toList aH ae with ⟨h1, h2, h3⟩ | ⟨j, a, a', h1, h2, h3, h4, h5, h6⟩
              . rw [h3]
                obtain ⟨k1, k2⟩:=hH.setObj (i:=i) (p:=p) hp (W0 aG) (o':=.map (es ++ [(Q5 env k, Q5 env x, clock)]) (clock + 1))
                  (O':=.map (entries.push { key:=ev k, val:=ev x, born:=clock }) (clock + 1)) (ORel.q0q.2 ⟨_, rfl, by
                    rw [Array.toList_push];exact HW aH ⟨fc, rfl, hx⟩⟩)
                refine ⟨undef, _, ρ, .inr ⟨?_, rfl⟩, X9, k1, k2⟩;simp only [execOp];simp only [Instr.mapUpdate, zw, Q0 hu, zi, eI, bO, fc, ZV hd ew bN];rw [h2];simp only [zi, aO, x5]
              . rw [h6]
                have ia:((entries[j]?).map (·.key)).getD (Q5 env k) = a.1:=by
                  rw [<- Array.getElem?_toList, h3];simp [(aH.2 j a' a h3 h2).1]
                have fp:ZO mk a.1 = true:=z8.1 ae a (zG h2)
                obtain ⟨k1, k2⟩:=hH.setObj (i:=i) (p:=p) hp (W0 aG) (o':=.map (es.set j (Q5 env k, Q5 env x, a.2.2)) clock)
                  (O':=.map (entries.modify (0 + j) λe => { e with key:=Q5 env k, val:=ev x }) clock) (ORel.q0q.2 ⟨_, rfl, by
                    rw [Array.toList_modify, xh];exact BR aH j _ _ (λe he => by
                      obtain rfl:a' = e:=osj (h3.symm.trans he);exact ⟨rfl, (aH.2 j a' a h3 h2).2.1, hx⟩)⟩)
                refine ⟨undef, _, ρ, .inr ⟨?_, rfl⟩, X9, k1, k2⟩;simp only [execOp];simp only [Instr.mapUpdate, zw, Q0 hu, zi, eI, bO, fc, ZV hd ew bN];rw [h4];simp only [zi, zw, xh, ia];have a_:(Instr.keyThatStays a.1 (Q5 env k)).run P w = .ok (Q5 env k) w:=by unfold Instr.keyThatStays;rw [z3 (B4 bN fp h5)];rfl
                rw [a_];simp only [zi, aO, x5]
            . cases h
          . cases h
        . cases h
    . cases hc
  case mapEntry t m k =>
    simp at ai;have hm:=hE m ai.1;have fH:=hE k ai.2;split at hc
    . rename_i kt e hu
      cases hk:EK P kt with
      | none => simp [hk] at hc
      | some mk =>
      cases bZ:P.info? e with
      | none => simp [hk, bZ] at hc
      | some inf =>
      cases hz:inf.zero with
      | none => simp [hk, bZ, hz] at hc
      | some z =>
        simp [hk, bZ, hz] at hc;obtain ⟨ln, rfl⟩:=hc;obtain ⟨d, hd, ew⟩:=Ge hk;have j7:∀ w', (zeroValue e).run P w' = .ok z w':=λw' => Zu bZ hz w';have d_:VRel ρ M.n z z:=Uk ln;simp only [ZL] at h;split at h
        . rename_i i gR
          rw [gR] at hm;split at h
          . rename_i es clock aG
            split at h
            . rename_i ak
              simp only [z4] at ak;obtain ⟨bN, ae⟩:=ak;obtain ⟨p, entries, eI, hp, aF, aH⟩:=W6 hH aG hm;have fc:ev k = Q5 env k:=TL bN fH;have bO:(getObj p.blk).run P w = .ok (.map entries clock) w:=QH aF (λ_ _ _ e => by cases e);have aO:∀ O', (setObj p.blk O').run P w = .ok () (TX w p.blk O'):=λO' => Z1 aF (λ_ _ _ e => by cases e);split at h
              . rename_i e0 hf
                simp at h; obtain ⟨rfl, rfl⟩:=h;rcases KS hd ew bN e0.2.1 clock es entries.toList aH ae with ⟨h1, h2, h3⟩ | ⟨j, a, a', h1, h2, h3, h4, h5, h6⟩
                . rw [hf] at h1; cases h1
                . obtain rfl:e0 = a:=by rw [hf] at h1; exact osj h1
                  rw [h6];have lx:entries[j]? = some a':=by rw [<- Array.getElem?_toList]; exact h3
                  have ia:((entries[j]?).map (·.key)).getD (Q5 env k) = e0.1:=by
                    rw [lx]; simp [(aH.2 j a' e0 h3 h2).1]
                  have qc:((entries[j]?).map λx => (x.born:Int)).getD 0 = (e0.2.2:Int):=by rw [lx]; simp [(aH.2 j a' e0 h3 h2).2.1]
                  have fp:ZO mk e0.1 = true:=z8.1 ae e0 (zG h2);have nk:=(aH.2 j a' e0 h3 h2).2.2
                  obtain ⟨k1, k2⟩:=hH.setObj (i:=i) (p:=p) hp (W0 aG) (o':=.map (es.set j (Q5 env k, e0.2.1, e0.2.2)) clock)
                    (O':=.map (entries.modify (0 + j) λe => { e with key:=Q5 env k }) clock) (ORel.q0q.2 ⟨_, rfl, by
                      rw [Array.toList_modify, xh];exact BR aH j _ _ (λe he => by
                        obtain rfl:a' = e:=osj (h3.symm.trans he);exact ⟨rfl, (aH.2 j a' e0 h3 h2).2.1, nk⟩)⟩)
                  refine ⟨.tuple #[a'.val, .int .i64 e0.2.2], _, ρ, .inl ?_, VRel.q0j (LRel.cons nk (LRel.cons (.int _ _) (LRel.nil _ _))), k1, k2⟩;simp only [execOp];simp only [Instr.mapEntry, zw, Q0 hu, zi, eI, bO, fc, ZV hd ew bN];rw [h4];simp only [zi, zw, xh, ia, qc];have a_:(Instr.keyThatStays e0.1 (Q5 env k)).run P w = .ok (Q5 env k) w:=by unfold Instr.keyThatStays;rw [z3 (B4 bN fp h5)];rfl
                  rw [a_];simp only [zi, aO, x5];rfl
              . rename_i hf
                simp at h; obtain ⟨rfl, rfl⟩:=h;rcases KS hd ew bN z clock es entries.toList aH ae with ⟨h1, h2, h3⟩ | ⟨j, a, a', h1, h2, h3, h4, h5, h6⟩
                . rw [h3]
                  obtain ⟨k1, k2⟩:=hH.setObj (i:=i) (p:=p) hp (W0 aG) (o':=.map (es ++ [(Q5 env k, z, clock)]) (clock + 1))
                    (O':=.map (entries.push { key:=Q5 env k, val:=z, born:=clock }) (clock + 1)) (ORel.q0q.2 ⟨_, rfl, by
                      rw [Array.toList_push];exact HW aH ⟨rfl, rfl, d_⟩⟩)
                  refine ⟨.tuple #[z, .int .i64 clock], _, ρ, .inl ?_, VRel.q0j (LRel.cons d_ (LRel.cons (.int _ _) (LRel.nil _ _))), k1, k2⟩;simp only [execOp];simp only [Instr.mapEntry, zw, Q0 hu, zi, eI, bO, fc, ZV hd ew bN];rw [h2];simp only [zi, zw, j7, aO, x5];rfl
                . rw [hf] at h1; cases h1
            . cases h
          . cases h
        . cases h
    . cases hc
  case entryStore t m s x =>
    simp at ai;have hm:=hE m ai.1;have hs:=hE s ai.2.1;have hx:=hE x ai.2.2;simp at hc; subst hc;simp only [ZL] at h;split at h
    . rename_i i n gR qd
      rw [gR] at hm;rw [qd] at hs;split at h
      . rename_i es clock aG
        split at h
        . rename_i j jj
          split at h
          . rename_i e0 lu
            simp at h; obtain ⟨rfl, rfl⟩:=h;obtain ⟨p, entries, eI, hp, aF, aH⟩:=W6 hH aG hm;have nu:ev s = .int .i64 n:=VS rfl hs;have bO:(getObj p.blk).run P w = .ok (.map entries clock) w:=QH aF (λ_ _ _ e => by cases e);have aO:∀ O', (setObj p.blk O').run P w = .ok () (TX w p.blk O'):=λO' => Z1 aF (λ_ _ _ e => by cases e);have nw:entries.toList.map (λx => (x.born:Int)) = es.map (λe => (e.2.2:Int)):=by
              refine zZ λq => ?_;rw [zU, zU];cases h1:entries.toList[q]? with
              | none =>
                have:es[q]? = none:=by rw [List.getElem?_eq_none_iff] at h1 |-; rw [<- aH.1]; exact h1
                rw [this]; rfl
              | some a =>
                cases h2:es[q]? with
                | none => rw [List.getElem?_eq_none_iff, <- aH.1, <- List.getElem?_eq_none_iff, h1] at h2; cases h2
                | some b => simp [(aH.2 q a b h1 h2).2.1]
            have qe:entries.findIdx? (λe => (e.born:Int) == n) = some j:=by
              have e1:entries.toList.findIdx? (λe => (e.born:Int) == n) = (entries.toList.map (λx => (x.born:Int))).findIdx? (λb => b == n):=by rw [List.findIdx?_map]; rfl
              have e2:es.findIdx? (λe => (e.2.2:Int) == n) = (es.map (λe => (e.2.2:Int))).findIdx? (λb => b == n):=by rw [List.findIdx?_map]; rfl
              have e3:entries.findIdx? (λe => (e.born:Int) == n) = entries.toList.findIdx? (λe => (e.born:Int) == n):=by rw [<- List.findIdx?_toArray, Array.toArray_toList]
              rw [e3, e1, nw, <- e2, jj]
            have cj:j < entries.toList.length:=by rw [aH.1]; exact (z9.1 lu).1
            have lx:=z5 cj
            obtain ⟨k1, k2⟩:=hH.setObj (i:=i) (p:=p) hp (W0 aG) (o':=.map (es.set j (e0.1, Q5 env x, e0.2.2)) clock)
              (O':=.map (entries.modify j λe => { e with val:=ev x }) clock) (ORel.q0q.2 ⟨_, rfl, by
                rw [Array.toList_modify];exact BR aH j _ _ (λe he => by
                  have hr:=aH.2 j e e0 he lu;exact ⟨hr.1, hr.2.1, hx⟩)⟩)
            refine ⟨undef, _, ρ, .inr ⟨?_, rfl⟩, X9, k1, k2⟩;simp only [execOp];simp only [Instr.entryStore, eI, zw, bO, zi, nu];simp [asInt, asIntOf, qe, aO]
          . cases h
        . cases h
      . cases h
    . cases h
  case range t x =>
    simp at ai;have hx:=hE x ai;split at hc
    . rename_i kt e hu
      simp at hc; subst hc;simp only [ZL] at h;split at h
      . rename_i m bw
        rw [bw] at hx;split at h
        . rename_i es clock wr aG
          simp at h; obtain ⟨rfl, rfl⟩:=h;obtain ⟨p, entries, eI, hp, aF, aH⟩:=W6 hH aG hx;rw [eI] at hx;obtain ⟨ρ', h1, h2, h3⟩:=hH.newObj (.iter m clock [] clock) (.mapIter (some p.blk) clock #[] clock) ⟨p.blk, rfl, hx⟩;have bO:(getObj p.blk).run P w = .ok (.map entries clock) w:=QH aF (λ_ _ _ e => by cases e);refine ⟨.pointer (some ⟨w.heap.size, 0, none⟩), _, ρ', .inl ?_, .ptr _ _ _ (by simp) (λq hq => ?_), h2, h3⟩
          . simp [execOp, Instr.range, Q0 hu, eI, bO]
          . rw [h1] at hq; obtain rfl:=osj hq; rfl
        . cases h
      . cases h
    . cases hc
  case next x b => cases b <;> simp at hc; subst hc; simp [ZL] at h
  case entry x => simp at hc; subst hc; cases hq
  case convert s d x =>
    split at hc
    . rename_i t hs hd
      cases hi:P.info? t with
      | none => simp [hi] at hc
      | some inf => simp [hi] at hc; obtain ⟨_, rfl⟩:=hc; cases hq
    . rename_i u hs hd
      cases hi:P.info? u with
      | none => simp [hi] at hc
      | some inf => simp [hi] at hc; obtain ⟨_, rfl⟩:=hc; cases hq
    . split at hc
      . simp at hc; subst hc; cases hq
      . cases hc
    . rename_i e hs hd
      split at hc
      . rename_i he
        simp at hc; subst hc;simp only [ZL] at h;split at h
        . rename_i s' bw
          split at h
          . simp at h; obtain ⟨rfl, rfl⟩:=h
            have hx:=hE x (by simpa using ai);rw [bw] at hx;refine Fp hH hs hd he ?_;simp only [execOp, hx.q0p]
          . cases h
        . cases h
      . cases hc
    . cases hc
  case call c =>
    split at hc
    . split at hc
      . split at hc
        . simp at hc; subst hc; cases hq
        . cases hc
      . cases hc
    . rename_i aJ
      split at hc
      . rename_i t mm kk dJ cN
        split at hc
        . rename_i kt e hu
          cases hk:EK P kt with
          | none => simp [hk] at hc
          | some mk =>
            simp [hk] at hc; subst hc;obtain ⟨d, hd, ew⟩:=Ge hk;have bF:c.args = #[mm, kk]:=Array.ext' (by simpa using cN);have cW:XI mm = true /\ XI kk = true:=by simpa [Call.operands, aJ, bF] using ai
            have hm:=hE mm cW.1;have fH:=hE kk cW.2;simp only [ZL] at h;split at h
            . rename_i i gR
              rw [gR] at hm;split at h
              . rename_i es clock aG
                split at h
                . rename_i ak
                  simp only [z4] at ak;obtain ⟨bN, ae⟩:=ak;simp at h; obtain ⟨rfl, rfl⟩:=h;obtain ⟨p, entries, eI, hp, aF, aH⟩:=W6 hH aG hm;have fc:ev kk = Q5 env kk:=TL bN fH;have bO:(getObj p.blk).run P w = .ok (.map entries clock) w:=QH aF (λ_ _ _ e => by cases e);have aO:∀ O', (setObj p.blk O').run P w = .ok () (TX w p.blk O'):=λO' => Z1 aF (λ_ _ _ e => by cases e);obtain ⟨nv, ny⟩:=Q26 es;rcases KS hd ew bN nv clock es entries.toList aH ae with ⟨h1, h2, h3⟩ | ⟨j, a, a', h1, h2, h3, h4, h5, h6⟩
                  . rw [RK h1]
                    obtain ⟨k1, k2⟩:=hH.setObj (i:=i) (p:=p) hp (W0 aG) (o':=.map es clock) (O':=.map entries clock) (ORel.q0q.2 ⟨_, rfl, aH⟩);refine ⟨.tuple #[], _, ρ, .inl ?_, VRel.q0j (LRel.nil _ _), k1, k2⟩;simp only [execOp];simp [resolve, aJ, bF, invoke, builtin, Builtin.delete_, dJ, Q0 hu, eI, bO, fc, ZV hd ew bN, h2, aO]
                  . obtain ⟨j0, g1, g2, g3⟩:=LJ (nv:=nv) (c:=clock) h1
                    have hj:j = j0:=by rw [g2] at h6;have hs:=congrArg (λx:List X1 × Nat => x.1) h6;exact (Z0f (z9.1 g1).1 (z9.1 h2).1 hs ny).symm
                    subst hj;rw [g3];obtain ⟨k1, k2⟩:=hH.setObj (i:=i) (p:=p) hp (W0 aG) (o':=.map (es.eraseIdx j) clock) (O':=.map (entries.eraseIdxIfInBounds (0 + j)) clock) (ORel.q0q.2 ⟨_, rfl, by
                      have cj:j < entries.size:=by have:=(z9.1 h3).1;simpa using this
                      rw [xh];have e:(entries.eraseIdxIfInBounds j).toList = entries.toList.eraseIdx j:=by simp
                      rw [e];exact FZ aH j⟩)
                    refine ⟨.tuple #[], _, ρ, .inl ?_, VRel.q0j (LRel.nil _ _), k1, k2⟩;simp only [execOp];simp [resolve, aJ, bF, invoke, builtin, Builtin.delete_, dJ, Q0 hu, eI, bO, fc, ZV hd ew bN, h4, aO]
                . cases h
              . cases h
            . cases h
        . cases hc
      . cases hc
    . rename_i aJ
      split at hc
      . rename_i t dd ss dJ cN
        split at hc
        . rename_i e hu
          cases hi:P.info? e with
          | none => simp [hi] at hc
          | some inf =>
            simp [hi] at hc; subst hc;have bF:c.args = #[dd, ss]:=Array.ext' (by simpa using cN);have cW:XI dd = true /\ XI ss = true:=by simpa [Call.operands, aJ, bF] using ai
            have hd:=hE dd cW.1;have hs:=hE ss cW.2;simp only [ZL] at h;split at h
            . rename_i db dn dc sb sn sc qf qd
              rw [qf] at hd; rw [qd] at hs;obtain ⟨da, tj, qg⟩:=hd.q1t;obtain ⟨sa, nz, nu⟩:=hs.q1t;split at h
              . rename_i h0
                simp at h; obtain ⟨rfl, rfl⟩:=h;refine ⟨.int .i64 0, w, ρ, .inl ?_, .int _ _, hH, Ext.refl _ _ _⟩;simp only [execOp];have rH:Nat.min sn dn = 0:=h0;cases sa <;> cases da <;> simp [resolve, aJ, bF, invoke, builtin, Builtin.copy_, dJ, qg, nu, Q0 hu, Qk hi, Builtin.lenOf, rH, Builtin.firstCells, loadCells, loadCellsFrom, storeCells, goInt]
              . rename_i h0
                split at h
                . rename_i i o xs bz
                  split at h
                  . rename_i cc e' wr tight hb
                    split at h
                    . rename_i ak
                      obtain ⟨rfl, m8, ju, hU⟩:=ak;simp at h; obtain ⟨rfl, rfl⟩:=h;have a7:VRel ρ M.n (.slice sb (min sn dn) sc) (.slice sa (min sn dn) nz):=by
                        rw [nu] at hs;cases hs with
                        | nilSl => exact absurd (by simp) h0
                        | slx _ _ _ _ _ gF dj => exact .slx _ _ _ _ _ gF dj
                        | sl i2 o2 _ _ a2 _ gF dj =>refine .sl _ _ _ _ _ _ gF λp hp => ?_;obtain ⟨k1, k2, o', k3, k4, k5⟩:=dj p hp;exact ⟨k1, k2, o', k3, k4, k5.imp id (λhh => ⟨by rw [hh.1]; simp, hh.2⟩)⟩
                      obtain ⟨gQ, us, ef, _, aX⟩:=Fc hH bz a7;have hr:=aX w (Like.refl ρ w);have qe:(Builtin.firstCells inf.size (min sn dn) (.slice sa sn nz)).run P w = .ok us.toArray w:=by rw [<- hr]; cases sa <;> rfl
                      obtain ⟨p, hp, hB⟩:=hH.live i _ hb;rw [qg] at hd;obtain ⟨a2, jm, nB, aQ, aU⟩:=hd.q1b;simp at nB;obtain ⟨rfl, rfl⟩:=nB;obtain ⟨_, _, o', qh, _, m_⟩:=aU p hp;have ho:o' = o:=m_.resolve_right (λhh => h0 (by rw [hh.1]; simp));subst ho;obtain ⟨h2, h3⟩:=hH.store hp hb ef (o:=o') (by omega);refine ⟨.int .i64 (min sn dn:Nat), _, ρ, .inl ?_, .int _ _, h2, h3⟩;have mB:us.length = xs.length:=ef.1.symm
                      have a_:=run_storeCells_cells (P:=P) p.blk (p.shift + o') us 0 w
                        (λj hj => by rw [zR, zp]; exact hB.q0s _ (by have:=hB.2.2.1; omega))
                        (λj hj => by rw [zR, zp]; exact (hB.2.2.2.2.2 rfl).2 _ (by have:=hB.2.2.1; omega))
                        (V6 hU ef)
                      rw [zR] at a_;have ly:Nat.min sn dn = min sn dn:=rfl;simp only [execOp];simp [resolve, aJ, bF, invoke, builtin, Builtin.copy_, dJ, qg, nu, Q0 hu, Qk hi, Builtin.lenOf, ly, qe, qh, a_, goInt]
                    . cases h
                  . cases h
                . cases h
            . cases h
        . cases hc
      . cases hc
    . rename_i aJ
      split at hc
      . rename_i t x dJ cN
        split at hc
        . rename_i e hu
          cases hz:zeroOf P e with
          | none => simp [hz] at hc
          | some z =>
            simp [hz] at hc;obtain ⟨j6, rfl⟩:=hc;obtain ⟨inf, zv, bZ, d_, fj, vq, gO⟩:=YG hz;have bF:c.args = #[x]:=Array.ext' (by simpa using cN);have cW:XI x = true:=by simpa [Call.operands, aJ, bF] using ai
            have hx:=hE x cW;simp only [ZL] at h;split at h
            . rename_i b n cap bw
              rw [bw] at hx;obtain ⟨a, tk, cm⟩:=hx.q1t;split at h
              . rename_i h0
                simp at h; obtain ⟨rfl, rfl⟩:=h;subst h0;refine ⟨.tuple #[], w, ρ, .inl ?_, VRel.q0j (LRel.nil _ _), hH, Ext.refl _ _ _⟩;simp only [execOp];cases a <;> simp [resolve, aJ, bF, invoke, builtin, Builtin.clear_, dJ, cm, Q0 hu]
              . rename_i h0
                split at h
                . rename_i i o
                  split at h
                  . rename_i cc e' wr tight hb
                    split at h
                    . rename_i ak
                      obtain ⟨rfl, ju, hU⟩:=ak;simp at h; obtain ⟨rfl, rfl⟩:=h;have ef:LRel ρ M.n (Ta n z) (Ta n z):=XM (HQ n z gO);have df:=TQ n z;have bK:(Ta n z).all cellOk = true:=OX n z hU;obtain ⟨p, hp, hB⟩:=hH.live i _ hb;rw [cm] at hx;obtain ⟨a2, jm, nB, aQ, aU⟩:=hx.q1b;simp at nB;obtain ⟨rfl, rfl⟩:=nB;obtain ⟨_, _, o', qh, _, m_⟩:=aU p hp;have ho:o' = o:=m_.resolve_right (λhh => h0 hh.1);subst ho;obtain ⟨h2, h3⟩:=hH.store hp hb ef (o:=o') (by omega);refine ⟨.tuple #[], _, ρ, .inl ?_, VRel.q0j (LRel.nil _ _), h2, h3⟩
                      have a_:=run_storeCells_cells (P:=P) p.blk (p.shift + o') (Ta n z) 0 w
                        (λj hj => by rw [zR, zp]; exact hB.q0s _ (by have:=hB.2.2.1; omega))
                        (λj hj => by rw [zR, zp]; exact (hB.2.2.2.2.2 rfl).2 _ (by have:=hB.2.2.1; omega))
                        (V6 bK ef)
                      rw [zR] at a_;have tl:(Builtin.zeroCells zv.cells n).toList = Ta n z:=by have:=HY zv.cells z fj (by intro hh; rw [hh] at j6; exact j6 rfl) n;simpa [Builtin.zeroCells, <- fj] using this
                      simp only [execOp];obtain ⟨n', rfl⟩:∃ k, n = k + 1:=⟨n - 1, by omega⟩;simp [resolve, aJ, bF, invoke, builtin, Builtin.clear_, dJ, cm, Q0 hu, Zu bZ d_, tl, qh, a_]
                    . cases h
                  . cases h
                . cases h
            . cases h
        . cases hc
      . cases hc
    . split at hc
      . simp at hc; subst hc; cases hq
      . cases hc
    . rename_i aJ
      split at hc
      . rename_i t x nn dJ cN
        split at hc
        . rename_i e hu
          split at hc
          . rename_i pW
            simp at hc; subst hc;have bF:c.args = #[x, nn]:=Array.ext' (by simpa using cN);have cW:XI x = true /\ XI nn = true:=by simpa [Call.operands, aJ, bF] using ai
            have hx:=hE x cW.1;have hn:=hE nn cW.2;simp only [ZL] at h;split at h
            . rename_i q k bw aw
              rw [bw] at hx; rw [aw] at hn;have gB:=hn.q0g;split at h
              . rename_i h0
                simp at h; obtain ⟨rfl, rfl⟩:=h;subst h0;refine ⟨.string ⟨#[]⟩, w, ρ, .inl ?_, .string _, hH, Ext.refl _ _ _⟩;have cA:∃ q', ev x = .pointer q':=by
                  cases q with
                  | none => exact ⟨none, hx.q0o⟩
                  | some a => obtain ⟨b, hb⟩:=hx.q1h; exact ⟨_, hb⟩
                obtain ⟨q', cA⟩:=cA;simp [execOp, resolve, aJ, bF, invoke, builtin, cA, gB, Ab c.argTypes ty t dJ q' w];rfl
              . rename_i h0
                split at h
                . rename_i i o
                  split at h
                  . rename_i cc el tight hb
                    split at h
                    . rename_i ak
                      obtain ⟨iX, pn, het, ju⟩:=ak;split at h
                      . rename_i s' p_
                        simp at h; obtain ⟨rfl, rfl⟩:=h;obtain ⟨ns, mG, rfl⟩:=Lz p_;obtain ⟨p, hp, h1, h2, h3, ⟨C, e', f, hC, pj, lr⟩, h5, h6⟩:=hH.live i _ hb;obtain ⟨_, _, cm⟩:=hx.q0w hp;have j_:ns.length = k.toNat:=by have:=congrArg List.length mG;simp at this; omega
                        have bA:∀ j n, ns[j]? = some n -> w.cell? ((⟨p.blk, p.shift + o, none⟩:Addr).add j) = some (.int .u8 n):=λj n hj => by
                          have cj:j < ns.length:=(z9.1 hj).1;have ep:cc[o + j]? = some (.int .u8 n):=by
                            have:((cc.drop o).take k.toNat)[j]? = some (.int .u8 n):=by rw [mG, zU, hj]; rfl
                            rwa [zO, z3 (by omega), zC] at this
                          obtain ⟨u, cg, cB⟩:=h5 (o + j) _ ep;have lz:(⟨p.blk, p.shift + o, none⟩:Addr).add j = ⟨p.blk, p.shift + (o + j), none⟩:=by unfold Addr.add; split <;> simp_all <;> omega
                          rw [lz, cg, cB.q0g]
                        have ez:w.shape? p.blk = some (e, C.size):=by simp [World.shape?, hC, lr, het]
                        have hr:=Q5z (P:=P) c.argTypes ty t e dJ hu pW ⟨p.blk, p.shift + o, none⟩ C.size w ez ns k iX j_ (by show p.shift + o + ns.length <= C.size; omega) pn bA;obtain ⟨k1, k2⟩:=hH.freeze hp hb (p.shift + o) k.toNat;refine ⟨.string ⟨(ns.map λn => n.toNat.toUInt8).toArray⟩, _, ρ, .inl ?_, .string _, k1, k2⟩;simp [execOp, resolve, aJ, bF, invoke, builtin, cm, gB, hr]
                      . cases h
                    . cases h
                  . cases h
                . cases h
            . cases h
          . cases hc
        . cases hc
      . cases hc
    . cases hc
  all_goals cases hc
theorem Q3t {o:Oper}{vo:VOp}(hc:Vv P o.op=vo) (hq:vo.quiet=true) (hH:HRel ρ M w) (hE:∀ x,XI x=true->VRel ρ M.n (Q5 env x) (ev x))
  (h:Qa vo (Q5 env) M=some (v,M')):M'=M/\AG P ρ M w v (execOp ev o):=by
 unfold Vv at hc;split at hc
 .rename_i v' hv;subst hc;exact FN hv hq hH hE h
 .split at hc
  .rename_i x hx;subst hc;exact EY hx hq hH hE h
  .subst hc;simp[Qa] at h
theorem Q6g {o:Oper}{vo:VOp}(hc:Vv P o.op=vo) (hq:vo.quiet=false) (hH:HRel ρ M w) (hE:∀ x,XI x=true->VRel ρ M.n (Q5 env x) (ev x))
  (h:Qa vo (Q5 env) M=some (v,M')):CP P ρ M w v M' (execOp ev o):=by
 unfold Vv at hc;split at hc
 .rename_i v' hv;subst hc;exact Q0z hv hq hH hE h
 .split at hc
  .rename_i x hx;subst hc;exact Fv hx hq hH hE h
  .subst hc;simp[Qa] at h
end
end Go.V