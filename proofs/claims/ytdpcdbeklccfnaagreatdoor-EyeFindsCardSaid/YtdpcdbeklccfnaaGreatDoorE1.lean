
import Derived.WalkKit
import Derived.Lib.Builder
import Derived.Lib.UnsafeStr
import Derived.DeepKeys
abbrev Go.z1:=@Bool.and_eq_true
abbrev Go.z6:=@if_pos
abbrev Go.z7:=@if_neg
abbrev Go.z8:=@List.getElem?_eq_getElem
abbrev Go.zd:=@Nat.le_refl
abbrev Go.ze:=@List.getD_eq_getElem?_getD
abbrev Go.zf:=@List.all_eq_true
abbrev Go.zg:=@decide_eq_true_eq
abbrev Go.zh:=@_root_.cond_true
abbrev Go.zi:=@Go.Result.andThen_ok
abbrev Go.zj:=@beq_iff_eq
abbrev Go.zk:=@Option.map_eq_some_iff
abbrev Go.zl:=@List.mem_cons_self
abbrev Go.zm:=@Nat.mul_le_mul_right
abbrev Go.zn:=@decide_eq_false_iff_not
abbrev Go.zo:=@List.length_append
abbrev Go.zp:=@Int.toNat_natCast
abbrev Go.zq:=@List.getElem_mem
abbrev Go.zr:=@Nat.lt_or_ge
abbrev Go.zt:=@Bool.or_eq_true
abbrev Go.zu:=@List.getElem?_eq_some_iff
abbrev Go.zw:=@List.length_singleton
abbrev Go.zx:=@if_true
abbrev Go.zy:=@Go.Sem.run_bind
abbrev Go.zz:=@Bool.false_eq_true
abbrev Go.zA:=@List.mem_cons_of_mem
abbrev Go.zB:=@beq_eq_false_iff_ne
abbrev Go.zC:=@List.take_of_length_le
abbrev Go.zD:=@List.mem_cons
abbrev Go.zE:=@Nat.add_assoc
abbrev Go.zF:=@Nat.le_of_ble_eq_true
abbrev Go.zG:=@Nat.blt_eq
abbrev Go.zH:=@Nat.add_mul
abbrev Go.zI:=@List.getElem?_eq_none
abbrev Go.zJ:=@Option.bind_eq_bind
abbrev Go.zK:=@List.mem_singleton
abbrev Go.zL:=@List.mem_range
abbrev Go.zM:=@List.cons.inj
abbrev Go.zN:=@List.ext_getElem?
abbrev Go.zO:=@List.nodup_cons
abbrev Go.zP:=@Nat.eq_of_beq_eq_true
abbrev Go.zQ:=@Nat.zero_add
abbrev Go.zR:=@List.mem_append
abbrev Go.zS:=@List.map_cons
abbrev Go.zT:=@_root_.cond_false
abbrev Go.zU:=@Nat.add_zero
abbrev Go.zV:=@Bool.not_eq_false'
abbrev Go.zW:=@Nat.le_trans
abbrev Go.zX:=@List.all_cons
abbrev Go.zY:=@Int.eq_ofNat_of_zero_le
abbrev Go.zZ:=@List.getElem?_drop
abbrev Go.z_:=@List.length_eq_one_iff
abbrev Go.x3:=@Option.bind_eq_some_iff
abbrev Go.x4:=@List.map_congr_left
abbrev Go.x5:=@Bool.not_eq_true
abbrev Go.x6:=@List.append_assoc
abbrev Go.x7:=@List.mem_map
abbrev Go.x8:=@List.mem_iff_getElem?
abbrev Go.x9:=@List.getElem?_append_left
abbrev Go.xc:=@List.mem_of_getElem?
abbrev Go.xd:=@List.mapM_cons
abbrev Go.xe:=@Option.some.injEq
abbrev Go.xg:=@Go.Sem.run_pure
abbrev Go.xh:=@List.take_append_drop
abbrev Go.xi:=@List.length_set
abbrev Go.xj:=@List.length_cons
abbrev Go.xk:=@List.getElem?_append_right
abbrev Go.xl:=@Option.bind_some
abbrev Go.xm:=@Nat.lt_of_lt_of_le
abbrev Go.xn:=@List.mem_append_right
abbrev Go.xp:=@List.getElem?_map
abbrev Go.xq:=@List.length_eq_zero_iff
abbrev Go.xr:=@List.drop_zero
abbrev Go.xt:=@List.getElem?_take
abbrev Go.xu:=@List.foldl_cons
abbrev Go.xw:=@List.cons_append
abbrev Go.xx:=@List.replicate_succ
abbrev Go.xy:=@List.length_replicate
abbrev Go.xA:=@List.append_nil
abbrev Go.xB:=@List.nil_append
abbrev Go.xC:=@List.map_append
abbrev Go.xD:=@Nat.one_mul
abbrev Go.xE:=@List.getElem?_set
abbrev Go.xF:=@Array.getElem?_eq_getElem
abbrev Go.xG:=@List.mem_append_left
abbrev Go.xH:=@Array.getElem?_eq_some_iff
abbrev Go.xI:=@Bool.and_true
abbrev Go.xJ:=@List.any_eq_true
abbrev Go.xK:=@Bool.not_false
abbrev Go.xL:=@decide_eq_false
abbrev Go.xM:=@List.any_eq_false
abbrev Go.xN:=@Option.map_some
abbrev Go.xO:=@Nat.mul_one
abbrev Go.xP:=@List.take_succ_cons
abbrev Go.xQ:=@Bool.not_true
abbrev Go.xR:=@Nat.add_comm
abbrev Go.xS:=@Nat.lt_irrefl
abbrev Go.xT:=@List.perm_ext_iff_of_nodup
abbrev Go.xU:=@List.drop_succ_cons
abbrev Go.xV:=@List.mem_filter
abbrev Go.xW:=@List.length_map
abbrev Go.xX:=@Nat.min_eq_left
abbrev Go.xY:=@Nat.mul_comm
abbrev Go.xZ:=@List.map_map
abbrev Go.x_:=@Nat.sub_self
abbrev Go.w4:=@Nat.not_lt
abbrev Go.w7:=@List.length_pos_iff
abbrev Go.wb:=@decide_eq_true
abbrev Go.wc:=@of_decide_eq_true
abbrev Go.wh:=@Nat.mod_lt
abbrev Go.wi:=@List.length_take
abbrev Go.wj:=@List.length_drop
abbrev Go.wk:=@Nat.mod_eq_of_lt
abbrev Go.wm:=@List.getElem_map
theorem Go.osj.{u} {α:Type u} {a b:α}:some a=some b->a=b:=Option.some.inj
namespace Go.V
open Go
def IW:Nat->Option (List Value):=λ_=>none
structure El where
 sz:Nat
 ty:Nat
 deriving DecidableEq,Inhabited
inductive VObj where
 |map (es:List (Value×Value×Nat)) (clock:Nat)
 |iter (m since:Nat) (seen:List Nat) (last:Nat)
 |lp (env:List Value) (r:Loop) (st:LoopState) (pend:Option Code)
 |siter (s:ByteArray) (pos:Nat)
 deriving Inhabited
inductive Blk where
 |cells (c:List Value) (esz:El) (wr tight:Bool)
 |obj (o:VObj) (wr:Bool)
 deriving Inhabited
def Blk.wr:Blk->Bool
 |.cells _ _ w _=>w
 |.obj _ w=>w
structure Heap where
 get:Nat->Option Blk
 n:Nat
 wf:∀ i,n<=i->get i=none
theorem Heap.lt (U:Heap) {i:Nat}{b:Blk}(h:U.get i=some b):i<U.n:=by
 rcases zr i U.n with h'|h'
 .exact h'
 .rw[U.wf i h'] at h;cases h
def Heap.push (U:Heap) (b:Blk):Heap where
 get i:=if i=U.n then some b else U.get i
 n:=U.n+1
 wf i h:=by rw[z7 (by omega)];exact U.wf i (by omega)
def Heap.upd (U:Heap) (i:Nat) (b:Blk):Heap where
 get j:=if j=i/\i<U.n then some b else U.get j
 n:=U.n
 wf j h:=by rw[z7 (by omega)];exact U.wf j h
def Heap.kill (U:Heap) (i:Nat):Heap where
 get j:=if j=i then none else U.get j
 n:=U.n
 wf j h:=by split;rfl;exact U.wf j h
@[simp] theorem Heap.push_n (U:Heap) (b:Blk):(U.push b).n=U.n+1:=rfl
@[simp] theorem Heap.q2q (U:Heap) (i:Nat) (b:Blk):(U.upd i b).n=U.n:=rfl
@[simp] theorem Heap.kill_n (U:Heap) (i:Nat):(U.kill i).n=U.n:=rfl
theorem Heap.q0a (U:Heap) (b:Blk):(U.push b).get U.n=some b:=by simp[Heap.push]
theorem Heap.q0e (U:Heap) (b:Blk) {i:Nat}(h:i≠U.n):(U.push b).get i=U.get i:=by simp[Heap.push,h]
theorem Heap.q0g (U:Heap) (b:Blk) {i:Nat}(h:i<U.n):(U.push b).get i=U.get i:=U.q0e b (Nat.ne_of_lt h)
theorem Heap.q0d (U:Heap) (b:Blk) {i:Nat}(h:i<U.n):(U.upd i b).get i=some b:=by simp[Heap.upd,h]
theorem Heap.q0b (U:Heap) (b:Blk) {i j:Nat}(h:j≠i):(U.upd i b).get j=U.get j:=by simp[Heap.upd,h]
theorem Heap.q0i (U:Heap) (i:Nat):(U.kill i).get i=none:=by simp[Heap.kill]
theorem Heap.q0c (U:Heap) {i j:Nat}(h:j≠i):(U.kill i).get j=U.get j:=by simp[Heap.kill,h]
structure Pl where
 blk:Nat
 shift:Nat
 ext:Nat
 esz:El
 tight:Bool
abbrev Plc:=Nat->Option Pl
def poison:Value:=.chan none
inductive VRel (ρ:Plc) (n:Nat):Value->Value->Prop
 |poison (c:Value):VRel ρ n poison c
 |bool (b:Bool):VRel ρ n (.bool b) (.bool b)
 |int (k:IntKind) (x:Int):VRel ρ n (.int k x) (.int k x)
 |string (s:ByteArray):VRel ρ n (.string s) (.string s)
 |nilPtr:VRel ρ n (.pointer none) (.pointer none)
 |nilSl:VRel ρ n (.slice none 0 0) (.slice none 0 0)
 |nilMap:VRel ρ n (.map none) (.map none)
 |nilFunc:VRel ρ n .nilFunc .nilFunc
 |nilIface:VRel ρ n .nilIface .nilIface
 |glob (g o s:Nat):VRel ρ n (.pointer (some ⟨g,o,some s⟩)) (.pointer (some ⟨g,o,none⟩))
 |ptr (i o:Nat) (a:Addr) (hi:i<n) (h:∀ p,ρ i=some p->a=⟨p.blk,p.shift+o,none⟩):VRel ρ n (.pointer (some ⟨i,o,none⟩)) (.pointer (some a))
 |sl (i o len cap:Nat) (a:Addr) (ao:Nat) (hi:i<n)
   (h:∀ p,ρ i=some p->cap<=ao/\(p.tight=true->ao=cap)/\(ao=0/\len=0\/∃ o',a=⟨p.blk,p.shift+o',none⟩/\o'+ao*p.esz.sz<=p.ext/\(o'=o\/(len=0/\cap=0)))) :
   VRel ρ n (.slice (some ⟨i,o,none⟩) len cap) (.slice (some a) len ao)
 |slx (i o len cap:Nat) (a:Addr) (hi:i<n) (h:∀ p,ρ i=some p->a=⟨p.blk,p.shift+o,none⟩/\o+cap*p.esz.sz<=p.ext) :
   VRel ρ n (.slice (some ⟨i,o,some 0⟩) len cap) (.slice (some a) len cap)
 |map (i r:Nat) (hi:i<n) (h:∀ p,ρ i=some p->r=p.blk):VRel ρ n (.map (some i)) (.map (some r))
 |yield (i r:Nat) (hi:i<n) (h:∀ p,ρ i=some p->r=p.blk):VRel ρ n (.func (.yield i) #[] #[]) (.func (.yield r) #[] #[])
 |iface (t:TypeId) (v c:Value) (h:VRel ρ n v c):VRel ρ n (.iface t v) (.iface t c)
 |func (fn:FuncId) (fs gs cs ds:Array Value) (hf:fs.size=gs.size) (hc:cs.size=ds.size)
   (h1:∀ i (h1:i<fs.size) (h2:i<gs.size),VRel ρ n fs[i] gs[i]) (h2:∀ i (h1:i<cs.size) (h2:i<ds.size),VRel ρ n cs[i] ds[i]):VRel ρ n (.func (.func fn) fs cs) (.func (.func fn) gs ds)
 |agg (cs ds:Array Value) (hc:cs.size=ds.size) (h:∀ i (h1:i<cs.size) (h2:i<ds.size),VRel ρ n cs[i] ds[i]):VRel ρ n (.agg cs) (.agg ds)
 |tuple (cs ds:Array Value) (hc:cs.size=ds.size) (h:∀ i (h1:i<cs.size) (h2:i<ds.size),VRel ρ n cs[i] ds[i]):VRel ρ n (.tuple cs) (.tuple ds)
theorem VRel.mono {ρ ρ':Plc}{n n':Nat}(hn:n<=n') (hρ:∀ i,i<n->∀ p,ρ' i=some p->ρ i=some p) {v c:Value}(h:VRel ρ n v c):VRel ρ' n' v c:=by
 induction h with
 |poison c=>exact .poison c
 |bool b=>exact .bool b
 |int k x=>exact .int k x
 |string s=>exact .string s
 |nilPtr=>exact .nilPtr
 |nilSl=>exact .nilSl
 |nilMap=>exact .nilMap
 |nilFunc=>exact .nilFunc
 |nilIface=>exact .nilIface
 |glob g o s=>exact .glob g o s
 |ptr i o a hi h=>exact .ptr i o a (by omega) λp hp=>h p (hρ i hi p hp)
 |sl i o len cap a ao hi h=>exact .sl i o len cap a ao (by omega) λp hp=>h p (hρ i hi p hp)
 |slx i o len cap a hi h=>exact .slx i o len cap a (by omega) λp hp=>h p (hρ i hi p hp)
 |map i r hi h=>exact .map i r (by omega) λp hp=>h p (hρ i hi p hp)
 |yield i r hi h=>exact .yield i r (by omega) λp hp=>h p (hρ i hi p hp)
 |iface t v c _ ih=>exact .iface t v c ih
 |func fn fs gs cs ds hf hc _ _ mw my=>exact .func fn fs gs cs ds hf hc mw my
 |agg cs ds hc _ ih=>exact .agg cs ds hc ih
 |tuple cs ds hc _ ih=>exact .tuple cs ds hc ih
def LRel (ρ:Plc) (n:Nat) (vs cs:List Value):Prop:=vs.length=cs.length/\∀ (i:Nat) (v c:Value),vs[i]?=some v->cs[i]?=some c->VRel ρ n v c
theorem LRel.mono {ρ ρ':Plc}{n n':Nat}(hn:n<=n') (hρ:∀ i,i<n->∀ p,ρ' i=some p->ρ i=some p) {v c:List Value}(h:LRel ρ n v c):LRel ρ' n' v c :=
 ⟨h.1,λi v c hv hc=>(h.2 i v c hv hc).mono hn hρ⟩
theorem LRel.nil (ρ:Plc) (n:Nat):LRel ρ n [] []:=⟨rfl,λi v c h _=>by simp at h⟩
theorem LRel.cons {ρ:Plc}{n:Nat}{v c:Value}{vs cs:List Value}(h:VRel ρ n v c) (hs:LRel ρ n vs cs):LRel ρ n (v::vs) (c::cs):=by
 refine⟨by simp[hs.1],λi v' c' hv hc=>?_⟩;cases i with
 |zero=>simp at hv hc;subst hv;subst hc;exact h
 |succ i=>simp at hv hc;exact hs.2 i v' c' hv hc
theorem LRel.get {ρ:Plc}{n:Nat}{vs cs:List Value}(h:LRel ρ n vs cs) {i:Nat}{v:Value}(hv:vs[i]?=some v):∃ c,cs[i]?=some c/\VRel ρ n v c:=by
 have ai:i<vs.length:=(zu.1 hv).1;have cS:i<cs.length:=by have:=h.1;omega
 exact⟨cs[i],z8 cS,h.2 i v _ hv (z8 cS)⟩
theorem LRel.set {ρ:Plc}{n:Nat}{vs cs:List Value}(h:LRel ρ n vs cs) (i:Nat) {v c:Value}(hv:VRel ρ n v c):LRel ρ n (vs.set i v) (cs.set i c):=by
 refine⟨by simp[h.1],λj v' c' h1 h2=>?_⟩;rw[xE] at h1 h2;by_cases cB:i=j
 .simp_all
 .simp only[cB,if_false] at h1 h2;exact h.2 j v' c' h1 h2
theorem LRel.append {ρ:Plc}{n:Nat}{vs cs cG cs':List Value}(h:LRel ρ n vs cs) (h':LRel ρ n cG cs'):LRel ρ n (vs++cG) (cs++cs'):=by
 refine⟨by simp[h.1,h'.1],λi v c hv hc=>?_⟩;have e:=h.1;rw[List.getElem?_append] at hv hc;split at hv<;>split at hc<;>try omega
 .exact h.2 i v c hv hc
 .rw[e] at hv;exact h'.2 _ v c hv hc
theorem VRel.q1n {ρ:Plc}{n:Nat}{cs ds:List Value}(h:LRel ρ n cs ds):VRel ρ n (.agg cs.toArray) (.agg ds.toArray) :=
 .agg _ _ (by simpa using h.1) λi h1 h2=>h.2 i _ _ (by simp) (by simp)
theorem VRel.q0j {ρ:Plc}{n:Nat}{cs ds:List Value}(h:LRel ρ n cs ds):VRel ρ n (.tuple cs.toArray) (.tuple ds.toArray) :=
 .tuple _ _ (by simpa using h.1) λi h1 h2=>h.2 i _ _ (by simp) (by simp)
theorem LRel.of_array {ρ:Plc}{n:Nat}{cs ds:Array Value}(hc:cs.size=ds.size) (h:∀ i (h1:i<cs.size) (h2:i<ds.size),VRel ρ n cs[i] ds[i]):LRel ρ n cs.toList ds.toList:=by
 refine⟨by simpa using hc,λi v c hv cO=>?_⟩
 grind
def ORel (ρ:Plc) (n:Nat):VObj->Obj->Prop
 |.map es clock,o=>∃ entries,o=.map entries clock/\entries.size=es.length /\
   ∀ (k:Nat) (kv:Value×Value×Nat),es[k]?=some kv->∃ e:MapEntry,entries[k]?=some e/\e.key=kv.1/\e.born=kv.2.2/\VRel ρ n kv.2.1 e.val
 |.iter m since seen last,o=>∃ rm,o=.mapIter (some rm) since seen.toArray last/\VRel ρ n (.map (some m)) (.map (some rm))
 |.lp env r st pend,o=>o=.loop {r with state:=st,pending:=pend}/\LRel ρ n env r.tmps.toList
 |.siter s pos,o=>o=.stringIter s pos
def BRel (ρ:Plc) (n:Nat) (p:Pl) (w:World):Blk->Prop
 |.cells c esz wr tight=>p.esz=esz/\p.tight=tight/\c.length<=p.ext /\
   (∃ C e f,w.heap[p.blk]?=some (.cells C e f)/\p.shift+p.ext<=C.size/\e=esz.ty) /\
   (∀ (k:Nat) (v:Value),c[k]?=some v->∃ u,w.cell? ⟨p.blk,p.shift+k,none⟩=some u/\VRel ρ n v u) /\
   (wr=true->(tight=true->p.shift=0)/\∀ k,k<p.ext->w.frozen? ⟨p.blk,p.shift+k,none⟩=false)
 |.obj o _=>(p.ext=1/\p.shift=0)/\∃ O,w.heap[p.blk]?=some O/\ORel ρ n o O
structure HRel0 (ρ:Plc) (U:Heap) (w:World):Prop where
 live:∀ i b,U.get i=some b->∃ p,ρ i=some p/\BRel ρ U.n p w b
 dead:∀ i,U.get i=none->ρ i=none
 lt:∀ i p,ρ i=some p->p.blk<w.heap.size
 sep:∀ i j p q b,i≠j->ρ i=some p->ρ j=some q->U.get i=some b->b.wr=true->0<q.ext->p.blk≠q.blk
theorem HRel0.idlt {ρ:Plc}{U:Heap}{w:World}(h:HRel0 ρ U w) {i:Nat}{p:Pl}(hp:ρ i=some p):i<U.n:=by
 cases hb:U.get i with
 |none=>rw[h.dead i hb] at hp;cases hp
 |some b=>exact U.lt hb
def Wr (ρ:Plc) (U:Heap) (B:Nat):Prop:=∃ i p b,ρ i=some p/\U.get i=some b/\b.wr=true/\p.blk=B
structure Ext (ρ:Plc) (U:Heap) (w:World) (ρ':Plc) (U':Heap) (w':World):Prop where
 os:w'.os=w.os
 tape:w'.tape=w.tape
 output:w'.output=w.output
 size:w.heap.size<=w'.heap.size
 keep:∀ B,B<w.heap.size->¬ Wr ρ U B->w'.heap[B]?=w.heap[B]?
 wr:∀ B,B<w.heap.size->Wr ρ' U' B->Wr ρ U B
 n:U.n<=U'.n
 pl:∀ i,i<U.n->∀ p,ρ' i=some p->ρ i=some p
theorem Ext.refl (ρ:Plc) (U:Heap) (w:World):Ext ρ U w ρ U w :=
 ⟨rfl,rfl,rfl,zd _,λ_ _ _=>rfl,λ_ _ h=>h,zd _,λ_ _ _ h=>h⟩
theorem Ext.trans {ρ ρ' eM:Plc}{U U' aI:Heap}{w w' oN:World}(h:Ext ρ U w ρ' U' w') (k:Ext ρ' U' w' eM aI oN):Ext ρ U w eM aI oN where
 os:=k.os.trans h.os
 tape:=k.tape.trans h.tape
 output:=k.output.trans h.output
 size:=zW h.size k.size
 keep B hB hW:=(k.keep B (xm hB h.size) (λhw=>hW (h.wr B hB hw))).trans (h.keep B hB hW)
 wr B hB hW:=h.wr B hB (k.wr B (xm hB h.size) hW)
 n:=zW h.n k.n
 pl i hi p hp:=h.pl i hi p (k.pl i (xm hi h.n) p hp)
theorem Ext.lrel {ρ ρ':Plc}{U U':Heap}{w w':World}(h:Ext ρ U w ρ' U' w') {v c:List Value}(hv:LRel ρ U.n v c):LRel ρ' U'.n v c:=hv.mono h.n h.pl
theorem ORel.mono {ρ ρ':Plc}{n n':Nat}(hn:n<=n') (hρ:∀ i,i<n->∀ p,ρ' i=some p->ρ i=some p) {o:VObj}{O:Obj}(h:ORel ρ n o O):ORel ρ' n' o O:=by
 cases o with
 |map es clock =>obtain⟨entries,h1,h2,h3⟩:=h;exact⟨entries,h1,h2,λk kv hk=>let ⟨e,he,h4,h5,hv⟩:=h3 k kv hk;⟨e,he,h4,h5,hv.mono hn hρ⟩⟩
 |iter m since seen last=>obtain⟨rm,h1,h2⟩:=h;exact⟨rm,h1,h2.mono hn hρ⟩
 |lp env r st pend=>exact⟨h.1,h.2.mono hn hρ⟩
 |siter s pos=>exact h
theorem ORel.q1x {ρ:Plc}{n:Nat}{o:VObj}{C:Array Value}{e:TypeId}{f:Nat×Nat}:¬ ORel ρ n o (.cells C e f):=by
 cases o with
 |map es clock=>rintro⟨_,h,_⟩;cases h
 |iter m since seen last=>rintro⟨_,h,_⟩;cases h
 |lp env r st pend=>rintro⟨h,_⟩;cases h
 |siter s pos=>intro h;cases h
theorem ORel.q0p {ρ:Plc}{n:Nat}{o:VObj}{d:Option (List Deferred)}:¬ ORel ρ n o (.deferred d):=by
 cases o with
 |map es clock=>rintro⟨_,h,_⟩;cases h
 |iter m since seen last=>rintro⟨_,h,_⟩;cases h
 |lp env r st pend=>rintro⟨h,_⟩;cases h
 |siter s pos=>intro h;cases h
theorem BRel.mono {ρ ρ':Plc}{n n':Nat}(hn:n<=n') (hρ:∀ i,i<n->∀ p,ρ' i=some p->ρ i=some p) {p:Pl}{w w':World}(hw:w'.heap[p.blk]?=w.heap[p.blk]?) {b:Blk}(h:BRel ρ n p w b):BRel ρ' n' p w' b:=by
 cases b with
 |cells c esz wr tight =>
  obtain⟨h1,h2,h3,h4,h5,h6⟩:=h;refine⟨h1,h2,h3,by rw[hw];exact h4,λk v hk=>?_,λhU=>⟨(h6 hU).1,λk hk=>?_⟩⟩
  .obtain⟨u,hu,hv⟩:=h5 k v hk;exact⟨u,by grind [World.cell?_of_block],hv.mono hn hρ⟩
  .grind [World.frozen?_of_block]
 |obj o wr =>obtain⟨h0,O,h1,h2⟩:=h;exact⟨h0,O,by rw[hw];exact h1,h2.mono hn hρ⟩
theorem HRel0.world {ρ:Plc}{U:Heap}{w w':World}(h:HRel0 ρ U w) (hs:w.heap.size<=w'.heap.size) (hb:∀ i p,ρ i=some p->w'.heap[p.blk]?=w.heap[p.blk]?):HRel0 ρ U w' where
 live i b hi:=by obtain⟨p,hp,hB⟩:=h.live i b hi;exact⟨p,hp,hB.mono (zd _) (λ_ _ _ h=>h) (hb i p hp)⟩
 dead:=h.dead
 lt i p hp:=xm (h.lt i p hp) hs
 sep:=h.sep
theorem HRel0.drew {ρ:Plc}{U:Heap}{w:World}(h:HRel0 ρ U w):HRel0 ρ U w.drew:=h.world (zd _) (λ_ _ _=>rfl)
theorem Ext.drew (ρ:Plc) (U:Heap) (w:World):Ext ρ U w ρ U w.drew :=
 ⟨rfl,rfl,rfl,zd _,λ_ _ _=>rfl,λ_ _ h=>h,zd _,λ_ _ _ h=>h⟩
def Plc.put (ρ:Plc) (i:Nat) (p:Option Pl):Plc:=λj=>if j=i then p else ρ j
theorem HRel0.alloc {ρ:Plc}{U:Heap}{w:World}(h:HRel0 ρ U w) (c:List Value) (C:Array Value) (e:TypeId) (esz:El) (tight:Bool) (he:e=esz.ty)
  (hc:LRel ρ U.n c (C.toList.take c.length)) (hl:c.length<=C.size) :
  ∃ ρ',ρ' U.n=some ⟨w.heap.size,0,C.size,esz,tight⟩/\HRel0 ρ' (U.push (.cells c esz true tight)) (w.alloc (.cells C e))/\Ext ρ U w ρ' (U.push (.cells c esz true tight)) (w.alloc (.cells C e)):=by
 have hold:∀ k,k<w.heap.size->(w.alloc (.cells C e)).heap[k]?=w.heap[k]?:=λk hk=>by
  show (w.heap.push _)[k]?=_
  grind
 have az:(w.alloc (.cells C e)).heap.size=w.heap.size+1:=World.size_alloc w _;have aU:∀ i,i<U.n->∀ p,(ρ.put U.n (some ⟨w.heap.size,0,C.size,esz,tight⟩)) i=some p->ρ i=some p:=λi hi p hp=>by unfold Plc.put at hp;rwa [z7 (by omega)] at hp
 refine⟨ρ.put U.n (some ⟨w.heap.size,0,C.size,esz,tight⟩),by simp[Plc.put],⟨?_,?_,?_,?_⟩,⟨rfl,rfl,rfl,by omega,λB hB _=>hold B hB,?_,by simp,aU⟩⟩
 .intro i b hb;by_cases hi:i=U.n
  .subst hi;rw[Heap.q0a] at hb;obtain rfl:=osj hb;refine⟨⟨w.heap.size,0,C.size,esz,tight⟩,by simp[Plc.put],rfl,rfl,hl,⟨C,e,(0,0),?_,by simp,he⟩,λk v hk=>?_,λ_=>⟨λ_=>rfl,λk _=>?_⟩⟩
   .show (w.heap.push _)[w.heap.size]?=_;simp
   .obtain⟨u,hu,hv⟩:=hc.get hk;have cP:k<c.length:=(zu.1 hk).1;refine⟨u,?_,hv.mono (by simp) aU⟩;rw[zQ,World.cell?_alloc_new]
    grind
   simp_all
  .rw[Heap.q0e _ _ hi] at hb;obtain⟨p,hp,hB⟩:=h.live i b hb;exact⟨p,by simp[Plc.put,hi,hp],hB.mono (by simp) aU (hold _ (h.lt i p hp))⟩
 .intro i hi;by_cases aQ:i=U.n
  .grind [Heap.q0a]
  .rw[Heap.q0e _ _ aQ] at hi;simp[Plc.put,aQ,h.dead i hi]
 .intro i p hp;by_cases hi:i=U.n
  .subst hi;simp[Plc.put] at hp;subst hp;simp
  .simp[Plc.put,hi] at hp;have:=h.lt i p hp;omega
 .intro i j p q b cB hp hq hb hw hx;by_cases hi:i=U.n
  .subst hi;simp[Plc.put] at hp;subst hp;simp[Plc.put,Ne.symm cB] at hq;have:=h.lt j q hq;intro e;simp at e;omega
  .simp[Plc.put,hi] at hp;rw[Heap.q0e _ _ hi] at hb;by_cases hj:j=U.n
   .subst hj;simp[Plc.put] at hq;subst hq;have:=h.lt i p hp;intro e;simp at e;omega
   .simp[Plc.put,hj] at hq;exact h.sep i j p q b cB hp hq hb hw hx
 .rintro B hB ⟨i,p,b,hp,hb,hw,rfl⟩;by_cases hi:i=U.n
  .subst hi;simp[Plc.put] at hp;subst hp;simp at hB
  .simp[Plc.put,hi] at hp;rw[Heap.q0e _ _ hi] at hb;exact⟨i,p,b,hp,hb,hw,rfl⟩
theorem HRel0.newObj {ρ:Plc}{U:Heap}{w:World}(h:HRel0 ρ U w) (o:VObj) (O:Obj) (ho:ORel ρ U.n o O) :
  ∃ ρ',ρ' U.n=some ⟨w.heap.size,0,1,default,true⟩/\HRel0 ρ' (U.push (.obj o true)) (w.alloc O)/\Ext ρ U w ρ' (U.push (.obj o true)) (w.alloc O):=by
 have hold:∀ k,k<w.heap.size->(w.alloc O).heap[k]?=w.heap[k]?:=λk hk=>by
  show (w.heap.push _)[k]?=_
  grind
 have az:(w.alloc O).heap.size=w.heap.size+1:=World.size_alloc w _;have aU:∀ i,i<U.n->∀ p,(ρ.put U.n (some ⟨w.heap.size,0,1,default,true⟩)) i=some p->ρ i=some p:=λi hi p hp=>by unfold Plc.put at hp;rwa [z7 (by omega)] at hp
 refine⟨ρ.put U.n (some ⟨w.heap.size,0,1,default,true⟩),by simp[Plc.put],⟨?_,?_,?_,?_⟩,⟨rfl,rfl,rfl,by omega,λB hB _=>hold B hB,?_,by simp,aU⟩⟩
 .intro i b hb;by_cases hi:i=U.n
  .subst hi;rw[Heap.q0a] at hb;obtain rfl:=osj hb;refine⟨⟨w.heap.size,0,1,default,true⟩,by simp[Plc.put],⟨rfl,rfl⟩,O,?_,ho.mono (by simp) aU⟩;show (w.heap.push _)[w.heap.size]?=_;simp
  .rw[Heap.q0e _ _ hi] at hb;obtain⟨p,hp,hB⟩:=h.live i b hb;exact⟨p,by simp[Plc.put,hi,hp],hB.mono (by simp) aU (hold _ (h.lt i p hp))⟩
 .intro i hi;by_cases aQ:i=U.n
  .grind [Heap.q0a]
  .rw[Heap.q0e _ _ aQ] at hi;simp[Plc.put,aQ,h.dead i hi]
 .intro i p hp;by_cases hi:i=U.n
  .subst hi;simp[Plc.put] at hp;subst hp;simp
  .simp[Plc.put,hi] at hp;have:=h.lt i p hp;omega
 .intro i j p q b cB hp hq hb hw hx;by_cases hi:i=U.n
  .subst hi;simp[Plc.put] at hp;subst hp;simp[Plc.put,Ne.symm cB] at hq;have:=h.lt j q hq;intro e;simp at e;omega
  .simp[Plc.put,hi] at hp;rw[Heap.q0e _ _ hi] at hb;by_cases hj:j=U.n
   .subst hj;simp[Plc.put] at hq;subst hq;have:=h.lt i p hp;intro e;simp at e;omega
   .simp[Plc.put,hj] at hq;exact h.sep i j p q b cB hp hq hb hw hx
 .rintro B hB ⟨i,p,b,hp,hb,hw,rfl⟩;by_cases hi:i=U.n
  .subst hi;simp[Plc.put] at hp;subst hp;simp at hB
  .simp[Plc.put,hi] at hp;rw[Heap.q0e _ _ hi] at hb;exact⟨i,p,b,hp,hb,hw,rfl⟩
def Da (w:World) (b:Nat) (O:Obj):World:={w with heap:=w.heap.setIfInBounds b O}
theorem Wu (w:World) (b:Nat) (O:Obj) (k:Nat) (h:k≠b):(Da w b O).heap[k]?=w.heap[k]?:=by simp only[Da];grind
theorem F8 (w:World) (b:Nat) (O:Obj) (h:b<w.heap.size):(Da w b O).heap[b]?=some O:=by simp only[Da];simp_all
theorem NY (w:World) (b:Nat) (O:Obj):(Da w b O).heap.size=w.heap.size:=by simp[Da]
theorem HRel0.setObj {ρ:Plc}{U:Heap}{w:World}(h:HRel0 ρ U w) {i:Nat}{p:Pl}{o:VObj}(hp:ρ i=some p) (hb:U.get i=some (.obj o true)) {o':VObj}{O':Obj}(ho:ORel ρ U.n o' O') :
  HRel0 ρ (U.upd i (.obj o' true)) (Da w p.blk O')/\Ext ρ U w ρ (U.upd i (.obj o' true)) (Da w p.blk O'):=by
 have hi:=U.lt hb;obtain⟨p',bw,h0,O,h1,h2⟩:=h.live i _ hb;obtain rfl:p=p':=osj (hp.symm.trans bw);have ai:=h.lt i p hp;refine⟨⟨λj b hj=>?_,λj hj=>?_,λj q hq=>by rw[NY];exact h.lt j q hq,λj k q r b eA hq hr bD hw hx=>?_⟩,?_⟩
 .by_cases aL:j=i
  .subst aL;rw[Heap.q0d _ _ hi] at hj;obtain rfl:=osj hj;exact⟨p,hp,h0,O',F8 _ _ _ ai,ho⟩
  .rw[Heap.q0b _ _ aL] at hj;obtain⟨q,hq,eN⟩:=h.live j b hj;refine⟨q,hq,?_⟩;by_cases hk:q.blk=p.blk
   .have hx:q.ext=0:=by
     rcases Nat.eq_zero_or_pos q.ext with h'|h'
     .exact h'
     .exact absurd hk.symm (h.sep i j p q _ (Ne.symm aL) hp hq hb rfl h')
    cases b with
    |cells c esz wr tight =>obtain⟨_,_,_,⟨C,e,f,k1,_⟩,_⟩:=eN;rw[hk,h1] at k1;obtain rfl:=osj k1;exact absurd h2 ORel.q1x
    |obj o2 wr=>have:=eN.1;omega
   .exact eN.mono (zd _) (λ_ _ _ h=>h) (Wu _ _ _ _ hk)
 .by_cases aL:j=i
  .grind [Heap.q0d]
  .rw[Heap.q0b _ _ aL] at hj;exact h.dead j hj
 .by_cases aL:j=i
  .subst aL;exact h.sep j k q r _ eA hq hr hb rfl hx
  .rw[Heap.q0b _ _ aL] at bD;exact h.sep j k q r b eA hq hr bD hw hx
 .refine⟨rfl,rfl,rfl,by rw[NY];exact zd _,λB hB hW=>Wu _ _ _ _ (λe=>hW ⟨i,p,_,hp,hb,rfl,e.symm⟩),?_,zd _,λ_ _ _ h=>h⟩;rintro B _ ⟨j,q,b,hq,bO,hw,rfl⟩;by_cases aL:j=i
  .subst aL;exact⟨j,q,_,hq,hb,rfl,rfl⟩
  .rw[Heap.q0b _ _ aL] at bO;exact⟨j,q,b,hq,bO,hw,rfl⟩
theorem HRel0.q0p {ρ:Plc}{U:Heap}{w:World}(h:HRel0 ρ U w) {D:Nat}{d:Option (List Deferred)}(hD:w.heap[D]?=some (.deferred d)) (i:Nat) (p:Pl) (hp:ρ i=some p):p.blk≠D:=by
 rintro rfl;cases hb:U.get i with
 |none=>rw[h.dead i hb] at hp;cases hp
 |some b =>
  obtain⟨p',bw,hB⟩:=h.live i b hb;obtain rfl:p=p':=osj (hp.symm.trans bw);cases b with
  |cells c esz wr tight =>obtain⟨_,_,_,⟨C,e,f,k1,_⟩,_⟩:=hB;rw[hD] at k1;cases k1
  |obj o wr =>obtain⟨_,O,k1,k2⟩:=hB;rw[hD] at k1;obtain rfl:=osj k1;exact ORel.q0p k2
theorem HRel0.kill {ρ:Plc}{U:Heap}{w:World}(h:HRel0 ρ U w) (i:Nat):HRel0 (ρ.put i none) (U.kill i) w/\Ext ρ U w (ρ.put i none) (U.kill i) w:=by
 have aU:∀ j,∀ p,(ρ.put i none) j=some p->ρ j=some p/\j≠i:=λj p hp=>by unfold Plc.put at hp;split at hp<;>simp_all
 refine⟨⟨λj b hb=>?_,λj hj=>?_,λj p hp=>h.lt j p (aU j p hp).1,λj k p q b eA hp hq hb hw hx=>?_⟩,⟨rfl,rfl,rfl,zd _,λ_ _ _=>rfl,?_,zd _,λj _ p hp=>(aU j p hp).1⟩⟩
 .by_cases aL:j=i
  .grind [Heap.q0i]
  .rw[Heap.q0c _ aL] at hb;obtain⟨p,hp,hB⟩:=h.live j b hb;exact⟨p,by simp[Plc.put,aL,hp],hB.mono (zd _) (λk _ p hp=>(aU k p hp).1) rfl⟩
 .by_cases aL:j=i
  .simp[Plc.put,aL]
  .rw[Heap.q0c _ aL] at hj;simp[Plc.put,aL,h.dead j hj]
 .obtain⟨bw,aL⟩:=aU j p hp;rw[Heap.q0c _ aL] at hb;exact h.sep j k p q b eA bw (aU k q hq).1 hb hw hx
 .rintro B _ ⟨j,p,b,hp,hb,hw,rfl⟩;obtain⟨bw,aL⟩:=aU j p hp;rw[Heap.q0c _ aL] at hb;exact⟨j,p,b,bw,hb,hw,rfl⟩
def GTabs (ρ:Plc) (U:Heap) (w:World):Prop:=∀ g cs,IW g=some cs->(∃ e f,w.heap[g]?=some (.cells cs.toArray e f))/\¬ Wr ρ U g
theorem GTabs.lt {ρ:Plc}{U:Heap}{w:World}(h:GTabs ρ U w) {g:Nat}{cs:List Value}(hg:IW g=some cs):g<w.heap.size:=by
 obtain⟨⟨e,f,h1⟩,_⟩:=h g cs hg
 grind
theorem GTabs.ext {ρ ρ':Plc}{U U':Heap}{w w':World}(h:GTabs ρ U w) (k:Ext ρ U w ρ' U' w'):GTabs ρ' U' w':=λg cs hg=>by obtain⟨⟨e,f,h1⟩,h2⟩:=h g cs hg;have hl:=h.lt hg;exact⟨⟨e,f,by rw[k.keep g hl h2];exact h1⟩,λhw=>h2 (k.wr g hl hw)⟩
structure HRel (ρ:Plc) (U:Heap) (w:World):Prop where
 core:HRel0 ρ U w
 tab:GTabs ρ U w
section
variable {ρ:Plc}{U:Heap}{w:World}
theorem HRel.ext {ρ':Plc}{U':Heap}{w':World}(h:HRel ρ U w) (h':HRel0 ρ' U' w') (k:Ext ρ U w ρ' U' w'):HRel ρ' U' w':=⟨h',h.tab.ext k⟩
theorem HRel.live (h:HRel ρ U w):∀ i b,U.get i=some b->∃ p,ρ i=some p/\BRel ρ U.n p w b:=h.core.live
theorem HRel.dead (h:HRel ρ U w):∀ i,U.get i=none->ρ i=none:=h.core.dead
theorem HRel.lt (h:HRel ρ U w):∀ i p,ρ i=some p->p.blk<w.heap.size:=h.core.lt
theorem HRel.sep (h:HRel ρ U w):∀ i j p q b,i≠j->ρ i=some p->ρ j=some q->U.get i=some b->b.wr=true->0<q.ext->p.blk≠q.blk:=h.core.sep
theorem HRel.idlt (h:HRel ρ U w) {i:Nat}{p:Pl}(hp:ρ i=some p):i<U.n:=h.core.idlt hp
theorem HRel.world {w':World}(h:HRel ρ U w) (hs:w.heap.size<=w'.heap.size) (hb:∀ i p,ρ i=some p->w'.heap[p.blk]?=w.heap[p.blk]?) (ht:∀ g cs,IW g=some cs->w'.heap[g]?=w.heap[g]?):HRel ρ U w' :=
 ⟨h.core.world hs hb,λg cs hg=>by
  obtain⟨⟨e,f,h1⟩,h2⟩:=h.tab g cs hg;simp_all⟩
theorem HRel.drew (h:HRel ρ U w):HRel ρ U w.drew:=⟨h.core.drew,h.tab⟩
theorem HRel.alloc (h:HRel ρ U w) (c:List Value) (C:Array Value) (e:TypeId) (esz:El) (tight:Bool) (he:e=esz.ty)
  (hc:LRel ρ U.n c (C.toList.take c.length)) (hl:c.length<=C.size) :
  ∃ ρ',ρ' U.n=some ⟨w.heap.size,0,C.size,esz,tight⟩/\HRel ρ' (U.push (.cells c esz true tight)) (w.alloc (.cells C e))/\Ext ρ U w ρ' (U.push (.cells c esz true tight)) (w.alloc (.cells C e)) :=
 let ⟨ρ',h1,h2,h3⟩:=h.core.alloc c C e esz tight he hc hl
 ⟨ρ',h1,h.ext h2 h3,h3⟩
theorem HRel.newObj (h:HRel ρ U w) (o:VObj) (O:Obj) (ho:ORel ρ U.n o O) :
  ∃ ρ',ρ' U.n=some ⟨w.heap.size,0,1,default,true⟩/\HRel ρ' (U.push (.obj o true)) (w.alloc O)/\Ext ρ U w ρ' (U.push (.obj o true)) (w.alloc O) :=
 let ⟨ρ',h1,h2,h3⟩:=h.core.newObj o O ho
 ⟨ρ',h1,h.ext h2 h3,h3⟩
theorem HRel.setObj (h:HRel ρ U w) {i:Nat}{p:Pl}{o:VObj}(hp:ρ i=some p) (hb:U.get i=some (.obj o true)) {o':VObj}{O':Obj}(ho:ORel ρ U.n o' O') :
  HRel ρ (U.upd i (.obj o' true)) (Da w p.blk O')/\Ext ρ U w ρ (U.upd i (.obj o' true)) (Da w p.blk O') :=
 let ⟨h2,h3⟩:=h.core.setObj hp hb ho
 ⟨h.ext h2 h3,h3⟩
theorem HRel.q0p (h:HRel ρ U w) {D:Nat}{d:Option (List Deferred)}(hD:w.heap[D]?=some (.deferred d)) (i:Nat) (p:Pl) (hp:ρ i=some p):p.blk≠D:=h.core.q0p hD i p hp
theorem HRel.kill (h:HRel ρ U w) (i:Nat):HRel (ρ.put i none) (U.kill i) w/\Ext ρ U w (ρ.put i none) (U.kill i) w :=
 let ⟨h2,h3⟩:=h.core.kill i
 ⟨h.ext h2 h3,h3⟩
end
end Go.V
namespace Go.V
open Go
abbrev Env:=List Value
inductive MK where
 |int (k:IntKind)
 |string
 |bool
 |agg (s:List MK)
 deriving Inhabited
inductive XOp where
 |eqNil (kd:Nat) (neg:Bool) (x y:Operand)
 |makeMap
 |lookup (mk:MK) (zero:Value) (ok:Bool) (x i:Operand)
 |mapUpdate (mk:MK) (m k v:Operand)
 |delete (mk:MK) (m k:Operand)
 |mapEntry (mk:MK) (zero:Value) (m k:Operand)
 |entryStore (m s v:Operand)
 |lenMap (x:Operand)
 |rangeMap (x:Operand)
 |nextMap (x:Operand)
 |entry (x:Operand)
 |copy (size:Nat) (d s:Operand)
 |clear (z:List Value) (x:Operand)
 |toUnsafe (x:Operand)
 |fromUnsafe (u size:Nat) (x:Operand)
 |sliceData (x:Operand)
 |unsafeStr (e:Nat) (x n:Operand)
 |bytesStr (x:Operand)
 |strBytes (e:Nat) (x:Operand)
 |eqAgg (neg:Bool) (s:List MK) (x y:Operand)
 |rangeStr (x:Operand)
 |nextStr (x:Operand)
 deriving Inhabited
inductive VOp where
 |move (x:Operand)
 |pick (c a b:Operand)
 |arith (op:BinOp) (x y:Operand)
 |div (op:BinOp) (x y:Operand)
 |bits (op:BinOp) (x y:Operand)
 |shift (op:BinOp) (x y:Operand)
 |cmp (op:BinOp) (x y:Operand)
 |str (op:BinOp) (x y:Operand)
 |eqB (neg:Bool) (x y:Operand)
 |un (op:UnOp) (x:Operand)
 |convI (k:IntKind) (x:Operand)
 |convS (x:Operand)
 |alloc (t:Nat) (z:List Value)
 |box (t:Nat) (x:Operand)
 |build (z:List Value) (parts:List (Nat×Nat×Operand))
 |buildSlice (esz:El) (z:List Value) (len:Nat) (parts:List (Nat×Operand))
 |load (agg:Bool) (size:Nat) (a:Operand)
 |store (size:Nat) (a v:Operand)
 |fieldAddr (off:Nat) (a:Operand)
 |field (agg:Bool) (off size:Nat) (x:Operand)
 |indexAddr (size:Nat) (x i:Operand)
 |indexAddrArr (len size:Nat) (x i:Operand)
 |indexStr (x i:Operand)
 |indexArr (len:Nat) (agg:Bool) (size:Nat) (x i:Operand)
 |slice (size:Nat) (x:Operand) (lo hi mx:Option Operand)
 |sliceStr (x:Operand) (lo hi:Option Operand)
 |makeSlice (esz:El) (bytes:Nat) (z:List Value) (l c:Operand)
 |len (x:Operand)
 |lenStr (x:Operand)
 |append (esz:El) (bytes:Nat) (s x:Operand)
 |max (x y:Operand)
 |max4 (x y z w:Operand)
 |min (x y:Operand)
 |makeFunc (fn:Fn) (first cap:List Operand)
 |iface (t:TypeId) (x:Operand)
 |extract (x:Operand) (i:Nat)
 |nilCheck (x:Operand)
 |callF (f:FuncId) (args:List Operand)
 |callV (f:Operand) (args:List Operand)
 |ext (o:XOp)
 |bad
 deriving Inhabited
structure VOper where
 dst:Option Nat
 op:VOp
 guard:Option (Nat×Bool)
 deriving Inhabited
structure DOper where
 dst:Option Nat
 op:VOp
 guard:Option (Nat×Bool)
 kind:Nat
 kmin:Nat
 kmax:Nat
 deriving Inhabited
inductive DSeg where
 |one (o:VOper)
 |alts (l:List (List DOper))
 deriving Inhabited
inductive VCode where
 |skip
 |region (ops:List VOper)
 |regionD (aT:List DSeg)
 |rangeF (g:Operand) (ps:List Nat) (a b:VCode)
 |seq (a b:VCode)
 |cond (c:Operand) (a b:VCode)
 |block (id:Nat) (b:VCode)
 |loop (b:VCode)
 |exit (id:Nat)
 |ret
 |bad
 deriving Inhabited
def QA:Value->Bool
 |.bool _|.int _ _|.string _|.pointer none|.slice none 0 0|.map none|.nilFunc|.nilIface=>true
 |_=>false
def Yn:Value->Bool
 |.agg cs=>cs.toList.all QA
 |.tuple cs=>cs.toList.all QA
 |v=>QA v
def Ji:Operand->Bool
 |.tmp _=>true
 |.const v=>Yn v
 |.global _=>true
 |.func _=>true
def Kp:TypeDesc->Bool
 |.struct _|.array _ _=>true
 |_=>false
def zeroOf (P:Program) (t:TypeId):Option (List Value):=do
 let i <-P.info? t;let z <-i.zero;let cs:=z.cells.toList
 if cs.length==i.size&&cs.all QA then some cs else none
def MP (P:Program) (t:TypeId) (f:Nat):Option Field :=
 match P.underlying t with
 |some (.struct fs)=>fs[f]?
 |_=>none
def YJ (P:Program) (o:Op):Option VOp :=
 if !(o.operands.toList.all Ji) then none else
 match o with
 |.move x|.assign x=>some (.move x)
 |.pick c a b=>some (.pick c a b)
 |.binOp op t x y _ =>
  match P.underlying t with
  |some (.int _) =>
   match op with
   |.add|.sub|.mul=>some (.arith op x y)
   |.quo|.rem=>some (.div op x y)
   |.and|.or|.xor|.andNot=>some (.bits op x y)
   |.shl|.shr=>some (.shift op x y)
   |_=>some (.cmp op x y)
  |some .string=>some (.str op x y)
  |some .bool=>match op with|.eql=>some (.eqB false x y)|.neq=>some (.eqB true x y)|_=>none
  |_=>none
 |.unOp op _ x=>some (.un op x)
 |.convert s d x =>
  match P.underlying s,P.underlying d with
  |some (.int _),some (.int k)=>some (.convI k x)
  |some .string,some .string=>some (.convS x)
  |_,_=>none
 |.alloc t=>do some (.alloc t (<-zeroOf P t))
 |.box t x=>some (.box t x)
 |.build t parts=>do
  let z <-zeroOf P t
  match P.underlying t with
  |some (.struct fs)=>do
   let places <-fs.toList.mapM λf=>(P.info? f.type).map λi=>(f.offset,i.size);let ps <-parts.toList.mapM λq=>(places[q.1]?).map λos=>(os.1,os.2,q.2)
   some (.build z ps)
  |some (.array _ e)=>do
   let ei <-P.info? e
   some (.build z (parts.toList.map λq=>(q.1*ei.size,ei.size,q.2)))
  |_=>none
 |.buildSlice t len parts =>
  match P.underlying t with
  |some (.slice e)=>do
   let z <-zeroOf P e
   if z.length==0||4096<len*z.length then none
   some (.buildSlice ⟨z.length,e⟩ z len parts.toList)
  |_=>none
 |.load t a=>do
  let i <-P.info? t;let d <-P.underlying t
  some (.load (Kp d) i.size a)
 |.store t a v=>do
  let i <-P.info? t
  some (.store i.size a v)
 |.fieldAddr t a f=>do
  let fd <-MP P t f;let fi <-P.info? fd.type
  if fi.size==0 then none
  some (.fieldAddr fd.offset a)
 |.field t x f=>do
  let fd <-MP P t f;let fi <-P.info? fd.type;let d <-P.underlying fd.type
  some (.field (Kp d) fd.offset fi.size x)
 |.indexAddr t x i =>
  match P.underlying t with
  |some (.slice e)=>do let ei <-P.info? e;some (.indexAddr ei.size x i)
  |some (.array n e)=>do let ei <-P.info? e;some (.indexAddrArr n ei.size x i)
  |_=>none
 |.index t x i =>
  match P.underlying t with
  |some .string=>some (.indexStr x i)
  |some (.array n e)=>do let ei <-P.info? e;let d <-P.underlying e;some (.indexArr n (Kp d) ei.size x i)
  |_=>none
 |.slice t x lo hi mx =>
  match P.underlying t with
  |some (.slice e)=>do let ei <-P.info? e;some (.slice ei.size x lo hi mx)
  |some .string=>if mx.isNone then some (.sliceStr x lo hi) else none
  |_=>none
 |.makeSlice t l c =>
  match P.underlying t with
  |some (.slice e)=>do
   let ei <-P.info? e;let z <-zeroOf P e
   if z.length==0 then none
   some (.makeSlice ⟨z.length,e⟩ ei.bytes z l c)
  |_=>none
 |.makeFunc fn first cap=>match fn with|.func _=>some (.makeFunc fn first.toList cap.toList)|_=>none
 |.makeInterface t x=>do
  let d <-P.underlying t
  match d with
  |.interface _=>none
  |_=>some (.iface t x)
 |.extract x i=>some (.extract x i)
 |.nilCheck x=>some (.nilCheck x)
 |.call c =>
  match c.callee with
  |.value (.func f)=>some (.callF f c.args.toList)
  |.value f=>some (.callV f c.args.toList)
  |.builtin .len =>
   match c.argTypes[0]?,c.args.toList with
   |some t,[x] =>
    match P.underlying t with
    |some .string=>some (.lenStr x)
    |some (.slice _)=>some (.len x)
    |_=>none
   |_,_=>none
  |.builtin .append =>
   match c.argTypes[0]?,c.argTypes[1]?,c.args.toList with
   |some t,some u,[s,x] =>
    match P.underlying t,P.underlying u with
    |some (.slice e),some (.slice _)=>do
     let ei <-P.info? e;let z <-zeroOf P e
     if z.length==0||ei.bytes==0 then none
     some (.append ⟨z.length,e⟩ ei.bytes s x)
    |_,_=>none
   |_,_,_=>none
  |.builtin .max=>match c.args.toList with|[x,y]=>some (.max x y)|[x,y,z]=>some (.max4 x y z z)|[x,y,z,w]=>some (.max4 x y z w)|_=>none
  |.builtin .min=>match c.args.toList with|[x,y]=>some (.min x y)|_=>none
  |_=>none
 |_=>none
def Lt (P:Program) (g:TypeId->Option (List MK)):List Field->Nat->Option (List MK)
 |[],_=>some []
 |f::r,off=>if f.name≠"_"/\f.offset=off then (match g f.type with
  |some s=>if P.cellsOf f.type=s.length then (Lt P g r (off+s.length)).map λq=>s++q else none
  |none=>none) else none
def shp (P:Program):Nat->TypeId->Option (List MK)
 |0,_=>none
 |d+1,t=>match P.underlying t with
  |some .bool=>some [.bool]
  |some (.int q)=>some [.int q]
  |some .string=>some [.string]
  |some (.array n e)=>(match shp P d e with
   |some s=>if P.cellsOf e=s.length then some (List.replicate n s).flatten else none
   |none=>none)
  |some (.struct fs)=>if P.stoodInHeld t=true then none else Lt P (shp P d) fs.toList 0
  |_=>none
def IC:MK->Value->Bool
 |.int q,.int q' _=>decide (q'=q)
 |.string,.string _=>true
 |.bool,.bool _=>true
 |_,_=>false
def fits:List MK->List Value->Bool
 |[],[]=>true
 |k::ks,v::vs=>IC k v&&fits ks vs
 |_,_=>false
def Yh:Value->Value->Bool
 |.int _ a,.int _ b=>a==b
 |.bool a,.bool b=>a==b
 |.string a,.string b=>a.data.toList==b.data.toList
 |_,_=>false
def Ql:List Value->List Value->Bool
 |a::l,b::m=>Yh a b&&Ql l m
 |_,_=>true
def Pe (P:Program) (neg:Bool) (t:TypeId) (x y:Operand):Option XOp :=
 if P.eqGuardType P.depth t=true then none else (shp P 8 t).map λs=>.eqAgg neg s x y
theorem As {P:Program}{neg:Bool}{t:TypeId}{x y:Operand}{o:XOp}(h:Pe P neg t x y=some o):∃ s,o=.eqAgg neg s x y:=by
 unfold Pe at h
 grind [Option.map_eq_some_iff]
def RM (P:Program) (t:TypeId):Option MK :=
 match P.underlying t with
 |some (.int k)=>some (.int k)
 |some .string=>some .string
 |some .bool=>some .bool
 |some (.struct _)=>(shp P 8 t).map .agg
 |some (.array _ _)=>(shp P 8 t).map .agg
 |_=>none
def HZ (P:Program) (o:Op):Option XOp :=
 if !(o.operands.toList.all Ji) then none else
 match o with
 |.binOp op t x y _ =>
  match op,P.underlying t with
  |.eql,some (.pointer e)=>do let i <-P.info? e;if i.size==0 then none else some (.eqNil 0 false x y)
  |.neq,some (.pointer e)=>do let i <-P.info? e;if i.size==0 then none else some (.eqNil 0 true x y)
  |.eql,some (.slice _)=>some (.eqNil 1 false x y)
  |.eql,some (.map _ _)=>some (.eqNil 2 false x y)
  |.eql,some (.func _ _ _)=>some (.eqNil 3 false x y)
  |.neq,some (.slice _)=>some (.eqNil 1 true x y)
  |.neq,some (.map _ _)=>some (.eqNil 2 true x y)
  |.neq,some (.func _ _ _)=>some (.eqNil 3 true x y)
  |.eql,some (.struct _)=>Pe P false t x y
  |.neq,some (.struct _)=>Pe P true t x y
  |.eql,some (.array _ _)=>Pe P false t x y
  |.neq,some (.array _ _)=>Pe P true t x y
  |_,_=>none
 |.makeMap _ none=>some .makeMap
 |.lookup t x i ok =>
  match P.underlying t with
  |some (.map k e)=>do
   let mk <-RM P k;let inf <-P.info? e;let z <-inf.zero
   if Yn z then some (.lookup mk z ok x i) else none
  |_=>none
 |.mapUpdate t m k v =>
  match P.underlying t with
  |some (.map kt _)=>do some (.mapUpdate (<-RM P kt) m k v)
  |_=>none
 |.insert t m k v =>
  match P.underlying t with
  |some (.map kt _)=>do some (.mapUpdate (<-RM P kt) m k v)
  |_=>none
 |.mapEntry t m k =>
  match P.underlying t with
  |some (.map kt e)=>do
   let mk <-RM P kt;let inf <-P.info? e;let z <-inf.zero
   if Yn z then some (.mapEntry mk z m k) else none
  |_=>none
 |.entryStore _ m s v=>some (.entryStore m s v)
 |.range t x =>
  match P.underlying t with
  |some (.map _ _)=>some (.rangeMap x)
  |some .string=>some (.rangeStr x)
  |_=>none
 |.next x false=>some (.nextMap x)
 |.next x true=>some (.nextStr x)
 |.entry x=>some (.entry x)
 |.convert s d x =>
  match P.underlying s,P.underlying d with
  |some (.pointer t),some .unsafePointer=>do let i <-P.info? t;if i.size==0 then none else some (.toUnsafe x)
  |some .unsafePointer,some (.pointer u)=>do let i <-P.info? u;if i.size==0||P.cellsOf u==0 then none else some (.fromUnsafe u (P.cellsOf u) x)
  |some (.slice e),some .string=>match P.underlying e with|some (.int .u8)=>some (.bytesStr x)|_=>none
  |some .string,some (.slice e)=>match P.underlying e with|some (.int .u8)=>some (.strBytes e x)|_=>none
  |_,_=>none
 |.call c =>
  match c.callee with
  |.builtin .len =>
   match c.argTypes[0]?,c.args.toList with
   |some t,[x]=>match P.underlying t with|some (.map _ _)=>some (.lenMap x)|_=>none
   |_,_=>none
  |.builtin .delete =>
   match c.argTypes[0]?,c.args.toList with
   |some t,[m,k]=>match P.underlying t with|some (.map kt _)=>do some (.delete (<-RM P kt) m k)|_=>none
   |_,_=>none
  |.builtin .copy =>
   match c.argTypes[0]?,c.args.toList with
   |some t,[d,s]=>match P.underlying t with|some (.slice e)=>do let i <-P.info? e;some (.copy i.size d s)|_=>none
   |_,_=>none
  |.builtin .clear =>
   match c.argTypes[0]?,c.args.toList with
   |some t,[x]=>match P.underlying t with
    |some (.slice e)=>do
     let z <-zeroOf P e
     if z.length==0 then none
     some (.clear z x)
    |_=>none
   |_,_=>none
  |.builtin .unsafeSliceData=>match c.args.toList with|[x]=>some (.sliceData x)|_=>none
  |.builtin .unsafeString =>
   match c.argTypes[0]?,c.args.toList with
   |some t,[x,n]=>match P.underlying t with|some (.pointer e)=>if P.cellsOf e=1 then some (.unsafeStr e x n) else none|_=>none
   |_,_=>none
  |_=>none
 |_=>none
def WY (P:Program) (o:Op):VOp :=
 match YJ P o with
 |some v=>v
 |none=>match HZ P o with
  |some x=>.ext x
  |none=>.bad
def Zs (P:Program) (ops:Array Oper) (o:Oper):Option VOper:=do
 let v:=WY P o.op
 match o.guard with
 |none=>some ⟨o.dst,v,none⟩
 |some (j,want)=>do
  let oj <-ops[j]?;let d <-oj.dst
  some ⟨o.dst,v,some (d,want)⟩
def XOp.quiet:XOp->Bool
 |.makeMap|.mapUpdate ..|.mapEntry ..|.entryStore ..|.delete ..|.rangeMap _|.nextMap _|.copy ..|.clear ..|.unsafeStr ..|.strBytes ..|.rangeStr _|.nextStr _=>false
 |_=>true
def VOp.quiet:VOp->Bool
 |.ext o=>o.quiet
 |.alloc ..|.box ..|.buildSlice ..|.store ..|.makeSlice ..|.append ..=>false
 |.slice _ _ _ _ (some _)=>false
 |_=>true
def VOp.kind:VOp->Nat
 |.callF ..|.callV ..=>2
 |.load ..=>1
 |.slice _ _ _ _ none=>1
 |.ext (.eqNil ..)|.ext (.lookup ..)|.ext (.lenMap _)|.ext (.entry _)|.ext (.toUnsafe _)|.ext (.fromUnsafe ..)|.ext (.sliceData _)|.ext (.bytesStr _)=>1
 |o=>if o.quiet then 0 else 2
def Q1p (acc:List Nat) (es:List Nat):Nat:=es.foldl (λs e=>s ||| 2 ^ e ||| acc.getD e 0) 0
def Q4z:List (List Nat)->List Nat->List Nat
 |[],acc=>acc
 |es::r,acc=>Q4z r (acc++[Q1p acc es])
def XOp.opds:XOp->List Operand
 |.eqNil _ _ x y=>[x,y]
 |.eqAgg _ _ x y=>[x,y]
 |.makeMap=>[]
 |.lookup _ _ _ x i=>[x,i]
 |.mapUpdate _ m k v=>[m,k,v]
 |.delete _ m k=>[m,k]
 |.mapEntry _ _ m k=>[m,k]
 |.entryStore m s v=>[m,s,v]
 |.rangeStr x|.nextStr x|.lenMap x|.rangeMap x|.nextMap x|.entry x|.toUnsafe x|.fromUnsafe _ _ x|.sliceData x|.bytesStr x=>[x]
 |.copy _ d s=>[d,s]
 |.clear _ x=>[x]
 |.unsafeStr _ x n=>[x,n]
 |.strBytes _ x=>[x]
def VOp.opds:VOp->List Operand
 |.move x|.un _ x|.convI _ x|.convS x|.box _ x|.load _ _ x|.fieldAddr _ x|.field _ _ _ x|.len x|.lenStr x|.iface _ x|.extract x _|.nilCheck x=>[x]
 |.pick c a b=>[c,a,b]
 |.arith _ x y|.div _ x y|.bits _ x y|.shift _ x y|.cmp _ x y|.str _ x y|.eqB _ x y|.store _ x y|.indexAddr _ x y|.indexAddrArr _ _ x y|.indexStr x y|.indexArr _ _ _ x y|.makeSlice _ _ _ x y
 |.append _ _ x y|.max x y|.min x y=>[x,y]
 |.max4 x y z w=>[x,y,z,w]
 |.alloc ..|.bad=>[]
 |.build _ ps=>ps.map λp=>p.2.2
 |.buildSlice _ _ _ ps=>ps.map λp=>p.2
 |.slice _ x a b c=>x::(a.toList++b.toList++c.toList)
 |.sliceStr x a b=>x::(a.toList++b.toList)
 |.makeFunc _ a b=>a++b
 |.callF _ bQ=>bQ
 |.callV f bQ=>f::bQ
 |.ext o=>o.opds
def Iw (l:List Operand):List Nat:=l.filterMap fun|.tmp t=>some t|_=>none
def Gg (o:Oper):List Nat:=(o.after.toList.filter (Region.binds .any)).map (·.on)
def Y7 (v:VOper):List Nat:=v.dst.toList++Iw v.op.opds++(v.guard.map (·.1)).toList
def OV (a b:List Nat×Option Nat):Bool:=(match a.2 with|some d=>b.1.contains d|none=>false)||(match b.2 with|some d=>a.1.contains d|none=>false)
structure DInfo where
 an:List Nat
 ed:List (List Nat)
 nm:List (List Nat×Option Nat)
 ks:List Nat
def Yj (ops:List Oper) (vs:List VOper):DInfo:=⟨Q4z (ops.map Gg) [],ops.map Gg,vs.map λv=>(Y7 v,v.dst),vs.map (·.op.kind)⟩
def DInfo.lt (d:DInfo) (i j:Nat):Bool:=(d.an.getD j 0).testBit i
def DInfo.k (d:DInfo) (i:Nat):Nat:=d.ks.getD i 0
def DInfo.rank (d:DInfo):Nat->Nat
 |0=>0
 |i+1=>if d.k i=2 then d.rank i+1 else d.rank i
def DInfo.kmin (d:DInfo) (i:Nat):Nat:=((List.range d.ks.length).filter λl=>d.k l==2&&d.lt l i).length
def DInfo.kmax (d:DInfo) (i:Nat):Nat:=((List.range d.ks.length).filter λl=>d.k l==2&&!(d.lt i l)).length
def DInfo.touch (d:DInfo) (i j:Nat):Bool:=OV (d.nm.getD i ([],none)) (d.nm.getD j ([],none))
def DInfo.okE (d:DInfo) (j:Nat):Bool:=(d.ed.getD j []).all λe=>decide (e<j)
def DInfo.okP (d:DInfo) (j:Nat):Bool:=(List.range j).all λi =>
 if d.lt i j then (d.ed.getD j []).any (λe=>e==i||decide (i<e)&&d.lt i e) else !(d.touch i j)&&!(d.k i==2&&d.k j==2)
def DInfo.okK (d:DInfo) (j:Nat):Bool:=!(d.k j==1) ||
 (decide (d.kmin j<=d.rank j/\d.rank j<=d.kmax j)&&(decide (d.kmax j<=d.rank d.ks.length)&&(List.range d.ks.length).all λl=>!(d.k l==2)||(d.lt l j==decide (d.rank l<d.kmin j)&&d.lt j l==decide (d.kmax j<=d.rank l))))
def DInfo.ok (d:DInfo):Bool:=(List.range d.ks.length).all λj=>d.okE j&&(d.okP j&&d.okK j)
def DInfo.opers (d:DInfo):List VOper->Nat->List DOper
 |[],_=>[]
 |v::r,i=>⟨v.dst,v.op,v.guard,v.op.kind,d.kmin i,d.kmax i⟩::d.opers r (i+1)
def DInfo.okB (d:DInfo):Bool:=decide (d.an.length=d.ks.length)&&(List.range d.ks.length).all λj=>d.okE j&&(decide (d.an.getD j 0<2 ^ j) &&
 (List.range j).all λi=>!(d.lt i j)||(d.ed.getD j []).any (λe=>e==i||decide (i<e)&&d.lt i e))
def exts (lt:Nat->Nat->Bool):Nat->List Nat->List (List Nat)
 |_,[]=>[[]]
 |0,_=>[]
 |n+1,l=>l.flatMap λk=>if l.all (λi=>i==k||!(lt i k)) then (exts lt n (l.erase k)).map (k::·) else []
def Q74 (ed:List (List Nat)) (ks idx:List Nat):Nat->List Nat->List Nat->List Nat
 |0,acc,_=>acc
 |f+1,acc,kq=>match idx.find? (λi=>!(acc.contains i)&&((ed.getD i []).all (λe=>!(idx.contains e)||acc.contains e)&&(!(ks.getD i 0==2)||kq.head?==some i))) with
  |none=>acc
  |some i=>Q74 ed ks idx f (acc++[i]) (if ks.getD i 0==2 then kq.tail else kq)
def Q1i (ed:List (List Nat)) (ks idx:List Nat):Nat->List Nat->List Nat->List Nat
 |0,acc,_=>acc
 |f+1,acc,kq=>match idx.find? (λi=>!(acc.contains i)&&((ed.getD i []).all (λe=>!(idx.contains e)||acc.contains e)&&!(ks.getD i 0==2))) with
  |some i=>Q1i ed ks idx f (acc++[i]) kq
  |none=>match idx.find? (λi=>!(acc.contains i)&&((ed.getD i []).all (λe=>!(idx.contains e)||acc.contains e)&&kq.head?==some i)) with
   |none=>acc
   |some i=>Q1i ed ks idx f (acc++[i]) kq.tail
def Q0u:VOp->Bool
 |.callF ..=>true
 |_=>false
def Q5i (b:Bool) (ed:List (List Nat)) (ks idx:List Nat) (n:Nat) (q:List Nat):List Nat:=if b then Q1i ed ks idx n [] q else Q74 ed ks idx n [] q
def Q12 (d:DInfo) (pm:List Nat) (p:Nat):List Nat :=
 ((d.ed.getD (pm.getD p 0) []).filter pm.contains).map (λe=>pm.idxOf e) ++
  (if d.k (pm.getD p 0)==2 then ((List.range p).filter λq=>d.k (pm.getD q 0)==2).getLast?.toList else [])
def YN (vs:List VOper) (pm:List Nat):List VOper:=pm.map λi=>vs.getD i default
def Cg (d:DInfo) (vs:List VOper) (pm:List Nat):DInfo :=
 let ed:=(List.range pm.length).map (Q12 d pm)
 ⟨Q4z ed [],ed,(YN vs pm).map λv=>(Y7 v,v.dst),(YN vs pm).map (·.op.kind)⟩
def Q4m (d:DInfo) (vs:List VOper) (idx s pm:List Nat):Bool :=
 idx.all pm.contains&&(pm.all idx.contains&&(decide pm.Nodup&&(decide (pm.filter (λi=>d.k i==2)=s)&&(Cg d vs pm).ok)))
def Q6a (d:DInfo) (vs:List VOper) (s n:Nat):Option DSeg :=
 if n=1 then some (.one (vs.getD s default)) else
 let idx:=List.range' s n;let ss:=exts d.lt n (idx.filter λi=>d.k i==2);let ps:=ss.map λq=>(q,Q5i (decide (3<=(idx.filter λi=>Q0u (vs.getD i default).op).length)) d.ed d.ks idx n q)
 if ps.all λsp=>Q4m d vs idx sp.1 sp.2 then some (.alts (ps.map λsp=>(Cg d vs sp.2).opers (YN vs sp.2) 0)) else none
def cutAt (d:DInfo) (t:Nat):Bool:=(List.range' t (d.ks.length-t)).all λp=>(List.range t).all λi=>d.lt i p
def Ie (d:DInfo) (vs:List VOper):Nat->Nat->Option (List DSeg)
 |0,s=>if s=d.ks.length then some [] else none
 |f+1,s=>if s=d.ks.length then some [] else
  match (List.range' (s+1) (d.ks.length-s)).find? (cutAt d) with
  |none=>none
  |some t=>match Q6a d vs s (t-s),Ie d vs f t with
   |some x,some r=>some (x::r)
   |_,_=>none
def Q18 (d:DInfo) (vs:List VOper):Option (List DSeg):=if d.okB then Ie d vs d.ks.length 0 else none
def UZ (d:DInfo) (vs:List VOper):Bool :=
 d.okB&&(vs.all (λv=>!(v.op.kind==2))&&Q4m d vs (List.range' 0 d.ks.length) [] (List.range' 0 d.ks.length))
def comp (P:Program):Code->Option VCode
 |.skip=>some .skip
 |.region _ ops false=>do some (.region (<-ops.toList.mapM (Zs P ops)))
 |.region _ ops true=>do
  let l <-ops.toList.mapM (Zs P ops)
  if UZ (Yj ops.toList l) l then some (.region l) else
  match Q18 (Yj ops.toList l) l with
  |some aT=>some (.regionD aT)
  |none=>some .bad
 |.seq a b=>do some (.seq (<-comp P a) (<-comp P b))
 |.cond c a b=>do if Ji c then some (.cond c (<-comp P a) (<-comp P b)) else some .bad
 |.block id b=>do some (.block id (<-comp P b))
 |.loop b=>do some (.loop (<-comp P b))
 |.rangeFunc g ps a b=>do if Ji g then some (.rangeF g ps.toList (<-comp P a) (<-comp P b)) else some .bad
 |.exit id=>some (.exit id)
 |.ret=>some .ret
 |_=>some .bad
def Q6 (env:Env):Operand->Value
 |.tmp t=>env.getD t undef
 |.const v=>v
 |.global g=>.pointer (some ⟨g,0,some 0⟩)
 |.func f=>.func (.func f) #[] #[]
def PF:BinOp->IntKind->Int->Int->Int
 |.add,k,a,b=>k.wrap (a+b)
 |.sub,k,a,b=>k.wrap (a-b)
 |_,k,a,b=>k.wrap (a*b)
def Q21:BinOp->IntKind->Int->Int->Int
 |.quo,k,a,b=>k.wrap (a.tdiv b)
 |_,_,a,b=>a.tmod b
def Bo (op:BinOp) (k:IntKind) (x y:Int):Int :=
 let a:=BitVec.ofInt k.bits x;let b:=BitVec.ofInt k.bits y
 match op with
 |.and=>k.wrap (a &&& b).toNat
 |.or=>k.wrap (a ||| b).toNat
 |.xor=>k.wrap (a ^^^ b).toNat
 |_=>k.wrap (a &&& ~~~b).toNat
def Po:BinOp->IntKind->Int->Int->Int
 |.shl,k,x,y=>k.wrap (x*2 ^ (Nat.min y.toNat k.bits))
 |_,k,x,y=>x.fdiv (2 ^ (Nat.min y.toNat k.bits))
def Q4k:BinOp->Int->Int->Bool
 |.eql,a,b=>a==b
 |.neq,a,b=>a != b
 |.lss,a,b=>decide (a<b)
 |.leq,a,b=>decide (a<=b)
 |.gtr,a,b=>decide (a > b)
 |_,a,b=>decide (a>=b)
def cellOk:Value->Bool
 |.agg _|.tuple _|.chan _=>false
 |_=>true
def Wz:Value->Option (List Value)
 |.agg cs=>some cs.toList
 |.chan _|.tuple _=>none
 |v=>some [v]
def JH (c:List Value) (o:Nat):List Value->List Value
 |[]=>c
 |v::vs=>JH (c.set o v) (o+1) vs
def KD (c:List Value):List (Nat×Nat×Value)->Option (List Value)
 |[]=>some c
 |(o,s,v)::rest =>
  match Wz v with
  |some vs=>if vs.length=s/\o+s<=c.length then KD (JH c o vs) rest else none
  |none=>none
def Mf (n:Nat):List Value->List Value
 |[x]=>List.replicate n x
 |z=>(List.replicate n z).flatten
def Xc (agg:Bool) (size:Nat) (c:List Value) (o:Nat):Option Value :=
 if agg then (if o+size<=c.length then some (.agg ((c.drop o).take size).toArray) else none) else c[o]?
def Heap.sl (U:Heap) (esz:Nat):Value->Option (List Value)
 |.slice none 0 0=>some []
 |.slice (some ⟨i,o,none⟩) n _ =>
  match U.get i with
  |some (.cells c e _ _)=>if e.sz=esz/\o+n*esz<=c.length then some ((c.drop o).take (n*esz)) else none
  |_=>none
 |_=>none
def Zv (esz:El) (bytes:Nat) (U:Heap) (s:Value) (m:Nat) (xs:List Value):Option (Value×Heap) :=
 match s with
 |.slice none 0 0 =>
  if m=0 then some (s,U) else
  if m*bytes<=2 ^ 46 then some (.slice (some ⟨U.n,0,none⟩) m m,U.push (.cells xs esz true false)) else none
 |.slice (some ⟨i,o,none⟩) n cap =>
  match U.get i with
  |some (.cells c e wr tight) =>
   if e=esz/\n<=cap/\o+n*esz.sz<=c.length then
    if m=0 then some (s,U) else
    if n+m<=cap then
     (if wr=true/\o+(n+m)*esz.sz<=c.length then some (.slice (some ⟨i,o,none⟩) (n+m) cap,U.upd i (.cells (JH c (o+n*esz.sz) xs) e wr tight)) else none)
    else if (n+m)*bytes<=2 ^ 46 then
     (if tight then some (.slice (some ⟨U.n,0,none⟩) (n+m) (n+m),U.push (.cells ((c.drop o).take (n*esz.sz)++xs) esz true false))
     else if wr then some (.slice (some ⟨U.n,0,none⟩) (n+m) (n+m),(U.kill i).push (.cells ((c.drop o).take (n*esz.sz)++xs) esz true false))
     else none)
    else none
   else none
  |_=>none
 |.slice (some ⟨i,o,some 0⟩) n cap =>
  match U.get i with
  |some (.cells c e _ _) =>
   if e=esz/\n=cap/\o+n*esz.sz<=c.length/\m≠0/\(n+m)*bytes<=2 ^ 46 then
    some (.slice (some ⟨U.n,0,none⟩) (n+m) (n+m),U.push (.cells ((c.drop o).take (n*esz.sz)++xs) esz true false))
   else none
  |_=>none
 |_=>none
def Zq (ev:Operand->Value):Option Operand->Nat->Option Nat
 |none,d=>some d
 |some x,_=>match ev x with
  |.int _ i=>if 0<=i then some i.toNat else none
  |_=>none
def Xe (size:Nat) (U:Heap) (s:Value) (l h:Nat) (m:Option Nat):Option (Value×Heap) :=
 match s with
 |.slice none 0 0=>if l=0/\h=0/\(m.getD 0)=0 then some (.slice none 0 0,U) else none
 |.slice (some ⟨i,o,none⟩) _ cap =>
  match U.get i with
  |some (.cells _ e _ t) =>
   match m with
   |none=>if e.sz=size/\l<=h/\h<=cap then some (.slice (some ⟨i,o+l*size,none⟩) (h-l) (cap-l),U) else none
   |some m =>
    if e.sz=size/\l<=h/\h<=m/\m<=cap then
     if m=l then some (.slice (some ⟨U.n,0,none⟩) 0 0,U.push (.cells [] e false true))
     else if t=false/\h=m then some (.slice (some ⟨i,o+l*size,some 0⟩) (h-l) (m-l),U)
     else some (.slice (some ⟨i,o+l*size,none⟩) (h-l) (m-l),U)
    else none
  |_=>none
 |_=>none
def Za:MK->Value->Bool
 |.int k,.int k' _=>decide (k=k')
 |.string,.string _|.bool,.bool _=>true
 |.agg s,.agg cs=>fits s cs.toList
 |_,_=>false
def XY:Value->Value->Bool
 |.agg a,.agg b=>Ql a.toList b.toList
 |.int _ a,.int _ b=>a==b
 |.string a,.string b=>a.data.toList==b.data.toList
 |.bool a,.bool b=>a==b
 |_,_=>false
abbrev ZZ:=Value×Value×Nat
def Qv (k:Value):List ZZ->Option ZZ
 |[]=>none
 |e::es=>if XY k e.1 then some e else Qv k es
def QC (k v:Value) (clock:Nat):List ZZ->List ZZ×Nat
 |[]=>([(k,v,clock)],clock+1)
 |e::es=>if XY k e.1 then ((k,v,e.2.2)::es,clock) else (e::(QC k v clock es).1,(QC k v clock es).2)
def Gm (k:Value):List ZZ->List ZZ
 |[]=>[]
 |e::es=>if XY k e.1 then es else e::Gm k es
def Heap.mapAt (U:Heap) (m:Nat):Option (List ZZ×Nat×Bool):=match U.get m with
 |some (.obj (.map es clock) wr)=>some (es,clock,wr)
 |_=>none
def Lu:Value->Option UInt8
 |.int .u8 n=>some n.toNat.toUInt8
 |_=>none
def G3 (l:List Value):Option ByteArray:=(l.mapM Lu).map λbs=>⟨bs.toArray⟩
def ZA:Nat->Value->Value->Heap->Option Bool
 |0,.pointer none,.pointer none,_=>some true
 |0,.pointer none,.pointer (some _),_=>some false
 |0,.pointer (some _),.pointer none,_=>some false
 |0,.pointer (some ⟨i,o,none⟩),.pointer (some ⟨j,q,none⟩),U=>if i=j/\o=q/\(U.get i).isSome=true then some true else none
 |1,.slice none _ _,.slice none _ _,_=>some true
 |1,.slice none _ _,.slice (some _) _ _,_=>some false
 |1,.slice (some _) _ _,.slice none _ _,_=>some false
 |2,.map none,.map none,_=>some true
 |2,.map none,.map (some _),_=>some false
 |2,.map (some _),.map none,_=>some false
 |3,.nilFunc,.nilFunc,_=>some true
 |3,.nilFunc,.func _ _ _,_=>some false
 |3,.func _ _ _,.nilFunc,_=>some false
 |_,_,_,_=>none
def QT (o:XOp) (ev:Operand->Value) (U:Heap):Option (Value×Heap) :=
 match o with
 |.eqNil kd neg x y=>match ZA kd (ev x) (ev y) U with|some b=>some (.bool (if neg then !b else b),U)|none=>none
 |.eqAgg neg s x y=>match ev x,ev y with
  |.agg a,.agg b=>if fits s a.toList=true/\fits s b.toList=true then some (.bool (if neg then !(Ql a.toList b.toList) else Ql a.toList b.toList),U) else none
  |_,_=>none
 |.makeMap=>some (.map (some U.n),U.push (.obj (.map [] 0) true))
 |.lookup mk z ok x i =>
  let k:=ev i
  if Za mk k then
   match ev x with
   |.map none=>some (if ok then .tuple #[z,.bool false] else z,U)
   |.map (some m)=>match U.mapAt m with
    |some (es,_,_)=>if es.all (λe=>Za mk e.1) then
      (match Qv k es with
      |some e=>some (if ok then .tuple #[e.2.1,.bool true] else e.2.1,U)
      |none=>some (if ok then .tuple #[z,.bool false] else z,U)) else none
    |none=>none
   |_=>none
  else none
 |.mapUpdate mk m k v=>match ev m with
  |.map (some i)=>match U.mapAt i with
   |some (es,clock,true)=>if Za mk (ev k)&&es.all (λe=>Za mk e.1) then some (undef,U.upd i (.obj (.map (QC (ev k) (ev v) clock es).1 (QC (ev k) (ev v) clock es).2) true)) else none
   |_=>none
  |_=>none
 |.delete mk m k=>match ev m with
  |.map (some i)=>match U.mapAt i with
   |some (es,clock,true)=>if Za mk (ev k)&&es.all (λe=>Za mk e.1) then some (.tuple #[],U.upd i (.obj (.map (Gm (ev k) es) clock) true)) else none
   |_=>none
  |_=>none
 |.mapEntry mk z m k=>match ev m with
  |.map (some i)=>match U.mapAt i with
   |some (es,clock,true)=>if Za mk (ev k)&&es.all (λe=>Za mk e.1) then
     (match Qv (ev k) es with
     |some e=>some (.tuple #[e.2.1,.int .i64 e.2.2],U.upd i (.obj (.map (QC (ev k) e.2.1 clock es).1 (QC (ev k) e.2.1 clock es).2) true))
     |none=>some (.tuple #[z,.int .i64 clock],U.upd i (.obj (.map (QC (ev k) z clock es).1 (QC (ev k) z clock es).2) true))) else none
   |_=>none
  |_=>none
 |.entryStore m s v=>match ev m,ev s with
  |.map (some i),.int .i64 n=>match U.mapAt i with
   |some (es,clock,true)=>(match es.findIdx? (λe=>(e.2.2:Int)==n) with
    |some j=>(match es[j]? with
     |some e=>some (undef,U.upd i (.obj (.map (es.set j (e.1,ev v,e.2.2)) clock) true))
     |none=>none)
    |none=>none)
   |_=>none
  |_,_=>none
 |.lenMap x=>match ev x with
  |.map none=>some (.int .i64 0,U)
  |.map (some m)=>match U.mapAt m with
   |some (es,_,_)=>some (.int .i64 es.length,U)
   |none=>none
  |_=>none
 |.rangeMap x=>match ev x with
  |.map (some m)=>match U.mapAt m with
   |some (_,clock,_)=>some (.pointer (some ⟨U.n,0,none⟩),U.push (.obj (.iter m clock [] clock) true))
   |none=>none
  |_=>none
 |.nextMap _=>none
 |.rangeStr x=>match ev x with
  |.string s=>some (.pointer (some ⟨U.n,0,none⟩),U.push (.obj (.siter s 0) true))
  |_=>none
 |.nextStr x=>match ev x with
  |.pointer (some ⟨i,0,none⟩)=>match U.get i with
   |some (.obj (.siter s pos) true)=>match s.data.toList[pos]? with
    |some b=>if b.toNat<128 then some (.tuple #[.bool true,.int .i64 pos,.int .i32 b.toNat],U.upd i (.obj (.siter s (pos+1)) true)) else none
    |none=>some (.tuple #[.bool false],U)
   |_=>none
  |_=>none
 |.entry x=>match ev x with
  |.pointer (some ⟨i,0,none⟩)=>match U.get i with
   |some (.obj (.iter m _ seen last) _)=>match U.mapAt m,seen.getLast? with
    |some (es,clock,_),some b=>if clock=last then (match es.find? (λe=>e.2.2==b) with|some e=>if Yn e.1 then some (.tuple #[e.1,e.2.1],U) else none|none=>none) else none
    |_,_=>none
   |_=>none
  |_=>none
 |.copy size d s=>match ev d,ev s with
  |.slice db dn _,.slice sb sn sc =>
   if min sn dn=0 then some (.int .i64 0,U) else
   match db,U.sl size (.slice sb (min sn dn) sc) with
   |some ⟨i,o,none⟩,some xs=>match U.get i with
    |some (.cells c e wr tight)=>if wr=true/\e.sz=size/\o+xs.length<=c.length/\xs.all cellOk=true then some (.int .i64 (min sn dn:Nat),U.upd i (.cells (JH c o xs) e wr tight)) else none
    |_=>none
   |_,_=>none
  |_,_=>none
 |.clear z x=>match ev x with
  |.slice b n _ =>
   if n=0 then some (.tuple #[],U) else
   match b with
   |some ⟨i,o,none⟩=>match U.get i with
    |some (.cells c e wr tight)=>if wr=true/\o+n*z.length<=c.length/\z.all cellOk=true then some (.tuple #[],U.upd i (.cells (JH c o (Mf n z)) e wr tight)) else none
    |_=>none
   |_=>none
  |_=>none
 |.toUnsafe x=>match ev x with
  |.pointer none=>some (.pointer none,U)
  |.pointer (some ⟨i,o,none⟩)=>match U.get i with
   |some (.cells c _ _ _)=>if o<c.length then some (.pointer (some ⟨i,o,none⟩),U) else none
   |_=>none
  |_=>none
 |.fromUnsafe u size x=>match ev x with
  |.pointer none=>some (.pointer none,U)
  |.pointer (some ⟨i,o,none⟩)=>match U.get i with
   |some (.cells c e true true)=>if o=0/\e.ty=u/\size<=c.length then some (.pointer (some ⟨i,o,none⟩),U) else none
   |_=>none
  |_=>none
 |.sliceData x=>match ev x with
  |.slice none _ _=>some (.pointer none,U)
  |.slice (some ⟨i,o,none⟩) _ cap=>if cap≠0/\(U.get i).isSome=true then some (.pointer (some ⟨i,o,none⟩),U) else none
  |_=>none
 |.unsafeStr e x n=>match ev x,ev n with
  |.pointer p,.int .i64 k =>
   if k=0 then some (.string ⟨#[]⟩,U) else
   match p with
   |some ⟨i,o,none⟩=>match U.get i with
    |some (.cells c el true tight) =>
     if 0<k/\k<=2 ^ 62/\el.ty=e/\o+k.toNat<=c.length then
      (match G3 ((c.drop o).take k.toNat) with
      |some s=>some (.string s,U.upd i (.cells c el false tight))
      |none=>none) else none
    |_=>none
   |_=>none
  |_,_=>none
 |.strBytes e x=>match ev x with
  |.string s=>if s.size<=2 ^ 62 then some (.slice (some ⟨U.n,0,none⟩) s.size s.size,U.push (.cells (s.data.toList.map λb=>.int .u8 b.toNat) ⟨1,e⟩ true false)) else none
  |_=>none
 |.bytesStr x=>match ev x with
  |.slice a n c=>match U.sl 1 (.slice a n c) with
   |some xs=>match G3 xs with|some s=>some (.string s,U)|none=>none
   |none=>none
  |_=>none
def EC (a b:Int):Int:=if b > a then b else a
theorem Ir (a b:Int):EC (EC a b) b=EC a b:=by unfold EC;(repeat' split)<;>omega
def Q8 (o:VOp) (ev:Operand->Value) (U:Heap):Option (Value×Heap) :=
 match o with
 |.move x=>some (ev x,U)
 |.pick c a b=>match ev c with|.bool t=>some (if t then ev a else ev b,U)|_=>none
 |.arith op x y=>match ev x,ev y with|.int k a,.int k' b=>if k=k' then some (.int k (PF op k a b),U) else none|_,_=>none
 |.div op x y=>match ev x,ev y with|.int k a,.int k' b=>if k=k'/\b≠0 then some (.int k (Q21 op k a b),U) else none|_,_=>none
 |.bits op x y=>match ev x,ev y with|.int k a,.int k' b=>if k=k' then some (.int k (Bo op k a b),U) else none|_,_=>none
 |.shift op x y=>match ev x,ev y with|.int k a,.int _ b=>if 0<=b then some (.int k (Po op k a b),U) else none|_,_=>none
 |.cmp op x y=>match ev x,ev y with|.int k a,.int k' b=>if k=k' then some (.bool (Q4k op a b),U) else none|_,_=>none
 |.str op x y=>match ev x,ev y with
  |.string a,.string b=>match op with
   |.add=>if a.size+b.size<=2 ^ 62 then some (.string (a++b),U) else none
   |.eql=>some (.bool (a.data.toList==b.data.toList),U)
   |.neq=>some (.bool (!(a.data.toList==b.data.toList)),U)
   |.lss=>some (.bool (Op.bytesLess a.data.toList b.data.toList),U)
   |_=>none
  |_,_=>none
 |.eqB neg x y=>match ev x,ev y with|.bool a,.bool b=>some (.bool (if neg then !(a==b) else (a==b)),U)|_,_=>none
 |.un op x=>match op,ev x with
  |.not,.bool b=>some (.bool (!b),U)
  |.neg,.int k n=>some (.int k (k.wrap (0-n)),U)
  |.xor,.int k n=>some (.int k (Bo .xor k (if k.signed then -1 else k.max) n),U)
  |_,_=>none
 |.convI k x=>match ev x with|.int _ n=>some (.int k (k.wrap n),U)|_=>none
 |.convS x=>match ev x with|.string s=>some (.string s,U)|_=>none
 |.alloc t z=>some (.pointer (some ⟨U.n,0,none⟩),U.push (.cells z ⟨z.length,t⟩ true true))
 |.box t x=>match Wz (ev x) with
  |some vs=>some (.pointer (some ⟨U.n,0,none⟩),U.push (.cells vs ⟨vs.length,t⟩ true true))
  |none=>none
 |.build z parts=>match KD z (parts.map λp=>(p.1,p.2.1,ev p.2.2)) with|some cs=>some (.agg cs.toArray,U)|none=>none
 |.buildSlice esz z len parts=>match KD (Mf len z) (parts.map λp=>(p.1*esz.sz,esz.sz,ev p.2)) with
  |some cs=>some (.slice (some ⟨U.n,0,none⟩) len len,U.push (.cells cs esz true true))
  |none=>none
 |.load agg size a=>match ev a with
  |.pointer (some ⟨g,o,some _⟩)=>(match IW g with
   |some c=>if c.all QA then (match Xc agg size c o with|some v=>some (v,U)|none=>none) else none
   |none=>none)
  |.pointer (some ⟨i,o,none⟩)=>match U.get i with
   |some (.cells c _ _ _)=>match Xc agg size c o with|some v=>some (v,U)|none=>none
   |_=>none
  |_=>none
 |.store size a v=>match ev a,Wz (ev v) with
  |.pointer (some ⟨i,o,none⟩),some vs=>match U.get i with
   |some (.cells c e wr tight)=>if wr=true/\vs.length=size/\o+size<=c.length/\vs.all cellOk=true then some (undef,U.upd i (.cells (JH c o vs) e wr tight)) else none
   |_=>none
  |_,_=>none
 |.fieldAddr off a=>match ev a with
  |.pointer (some ⟨i,o,none⟩)=>some (.pointer (some ⟨i,o+off,none⟩),U)
  |_=>none
 |.field agg off size x=>match ev x with
  |.agg cs=>match Xc agg size cs.toList off with|some v=>some (v,U)|none=>none
  |_=>none
 |.indexAddr size x i=>match ev x,ev i with
  |.slice (some ⟨b,o,none⟩) n _,.int _ k=>if 0<=k/\k<n then some (.pointer (some ⟨b,o+k.toNat*size,none⟩),U) else none
  |_,_=>none
 |.indexAddrArr len size x i=>match ev x,ev i with
  |.pointer (some ⟨g,o,some s⟩),.int _ k=>if 0<=k/\k<len then some (.pointer (some ⟨g,o+k.toNat*size,some s⟩),U) else none
  |.pointer (some ⟨b,o,none⟩),.int _ k=>if 0<=k/\k<len then some (.pointer (some ⟨b,o+k.toNat*size,none⟩),U) else none
  |_,_=>none
 |.indexStr x i=>match ev x,ev i with
  |.string s,.int _ k=>if 0<=k then (match s.data.toList[k.toNat]? with|some b=>some (.int .u8 b.toNat,U)|none=>none) else none
  |_,_=>none
 |.indexArr len agg size x i=>match ev x,ev i with
  |.agg cs,.int _ k=>if 0<=k/\k<len then (match Xc agg size cs.toList (k.toNat*size) with|some v=>some (v,U)|none=>none) else none
  |_,_=>none
 |.slice size x lo hi mx =>
  match ev x with
  |.slice a n cap =>
   match Zq ev lo 0,Zq ev hi n,mx with
   |some l,some h,none=>Xe size U (.slice a n cap) l h none
   |some l,some h,some _=>match Zq ev mx 0,hi with
    |some m,some _=>Xe size U (.slice a n cap) l h (some m)
    |_,_=>none
   |_,_,_=>none
  |_=>none
 |.sliceStr x lo hi =>
  match ev x with
  |.string s =>
   match Zq ev lo 0,Zq ev hi s.size with
   |some l,some h=>if l<=h/\h<=s.size then some (.string (s.extract l h),U) else none
   |_,_=>none
  |_=>none
 |.makeSlice esz bytes z l c =>
  match ev l,ev c with
  |.int _ a,.int _ b=>if 0<=a/\a<=b/\b*bytes<=2 ^ 46/\b<=2 ^ 46 then some (.slice (some ⟨U.n,0,none⟩) a.toNat b.toNat,U.push (.cells (Mf b.toNat z) esz true true)) else none
  |_,_=>none
 |.len x=>match ev x with
  |.slice _ n _=>some (.int .i64 n,U)
  |_=>none
 |.lenStr x=>match ev x with
  |.string s=>some (.int .i64 s.size,U)
  |_=>none
 |.append esz bytes s x =>
  match U.sl esz.sz (ev x),ev x with
  |some xs,.slice _ m _=>if xs.all cellOk then Zv esz bytes U (ev s) m xs else none
  |_,_=>none
 |.max4 x y z w=>match ev x,ev y,ev z,ev w with|.int k a,.int k2 b,.int k3 c,.int k4 d=>if k=k2/\k=k3/\k=k4 then some (.int k (EC (EC (EC a b) c) d),U) else none|_,_,_,_=>none
 |.max x y=>match ev x,ev y with|.int k a,.int k' b=>if k=k' then some (.int k (if b > a then b else a),U) else none|_,_=>none
 |.min x y=>match ev x,ev y with|.int k a,.int k' b=>if k=k' then some (.int k (if b<a then b else a),U) else none|_,_=>none
 |.makeFunc fn first cap=>some (.func fn (first.map ev).toArray (cap.map ev).toArray,U)
 |.iface t x=>match ev x with|.chan _=>none|v=>some (.iface t v,U)
 |.extract x i=>match ev x with
  |.tuple vs=>match vs.toList[i]? with|some v=>some (v,U)|none=>none
  |_=>none
 |.nilCheck x=>match ev x with
  |.pointer (some a)=>some (.pointer (some a),U)
  |.func (.func f) first cap=>some (.func (.func f) first cap,U)
  |_=>none
 |.ext o=>QT o ev U
 |.callF ..|.callV ..|.bad=>none
def QM {α:Type}(o:Option α) (f:α->Prop):Prop:=match o with|some a=>f a|none=>False
def vif (b:Bool) (A B:Prop):Prop:=(b=true->A)/\(b=false->B)
def Fu (v:Value) (A B:Prop):Prop:=match v with|.bool t=>vif t A B|_=>False
abbrev Hr:=List Value->Heap->(Value->Heap->Prop)->Prop
structure VSpecs where
 fn:FuncId->Option Hr
 yl:Nat->Option Hr
 it:FuncId->Option (Nat->Hr->Hr)
def vcall (S:VSpecs) (f:FuncId) (args:List Value) (U:Heap) (K:Value->Heap->Prop):Prop :=
 match S.fn f with
 |some s=>s args U K
 |none=>False
def Cp (S:VSpecs) (i:Nat) (args:List Value) (U:Heap) (K:Value->Heap->Prop):Prop :=
 match S.yl i with
 |some s=>s args U K
 |none=>False
def LI (x:Value) (U:Heap) (K:Value->Heap->Prop):Prop :=
 match x with
 |.pointer (some ⟨i,0,none⟩)=>match U.get i with
  |some (.obj (.iter m since seen last) true)=>match U.mapAt m with
   |some (es,clock,_)=>(seen.isEmpty||es.isEmpty||es.any (λe=>decide (e.2.2<last)))=true/\es.all (λe=>Yn e.1)=true /\
     (es.all (λe=>seen.contains e.2.2||decide (since<=e.2.2))=true->K (.tuple #[.bool false]) U) /\
     ∀ e∈es,seen.contains e.2.2=false->K (.tuple #[.bool true,e.1,e.2.1]) (U.upd i (.obj (.iter m since (seen++[e.2.2]) clock) true))
   |none=>False
  |_=>False
 |_=>False
def Jb (env:Env) (d:Option Nat) (v:Value):Env :=
 match d with
 |some d=>env.set d v
 |none=>env
def vop (S:VSpecs) (o:VOp) (env:Env) (U:Heap) (K:Value->Heap->Prop):Prop :=
 match o with
 |.callF f args=>vcall S f (args.map (Q6 env)) U K
 |.callV f args=>match Q6 env f with
  |.func (.func g) first cap=>vcall S g (first.toList++args.map (Q6 env)++cap.toList) U K
  |.func (.yield i) _ _=>Cp S i (args.map (Q6 env)) U K
  |_=>False
 |.ext (.nextMap x)=>LI (Q6 env x) U K
 |o=>QM (Q8 o (Q6 env) U) λp=>K p.1 p.2
def Zr (env:Env):Option (Nat×Bool)->Option Bool
 |none=>some true
 |some (d,want)=>match env.getD d undef with
  |.bool b=>some (b==want)
  |.tuple _=>some false
  |_=>none
def P5 (S:VSpecs):List VOper->Env->Heap->(Env->Heap->Prop)->Prop
 |[],env,U,K=>K env U
 |o::rest,env,U,K=>QM (Zr env o.guard) λb =>
   vif b (vop S o.op env U λv U'=>P5 S rest (Jb env o.dst v) U' K) (P5 S rest (Jb env o.dst undef) U K)
def AB:Value->Bool
 |.bool _|.int _ _|.string _|.pointer none|.slice none 0 0|.map none|.nilFunc|.nilIface=>true
 |.tuple vs=>vs.toList.all QA
 |_=>false
def Heap.Le (U U':Heap):Prop:=U.n<=U'.n/\∀ i b,U.get i=some b->U'.get i=some b
def NL (A:(Value->Heap->Prop)->Prop) (R:Value->Heap->Prop):Prop:=∃ v U',A (λv' aI=>v'=v/\aI=U')/\R v U'
def J4 (op:VOp) (ev:Operand->Value) (v:Value) (Z:Heap):Prop:=QM (Q8 op ev Z) λq=>q.1=v
def J8 (r:Nat) (U:Heap):List (Nat×(Heap->Prop))->Prop
 |[]=>True
 |c::l=>(r<=c.1->c.2 U)/\J8 r U l
def waits:List Nat->List DOper->Bool
 |_,[]=>true
 |xs,o::r=>((o.kind==2)||(Iw o.op.opds++(o.guard.map (·.1)).toList).any (λx=>xs.contains x))&&waits (o.dst.toList++xs) r
def Z9 (S:VSpecs):List DOper->Env->List Heap->Heap->List (Nat×(Heap->Prop))->(Env->Heap->Prop)->Prop
 |[],env,_,U,_,K=>K env U
 |o::rest,env,hs,U,pend,K=>QM (Zr env o.guard) λb =>
   vif b (if o.kind=2 then (NL (λR=>vop S o.op env U R) λv U'=>J8 hs.length U' pend/\Z9 S rest (Jb env o.dst v) (hs++[U']) U' pend K) \/
      (waits o.dst.toList rest=true/\vop S o.op env U λv U'=>J8 hs.length U' pend/\Z9 S rest (Jb env o.dst v) (hs++[U']) U' pend K)
     else if o.kind=1 then QM (Q8 o.op (Q6 env) U) λp=>(∀ Z∈hs.drop o.kmin,J4 o.op (Q6 env) p.1 Z) /\
      Z9 S rest (Jb env o.dst p.1) hs U (if hs.length<=o.kmax then (o.kmax,J4 o.op (Q6 env) p.1)::pend else pend) K
     else QM (Q8 o.op (Q6 env) U) λp=>Z9 S rest (Jb env o.dst p.1) hs U pend K)
    (if o.kind=2 then J8 hs.length U pend/\Z9 S rest (Jb env o.dst undef) (hs++[U]) U pend K else Z9 S rest (Jb env o.dst undef) hs U pend K)
def DropE (σ0:Heap) (env:Env) (U:Heap) (ae:Env) (U':Heap):Prop :=
 ∀ ρ0 w0 ρ w cs,HRel ρ0 σ0 w0->Ext ρ0 σ0 w0 ρ U w->HRel ρ U w->LRel ρ U.n env cs->∃ ρ',LRel ρ' U'.n ae cs/\HRel ρ' U' w/\Ext ρ0 σ0 w0 ρ' U' w
theorem DropE.refl (σ0:Heap) (env:Env) (U:Heap):DropE σ0 env U env U:=λ_ _ ρ _ _ _ hE hH hL=>⟨ρ,hL,hH,hE⟩
def VS (S:VSpecs):List DSeg->Env->Heap->(Env->Heap->Prop)->Prop
 |[],env,U,K=>K env U
 |.one o::rest,env,U,K=>P5 S [o] env U λenv U=>VS S rest env U K
 |.alts l::rest,env,U,K=>∀ ops∈l,Z9 S ops env [U] U [] λbj σ1=>∃ aR σ2,DropE U bj σ1 aR σ2/\VS S rest aR σ2 K
def GJ (live:List Nat) (env:Env):List Value:=live.map λi=>env.getD i poison
def JM:List Nat->List Value->Env->Env
 |i::l,v::vs,env=>JM l vs (env.set i v)
 |_,_,env=>env
def Q5z (W:(Exit->Env->Heap->Prop)->Env->Heap->Prop) (Q:Exit->Env->Heap->Prop) (env:Env) (U:Heap):Prop :=
 ∃ (live:List Nat) (I:Nat->List Value->Heap->Prop) (n0:Nat),I n0 (GJ live env) U /\
  ∀ n vs U',I n vs U'->W (λe ae aI=>match e with
   |.normal=>∃ n',n'<n/\I n' (GJ live ae) aI
   |e=>Q e ae aI) (JM live vs (List.replicate env.length poison)) U'
def Q6y (R:Env->Heap->Prop) (Q:Exit->Env->Heap->Prop):Exit->Env->Heap->Prop
 |.normal,env,U=>R env U
 |e,env,U=>Q e env U
def CL (id:Nat) (Q:Exit->Env->Heap->Prop):Exit->Env->Heap->Prop
 |.exit iz,env,U=>if iz=id then Q .normal env U else Q (.exit iz) env U
 |e,env,U=>Q e env U
def Dt:Env->List Nat->List Value->Env
 |env,p::ps,v::vs=>Dt (env.set p v) ps vs
 |env,_,_=>env
def Q37 (env:Env) (r:Loop) (i:Nat) (K:Value->Heap->Prop):Exit->Env->Heap->Prop:=λe _ U =>
 U.get i=some (.obj (.lp env r .busy none) true)/\match e with
  |.normal=>K (.bool true) (U.upd i (.obj (.lp env r .ready none) true))
  |.ret=>K (.bool false) (U.upd i (.obj (.lp env r .done (some .ret)) true))
  |.exit id=>K (.bool false) (U.upd i (.obj (.lp env r .done (some (.exit id))) true))
  |_=>False
def Cw (A B:(Exit->Env->Heap->Prop)->Env->Heap->Prop) (ps:List Nat) (env:Env) (r:Loop) (i:Nat):Hr:=λargs U K =>
 U.get i=some (.obj (.lp env r .ready none) true)/\args.length=ps.length /\
  A (Q6y (λbj σ1=>σ1.get i=some (.obj (.lp env r .ready none) true)/\B (Q37 env r i K) bj (σ1.upd i (.obj (.lp env r .busy none) true))) (λ_ _ _=>False)) (Dt env ps args) U
def Oy (Q:Exit->Env->Heap->Prop) (env:Env) (i:Nat):Value->Heap->Prop:=λ_ U =>
 match U.get i with
 |some (.obj (.lp _ _ st pend) true)=>st≠.busy/\match pend with
  |none=>Q .normal env (U.kill i)
  |some .ret=>Q .ret env (U.kill i)
  |some (.exit id)=>Q (.exit id) env (U.kill i)
  |some _=>False
 |_=>False
def Q7l (U:Heap):Option Nat->Prop
 |none=>True
 |some i=>∃ env r st pend,U.get i=some (.obj (.lp env r st pend) true)
def L5 (S:VSpecs) (ro:Option Nat) (A B:Option Nat->(Exit->Env->Heap->Prop)->Env->Heap->Prop) (g:Value) (ps:List Nat) (Q:Exit->Env->Heap->Prop) (env:Env) (U:Heap):Prop :=
 match g with
 |.func (.func f) first cap=>match S.it f with
  |some T=>Q7l U ro/\∀ r:Loop,T U.n (Cw (A (some U.n)) (B (some U.n)) ps env r U.n) (first.toList++[.func (.yield U.n) #[] #[]]++cap.toList) (U.push (.obj (.lp env r .ready none) true)) (Oy Q env U.n)
  |none=>False
 |_=>False
def vwp (S:VSpecs):VCode->Option Nat->(Exit->Env->Heap->Prop)->Env->Heap->Prop
 |.skip,_,Q,env,U=>Q .normal env U
 |.region ops,_,Q,env,U=>P5 S ops env U λenv U=>Q .normal env U
 |.regionD aT,_,Q,env,U=>VS S aT env U λenv U=>Q .normal env U
 |.seq a b,ro,Q,env,U=>vwp S a ro (Q6y (vwp S b ro Q) Q) env U
 |.cond c a b,ro,Q,env,U=>Fu (Q6 env c) (vwp S a ro Q env U) (vwp S b ro Q env U)
 |.block id b,ro,Q,env,U=>vwp S b ro (CL id Q) env U
 |.loop b,ro,Q,env,U=>Q5z (vwp S b ro) Q env U
 |.rangeF g ps a b,ro,Q,env,U=>L5 S ro (vwp S a) (vwp S b) (Q6 env g) ps Q env U
 |.exit id,_,Q,env,U=>Q (.exit id) env U
 |.ret,_,Q,env,U=>Q .ret env U
 |.bad,_,_,_,_=>False
inductive VResult where
 |tmp (t:Nat)
 |cell (a:Nat) (agg:Bool) (size:Nat)
def ZW (P:Program):ResultVar->Option VResult
 |.tmp t=>some (.tmp t)
 |.cell a t =>
  match P.info? t,P.underlying t with
  |some i,some d=>some (.cell a (Kp d) i.size)
  |_,_=>none
def K3 (P:Program) (rs:List ResultVar):Option (List VResult):=rs.mapM (ZW P)
def ZO (env:Env) (U:Heap):VResult->Option Value
 |.tmp t=>some (env.getD t undef)
 |.cell a agg size=>(Q8 (.load agg size (.tmp a)) (Q6 env) U).map (·.1)
def J1 (env:Env) (U:Heap) (rs:List VResult):Option Value :=
 match rs with
 |[r]=>ZO env U r
 |rs=>(rs.mapM (ZO env U)).map λvs=>.tuple vs.toArray
def Q3s (rs:List VResult) (R:Value->Heap->Prop):Exit->Env->Heap->Prop
 |.normal,env,U|.ret,env,U=>QM (J1 env U rs) λv=>R v U
 |_,_,_=>False
theorem Jx (b:Nat):∀ (vs:List Value) (o:Nat) (w:World) (k:Nat),k≠b->(w.setCells b o vs).heap[k]?=w.heap[k]?
 |[],_,_,_,_=>rfl
 |v::r,o,w,k,h=>by
  rw[World.setCells,Jx b r (o+1) _ k h]
  grind [heap_setCell_other]
theorem X6 (b:Nat):∀ (vs:List Value) (o:Nat) (w:World),(w.setCells b o vs).heap.size=w.heap.size
 |[],_,_=>rfl
 |v::r,o,w=>by rw[World.setCells,X6 b r];exact World.size_setCell w _ _
theorem UL (b:Nat):∀ (vs:List Value) (o:Nat) (w:World),(w.setCells b o vs).os=w.os/\(w.setCells b o vs).tape=w.tape/\(w.setCells b o vs).output=w.output
 |[],_,_=>⟨rfl,rfl,rfl⟩
 |v::r,o,w=>by rw[World.setCells];exact UL b r (o+1) _
theorem Yo (b:Nat):∀ (vs:List Value) (o:Nat) (w:World) (C:Array Value) (e:TypeId) (f:Nat×Nat),w.heap[b]?=some (.cells C e f) ->
  ∃ C',(w.setCells b o vs).heap[b]?=some (.cells C' e f)/\C'.size=C.size
 |[],_,_,C,_,_,h=>⟨C,h,rfl⟩
 |v::r,o,w,C,e,f,h=>by
  have h1:(w.setCell ⟨b,o,none⟩ v).heap[b]?=some (.cells (C.setIfInBounds o v) e f):=by simp only[World.setCell,Array.getElem?_modify,zx,h];simp
  obtain⟨C',h2,h3⟩:=Yo b r (o+1) _ _ e f h1;exact⟨C',by rw[World.setCells];exact h2,by rw[h3];simp⟩
theorem Zp (vs:List Value):∀ (c:List Value) (o:Nat),(JH c o vs).length=c.length:=by
 induction vs with
 |nil=>intro c o;rfl
 |cons v r ih=>intro c o;rw[JH,ih];simp
theorem Yb (vs:List Value):∀ (c:List Value) (o k:Nat),(k<o\/o+vs.length<=k)->(JH c o vs)[k]?=c[k]?:=by
 induction vs with
 |nil=>intro c o k _;rfl
 |cons v r ih =>intro c o k h;rw[JH,ih _ _ _ (by simp at h;omega),List.getElem?_set_ne (by simp at h;omega)]
theorem TT (vs:List Value):∀ (c:List Value) (o k:Nat),o+vs.length<=c.length->k<vs.length->(JH c o vs)[o+k]?=vs[k]?:=by
 induction vs with
 |nil=>intro c o k _ h;simp at h
 |cons v r ih =>
  intro c o k h hk;simp at h hk;cases k with
  |zero=>rw[JH,Yb _ _ _ _ (by left;omega),zU,List.getElem?_set_self (by omega)];rfl
  |succ k =>rw[JH,show o+(k+1)=o+1+k by omega,ih _ _ _ (by simp;omega) (by omega)];simp
theorem BRel.q0w {ρ:Plc}{n:Nat}{p:Pl}{w:World}{c:List Value}{esz:El}{wr tight:Bool}(h:BRel ρ n p w (.cells c esz wr tight)) (k:Nat) (hk:k<p.ext):(w.cell? ⟨p.blk,p.shift+k,none⟩).isSome=true:=by
 obtain⟨_,_,_,⟨C,e,f,h1,h2⟩,_⟩:=h;have h3:p.shift+k<C.size:=by omega
 simp[World.cell?,h1,h3]
theorem BRel.other {ρ ρ':Plc}{n n':Nat}{q:Pl}{w w':World}{b:Blk}(hn:n<=n') (hρ:∀ i,i<n->∀ p,ρ' i=some p->ρ i=some p) (B:Nat) (C:Array Value) (e:TypeId) (f:Nat×Nat) (hB:w.heap[B]?=some (.cells C e f))
  (aK:0<q.ext->B≠q.blk) (hC:∃ C' f',w'.heap[B]?=some (.cells C' e f')/\C.size<=C'.size) (ho:∀ k,k≠B->k<w.heap.size->w'.heap[k]?=w.heap[k]?) (hq:q.blk<w.heap.size) (h:BRel ρ n q w b):BRel ρ' n' q w' b:=by
 by_cases hk:q.blk=B
 .have h0:q.ext=0:=by
   omega
  cases b with
  |cells c esz wr tight =>
   obtain⟨h1,h2,h3,⟨C0,e0,f0,h4,jj⟩,h5,h6⟩:=h;have hc:c=[]:=xq.1 (by omega);obtain⟨C',f',mR,oO⟩:=hC;have sO:C0=C/\e0=e:=by simp_all
   obtain⟨rfl,rfl⟩:=sO;refine⟨h1,h2,by omega,(by grind),λk v hv=>by simp[hc] at hv,(by simp_all)⟩
  |obj o wr=>have:=h.1;omega
 .exact h.mono hn hρ (ho _ hk hq)
theorem HRel0.store {ρ:Plc}{U:Heap}{w:World}(h:HRel0 ρ U w) {i:Nat}{p:Pl}{c:List Value}{esz:El}{tight:Bool}(hp:ρ i=some p) (hb:U.get i=some (.cells c esz true tight))
  {o:Nat}{vs cs:List Value}(hv:LRel ρ U.n vs cs) (ho:o+vs.length<=c.length) :
  HRel0 ρ (U.upd i (.cells (JH c o vs) esz true tight)) (w.setCells p.blk (p.shift+o) cs)/\Ext ρ U w ρ (U.upd i (.cells (JH c o vs) esz true tight)) (w.setCells p.blk (p.shift+o) cs):=by
 have hi:=U.lt hb;obtain⟨p',bw,hB⟩:=h.live i _ hb;obtain rfl:p=p':=osj (hp.symm.trans bw);obtain⟨h1,h2,h3,⟨C,e,f,h4,jj⟩,h5,h6⟩:=hB;obtain⟨C',mR,oO⟩:=Yo p.blk cs (p.shift+o) w C e f h4;have bR:vs.length=cs.length:=hv.1;refine⟨⟨λj b hj=>?_,λj hj=>?_,λj q hq=>by rw[X6];exact h.lt j q hq,λj k q r b eA hq hr bD hw hx=>?_⟩,?_⟩
 .by_cases aL:j=i
  .subst aL;rw[Heap.q0d _ _ hi] at hj;obtain rfl:=osj hj;refine⟨p,hp,h1,h2,by rw[Zp];exact h3,⟨C',e,f,mR,by omega,jj.2⟩,λk v hk=>?_,(by grind [World.frozen?_setCells])⟩;have cP:k<c.length:=by grind [List.getElem?_eq_some_iff,Zp]
   by_cases bG:k<o\/o+vs.length<=k
   .rw[Yb _ _ _ _ bG] at hk;obtain⟨u,hu,cC⟩:=h5 k v hk;exact⟨u,by grind [World.cell?_setCells_out],cC⟩
   .have mS:k=o+(k-o):=by omega
    rw[mS,TT _ _ _ _ ho (by omega)] at hk;obtain⟨u,hu,cC⟩:=hv.get hk;have oP:k-o<cs.length:=(zu.1 hu).1;refine⟨u,?_,cC⟩;have:=World.cell?_setCells_in p.blk cs (p.shift+o) w (λj hj=>by
     rw[zE];exact BRel.q0w (ρ:=ρ) (n:=U.n) ⟨h1,h2,h3,⟨C,e,f,h4,jj⟩,h5,h6⟩ _ (by omega)) (k-o) oP
    grind
  .rw[Heap.q0b _ _ aL] at hj;obtain⟨q,hq,eN⟩:=h.live j b hj;refine⟨q,hq,eN.other (by exact zd _) (λ_ _ _ h=>h) p.blk C e f h4 (λhx=>h.sep i j p q _ (Ne.symm aL) hp hq hb rfl hx) ⟨C',f,mR,by omega⟩ (by grind [Jx]) (h.lt j q hq)⟩
 .by_cases aL:j=i
  .grind [Heap.q0d]
  .rw[Heap.q0b _ _ aL] at hj;exact h.dead j hj
 .by_cases aL:j=i
  .subst aL;exact h.sep j k q r _ eA hq hr hb rfl hx
  .rw[Heap.q0b _ _ aL] at bD;exact h.sep j k q r b eA hq hr bD hw hx
 .obtain⟨e1,e2,e3⟩:=UL p.blk cs (p.shift+o) w;refine⟨e1,e2,e3,by rw[X6];exact zd _,λB hB hW=>Jx _ _ _ _ _ (λe=>hW ⟨i,p,_,hp,hb,rfl,e.symm⟩),?_,zd _,λ_ _ _ h=>h⟩;rintro B _ ⟨j,q,b,hq,bO,hw,rfl⟩;by_cases aL:j=i
  .subst aL;exact⟨j,q,_,hq,hb,rfl,rfl⟩
  .rw[Heap.q0b _ _ aL] at bO;exact⟨j,q,b,hq,bO,hw,rfl⟩
theorem HRel0.onto {ρ:Plc}{U:Heap}{w:World}(h:HRel0 ρ U w) {i:Nat}{p:Pl}{c:List Value}{esz:El}(hp:ρ i=some p) (hb:U.get i=some (.cells c esz true false))
  (o':Nat) {bE vs cs:List Value}(hold:∀ k v,bE[k]?=some v->∃ u,w.cell? ⟨p.blk,p.shift+o'+k,none⟩=some u/\VRel ρ U.n v u) (hv:LRel ρ U.n vs cs) (ho:o'+bE.length+vs.length<=p.ext) :
  ∃ ρ',ρ' U.n=some ⟨p.blk,p.shift+o',p.ext-o',esz,false⟩/\HRel0 ρ' ((U.kill i).push (.cells (bE++vs) esz true false)) (w.setCells p.blk (p.shift+o'+bE.length) cs) /\
   Ext ρ U w ρ' ((U.kill i).push (.cells (bE++vs) esz true false)) (w.setCells p.blk (p.shift+o'+bE.length) cs):=by
 have hi:=U.lt hb;obtain⟨p',bw,hB⟩:=h.live i _ hb;obtain rfl:p=p':=osj (hp.symm.trans bw);have dB:=hB;obtain⟨h1,h2,h3,⟨C,e,f,h4,jj⟩,h5,h6⟩:=hB;obtain⟨C',mR,oO⟩:=Yo p.blk cs (p.shift+o'+bE.length) w C e f h4;have bR:vs.length=cs.length:=hv.1;let P':Pl:=⟨p.blk,p.shift+o',p.ext-o',esz,false⟩;let ρ':Plc:=(ρ.put i none).put U.n (some P');have iA:ρ' U.n=some P':=by simp[ρ',Plc.put]
 have gG:ρ' i=none:=by simp only[ρ',Plc.put];rw[z7 (by omega)];simp
 have fL:∀ j,j≠U.n->j≠i->ρ' j=ρ j:=λj h1 h2=>by simp[ρ',Plc.put,h1,h2]
 have aU:∀ j,j<U.n->∀ q,ρ' j=some q->ρ j=some q:=(by grind);refine⟨ρ',iA,⟨λj b hj=>?_,λj hj=>?_,λj q hq=>?_,λj k q r b eA hq hr bD hw hx=>?_⟩,?_⟩
 .by_cases aN:j=U.n
  .subst aN;have e_:((U.kill i).push (.cells (bE++vs) esz true false)).get U.n=some (.cells (bE++vs) esz true false):=Heap.q0a (U.kill i) _;rw[e_] at hj;obtain rfl:=osj hj;refine⟨P',iA,rfl,rfl,by simp[P'];omega,(by grind),λk v hk=>?_,λ_=>⟨(λh=>by cases h),λk hk=>?_⟩⟩
   .by_cases bG:k<bE.length
    .rw[x9 bG] at hk;obtain⟨u,hu,cC⟩:=hold k v hk;exact⟨u,by grind [World.cell?_setCells_out],cC.mono (by simp) aU⟩
    .rw[xk (by omega)] at hk;obtain⟨u,hu,cC⟩:=hv.get hk;have oP:k-bE.length<cs.length:=(zu.1 hu).1;refine⟨u,?_,cC.mono (by simp) aU⟩;have:=World.cell?_setCells_in p.blk cs (p.shift+o'+bE.length) w (λj hj=>by
      rw[zE,zE];exact dB.q0w _ (by omega)) (k-bE.length) oP
     grind
   grind [World.frozen?_setCells]
  .have bc:(U.kill i).get j=some b:=by rw[<-hj];exact(Heap.q0e (U.kill i) _ aN).symm
   by_cases aL:j=i
   .grind [Heap.q0i]
   .rw[Heap.q0c _ aL] at bc;obtain⟨q,hq,eN⟩:=h.live j b bc;exact⟨q,by rw[fL j aN aL];exact hq,eN.other (by simp) aU p.blk C e f h4 (λhx=>h.sep i j p q _ (Ne.symm aL) hp hq hb rfl hx) ⟨C',f,mR,by omega⟩ (by grind [Jx]) (h.lt j q hq)⟩
 .by_cases aN:j=U.n
  .subst aN;have e_:((U.kill i).push (.cells (bE++vs) esz true false)).get U.n=some (.cells (bE++vs) esz true false):=Heap.q0a (U.kill i) _;rw[e_] at hj;cases hj
  .have bc:(U.kill i).get j=none:=by rw[<-hj];exact(Heap.q0e (U.kill i) _ aN).symm
   by_cases aL:j=i
   .subst aL;exact gG
   .rw[Heap.q0c _ aL] at bc;rw[fL j aN aL];exact h.dead j bc
 .rw[X6];by_cases aN:j=U.n
  .grind
  .by_cases aL:j=i
   .subst aL;rw[gG] at hq;cases hq
   .rw[fL j aN aL] at hq;exact h.lt j q hq
 .by_cases aN:j=U.n
  .subst aN;rw[iA] at hq;obtain rfl:=osj hq;by_cases kV:k=i
   .subst kV;rw[gG] at hr;cases hr
   .rw[fL k (Ne.symm eA) kV] at hr;exact h.sep i k p r _ (Ne.symm kV) hp hr hb rfl hx
  .have bP:(U.kill i).get j=some b:=by rw[<-bD];exact(Heap.q0e (U.kill i) _ aN).symm
   by_cases aL:j=i
   .subst aL;rw[gG] at hq;cases hq
   rw[Heap.q0c _ aL] at bP;rw[fL j aN aL] at hq;by_cases jD:k=U.n
   .subst jD;rw[iA] at hr;obtain rfl:=osj hr;have rG:0<p.ext:=by simp[P'] at hx;omega
    exact h.sep j i q p b aL hq hp bP hw rG
   .by_cases kV:k=i
    .subst kV;rw[gG] at hr;cases hr
    .rw[fL k jD kV] at hr;exact h.sep j k q r b eA hq hr bP hw hx
 .obtain⟨e1,e2,e3⟩:=UL p.blk cs (p.shift+o'+bE.length) w;refine⟨e1,e2,e3,by rw[X6];exact zd _,λB hB hW=>Jx _ _ _ _ _ (λe=>hW ⟨i,p,_,hp,hb,rfl,e.symm⟩),?_,by simp,aU⟩;rintro B _ ⟨j,q,b,hq,bO,hw,rfl⟩;by_cases aN:j=U.n
  .subst aN;rw[iA] at hq;obtain rfl:=osj hq;exact⟨i,p,_,hp,hb,rfl,rfl⟩
  .have bP:(U.kill i).get j=some b:=by rw[<-bO];exact(Heap.q0e (U.kill i) _ aN).symm
   by_cases aL:j=i
   .subst aL;rw[gG] at hq;cases hq
   rw[Heap.q0c _ aL] at bP;rw[fL j aN aL] at hq;exact⟨j,q,b,hq,bP,hw,rfl⟩
section
variable {ρ:Plc}{U:Heap}{w:World}
theorem HRel.store (h:HRel ρ U w) {i:Nat}{p:Pl}{c:List Value}{esz:El}{tight:Bool}(hp:ρ i=some p) (hb:U.get i=some (.cells c esz true tight))
  {o:Nat}{vs cs:List Value}(hv:LRel ρ U.n vs cs) (ho:o+vs.length<=c.length) :
  HRel ρ (U.upd i (.cells (JH c o vs) esz true tight)) (w.setCells p.blk (p.shift+o) cs)/\Ext ρ U w ρ (U.upd i (.cells (JH c o vs) esz true tight)) (w.setCells p.blk (p.shift+o) cs) :=
 let ⟨h2,h3⟩:=h.core.store hp hb hv ho
 ⟨h.ext h2 h3,h3⟩
theorem HRel.onto (h:HRel ρ U w) {i:Nat}{p:Pl}{c:List Value}{esz:El}(hp:ρ i=some p) (hb:U.get i=some (.cells c esz true false))
  (o':Nat) {bE vs cs:List Value}(hold:∀ k v,bE[k]?=some v->∃ u,w.cell? ⟨p.blk,p.shift+o'+k,none⟩=some u/\VRel ρ U.n v u) (hv:LRel ρ U.n vs cs) (ho:o'+bE.length+vs.length<=p.ext) :
  ∃ ρ',ρ' U.n=some ⟨p.blk,p.shift+o',p.ext-o',esz,false⟩/\HRel ρ' ((U.kill i).push (.cells (bE++vs) esz true false)) (w.setCells p.blk (p.shift+o'+bE.length) cs) /\
   Ext ρ U w ρ' ((U.kill i).push (.cells (bE++vs) esz true false)) (w.setCells p.blk (p.shift+o'+bE.length) cs) :=
 let ⟨ρ',h1,h2,h3⟩:=h.core.onto hp hb o' hold hv ho
 ⟨ρ',h1,h.ext h2 h3,h3⟩
end
end Go.V
namespace Go.V
open Go
structure Like (ρ:Plc) (w w':World):Prop where
 size:w.heap.size<=w'.heap.size
 blk:∀ i p,ρ i=some p->w'.heap[p.blk]?=w.heap[p.blk]?
 tab:∀ g cs,IW g=some cs->w'.heap[g]?=w.heap[g]?
theorem Like.refl (ρ:Plc) (w:World):Like ρ w w:=⟨zd _,λ_ _ _=>rfl,λ_ _ _=>rfl⟩
section inv
variable {ρ:Plc}{n:Nat}{c:Value}
theorem VRel.q0h {k:IntKind}{x:Int}(h:VRel ρ n (.int k x) c):c=.int k x:=by cases h;rfl
theorem VRel.q1e {b:Bool}(h:VRel ρ n (.bool b) c):c=.bool b:=by cases h;rfl
theorem VRel.q0r {s:ByteArray}(h:VRel ρ n (.string s) c):c=.string s:=by cases h;rfl
theorem VRel.q1k {l k:Nat}(h:VRel ρ n (.slice none l k) c):l=0/\k=0/\c=.slice none 0 0:=by cases h;exact⟨rfl,rfl,rfl⟩
theorem VRel.q0x {i o:Nat}{p:Pl}(hp:ρ i=some p) (h:VRel ρ n (.pointer (some ⟨i,o,none⟩)) c):(none:Option Nat)=none/\i<n/\c=.pointer (some ⟨p.blk,p.shift+o,none⟩):=by
 cases h with
 |ptr _ _ a hi h=>exact⟨rfl,hi,by rw[h p hp]⟩
theorem VRel.q1m {cs:Array Value}(h:VRel ρ n (.agg cs) c):∃ ds:Array Value,c=.agg ds/\LRel ρ n cs.toList ds.toList:=by
 cases h with
 |agg _ ds hc h=>exact⟨ds,rfl,LRel.of_array hc h⟩
theorem VRel.q1l {cs:Array Value}(h:VRel ρ n (.tuple cs) c):∃ ds:Array Value,c=.tuple ds/\LRel ρ n cs.toList ds.toList:=by
 cases h with
 |tuple _ ds hc h=>exact⟨ds,rfl,LRel.of_array hc h⟩
end inv
theorem JE {ρ:Plc}{n:Nat}{v:Value}(h:QA v=true):VRel ρ n v v:=by unfold QA at h;split at h<;>first|constructor|cases h
theorem Jf {ρ:Plc}{n:Nat}{l:List Value}(h:l.all QA=true):LRel ρ n l l:=by
 refine⟨rfl,λi v c hv hc=>?_⟩
 grind [osj,JE,List.all_eq_true,List.mem_of_getElem?]
theorem YK {ρ:Plc}{n:Nat}{v:Value}(h:Yn v=true):VRel ρ n v v:=by
 unfold Yn at h;split at h
 .rename_i cs;have:=VRel.q1n (Jf (ρ:=ρ) (n:=n) h);simpa using this
 .rename_i cs;have:=VRel.q0j (Jf (ρ:=ρ) (n:=n) h);simpa using this
 .exact JE h
theorem ZV {ρ:Plc}{n:Nat}:VRel ρ n undef undef:=YK rfl
theorem X3 {ρ:Plc}{n:Nat}{env:Env}{a:Act}(h:LRel ρ n env a.tmps.toList) {x:Operand}(hx:Ji x=true):VRel ρ n (Q6 env x) (a.eval x):=by
 cases x with
 |tmp t =>
  simp only[Q6,Act.eval];have e:List.length env=a.tmps.size:=by have:=h.1;omega
  rcases zr t (List.length env) with ht|ht
  .have px:t<a.tmps.size:=by rw[<-e];exact ht
   have:=h.2 t env[t] a.tmps[t] (z8 ht) (by simp[px]);simp_all
  .grind [Nat.not_lt,List.getElem?_eq_none,ZV]
 |const v=>exact YK hx
 |global g=>exact .glob g 0 0
 |func f=>exact .func _ #[] #[] #[] #[] rfl rfl (λi h1=>by simp at h1) (λi h1=>by simp at h1)
theorem B4 {ρ:Plc}{w w':World}(hl:Like ρ w w') {i:Nat}{p:Pl}(hp:ρ i=some p) (o:Nat):w'.cell? ⟨p.blk,o,none⟩=w.cell? ⟨p.blk,o,none⟩ :=
 World.cell?_of_block (a:=⟨p.blk,o,none⟩) (hl.blk i p hp)
section
variable {P:Program}{ρ:Plc}{U:Heap}{w:World}
theorem Yv {t:TypeId}{d:TypeDesc}(h:P.underlying t=some d) (w:World):(isAgg t).run P w=.ok (Kp d) w:=by cases d<;>simp[isAgg,run_underlying h,Kp]
theorem Qe {t:TypeId}{i:TypeInfo}(h:P.info? t=some i) (w:World):(sizeOf t).run P w=.ok i.size w:=by simp[sizeOf,run_typeInfo w h]
theorem JG (b o n:Nat):(⟨b,o,none⟩:Addr).add n=⟨b,o+n,none⟩:=by unfold Addr.add;split<;>simp_all
theorem CF (hH:HRel ρ U w) {t:TypeId}{ti:TypeInfo}{d:TypeDesc}(h1:P.info? t=some ti) (h2:P.underlying t=some d) {i o:Nat}{c:List Value}{esz:El}{wr tight:Bool}{v x:Value}
  (hb:U.get i=some (.cells c esz wr tight)) (hv:Xc (Kp d) ti.size c o=some v) (hx:VRel ρ U.n (.pointer (some ⟨i,o,none⟩)) x) :
  ∃ u,VRel ρ U.n v u/\∀ w',Like ρ w w'->(Instr.loadAt t x).run P w'=.ok u w':=by
 obtain⟨p,hp,_,_,_,_,h5,_⟩:=hH.live i _ hb;obtain⟨_,_,rfl⟩:=hx.q0x hp;unfold Xc at hv;cases fa:Kp d with
 |false =>
  simp[fa] at hv;obtain⟨u,hu,cC⟩:=h5 o v hv;refine⟨u,cC,λw' hl=>?_⟩;have:w'.cell? ⟨p.blk,p.shift+o,none⟩=some u:=by rw[B4 hl hp];exact hu
  simp[Instr.loadAt,Instr.sureAddr,loadVar,Yv h2,fa,this]
 |true =>
  simp only[fa,zx] at hv;split at hv
  .rename_i hlen;simp at hv;subst hv;have hex:∃ us:List Value,us.length=ti.size/\∀ k,k<ti.size->∃ u,us[k]?=some u/\w.cell? ⟨p.blk,p.shift+o+k,none⟩=some u/\∀ v,c[o+k]?=some v->VRel ρ U.n v u:=by
    refine⟨(List.range ti.size).map λk=>(w.cell? ⟨p.blk,p.shift+o+k,none⟩).getD undef,by simp,λk hk=>?_⟩;obtain⟨u,hu,cC⟩:=h5 (o+k) _ (z8 (by omega))
    grind
   obtain⟨us,sP,dF⟩:=hex;refine⟨.agg us.toArray,VRel.q1n ⟨by simp;omega,λk v u hk hu=>?_⟩,λw' hl=>?_⟩
   .grind
   .have cj:∀ j v,us[j]?=some v->w'.cell? ((⟨p.blk,p.shift+o,none⟩:Addr).add j)=some v:=λj v hj=>by
     have cQ:j<ti.size:=by grind
     obtain⟨u',dG,cO,_⟩:=dF j cQ;rw[hj] at dG;obtain rfl:=osj dG;rw[JG,B4 hl hp];exact cO
    have:=run_loadCells_list (P:=P) w' ⟨p.blk,p.shift+o,none⟩ us cj;rw[sP] at this;simp[Instr.loadAt,Instr.sureAddr,loadVar,Yv h2,fa,Qe h1,this]
  .cases hv
theorem L4 (hH:HRel ρ U w) {t:TypeId}{ti:TypeInfo}{d:TypeDesc}(h1:P.info? t=some ti) (h2:P.underlying t=some d) {g o s:Nat}{c:List Value}{v x:Value}
  (hb:IW g=some c) (aU:c.all QA=true) (hv:Xc (Kp d) ti.size c o=some v) (hx:VRel ρ U.n (.pointer (some ⟨g,o,some s⟩)) x) :
  ∃ u,VRel ρ U.n v u/\∀ w',Like ρ w w'->(Instr.loadAt t x).run P w'=.ok u w':=by
 obtain⟨⟨e,f,hw⟩,_⟩:=hH.tab g c hb;obtain rfl:x=.pointer (some ⟨g,o,none⟩):=by cases hx;rfl
 have a8:∀ w',Like ρ w w'->∀ k,w'.cell? ⟨g,k,none⟩=c[k]?:=λw' hl k=>by have:=hl.tab g c hb;simp[World.cell?,this,hw]
 unfold Xc at hv;cases fa:Kp d with
 |false =>
  simp[fa] at hv;refine⟨v,JE (by grind),λw' hl=>?_⟩;have:w'.cell? ⟨g,o,none⟩=some v:=by rw[a8 w' hl];exact hv
  simp[Instr.loadAt,Instr.sureAddr,loadVar,Yv h2,fa,this]
 |true =>
  simp only[fa,zx] at hv;split at hv
  .rename_i hlen;simp at hv;subst hv;have hall:((c.drop o).take ti.size).all QA=true:=(by grind);refine⟨_,VRel.q1n (Jf hall),λw' hl=>?_⟩;have cj:∀ j v,((c.drop o).take ti.size)[j]?=some v->w'.cell? ((⟨g,o,none⟩:Addr).add j)=some v:=(by grind [JG]);have:=run_loadCells_list (P:=P) w' ⟨g,o,none⟩ _ cj;have b9:((c.drop o).take ti.size).length=ti.size:=by grind
   rw[b9] at this;simp[Instr.loadAt,Instr.sureAddr,loadVar,Yv h2,fa,Qe h1,this]
  .cases hv
theorem CU {t:TypeId}{ti:TypeInfo}{d:TypeDesc}(h1:P.info? t=some ti) (h2:P.underlying t=some d) {cs ds:Array Value}{o:Nat}{v:Value}{n:Nat}
  (hv:Xc (Kp d) ti.size cs.toList o=some v) (hl:LRel ρ n cs.toList ds.toList):∃ u,VRel ρ n v u/\∀ w',(part t ds o).run P w'=.ok u w':=by
 unfold Xc at hv;cases fa:Kp d with
 |false =>
  simp only[fa,zz,if_false] at hv;obtain⟨u,hu,cC⟩:=hl.get hv;refine⟨u,cC,λw'=>?_⟩;have:ds[o]?=some u:=by simpa using hu
  simp[part,Yv h2,fa,this]
 |true =>
  simp only[fa,zx] at hv;split at hv
  .rename_i hlen;simp at hv;subst hv;refine⟨.agg (ds.extract o (o+ti.size)),?_,λw'=>by simp[part,Yv h2,fa,Qe h1]⟩;have:LRel ρ n ((cs.toList.drop o).take ti.size) ((ds.toList.drop o).take ti.size):=by
    refine⟨by have:=hl.1;simp at this |-;omega,λk v u hk hu=>?_⟩;rw[xt] at hk hu;split at hk
    .rename_i cP;rw[z6 cP,zZ] at hu;rw[zZ] at hk;exact hl.2 _ v u hk hu
    .cases hk
   have h3:=VRel.q1n this;have h4:((ds.toList.drop o).take ti.size).toArray=ds.extract o (o+ti.size):=by
    grind
   rwa [h4] at h3
  .cases hv
end
end Go.V
namespace Go.V
open Go
theorem Mg {ρ:Plc}{n:Nat}{v c:Value}{vs:List Value}(h:Wz v=some vs) (hv:VRel ρ n v c):LRel ρ n vs c.cells.toList:=by
 unfold Wz at h;split at h
 .obtain⟨ds,rfl,hl⟩:=hv.q1m;simp at h;subst h;exact hl
 .cases h
 .cases h
 .rename_i h1 h2 h3;simp at h;subst h;have hc:c.cells.toList=[c]:=by
   cases hv<;>first|rfl|(exact absurd rfl (h1 _))|(exact absurd rfl (h2 _))|(exact absurd rfl (h3 _))
  rw[hc];exact LRel.cons hv (LRel.nil _ _)
theorem AW (off:Nat):∀ (vs:List Value) (k:Nat) (cells:Array Value),
  (((vs.zipIdx k).foldl (λ(cs:Array Value) (p:Value×Nat)=>cs.setIfInBounds (off+p.2) p.1) cells)).toList=JH cells.toList (off+k) vs:=by
 intro vs;induction vs with
 |nil=>intro k cells;rfl
 |cons v r ih =>intro k cells;simp only[List.zipIdx_cons,xu];rw[ih,JH];simp[zE]
theorem Oq {ρ:Plc}{n:Nat}:∀ (vs us c d:List Value) (o:Nat),LRel ρ n c d->LRel ρ n vs us->LRel ρ n (JH c o vs) (JH d o us):=by
 intro vs;induction vs with
 |nil=>intro us c d o hc hv;cases us with
  |nil=>exact hc
  |cons _ _=>have:=hv.1;simp at this
 |cons v r ih =>
  intro us c d o hc hv;cases us with
  |nil=>have:=hv.1;simp at this
  |cons u us =>rw[JH,JH];have h0:VRel ρ n v u:=hv.2 0 v u rfl rfl;have hr:LRel ρ n r us:=⟨by have:=hv.1;simpa using this,λi a b ha hb=>hv.2 (i+1) a b (by simpa using ha) (by simpa using hb)⟩;exact ih us _ _ _ (hc.set o h0) hr
theorem Tu {ρ:Plc}{n:Nat}(place:Nat->Option (Nat×Nat)):∀ (l:List (Nat×Nat×Value)) (l':List (Nat×Value)) (c c':List Value) (cells:Array Value),
  l.length=l'.length->(∀ (k:Nat) (a:Nat×Nat×Value) (b:Nat×Value),l[k]?=some a->l'[k]?=some b->place b.1=some (a.1,a.2.1)/\VRel ρ n a.2.2 b.2) ->
  KD c l=some c'->LRel ρ n c cells.toList->∃ bz,Instr.fill place cells l'=some bz/\LRel ρ n c' bz.toList:=by
 intro l;induction l with
 |nil =>
  intro l' c c' cells hl _ hf hc;cases l' with
  |nil=>simp[KD] at hf;subst hf;exact⟨cells,rfl,hc⟩
  |cons _ _=>simp at hl
 |cons a r ih =>
  intro l' c c' cells hl hk hf hc;cases l' with
  |nil=>simp at hl
  |cons b r' =>
   obtain⟨o,s,v⟩:=a;obtain⟨j,u⟩:=b;obtain⟨hp,hv⟩:=hk 0 _ _ rfl rfl;simp only at hp hv;simp only[KD] at hf;split at hf
   .rename_i vs ct;split at hf
    .rename_i aj;obtain⟨hs,hle⟩:=aj;have eB:=Mg ct hv;have aw:u.cells.size=s:=by have:=eB.1;simp at this;omega
     have hlen:cells.size=c.length:=by have:=hc.1;simp at this;omega
     obtain⟨bz,h1,h2⟩:=ih r' (JH c o vs) c' (u.cells.zipIdx.foldl (λcs (c,j)=>cs.setIfInBounds (o+j) c) cells) (by simpa using hl)
      (λk a b ha hb=>hk (k+1) a b (by simpa using ha) (by simpa using hb)) hf (by
       have:=AW o u.cells.toList 0 cells;rw[<-Array.foldl_toList,Array.toList_zipIdx];rw[show (o+0)=o from rfl] at this;refine Eq.subst (motive:=λx=>LRel ρ n (JH c o vs) x) this.symm ?_;exact Oq _ _ _ _ _ hc eB)
     refine⟨bz,?_,h2⟩;simp only[Instr.fill,hp];simp_all
    .cases hf
   .cases hf
theorem Rk {ρ:Plc}{n:Nat}{env:Env}{ev:Operand->Value}(hE:∀ x,Ji x=true->VRel ρ n (Q6 env x) (ev x)) {l:List Operand}(h:l.all Ji=true):LRel ρ n (l.map (Q6 env)) (l.map ev):=by
 refine⟨by simp,λi v c hv hc=>?_⟩
 grind
theorem Q0 {P:Program}{t:TypeId}{d:TypeDesc}(h:P.underlying t=some d) (w:World):(underlying t).run P w=.ok d w:=run_underlying h w
def S7 (P:Program) (ρ:Plc) (U:Heap) (w:World) (v:Value) (s:Sem Next):Prop :=
 ∃ c,VRel ρ U.n v c/\∀ w',Like ρ w w'->s.run P w'=.ok (.value c) w'
theorem X7 {α β:Type}(f:α->Option β):∀ (l:List α) (r:List β),l.mapM f=some r->r.length=l.length/\∀ (i:Nat) (a:α),l[i]?=some a->∃ b,r[i]?=some b/\f a=some b:=by
 intro l;induction l with
 |nil=>intro r h;simp at h;subst h;exact⟨rfl,λi a h=>by simp at h⟩
 |cons a l ih =>
  intro r h;rw[xd] at h;cases hf:f a with
  |none=>simp[hf] at h
  |some b =>
   cases hm:l.mapM f with
   |none=>simp[hf,hm] at h
   |some r' =>
    simp[hf,hm] at h;subst h;obtain⟨h1,h2⟩:=ih r' hm;refine⟨by simp[h1],λi x hx=>?_⟩;cases i with
    |zero=>simp at hx;subst hx;exact⟨b,rfl,hf⟩
    |succ i=>simp at hx;simpa using h2 i x hx
theorem O7 {P:Program}{α β:Type}(g:α->Sem β) (f:α->β) (w:World):∀ (l:List α),(∀ a∈l,(g a).run P w=.ok (f a) w)->(l.mapM g).run P w=.ok (l.map f) w:=by
 intro l;induction l with
 |nil=>intro _;rfl
 |cons a l ih =>intro h;rw[xd];simp[h a (by simp),ih (λb hb=>h b (by simp[hb]))]
theorem XB {P:Program}{t:TypeId}{z:List Value}(h:zeroOf P t=some z):∃ i zv,P.info? t=some i/\i.zero=some zv/\zv.cells.toList=z/\z.length=i.size/\z.all QA=true:=by
 unfold zeroOf at h;cases hi:P.info? t with
 |none=>simp[hi] at h
 |some i =>
  cases hz:i.zero with
  |none=>simp[hi,hz] at h
  |some zv =>simp[hi,hz] at h;obtain⟨h1,h2⟩:=h;subst h2;exact(by grind)
theorem QP {P:Program}{t:TypeId}{i:TypeInfo}{zv:Value}(h:P.info? t=some i) (hz:i.zero=some zv) (w:World):(zeroValue t).run P w=.ok zv w:=by simp[zeroValue,run_typeInfo w h,hz]
section
variable {P:Program}{ρ:Plc}{U U':Heap}{w:World}{ev:Operand->Value}{env:Env}{v:Value}
theorem Qh {s:Sem Next}{v c:Value}(h:∀ w',s.run P w'=.ok (.value c) w') (hc:VRel ρ U.n v c):S7 P ρ U w v s:=⟨c,hc,λw' _=>h w'⟩
theorem KN (op:BinOp) (t:TypeId) (x y:Operand) (yt:TypeId) (ty:TypeId) (pos:String) (after:Array Edge) (dst:Option Tmp) (g:Option (Nat×Bool)) {v c a b:Value}(hx:ev x=a) (hy:ev y=b)
  (rH:(∃ k n k' n',a=.int k n/\b=.int k' n')\/(∃ s s',a=.string s/\b=.string s')\/(∃ s s',a=.bool s/\b=.bool s'))
  (h:∀ w',(binOp op t a b).run P w'=.ok c w') (hc:VRel ρ U.n v c):S7 P ρ U w v (execOp ev ⟨dst,.binOp op t x y yt,ty,pos,after,g⟩):=by
 refine Qh (c:=c) (λw'=>?_) hc;have he:∀ w',(eqGuard op t x y a b).run P w'=.ok () w':=λw'=>by rcases rH with⟨k,n,k',n',rfl,rfl⟩|⟨s,s',rfl,rfl⟩|⟨s,s',rfl,rfl⟩<;>(unfold eqGuard;cases op<;>simp)
 simp only[execOp,hx,hy];simp[he,h]
theorem GZ {t:TypeId}(h:P.underlying t=some .bool) (a b:Bool) (d:Nat) (w:World):(Op.equalIn (d+1) t (.bool a) (.bool b)).run P w=.ok (a==b) w:=by simp only[Op.equalIn,zy,Q0 h,zi,xg]
theorem Hj {t:TypeId}(h:P.underlying t=some .bool) (a b:Bool) (w:World):(Op.equal t (.bool a) (.bool b)).run P w=.ok (a==b) w :=
 GZ h a b 9999 w
theorem VRel.q1i {n:Nat}{i o:Nat}{c:Value}(h:VRel ρ n (.pointer (some ⟨i,o,none⟩)) c):∃ a:Addr,c=.pointer (some a)/\i<n/\∀ p,ρ i=some p->a=⟨p.blk,p.shift+o,none⟩:=by
 cases h with
 |ptr _ _ a hi h=>exact⟨a,rfl,hi,h⟩
theorem VRel.q1d {n:Nat}{i o len cap:Nat}{c:Value}(h:VRel ρ n (.slice (some ⟨i,o,none⟩) len cap) c):∃ (a:Addr) (ao:Nat),c=.slice (some a) len ao/\i<n /\
  ∀ p,ρ i=some p->cap<=ao/\(p.tight=true->ao=cap)/\(ao=0/\len=0\/∃ o',a=⟨p.blk,p.shift+o',none⟩/\o'+ao*p.esz.sz<=p.ext/\(o'=o\/(len=0/\cap=0))):=by
 cases h with
 |sl _ _ _ _ a ao hi h=>exact⟨a,ao,rfl,hi,h⟩
theorem VRel.q2p {n:Nat}{i o len cap:Nat}{c:Value}(h:VRel ρ n (.slice (some ⟨i,o,some 0⟩) len cap) c):∃ a:Addr,c=.slice (some a) len cap/\i<n/\(∀ p,ρ i=some p->a=⟨p.blk,p.shift+o,none⟩/\o+cap*p.esz.sz<=p.ext)/\VRel ρ n (.slice (some ⟨i,o,none⟩) len cap) c:=by
 cases h with
 |slx _ _ _ _ a hi h=>exact⟨a,rfl,hi,h,.sl _ _ _ _ _ _ hi (by simp_all)⟩
theorem VRel.q1z {n:Nat}{a:Option Addr}{len cap:Nat}{c:Value}(h:VRel ρ n (.slice a len cap) c):∃ a' ao,c=.slice a' len ao:=by
 cases h with
 |sl _ _ _ _ a ao hi h=>exact⟨_,ao,rfl⟩
 |slx _ _ _ _ a hi h=>exact⟨_,_,rfl⟩
 |nilSl=>exact⟨_,_,rfl⟩
theorem Xs {op:Option Operand}{d l:Nat}(hE:∀ x,Ji x=true->VRel ρ U.n (Q6 env x) (ev x)) (al:∀ x,op=some x->Ji x=true) (h:Zq (Q6 env) op d=some l) :
  (op=none/\l=d)\/∃ x k i,op=some x/\ev x=.int k i/\0<=i/\l=i.toNat:=by
 cases op with
 |none=>simp[Zq] at h;exact .inl ⟨rfl,h.symm⟩
 |some x =>
  have hr:=hE x (al x rfl);simp only[Zq] at h;split at h
  .rename_i k i heq;rw[heq] at hr;split at h
   .rename_i hi;simp at h;exact .inr ⟨x,k,i,rfl,hr.q0h,hi,h.symm⟩
   .cases h
  .cases h
theorem QO (k:IntKind) (i:Int) (y:Nat) (code:BoundsCode) (h:0<=i) (h':i.toNat<=y) (w:World):(Instr.sliceBound (.int k i) y code).run P w=.ok i.toNat w:=by
 have:i<=y:=by omega
 simp[Instr.sliceBound,asIntOf,h,this]
theorem WG {lo hi:Option Operand}{isSlice:Bool}{n cap l h:Nat}(py:(lo=none/\l=0)\/∃ x k i,lo=some x/\ev x=.int k i/\0<=i/\l=i.toNat)
  (kW:(hi=none/\h=n)\/∃ x k i,hi=some x/\ev x=.int k i/\0<=i/\h=i.toNat) (h1:l<=h) (h2:h<=cap) (w:World) :
  (Instr.sliceBounds isSlice n cap (lo.map ev) (hi.map ev) none).run P w=.ok (l,h,cap) w:=by
 rcases py with⟨rfl,rfl⟩|⟨x,k,i,rfl,hx,oQ,rfl⟩<;>rcases kW with⟨rfl,rfl⟩|⟨y,k',i',rfl,hy,h_,rfl⟩
 .simp[Instr.sliceBounds]
 .simp[Instr.sliceBounds,hy,QO k' i' _ _ h_ h2]
 .simp[Instr.sliceBounds,hx,QO k i _ _ oQ h1]
 .simp[Instr.sliceBounds,hx,hy,QO k i _ _ oQ h1,QO k' i' _ _ h_ h2]
set_option maxHeartbeats 1000000 in
theorem C7 {o:Oper}{vo:VOp}(hc:YJ P o.op = some vo) (hq:vo.quiet = true) (hH:HRel ρ U w) (hE:∀ x, Ji x = true -> VRel ρ U.n (Q6 env x) (ev x))
    (h:Q8 vo (Q6 env) U = some (v, U')):U' = U /\ S7 P ρ U w v (execOp ev o):=by
  obtain ⟨dst, op, ty, pos, after, guard⟩:=o;simp only at hc;unfold YJ at hc;split at hc
  . cases hc
  rename_i al;simp only [x5, zV] at al;cases op <;> simp only [Op.operands] at al hc
  case move x =>
    have hx:=hE x (by simpa using al);simp at hc; subst hc;simp [Q8] at h;obtain ⟨rfl, rfl⟩:=h;exact ⟨rfl, Qh (λw' => by simp [execOp]) hx⟩
  case assign x =>
    have hx:=hE x (by simpa using al);simp at hc; subst hc;simp [Q8] at h;obtain ⟨rfl, rfl⟩:=h;exact ⟨rfl, Qh (λw' => by simp [execOp]) hx⟩
  case pick c a b =>
    simp at al;have hx:=hE c al.1;have ha:=hE a al.2.1;have hb:=hE b al.2.2;simp at hc; subst hc;simp only [Q8] at h;split at h
    . rename_i t heq
      rw [heq] at hx;simp at h;obtain ⟨h1, rfl⟩:=h;refine ⟨rfl, Qh (c:=if t then ev a else ev b) (λw' => by simp [execOp, hx.q1e, asBool]) ?_⟩;rw [<- h1]; split <;> assumption
    . cases h
  case binOp jE t x y yt =>
    simp at al;have hx:=hE x al.1;have hy:=hE y al.2;split at hc
    .
      cases jE <;> simp at hc <;> subst hc <;> simp only [Q8] at h <;> split at h <;> first
        | (cases h; done)
        | (rename_i k a k' b h1 h2
           rw [h1] at hx; rw [h2] at hy;have ex:=hx.q0h;have ey:=hy.q0h;split at h
           . rename_i aj
             simp at h; obtain ⟨rfl, rfl⟩:=h;refine ⟨rfl, ?_⟩
             first
              | refine KN _ t x y yt ty pos after dst guard ex ey (.inl ⟨_, _, _, _, rfl, rfl⟩) (λw' => ?_) (VRel.int _ _)
              | refine KN _ t x y yt ty pos after dst guard ex ey (.inl ⟨_, _, _, _, rfl, rfl⟩) (λw' => ?_) (VRel.bool _)
             first
              | (obtain rfl:=aj; simp [binOp, Op.intArith, PF]; done)
              | (obtain ⟨rfl, pz⟩:=aj; simp [binOp, Op.intDiv, Q21, pz]; done)
              | (obtain rfl:=aj; simp [binOp, Op.intBits, Bo]; done)
              | (obtain rfl:=aj; simp [binOp, Op.intCmp, Q4k]; done)
              | (simp [binOp, Op.shift, Po, Int.not_lt.2 aj, Nat.min_def]; done)
           . cases h)
    .
      simp at hc; subst hc;simp only [Q8] at h;split at h
      . rename_i a b h1 h2
        rw [h1] at hx; rw [h2] at hy;have ex:=hx.q0r;have ey:=hy.q0r
        cases jE <;> simp only at h <;> first
          | (cases h; done)
          | (split at h
             . rename_i az
               simp at h; obtain ⟨rfl, rfl⟩:=h;refine ⟨rfl, KN _ t x y yt ty pos after dst guard ex ey (.inr (.inl ⟨_, _, rfl, rfl⟩)) (c:=.string (a ++ b)) (λw' => ?_) (VRel.string _)⟩;have:¬ (((a.size + b.size:Nat):Int) > IntKind.i64.max):=by
                 have:IntKind.i64.max = 9223372036854775807:=by decide
                 omega
               simp only [binOp, Op.stringOp, z7 this]; rfl
             . cases h)
          | (simp at h; obtain ⟨rfl, rfl⟩:=h
             exact ⟨rfl, KN _ t x y yt ty pos after dst guard ex ey (.inr (.inl ⟨_, _, rfl, rfl⟩)) (λw' => by simp [binOp, Op.stringOp, ByteArray.toList_eq]) (VRel.bool _)⟩)
      . cases h
    .
      rename_i pA
      cases jE <;> simp at hc <;> subst hc <;> simp only [Q8] at h <;> split at h <;> first
        | (cases h; done)
        | (rename_i a b h1 h2
           rw [h1] at hx; rw [h2] at hy;have ex:=hx.q1e;have ey:=hy.q1e;simp at h; obtain ⟨rfl, rfl⟩:=h;refine ⟨rfl, KN _ t x y yt ty pos after dst guard ex ey (.inr (.inr ⟨_, _, rfl, rfl⟩)) (λw' => ?_) (VRel.bool _)⟩;simp [binOp, Hj pA])
    . cases hc
  case unOp u_ t x =>
    have hx:=hE x (by simpa using al);simp at hc; subst hc;simp only [Q8] at h
    split at h <;> first
      | (cases h; done)
      | (rename_i h1; rw [h1] at hx; simp at h; obtain ⟨rfl, rfl⟩:=h
         refine ⟨rfl, ?_⟩
         first
          | (have e:=hx.q1e; refine Qh (λw' => ?_) (VRel.bool _); simp [execOp, e, Op.unary]; done)
          | (have e:=hx.q0h; refine Qh (λw' => ?_) (VRel.int _ _); simp [execOp, e, Op.unary, Op.intArith]; done)
          | (have e:=hx.q0h; refine Qh (λw' => ?_) (VRel.int _ _); simp [execOp, e, Op.unary, Op.intBits, Bo]; done))
  case convert s d x =>
    have hx:=hE x (by simpa using al);split at hc
    . rename_i k0 k hs hd
      simp at hc; subst hc;simp only [Q8] at h;split at h
      . rename_i h1; rw [h1] at hx; simp at h; obtain ⟨rfl, rfl⟩:=h
        exact ⟨rfl, Qh (λw' => by simp [execOp, hx.q0h, convert, Q0 hs, Q0 hd, Conv.intToInt]) (VRel.int _ _)⟩
      . cases h
    . rename_i hs hd
      simp at hc; subst hc;simp only [Q8] at h;split at h
      . rename_i h1; rw [h1] at hx; simp at h; obtain ⟨rfl, rfl⟩:=h
        exact ⟨rfl, Qh (λw' => by simp [execOp, hx.q0r, convert, Q0 hs, Q0 hd]) (VRel.string _)⟩
      . cases h
    . cases hc
  case alloc t =>
    cases hz:zeroOf P t <;> simp [hz] at hc;subst hc; cases hq
  case box t x => simp at hc; subst hc; cases hq
  case buildSlice t len parts =>
    split at hc
    . rename_i e _
      cases hz:zeroOf P e with
      | none => simp [hz] at hc
      | some z =>
        simp only [hz, zJ, xl] at hc;split at hc
        . cases hc
        . simp at hc; subst hc; cases hq
    . cases hc
  case store t a x =>
    cases hi:P.info? t <;> simp [hi] at hc;subst hc; cases hq
  case makeSlice t l c =>
    split at hc
    . rename_i e _
      cases hi:P.info? e with
      | none => simp [hi] at hc
      | some ei =>
        cases hz:zeroOf P e with
        | none => simp [hi, hz] at hc
        | some z =>
          simp only [hi, hz, zJ, xl] at hc;split at hc
          . cases hc
          . simp at hc; subst hc; cases hq
    . cases hc
  case load t a =>
    have ha:=hE a (by simpa using al);cases hi:P.info? t with
    | none => simp [hi] at hc
    | some ti =>
      cases hu:P.underlying t with
      | none => simp [hi, hu] at hc
      | some d =>
        simp [hi, hu] at hc; subst hc;simp only [Q8] at h;split at h
        . rename_i g o s h1
          rw [h1] at ha;split at h
          . rename_i c hb
            split at h
            . rename_i hall
              split at h
              . rename_i v0 hv
                simp at h; obtain ⟨rfl, rfl⟩:=h;obtain ⟨u, cC, hr⟩:=L4 hH hi hu hb hall hv ha;exact ⟨rfl, u, cC, λw' hl => by simp [execOp, hr w' hl]⟩
              . cases h
            . cases h
          . cases h
        . rename_i i o h1
          rw [h1] at ha;split at h
          . rename_i c esz wr tight hb
            split at h
            . rename_i v0 hv
              simp at h; obtain ⟨rfl, rfl⟩:=h;obtain ⟨u, cC, hr⟩:=CF hH hi hu hb hv ha;exact ⟨rfl, u, cC, λw' hl => by simp [execOp, hr w' hl]⟩
            . cases h
          . cases h
        . cases h
  case fieldAddr t a f =>
    have ha:=hE a (by simpa using al);cases hf:MP P t f with
    | none => simp [hf] at hc
    | some fd =>
      cases hi:P.info? fd.type with
      | none => simp [hf, hi] at hc
      | some fi =>
        simp only [hf, hi, zJ, xl] at hc;split at hc
        . cases hc
        . rename_i az
          simp at hc; subst hc;simp only [Q8] at h;split at h
          . rename_i i o h1
            rw [h1] at ha;simp at h; obtain ⟨rfl, rfl⟩:=h;unfold MP at hf;split at hf
            . rename_i fs hu
              simp at az;obtain ⟨ad, heq, aQ, aU⟩:=ha.q1i;cases hρ:ρ i with
              | none =>refine ⟨rfl, .pointer (some (ad.add fd.offset)), .ptr _ _ _ aQ (by simp_all), λw' _ => ?_⟩;simp [execOp, heq, Instr.fieldAt, Q0 hu, hf, Instr.sureAddr, fieldPlace, Qe hi, az]
              | some p =>obtain rfl:=aU p hρ;refine ⟨rfl, .pointer (some ⟨p.blk, p.shift + (o + fd.offset), none⟩), .ptr _ _ _ aQ (by simp_all), λw' _ => ?_⟩;simp [execOp, heq, Instr.fieldAt, Q0 hu, hf, Instr.sureAddr, fieldPlace, Qe hi, az, JG, zE]
            . cases hf
          . cases h
  case field t x f =>
    have hx:=hE x (by simpa using al);cases hf:MP P t f with
    | none => simp [hf] at hc
    | some fd =>
      cases hi:P.info? fd.type with
      | none => simp [hf, hi] at hc
      | some fi =>
        cases hu:P.underlying fd.type with
        | none => simp [hf, hi, hu] at hc
        | some d =>
          simp [hf, hi, hu] at hc; subst hc;simp only [Q8] at h;split at h
          . rename_i cs h1
            rw [h1] at hx;obtain ⟨ds, hds, hl⟩:=hx.q1m;split at h
            . rename_i v0 hv
              simp at h; obtain ⟨rfl, rfl⟩:=h;obtain ⟨u, cC, hr⟩:=CU hi hu hv hl;unfold MP at hf;split at hf
              . rename_i fs pB
                exact ⟨rfl, u, cC, λw' _ => by simp [execOp, hds, Instr.field, Q0 pB, hf, asAgg, hr]⟩
              . cases hf
            . cases h
          . cases h
  case makeFunc fn first cap =>
    rw [Array.toList_append, List.all_append, z1] at al;cases fn <;> simp at hc;rename_i f;subst hc;simp only [Q8] at h;simp at h; obtain ⟨rfl, rfl⟩:=h;have h1:=Rk hE (l:=first.toList) al.1;have h2:=Rk hE (l:=cap.toList) al.2;refine ⟨rfl, Qh (c:=.func (.func f) (first.map ev) (cap.map ev)) (λw' => by simp [execOp, Instr.makeFunc]) ?_⟩;refine .func _ _ _ _ _ (by simp) (by simp) (λi h3 h4 => ?_) (λi h3 h4 => ?_)
    . simp_all
    simp_all
  case build t parts =>
    cases hz:zeroOf P t with
    | none => simp [hz] at hc
    | some z =>
      obtain ⟨ti, zv, hi, dR, gj, _, jk⟩:=XB hz;have aU:LRel ρ U.n z zv.cells.toList:=by rw [gj]; exact Jf jk
      have kX:∀ q ∈ parts.toList, Ji q.2 = true:=(by grind);simp only [hz, zJ, xl] at hc;split at hc
      . rename_i fs hu
        cases jl:fs.toList.mapM (λf => (P.info? f.type).map λi => (f.offset, i.size)) with
        | none => simp [jl] at hc
        | some places =>
          cases eC:parts.toList.mapM (λq => (places[q.1]?).map λos => (os.1, os.2, q.2)) with
          | none => simp [jl, eC] at hc
          | some ps =>
            simp [jl, eC] at hc; subst hc;simp only [Q8] at h;split at h
            . rename_i cs eD
              simp at h; obtain ⟨rfl, rfl⟩:=h;obtain ⟨dS, ia⟩:=X7 _ _ _ jl;obtain ⟨b9, di⟩:=X7 _ _ _ eC
              obtain ⟨bz, mz, jX⟩:=Tu (ρ:=ρ) (n:=U.n) (λ(i:Nat) => places[i]?) _ ((parts.map λq => (q.1, ev q.2)).toList) z cs zv.cells (by simp [b9])
                (by grind [Array.toList_map, Option.some.injEq, List.mem_of_getElem?]) eD aU
              refine ⟨rfl, .agg bz, by have:=VRel.q1n jX; simpa using this, λw' _ => ?_⟩;have aE:(fs.mapM λ(f:Field) => do pure (f.offset, <- sizeOf f.type)).run P w' = .ok places.toArray w':=by
                rw [Array.mapM_eq_mapM_toList];have oR:∀ f ∈ fs.toList, ((do pure (f.offset, <- sizeOf f.type):Sem (Nat × Nat))).run P w' = .ok (f.offset, ((P.info? f.type).map (·.size)).getD 0) w':=λf hf => by
                  obtain ⟨k, hk⟩:=List.getElem?_of_mem hf;obtain ⟨b, hb, bD⟩:=ia k f hk;cases kY:P.info? f.type with
                  | none => simp [kY] at bD
                  | some fi => simp [Qe kY]
                have:=O7 (P:=P) _ _ w' fs.toList oR;simp only [Sem.run_map, this, zi];congr 2;apply zN;intro k;rw [xp];cases hk:fs.toList[k]? with
                | none =>
                  have:places.length <= k:=by simp_all
                  simp [zI this]
                | some f =>
                  obtain ⟨b, hb, bD⟩:=ia k f hk;cases kY:P.info? f.type with
                  | none => simp [kY] at bD
                  | some fi => simp [kY] at bD |-; rw [hb, <- bD]
              have gH:(λ(i:Nat) => places.toArray[i]?) = (λ(i:Nat) => places[i]?):=by funext i; simp
              simp only [execOp];simp only [Instr.build, zy, QP hi dR, zi, Q0 hu, aE];simp_all
            . cases h
      . rename_i n e hu
        cases cw:P.info? e with
        | none => simp [cw] at hc
        | some ei =>
          simp [cw] at hc; subst hc;simp only [Q8] at h;split at h
          . rename_i cs eD
            simp at h; obtain ⟨rfl, rfl⟩:=h
            obtain ⟨bz, mz, jX⟩:=Tu (ρ:=ρ) (n:=U.n) (λi => some (i * ei.size, ei.size)) _ ((parts.map λq => (q.1, ev q.2)).toList) z cs zv.cells (by simp)
              (by grind) eD aU
            refine ⟨rfl, .agg bz, by have:=VRel.q1n jX; simpa using this, λw' _ => ?_⟩;simp only [execOp];simp only [Instr.build, zy, QP hi dR, zi, Q0 hu, Qe cw, mz];rfl
          . cases h
      . cases hc
  case index t x i =>
    simp at al;have hx:=hE x al.1;have hi:=hE i al.2;split at hc
    . rename_i hu
      simp at hc; subst hc;simp only [Q8] at h;split at h
      . rename_i s k n h1 h2
        rw [h1] at hx; rw [h2] at hi;split at h
        . rename_i hn
          split at h
          . rename_i b hb
            simp at h; obtain ⟨rfl, rfl⟩:=h;have bD:s[n.toNat]? = some b:=by rw [<- hb]; simp [getElem?_def]; split <;> rfl
            refine ⟨rfl, Qh (λw' => ?_) (VRel.int _ _)⟩;simp [execOp, hx.q0r, hi.q0h, Instr.index, asIntOf, Q0 hu, hn, bD]
          . cases h
        . cases h
      . cases h
    . rename_i len e hu
      cases cw:P.info? e with
      | none => simp [cw] at hc
      | some ei =>
        cases jF:P.underlying e with
        | none => simp [cw, jF] at hc
        | some d =>
          simp [cw, jF] at hc; subst hc;simp only [Q8] at h;split at h
          . rename_i cs k n h1 h2
            rw [h1] at hx; rw [h2] at hi;obtain ⟨ds, hds, hl⟩:=hx.q1m;split at h
            . rename_i hn
              split at h
              . rename_i v0 hv
                simp at h; obtain ⟨rfl, rfl⟩:=h;obtain ⟨u, cC, hr⟩:=CU cw jF hv hl;refine ⟨rfl, u, cC, λw' _ => ?_⟩;simp [execOp, hds, hi.q0h, Instr.index, asIntOf, Q0 hu, hn, Qe cw, hr]
              . cases h
            . cases h
          . cases h
    . cases hc
  case indexAddr t x i =>
    simp at al;have hx:=hE x al.1;have hi:=hE i al.2;split at hc
    . rename_i e hu
      cases cw:P.info? e with
      | none => simp [cw] at hc
      | some ei =>
        simp [cw] at hc; subst hc;simp only [Q8] at h;split at h
        . rename_i b o n cap k j h1 h2
          rw [h1] at hx; rw [h2] at hi;split at h
          . rename_i hj
            simp at h; obtain ⟨rfl, rfl⟩:=h;obtain ⟨a, ao, aY, aQ, aU⟩:=hx.q1d;refine ⟨rfl, .pointer (some (a.add (j.toNat * ei.size))), .ptr _ _ _ aQ (λp hp => ?_), λw' _ => ?_⟩
            . grind [JG, Nat.add_assoc]
            . simp [execOp, aY, hi.q0h, Instr.indexAt, asIntOf, Q0 hu, hj, Qe cw]
          . cases h
        . cases h
    . rename_i len e hu
      cases cw:P.info? e with
      | none => simp [cw] at hc
      | some ei =>
        simp [cw] at hc; subst hc;simp only [Q8] at h;split at h
        . rename_i g o s k j h1 h2
          rw [h1] at hx; rw [h2] at hi;split at h
          . rename_i hj
            simp at h; obtain ⟨rfl, rfl⟩:=h;have aY:ev x = .pointer (some ⟨g, o, none⟩):=by generalize ev x = c at hx; cases hx; rfl
            refine ⟨rfl, .pointer (some ((⟨g, o, none⟩:Addr).add (j.toNat * ei.size))), by rw [JG]; exact .glob _ _ _, λw' _ => ?_⟩;simp [execOp, aY, hi.q0h, Instr.indexAt, Instr.sureAddr, asIntOf, Q0 hu, hj, Qe cw]
          . cases h
        . rename_i b o k j h1 h2
          rw [h1] at hx; rw [h2] at hi;split at h
          . rename_i hj
            simp at h; obtain ⟨rfl, rfl⟩:=h;obtain ⟨a, aY, aQ, aU⟩:=hx.q1i;refine ⟨rfl, .pointer (some (a.add (j.toNat * ei.size))), .ptr _ _ _ aQ (λp hp => ?_), λw' _ => ?_⟩
            . grind [JG, Nat.add_assoc]
            . simp [execOp, aY, hi.q0h, Instr.indexAt, Instr.sureAddr, asIntOf, Q0 hu, hj, Qe cw]
          . cases h
        . cases h
    . cases hc
  case slice t x lo hi mx =>
    have kZ:Ji x = true:=by simp at al; exact al.1
    have gk:∀ y, lo = some y -> Ji y = true:=(by simp_all);have gm:∀ y, hi = some y -> Ji y = true:=λy hy => by subst hy; cases lo <;> simp at al <;> first | exact al.2.1 | exact al.2.2.1 | exact al.2.2 | exact al.2
    have hx:=hE x kZ;split at hc
    . rename_i e hu
      cases cw:P.info? e with
      | none => simp [cw] at hc
      | some ei =>
        simp [cw] at hc; subst hc;cases mx with
        | some m => simp [VOp.quiet] at hq
        | none =>
          simp only [Q8] at h;split at h
          . rename_i a n cap h1
            rw [h1] at hx;split at h
            . rename_i l hh hl kW _
              have jm:=Xs hE gk hl;have mA:=Xs hE gm kW;unfold Xe at h;split at h
              . rename_i heq
                simp at heq; obtain ⟨rfl, rfl, rfl⟩:=heq;obtain ⟨_, _, aY⟩:=hx.q1k;split at h
                . rename_i aj
                  obtain ⟨rfl, rfl, _⟩:=aj;simp at h; obtain ⟨rfl, rfl⟩:=h;refine ⟨rfl, Qh (λw' => ?_) VRel.nilSl⟩;have:=WG (P:=P) (isSlice:=true) (cap:=0) jm mA (zd _) (zd _) w';simp [execOp, aY, Instr.sliceAt, Instr.slice, Q0 hu, this, Qe cw]
                . cases h
              . rename_i i o n' jG heq
                simp at heq; obtain ⟨rfl, rfl, rfl⟩:=heq;simp only at h;split at h
                . rename_i c esz wr tight hb
                  split at h
                  . rename_i aj
                    obtain ⟨mT, pC, sQ⟩:=aj;simp at h; obtain ⟨rfl, rfl⟩:=h;obtain ⟨ad, ao, aY, aQ, aU⟩:=hx.q1d;obtain ⟨p, hp, hB⟩:=hH.live i _ hb;have dT:=(aU p hp).1;have b_:=λw' => WG (P:=P) (isSlice:=true) (cap:=ao) jm mA pC (zW sQ dT) w';obtain ⟨-, oS, ⟨oT, jo⟩ | ⟨o', rfl, dX, ho⟩⟩:=aU p hp
                    . have bk:ao = l:=by omega
                      refine ⟨rfl, .slice (some ad) (hh - l) (ao - l), .sl _ _ _ _ _ _ aQ (λq hq => ⟨by omega, λ_ => by omega, .inl ⟨by omega, by omega⟩⟩), λw' _ => ?_⟩;simp only [execOp, aY, Instr.sliceAt, zy, Q0 hu, zi, Instr.slice, Option.map_none, b_, Qe cw];simp [bk]
                    have dY:p.esz.sz = ei.size:=by rw [hB.1]; exact mT
                    rw [dY] at dX;refine ⟨rfl, .slice (some (if ao = l then ⟨p.blk, p.shift + o', none⟩ else ⟨p.blk, p.shift + (o' + l * ei.size), none⟩)) (hh - l) (ao - l), .sl _ _ _ _ _ _ aQ (λq hq => ?_), λw' _ => ?_⟩
                    . obtain rfl:p = q:=osj (hp.symm.trans hq)
                      refine ⟨by omega, λht => by have:=oS ht; omega, .inr ?_⟩;rw [dY];by_cases bR:ao = l
                      . refine ⟨o', by rw [z6 bR], by rw [bR, x_]; omega, .inr (by omega)⟩
                      . refine ⟨o' + l * ei.size, by rw [z7 bR], ?_, ?_⟩
                        . have:ao = l + (ao - l):=by omega
                          rw [this, zH] at dX;omega
                        . rcases ho with rfl | ⟨h0, vd⟩
                          . exact .inl rfl
                          . exact .inr (by omega)
                    . simp only [execOp, aY, Instr.sliceAt, zy, Q0 hu, zi, Instr.slice, Option.map_none, b_, Qe cw]
                      by_cases bR:ao = l
                      . simp [bR]
                      . simp [bR, JG, zE]
                  . cases h
                . cases h
              . cases h
            . simp_all
            . cases h
          . cases h
    . rename_i hu
      split at hc
      . rename_i pD
        cases mx with
        | some m => simp at pD
        | none =>
          simp at hc; subst hc;simp only [Q8] at h;split at h
          . rename_i s h1
            rw [h1] at hx;split at h
            . rename_i l hh hl kW
              have jm:=Xs hE gk hl;have mA:=Xs hE gm kW;split at h
              . rename_i aj
                simp at h; obtain ⟨rfl, rfl⟩:=h;refine ⟨rfl, Qh (λw' => ?_) (VRel.string _)⟩;have:=WG (P:=P) (isSlice:=false) (cap:=s.size) jm mA aj.1 aj.2 w';simp [execOp, hx.q0r, Instr.sliceAt, Instr.slice, Q0 hu, this]
              . cases h
            . cases h
          . cases h
      . cases hc
    . cases hc
  case makeInterface t x =>
    have hx:=hE x (by simpa using al);cases hu:P.underlying t with
    | none => simp [hu] at hc
    | some d =>
      have sR:∀ ms, d ≠ .interface ms:=λms e => by subst e; simp [hu] at hc
      have cO:vo = .iface t x:=by simp_all
      subst cO;simp only [Q8] at h;split at h
      . cases h
      . simp at h; obtain ⟨rfl, rfl⟩:=h
        refine ⟨rfl, Qh (λw' => ?_) (VRel.iface t _ _ hx)⟩;have:(Instr.makeInterface t (ev x)).run P w' = .ok (.iface t (ev x)) w':=by cases d <;> first | (exact absurd rfl (sR _)) | simp [Instr.makeInterface, Q0 hu]
        simp [execOp, this]
  case extract x i =>
    have hx:=hE x (by simpa using al);simp at hc; subst hc;simp only [Q8] at h;split at h
    . rename_i vs h1
      rw [h1] at hx;obtain ⟨ds, hds, hl⟩:=hx.q1l;split at h
      . rename_i v0 hv
        simp at h; obtain ⟨rfl, rfl⟩:=h;obtain ⟨u, hu, cC⟩:=hl.get hv;have dG:ds[i]? = some u:=by simpa using hu
        exact ⟨rfl, u, cC, λw' _ => by simp [execOp, hds, Instr.extract, dG]⟩
      . cases h
    . cases h
  case nilCheck x =>
    have hx:=hE x (by simpa using al);simp at hc; subst hc;simp only [Q8] at h;split at h
    . rename_i a h1
      rw [h1] at hx;simp at h; obtain ⟨rfl, rfl⟩:=h;have:∃ a', ev x = .pointer (some a'):=by generalize ev x = c at hx;cases hx <;> exact ⟨_, rfl⟩
      obtain ⟨a', jY⟩:=this;exact ⟨rfl, ev x, hx, λw' _ => by simp [execOp, jY]⟩
    . rename_i f first cap h1
      rw [h1] at hx;simp at h; obtain ⟨rfl, rfl⟩:=h;have:∃ g' c', ev x = .func (.func f) g' c':=by generalize ev x = c at hx;cases hx; exact ⟨_, _, rfl⟩
      obtain ⟨g', c', jY⟩:=this;exact ⟨rfl, ev x, hx, λw' _ => by simp [execOp, jY]⟩
    . cases h
  case call c =>
    split at hc
    . simp at hc; subst hc; simp [Q8] at h
    . simp at hc; subst hc; simp [Q8] at h
    . rename_i aF
      split at hc
      . rename_i t x ht av
        have cD:c.args = #[x]:=by apply Array.ext'; simpa using av
        have hx:=hE x (by simp [Call.operands, aF, cD] at al; exact al);split at hc
        . rename_i hu
          simp at hc; subst hc;simp only [Q8] at h;split at h
          . rename_i s h1
            rw [h1] at hx; simp at h; obtain ⟨rfl, rfl⟩:=h;refine ⟨rfl, Qh (λw' => ?_) (VRel.int _ _)⟩;simp [execOp, resolve, aF, cD, invoke, builtin, Builtin.len_, ht, hx.q0r, Q0 hu, goInt]
          . cases h
        . rename_i e hu
          simp at hc; subst hc;simp only [Q8] at h;split at h
          . rename_i a n cap h1
            rw [h1] at hx; simp at h; obtain ⟨rfl, rfl⟩:=h;obtain ⟨a', ao, aY⟩:=hx.q1z;refine ⟨rfl, Qh (λw' => ?_) (VRel.int _ _)⟩;simp [execOp, resolve, aF, cD, invoke, builtin, Builtin.len_, ht, aY, Q0 hu, goInt]
          . cases h
        . cases hc
      . cases hc
    . rename_i aF
      split at hc
      . rename_i t u s x ht hu av
        split at hc
        . rename_i e f _ _
          cases hi:P.info? e with
          | none => simp [hi] at hc
          | some ei =>
            cases hz:zeroOf P e with
            | none => simp [hi, hz] at hc
            | some z =>
              simp only [hi, hz, zJ, xl] at hc;split at hc
              . cases hc
              . simp at hc; subst hc; cases hq
        . cases hc
      . cases hc
    . rename_i aF
      split at hc
      . rename_i x y av
        have cD:c.args = #[x, y]:=by apply Array.ext'; simpa using av
        simp [Call.operands, aF, cD] at al;have hx:=hE x al.1;have hy:=hE y al.2;simp at hc; subst hc;simp only [Q8] at h;split at h
        . rename_i k a k' b h1 h2
          rw [h1] at hx; rw [h2] at hy;split at h
          . simp at h; obtain ⟨rfl, rfl⟩:=h
            refine ⟨rfl, Qh (λw' => ?_) (VRel.int _ _)⟩;simp [execOp, resolve, aF, cD, invoke, builtin, Builtin.max_, Builtin.max2, hx.q0h, hy.q0h]
          . cases h
        . cases h
      . rename_i x y z av
        have cD:c.args = #[x, y, z]:=by apply Array.ext'; simpa using av
        simp [Call.operands, aF, cD] at al;have hx:=hE x al.1;have hy:=hE y al.2.1;have hz:=hE z al.2.2;simp at hc; subst hc;simp only [Q8] at h;split at h
        . rename_i k a k2 b k3 c' k4 d h1 h2 h3 h4
          rw [h1] at hx; rw [h2] at hy; rw [h3] at hz;split at h
          . rename_i hk; obtain ⟨rfl, rfl, rfl⟩:=hk
            simp at h; obtain ⟨rfl, rfl⟩:=h;refine ⟨rfl, Qh (λw' => ?_) (VRel.int _ _)⟩;have sS:=(Value.int.inj (h3.symm.trans h4)).2;subst sS;simp only [Ir];simp [execOp, resolve, aF, cD, invoke, builtin, Builtin.max_, Builtin.max2, hx.q0h, hy.q0h, hz.q0h, EC]
          . cases h
        . cases h
      . rename_i x y z w av
        have cD:c.args = #[x, y, z, w]:=by apply Array.ext'; simpa using av
        simp [Call.operands, aF, cD] at al;have hx:=hE x al.1;have hy:=hE y al.2.1;have hz:=hE z al.2.2.1;have hw:=hE w al.2.2.2;simp at hc; subst hc;simp only [Q8] at h;split at h
        . rename_i k a k2 b k3 c' k4 d h1 h2 h3 h4
          rw [h1] at hx; rw [h2] at hy; rw [h3] at hz; rw [h4] at hw;split at h
          . rename_i hk; obtain ⟨rfl, rfl, rfl⟩:=hk
            simp at h; obtain ⟨rfl, rfl⟩:=h;refine ⟨rfl, Qh (λw' => ?_) (VRel.int _ _)⟩;simp [execOp, resolve, aF, cD, invoke, builtin, Builtin.max_, Builtin.max2, hx.q0h, hy.q0h, hz.q0h, hw.q0h, EC]
          . cases h
        . cases h
      . cases hc
    . rename_i aF
      split at hc
      . rename_i x y av
        have cD:c.args = #[x, y]:=by apply Array.ext'; simpa using av
        simp [Call.operands, aF, cD] at al;have hx:=hE x al.1;have hy:=hE y al.2;simp at hc; subst hc;simp only [Q8] at h;split at h
        . rename_i k a k' b h1 h2
          rw [h1] at hx; rw [h2] at hy;split at h
          . simp at h; obtain ⟨rfl, rfl⟩:=h
            refine ⟨rfl, Qh (λw' => ?_) (VRel.int _ _)⟩;simp [execOp, resolve, aF, cD, invoke, builtin, Builtin.min_, Builtin.min2, hx.q0h, hy.q0h]
          . cases h
        . cases h
      . cases hc
    . cases hc
  all_goals (first | (cases hc; done) | (split at hc <;> cases hc; done))
end
end Go.V
namespace Go.V
open Go
section
variable {P:Program}{ρ:Plc}{U U':Heap}{w:World}{ev:Operand->Value}{env:Env}{v:Value}
def R8 (P:Program) (ρ:Plc) (U:Heap) (w:World) (v:Value) (U':Heap) (s:Sem Next):Prop :=
 ∃ c w' ρ',(s.run P w=.ok (.value c) w'\/(s.run P w=.ok .skip w'/\c=undef))/\VRel ρ' U'.n v c/\HRel ρ' U' w'/\Ext ρ U w ρ' U' w'
theorem Si (z:List Value) (hz:z≠[]):∀ n,(List.range (n*z.length)).map (λi=>z[i % z.length]!)=(List.replicate n z).flatten:=by
 intro n;have cT:0<z.length:=w7.2 hz;induction n with
 |zero=>simp
 |succ n ih =>
  rw[xx,List.flatten_cons,<-ih,Nat.succ_mul,xR,List.range_add,xC,xZ];congr 1
  .apply zN
   grind [Nat.mod_eq_of_lt]
  .apply x4;intro i _;simp
theorem X4 (n:Nat) (z:List Value):Mf n z=(List.replicate n z).flatten:=by
 unfold Mf;split
 .simp_all
 .rfl
theorem Mp (zero:Array Value) (z:List Value) (h:zero.toList=z) (hz:z≠[]) (n:Nat):((Array.range (n*z.length)).map (λi=>zero[i % zero.size]!)).toList=Mf n z:=by
 rw[X4,<-Si z hz n];subst h;simp
 grind
theorem BG (n:Nat) (z:List Value):(Mf n z).length=n*z.length:=by rw[X4];simp_all
theorem Ei (n:Nat) (z:List Value) (h:z.all cellOk=true):(Mf n z).all cellOk=true:=by
 grind [X4,List.all_eq_true,List.mem_flatten]
theorem Ms (n:Nat) (z:List Value) (h:z.all QA=true):(Mf n z).all QA=true:=by rw[X4,List.all_flatten];simp[List.all_replicate,h]
theorem GF {lo:Option Operand}{yh ym:Operand}{n cap l h m:Nat}{kh km:IntKind}{ih im:Int}(py:(lo=none/\l=0)\/∃ x k i,lo=some x/\ev x=.int k i/\0<=i/\l=i.toNat)
  (jH:ev yh=.int kh ih) (oU:0<=ih) (hh:h=ih.toNat) (jI:ev ym=.int km im) (oV:0<=im) (hm:m=im.toNat) (h1:l<=h) (h2:h<=m) (h3:m<=cap) (w:World) :
  (Instr.sliceBounds true n cap (lo.map ev) ((some yh).map ev) ((some ym).map ev)).run P w=.ok (l,h,m) w:=by
 subst hh;subst hm;rcases py with⟨rfl,rfl⟩|⟨x,k,i,rfl,hx,oQ,rfl⟩
 .simp[Instr.sliceBounds,jH,jI,QO km im _ _ oV h3,QO kh ih _ _ oU h2]
 .simp[Instr.sliceBounds,hx,jH,jI,QO km im _ _ oV h3,QO kh ih _ _ oU h2,QO k i _ _ oQ h1]
theorem L7 (hH:HRel ρ U w) {c:List Value}{C:Array Value}{esz:El}(hc:LRel ρ U.n c C.toList) {s:Sem Next}
  (hs:s.run P w=.ok (.value (.pointer (some ⟨w.heap.size,0,none⟩))) (w.alloc (.cells C esz.ty))) :
  R8 P ρ U w (.pointer (some ⟨U.n,0,none⟩)) (U.push (.cells c esz true true)) s:=by
 have hl:c.length=C.size:=by have:=hc.1;simpa using this
 obtain⟨ρ',h1,h2,h3⟩:=hH.alloc c C esz.ty esz true rfl (by
  grind [Array.length_toList,List.take_length]) (by omega)
 refine⟨_,_,ρ',.inl hs,.ptr _ _ _ (by simp) (λp hp=>?_),h2,h3⟩;simp_all
theorem Bp (hH:HRel ρ U w) {c:List Value}{C:Array Value}{esz:El}{n cap:Nat}(hc:LRel ρ U.n c C.toList) (hn:cap*esz.sz<=C.size) {s:Sem Next}
  (hs:s.run P w=.ok (.value (.slice (some ⟨w.heap.size,0,none⟩) n cap)) (w.alloc (.cells C esz.ty))) :
  R8 P ρ U w (.slice (some ⟨U.n,0,none⟩) n cap) (U.push (.cells c esz true true)) s:=by
 have hl:c.length=C.size:=by have:=hc.1;simpa using this
 obtain⟨ρ',h1,h2,h3⟩:=hH.alloc c C esz.ty esz true rfl (by
  grind [Array.length_toList,List.take_length]) (by omega)
 refine⟨_,_,ρ',.inl hs,.sl _ _ _ _ _ _ (by simp) (λp hp=>?_),h2,h3⟩;simp_all
theorem Pq (hH:HRel ρ U w) {esz n cap:Nat}{a:Option Addr}{xs:List Value}{c:Value}(h:U.sl esz (.slice a n cap)=some xs) (hv:VRel ρ U.n (.slice a n cap) c) :
  xs.length=n*esz/\∃ us:List Value,LRel ρ U.n xs us/\(∃ a' ao,c=.slice a' n ao)/\∀ w',Like ρ w w'->(Builtin.firstCells esz n c).run P w'=.ok us.toArray w':=by
 unfold Heap.sl at h;split at h
 .rename_i heq;simp at heq;obtain⟨rfl,rfl,rfl⟩:=heq;simp at h;subst h;obtain⟨_,_,rfl⟩:=hv.q1k;exact⟨by simp,[],LRel.nil _ _,⟨_,_,rfl⟩,λw' _=>by simp[Builtin.firstCells]⟩
 .rename_i i o n' jG heq;simp at heq;obtain⟨rfl,rfl,rfl⟩:=heq;split at h
  .rename_i c0 e wr tight hb;split at h
   .rename_i aj;obtain⟨mT,hlen⟩:=aj;simp at h;obtain⟨p,hp,_,_,_,_,h5,_⟩:=hH.live i _ hb;obtain⟨ad,ao,rfl,aQ,aU⟩:=hv.q1d;have eO:xs.length=n*esz:=by rw[<-h];simp;omega
    obtain⟨_,_,⟨_,jo⟩|⟨o',rfl,_,ho⟩⟩:=aU p hp
    .subst jo;rw[Nat.zero_mul] at eO;obtain rfl:=xq.1 eO;refine⟨by simp,[],.nil _ _,⟨_,_,rfl⟩,λw' hl=>?_⟩;have:=run_loadCells_list (P:=P) w' ad [] (λj v hj=>by simp at hj);simp only[List.length_nil] at this;simp[Builtin.firstCells,this]
    refine⟨eO,?_⟩;have jZ:n*esz=0\/o'=o:=by
     grind
    have hex:∀ k,k<n*esz->∃ u,w.cell? ⟨p.blk,p.shift+o'+k,none⟩=some u/\∀ v,xs[k]?=some v->VRel ρ U.n v u:=λk hk=>by
     have k_:o'=o:=jZ.resolve_left (by omega);subst k_;obtain⟨u,hu,cC⟩:=h5 (o'+k) _ (z8 (by omega))
     grind
    let us:List Value:=(List.range (n*esz)).map λk=>(w.cell? ⟨p.blk,p.shift+o'+k,none⟩).getD undef;have mU:us.length=n*esz:=by simp[us]
    have dF:∀ k,k<n*esz->∀ u,w.cell? ⟨p.blk,p.shift+o'+k,none⟩=some u->us[k]?=some u:=λk hk u hu=>by simp[us,hk,hu]
    refine⟨us,⟨by omega,λk v u hk hu=>?_⟩,⟨_,_,rfl⟩,λw' hl=>?_⟩
    .grind
    .have cj:∀ j v,us[j]?=some v->w'.cell? ((⟨p.blk,p.shift+o',none⟩:Addr).add j)=some v:=λj v hj=>by
      have cQ:j<n*esz:=by grind
      obtain⟨u',dG,_⟩:=hex j cQ;rw[dF j cQ u' dG] at hj;obtain rfl:=osj hj;rw[JG,B4 hl hp];exact dG
     have:=run_loadCells_list (P:=P) w' ⟨p.blk,p.shift+o',none⟩ us cj;rw[mU] at this;simp[Builtin.firstCells,this]
   .cases h
  .cases h
 .cases h
theorem AO (fM bE:Nat) (h:bE<fM):Builtin.nextslicecap fM bE<=2*fM:=by
 unfold Builtin.nextslicecap;split
 .omega
 .split
  .omega
  .have key:∀ r c,c<=2*fM->256<=fM->Builtin.growBy fM r c<=2*fM:=by
    intro r;induction r with
    |zero=>intro c hc _;exact hc
    |succ r ih =>
     intro c hc h2;unfold Builtin.growBy;split
     .exact hc
     .exact ih _ (by omega) h2
   exact key 4 bE (by omega) (by omega)
theorem Ef {n:Nat}{v c:Value}(h:cellOk v=true) (hv:VRel ρ n v c):c.oneCell'=true:=by cases hv<;>first|rfl|(simp[cellOk,poison] at h)
theorem WI {n:Nat}{vs cs:List Value}(h:vs.all cellOk=true) (hv:LRel ρ n vs cs):∀ c∈cs,c.oneCell'=true:=by
 intro c hc;obtain⟨k,hk⟩:=List.getElem?_of_mem hc;have cP:k<vs.length:=by have:=(zu.1 hk).1;have:=hv.1;omega
 exact Ef (by simp_all) (hv.2 k _ _ (z8 cP) hk)
theorem J7 {t u e f:TypeId}{ei:TypeInfo}(ht:P.underlying t=some (.slice e)) (hu:P.underlying u=some (.slice f)) (hi:P.info? e=some ei) (ty:TypeId) (base:Option Addr) (n cap m:Nat) (x:Value) (us:List Value)
  (hx:∃ a' ao,x=.slice a' m ao) (fD:(Builtin.firstCells ei.size m x).run P w=.ok us.toArray w) (aG:n+m<=cap) (w':World)
  (bK:(match base with|some a=>storeCells (a.add (n*ei.size)) us|none=>pure ()).run P w=.ok () w') :
  (Builtin.append_ #[t,u] ty #[.slice base n cap,x]).run P w=.ok (.slice base (n+m) cap) w':=by
 obtain⟨a',ao,rfl⟩:=hx;unfold Builtin.append_;cases base with
 |none =>simp at bK;subst bK;simp[Q0 ht,Q0 hu,Qe hi,Builtin.lenOf,aG,fD]
 |some a =>simp at bK;simp[Q0 ht,Q0 hu,Qe hi,Builtin.lenOf,aG,fD,bK]
theorem JA {t u e f:TypeId}{ei:TypeInfo}{zv:Value}(ht:P.underlying t=some (.slice e)) (hu:P.underlying u=some (.slice f)) (hi:P.info? e=some ei) (hz:ei.zero=some zv) (hb:ei.bytes≠0) (ty:TypeId) (base:Option Addr) (n cap m:Nat) (x:Value) (us os:List Value)
  (hx:∃ a' ao,x=.slice a' m ao) (fD:(Builtin.firstCells ei.size m x).run P w.drew=.ok us.toArray w.drew) (iB:(Builtin.firstCells ei.size n (.slice base n cap)).run P w.drew=.ok os.toArray w.drew)
  (aG:¬ n+m<=cap) (az:(n+m)*ei.bytes<=2 ^ 46) :
  ∃ aX,n+m<=aX/\(Builtin.append_ #[t,u] ty #[.slice base n cap,x]).run P w =
   .ok (.slice (some ⟨w.heap.size,0,none⟩) (n+m) aX) (w.drew.alloc (.cells ((os++us).toArray++Builtin.zeroCells zv.cells (aX-(n+m))) e)):=by
 obtain⟨a',ao,rfl⟩:=hx;refine⟨(Question.appendCap (n+m) cap e).cut (w.tape w.drawn (.appendCap (n+m) cap e)),by simp[Question.cut],?_⟩;have h1:¬ (2 ^ 48<Builtin.nextslicecap (n+m) cap*ei.bytes):=by have:=AO (n+m) cap (by omega);have h2:Builtin.nextslicecap (n+m) cap*ei.bytes<=2*(n+m)*ei.bytes:=zm _ this;rw[Nat.mul_assoc] at h2;omega
 have gp:∀ w:World,(typeInfo e).run P w=.ok ei w:=λw=>run_typeInfo w hi;have dR:∀ w:World,(zeroValue e).run P w=.ok zv w:=λw=>QP hi hz w;unfold Builtin.append_;simp[Q0 ht,Q0 hu,Qe hi,Builtin.lenOf,aG,gp,hb,h1,Question.forced,iB,fD,dR,newRow];congr 2;apply Array.ext';simp
theorem JQ (_hH:HRel ρ U w) (_hE:Ext ρ U w ρ U w) {σ1:Heap}{ρ1:Plc}(jq:HRel ρ1 σ1 w) (fE:Ext ρ U w ρ1 σ1 w) (gu:σ1.n=U.n) {bE xs os us:List Value}{zs:Array Value}{esz:El}{n aX:Nat}
  (ho:LRel ρ U.n bE os) (hx:LRel ρ U.n xs us) (hlen:bE.length+xs.length=n*esz.sz) (eQ:zs.size=(aX-n)*esz.sz) (gI:n<=aX) {s:Sem Next}
  (hs:s.run P w=.ok (.value (.slice (some ⟨w.heap.size,0,none⟩) n aX)) (w.drew.alloc (.cells ((os++us).toArray++zs) esz.ty))) :
  R8 P ρ U w (.slice (some ⟨U.n,0,none⟩) n n) (σ1.push (.cells (bE++xs) esz true false)) s:=by
 have hl:(bE++xs).length=(os++us).length:=by simp[ho.1,hx.1]
 have aD:LRel ρ1 σ1.n (bE++xs) (((os++us).toArray++zs).toList.take (bE++xs).length):=by
  have h1:((os++us).toArray++zs).toList.take (bE++xs).length=os++us:=by
   grind
  rw[h1];exact(ho.append hx).mono fE.n fE.pl
 have az:((os++us).toArray++zs).size=n*esz.sz+(aX-n)*esz.sz:=by simp_all
 have bR:(bE++xs).length<=((os++us).toArray++zs).size:=by rw[az,zo];omega
 obtain⟨ρ',h1,h2,h3⟩:=(jq.drew).alloc (bE++xs) ((os++us).toArray++zs) esz.ty esz false rfl aD bR;have hh:w.drew.heap.size=w.heap.size:=rfl;rw[gu] at h1;refine⟨_,_,ρ',.inl hs,.sl _ _ _ _ _ _ (by simp[gu]) (λp hp=>?_),h2,(fE.trans (Ext.drew ρ1 σ1 w)).trans h3⟩;rw[h1] at hp;obtain rfl:=osj hp;refine⟨gI,⟨λh=>(by cases h),.inr ⟨0,rfl,?_,Or.inl rfl⟩⟩⟩;show 0+aX*esz.sz<=((os++us).toArray++zs).size;rw[az,<-zH];simp_all
theorem L1 (hH:HRel ρ U w) {t u e f:TypeId}{ei:TypeInfo}{zv:Value}{z:List Value}(ht:P.underlying t=some (.slice e)) (hu:P.underlying u=some (.slice f)) (hi:P.info? e=some ei) (hz:ei.zero=some zv) (gj:zv.cells.toList=z) (eQ:z.length=ei.size) (hb:ei.bytes≠0) (ty:TypeId)
  {s:Value}{a:Option Addr}{m lb:Nat}{xs:List Value}{cs cx:Value}(hs:VRel ρ U.n s cs) (hx:VRel ρ U.n (.slice a m lb) cx) (aZ:U.sl z.length (.slice a m lb)=some xs) (al:xs.all cellOk=true)
  (h:Zv ⟨z.length,e⟩ ei.bytes U s m xs=some (v,U')) {pE:Sem Next}(aO:∀ r w',(Builtin.append_ #[t,u] ty #[cs,cx]).run P w=.ok r w'->pE.run P w=.ok (.value r) w'):R8 P ρ U w v U' pE:=by
 obtain⟨eO,us,fp,dZ,fD⟩:=Pq (P:=P) hH aZ hx;rw[eQ] at fD eO;have hL:=Like.refl ρ w;have jJ:Like ρ w w.drew:=⟨zd _,λ_ _ _=>rfl,λ_ _ _=>rfl⟩;have mU:us.length=m*ei.size:=by have:=fp.1;omega
 have hzero:∀ k,(Builtin.zeroCells zv.cells k).size=k*z.length:=(by grind [size_zeroCells]);unfold Zv at h;split at h
 .
  obtain⟨_,_,rfl⟩:=hs.q1k;split at h
  .rename_i dj;subst dj;simp at h;obtain⟨rfl,rfl⟩:=h;have:us=[]:=xq.1 (by omega);subst this;have hr:=J7 (w:=w) ht hu hi ty none 0 0 0 cx [] dZ (fD w hL) (zd _) w rfl;exact⟨_,w,ρ,.inl (aO _ _ hr),VRel.nilSl,hH,Ext.refl _ _ _⟩
  .rename_i dj;split at h
   .rename_i az;simp at h;obtain⟨rfl,rfl⟩:=h;obtain⟨aX,gI,hr⟩:=JA (w:=w) ht hu hi hz hb ty none 0 0 m cx us [] dZ (fD _ jJ) (by simp[Builtin.firstCells]) (by omega) (by simpa using az);simp only[zQ,xB] at hr gI;have:=JQ (P:=P) hH (Ext.refl _ _ _) hH (Ext.refl _ _ _) rfl (LRel.nil ρ U.n) fp (by simp;rw[eO,<-eQ]) (esz:=⟨z.length,e⟩) (n:=m) (hzero (aX-m)) gI (s:=pE) (by simpa using aO _ _ hr);simpa using this
   .cases h
 .
  rename_i i o n cap;obtain⟨ad,ao,rfl,aQ,aU⟩:=hs.q1d;split at h
  .rename_i c e' wr tight aC;obtain⟨p,hp,hB⟩:=hH.live i _ aC;obtain⟨dT,oS,⟨oT,jo⟩|⟨o',rfl,dX,dC⟩⟩:=aU p hp
   .
    obtain rfl:cap=0:=by omega
    subst oT jo;split at h
    .rename_i aj;obtain⟨rfl,j9,fN⟩:=aj;dsimp only at fN h;split at h
     .rename_i dj;subst dj;simp at h;obtain⟨rfl,rfl⟩:=h;have:us=[]:=xq.1 (by omega);subst this;have hr:=J7 (w:=w) ht hu hi ty (some ad) 0 0 0 cx [] dZ (fD w hL) (zd _) w rfl;exact⟨_,w,ρ,.inl (aO _ _ hr),hs,hH,Ext.refl _ _ _⟩
     .rename_i dj;split at h
      .omega
      .split at h
       .rename_i az;have gJ:U.sl z.length (.slice (some ⟨i,o,none⟩) 0 0)=some ((c.drop o).take (0*z.length)):=by
         have:o<=c.length:=by omega
         simp[Heap.sl,aC,this]
        obtain⟨_,os,jK,_,iB⟩:=Pq (P:=P) hH gJ hs;rw[eQ] at iB;have hlen:((c.drop o).take (0*z.length)).length+xs.length=(0+m)*z.length:=by rw[eO,eQ];simp
        obtain⟨aX,gI,hr⟩:=JA (w:=w) ht hu hi hz hb ty (some ad) 0 0 m cx us os dZ (fD _ jJ) (iB _ jJ) (by omega) az;split at h
        .grind [Prod.mk.inj,osj,JQ,Ext.refl]
        .split at h
         .obtain⟨rfl,rfl⟩:=Prod.mk.inj (osj h);obtain⟨aV,aA⟩:=hH.kill i;exact JQ hH (Ext.refl _ _ _) aV aA rfl jK fp hlen (hzero _) gI (aO _ _ hr)
         .cases h
       .cases h
    .cases h
   have dY:p.esz=e':=hB.1;split at h
   .rename_i aj;obtain⟨rfl,j9,fN⟩:=aj;rw[dY] at dX;dsimp only at dX fN h;split at h
    .
     rename_i dj;subst dj;simp at h;obtain⟨rfl,rfl⟩:=h;have:us=[]:=xq.1 (by omega);subst this;have hr:=J7 (w:=w) ht hu hi ty (some ⟨p.blk,p.shift+o',none⟩) n ao 0 cx [] dZ (fD w hL) (by omega) w rfl;exact⟨_,w,ρ,.inl (aO _ _ hr),hs,hH,Ext.refl _ _ _⟩
    .rename_i dj;split at h
     .
      rename_i aG;split at h
      .rename_i hw;obtain⟨rfl,dH⟩:=hw;simp at h;obtain⟨rfl,rfl⟩:=h;have jZ:o'=o:=by
        omega
       subst jZ;have hmul:(n+m)*z.length=n*z.length+m*z.length:=zH _ _ _;have sU:m*ei.size=m*z.length:=by rw[eQ]
       obtain⟨h2,h3⟩:=hH.store hp aC fp (o:=o'+n*z.length) (by omega)
       have bK:=run_storeCells_cells (P:=P) p.blk (p.shift+o'+n*z.length) us 0 w
        (λj hj=>by rw[zU,zE,zE];exact hB.q0w _ (by have:=hB.2.2.1;omega))
        (λj hj=>by rw[zU,zE,zE];exact(hB.2.2.2.2.2 rfl).2 _ (by have:=hB.2.2.1;omega))
        (WI al fp)
       have hr:=J7 (w:=w) ht hu hi ty (some ⟨p.blk,p.shift+o',none⟩) n ao m cx us dZ (fD w hL) (by omega) _ (by
        simp only[JG,<-eQ];exact bK)
       refine⟨_,_,ρ,.inl (aO _ _ hr),.sl _ _ _ _ _ _ aQ (λq hq=>?_),by rw[zU,zE];exact h2,by grind⟩;simp_all
      .cases h
     .rename_i aG;split at h
      .rename_i az;have hold:∀ k v,((c.drop o).take (n*z.length))[k]?=some v->∃ u,w.cell? ⟨p.blk,p.shift+o'+k,none⟩=some u/\VRel ρ U.n v u:=λk v hk=>by
        rw[xt] at hk;split at hk
        .rename_i cP;rw[zZ] at hk;have jZ:o'=o:=by
          grind
         subst jZ;obtain⟨u,hu,cC⟩:=hB.2.2.2.2.1 _ v hk
         grind
        .cases hk
       have eE:((c.drop o).take (n*z.length)).length=n*z.length:=by simp;omega
       have gJ:U.sl z.length (.slice (some ⟨i,o,none⟩) n cap)=some ((c.drop o).take (n*z.length)):=by simp[Heap.sl,aC,fN]
       obtain⟨_,os,jK,_,iB⟩:=Pq (P:=P) hH gJ hs;rw[eQ] at iB;have hlen:((c.drop o).take (n*z.length)).length+xs.length=(n+m)*z.length:=by rw[eE,eO,zH,eQ]
       split at h
       .
        rename_i fO;simp at h;obtain⟨rfl,rfl⟩:=h;have pF:ao=cap:=oS (by rw[hB.2.1];exact fO);subst pF;obtain⟨aX,gI,hr⟩:=JA (w:=w) ht hu hi hz hb ty (some ⟨p.blk,p.shift+o',none⟩) n ao m cx us os dZ (fD _ jJ) (iB _ jJ) aG az
        grind [JQ,Ext.refl]
       .rename_i fO;have sV:tight=false:=by simpa using fO
        subst sV;split at h
        .rename_i hU;subst hU;simp at h;obtain⟨rfl,rfl⟩:=h;by_cases fP:n+m<=ao
         .
          have hmul:ao*z.length=(n+m)*z.length+(ao-(n+m))*z.length:=by rw[<-zH];congr 1;omega
          have rI:(n+m)*z.length=n*z.length+m*z.length:=zH _ _ _;have sU:m*ei.size=m*z.length:=by rw[eQ]
          obtain⟨ρ',h1,h2,h3⟩:=hH.onto hp aC o' hold fp (by rw[eE];omega)
          have bK:=run_storeCells_cells (P:=P) p.blk (p.shift+o'+n*z.length) us 0 w
           (λj hj=>by rw[zU,zE,zE];exact hB.q0w _ (by omega))
           (λj hj=>by rw[zU,zE,zE];exact(hB.2.2.2.2.2 rfl).2 _ (by omega))
           (WI al fp)
          have hr:=J7 (w:=w) ht hu hi ty (some ⟨p.blk,p.shift+o',none⟩) n ao m cx us dZ (fD w hL) fP _ (by
           simp only[JG,<-eQ];exact bK)
          refine⟨_,_,ρ',.inl (aO _ _ hr),.sl _ _ _ _ _ _ (by simp) (λq hq=>?_),by rw[zU];rw[eE] at h2;exact h2,by rw[zU];rw[eE] at h3;exact h3⟩;rw[h1] at hq;obtain rfl:=osj hq;refine⟨fP,⟨λh=>(by cases h),.inr ⟨0,rfl,?_,Or.inl rfl⟩⟩⟩
          grind
         .obtain⟨aX,gI,hr⟩:=JA (w:=w) ht hu hi hz hb ty (some ⟨p.blk,p.shift+o',none⟩) n ao m cx us os dZ (fD _ jJ) (iB _ jJ) fP az;obtain⟨aV,aA⟩:=hH.kill i;exact JQ hH (Ext.refl _ _ _) aV aA rfl jK fp hlen (hzero _) gI (aO _ _ hr)
        .cases h
      .cases h
   .cases h
  .cases h
 .
  rename_i i o n cap;obtain⟨ad,rfl,aQ,aU,cU⟩:=hs.q2p;split at h
  .rename_i c e' wr tight aC;obtain⟨p,hp,hB⟩:=hH.live i _ aC;obtain⟨rfl,dX⟩:=aU p hp;have dY:p.esz=e':=hB.1;split at h
   .rename_i aj;obtain⟨rfl,j9,fN,dj,az⟩:=aj;rw[dY] at dX;dsimp only at dX fN h;simp at h;obtain⟨rfl,rfl⟩:=h;have eE:((c.drop o).take (n*z.length)).length=n*z.length:=by simp;omega
    have gJ:U.sl z.length (.slice (some ⟨i,o,none⟩) n cap)=some ((c.drop o).take (n*z.length)):=by simp[Heap.sl,aC,fN]
    obtain⟨_,os,jK,_,iB⟩:=Pq (P:=P) hH gJ cU;rw[eQ] at iB;have hlen:((c.drop o).take (n*z.length)).length+xs.length=(n+m)*z.length:=by rw[eE,eO,zH,eQ]
    obtain⟨aX,gI,hr⟩:=JA (w:=w) ht hu hi hz hb ty (some ⟨p.blk,p.shift+o,none⟩) n cap m cx us os dZ (fD _ jJ) (iB _ jJ) (by omega) az
    grind [JQ,Ext.refl]
   .cases h
  .cases h
 .cases h
set_option maxHeartbeats 1000000 in
theorem Es {o:Oper}{vo:VOp}(hc:YJ P o.op=some vo) (hq:vo.quiet=false) (hH:HRel ρ U w) (hE:∀ x,Ji x=true->VRel ρ U.n (Q6 env x) (ev x))
  (h:Q8 vo (Q6 env) U=some (v,U')):R8 P ρ U w v U' (execOp ev o):=by
 obtain⟨dst,op,ty,pos,after,guard⟩:=o;simp only at hc;unfold YJ at hc;split at hc
 .cases hc
 rename_i al;simp only[x5,zV] at al;cases op<;>simp only[Op.operands] at al hc
 case alloc t =>
  cases hz:zeroOf P t with
  |none=>simp[hz] at hc
  |some z =>simp[hz] at hc;subst hc;obtain⟨ti,zv,hi,dR,gj,_,jk⟩:=XB hz;simp[Q8] at h;obtain⟨rfl,rfl⟩:=h;refine L7 hH (C:=zv.cells) (esz:=⟨z.length,t⟩) (by rw[gj];exact Jf jk) ?_;simp[execOp,Instr.alloc,QP hi dR,newVar,newRow]
 case box t x =>
  have hx:=hE x (by simpa using al);simp at hc;subst hc;simp only[Q8] at h;split at h
  .rename_i vs ct;simp at h;obtain⟨rfl,rfl⟩:=h;refine L7 hH (C:=(ev x).cells) (esz:=⟨vs.length,t⟩) (Mg ct hx) ?_;simp[execOp,Instr.box,newVar,newRow]
  .cases h
 case buildSlice t len parts =>
  split at hc
  .rename_i e hu;cases hz:zeroOf P e with
   |none=>simp[hz] at hc
   |some z =>
    obtain⟨ti,zv,hi,dR,gj,eQ,jk⟩:=XB hz;simp only[hz,zJ,xl] at hc;split at hc
    .cases hc
    .rename_i aj;simp at aj;obtain⟨ib,hlen⟩:=aj;simp at hc;subst hc;simp only[Q8] at h;split at h
     .rename_i cs eD;simp at h;obtain⟨rfl,rfl⟩:=h;have kX:∀ q∈parts.toList,Ji q.2=true:=(by grind);have ld:=Mp zv.cells z gj ib len
      obtain⟨bz,mz,jX⟩:=Tu (ρ:=ρ) (n:=U.n) (λi=>some (i*z.length,z.length)) _ ((parts.map λq=>(q.1,ev q.2)).toList) (Mf len z) cs ((Array.range (len*z.length)).map (λi=>zv.cells[i % zv.cells.size]!)) (by simp)
       (by grind) eD (by rw[ld];exact Jf (Ms _ _ jk))
      have bR:cs.length=len*z.length:=by
       have h1:∀ (l:List (Nat×Nat×Value)) (c c':List Value),KD c l=some c'->c'.length=c.length:=by
        intro l;induction l with
        |nil=>intro c c' h;simp[KD] at h;rw[h]
        |cons a r ih =>
         intro c c' h;obtain⟨o1,s1,v1⟩:=a;simp only[KD] at h;split at h
         .grind [Zp]
         .cases h
       rw[h1 _ _ _ eD,BG]
      refine Bp hH (C:=bz) (esz:=⟨z.length,e⟩) jX (by have:=jX.1;simp_all) ?_;have hle:¬ (len*ti.size > 2 ^ 24):=by
       grind
      have pG:Instr.fill (λi=>some (i*ti.size,ti.size)) ((Array.range (len*ti.size)).map (λi=>zv.cells[i % zv.cells.size]!)) (parts.map λq=>(q.1,ev q.2)).toList=some bz:=by rw[<-eQ];exact mz
      by_cases bk:len*ti.size=0
      .have j_:∀ f:Nat->Value,(Array.range 0).map f=#[]:=λf=>by simp
       simp only[execOp];simp only[Instr.buildSlice,zy,Q0 hu,zi,Qe hi,bk,zx,xg];rw[bk,j_] at pG;simp only[j_,pG];simp[newRow]
      .simp only[execOp];simp only[Instr.buildSlice,zy,Q0 hu,zi,Qe hi,z7 hle,z7 bk,QP hi dR,xg,pG];simp[newRow]
     .cases h
  .cases hc
 case store t a x =>
  simp at al;have ha:=hE a al.1;have hx:=hE x al.2;cases hi:P.info? t with
  |none=>simp[hi] at hc
  |some ti =>
   simp[hi] at hc;subst hc;simp only[Q8] at h;split at h
   .rename_i i o vs h1 ct;rw[h1] at ha;split at h
    .rename_i c e wr tight hb;split at h
     .rename_i aj;obtain⟨rfl,mV,jL,iC⟩:=aj;simp at h;obtain⟨rfl,rfl⟩:=h;obtain⟨p,hp,hB⟩:=hH.live i _ hb;obtain⟨_,aQ,sW⟩:=ha.q0x hp;have hl:=Mg ct hx;have aw:(ev x).cells.size=ti.size:=by have:=hl.1;simp at this;omega
      obtain⟨h2,h3⟩:=hH.store hp hb hl (o:=o) (by omega);refine⟨undef,_,ρ,.inr ⟨?_,rfl⟩,ZV,h2,h3⟩
      have hr:=run_storeCells_cells (P:=P) p.blk (p.shift+o) (ev x).cells.toList 0 w
       (λj hj=>by rw[zU,zE];exact hB.q0w _ (by have:=hB.2.2.1;simp at hj;omega))
       (λj hj=>by rw[zU,zE];exact(hB.2.2.2.2.2 rfl).2 _ (by have:=hB.2.2.1;simp at hj;omega))
       (WI iC hl)
      simp only[execOp];simp only[Instr.storeAt,sW,Instr.sureAddr,zy,xg,zi,storeVar,Qe hi];simp_all
     .cases h
    .cases h
   .cases h
 case makeSlice t l c =>
  simp at al;have hl:=hE l al.1;have dT:=hE c al.2;split at hc
  .rename_i e hu;cases hi:P.info? e with
   |none=>simp[hi] at hc
   |some ei =>
    cases hz:zeroOf P e with
    |none=>simp[hi,hz] at hc
    |some z =>
     obtain⟨ti,zv,bS,dR,gj,eQ,jk⟩:=XB hz;obtain rfl:ei=ti:=osj (hi.symm.trans bS);simp only[hi,hz,zJ,xl] at hc;split at hc
     .cases hc
     .rename_i ib;simp at ib;simp at hc;subst hc;simp only[Q8] at h;split at h
      .rename_i k a k' b h1 h2;rw[h1] at hl;rw[h2] at dT;split at h
       .rename_i aj;obtain⟨ve,rH,ka,bP⟩:=aj;simp at h;obtain⟨rfl,rfl⟩:=h;have ld:=Mp zv.cells z gj ib b.toNat;have vf:(2:Int) ^ 46=70368744177664:=by decide
        have vg:(2:Int) ^ 48=281474976710656:=by decide
        have sX:IntKind.i64.wrap a=a:=IntWalk.i64_in _ (by omega);have sY:IntKind.i64.wrap b=b:=IntWalk.i64_in _ (by omega);refine Bp hH (C:=(Array.range (b.toNat*z.length)).map (λi=>zv.cells[i % zv.cells.size]!)) (esz:=⟨z.length,e⟩) (by rw[ld];exact Jf (Ms _ _ jk)) (by simp) ?_;have sZ:((ei.bytes:Int)*b > 2 ^ 48)=False:=by
         grind
        have pH:(b<0)=False:=by rw[eq_iff_iff,iff_false];omega
        have mW:(a<0)=False:=by rw[eq_iff_iff,iff_false];omega
        have rJ:(a > b)=False:=by rw[eq_iff_iff,iff_false];omega
        simp only[execOp];simp only[Instr.makeSlice,zy,Q0 hu,zi,hl.q0h,dT.q0h,asInt,asIntOf,xg,run_typeInfo w hi,sX,sY,sZ,pH,mW,rJ];simp only[decide_false,Bool.or_false,Bool.false_or,zz,if_false,run_askRoom,zy,zi,Qe hi];rw[<-eQ];by_cases bk:b.toNat*z.length=0
        .have j_:∀ f:Nat->Value,(Array.range 0).map f=#[]:=λf=>by simp
         simp only[bk,zx,j_];simp[newRow]
        .simp only[bk,if_false,QP hi dR,zy,xg,zi];simp[newRow]
       .cases h
      .cases h
  .cases hc
 case slice t x lo hi mx =>
  have kZ:Ji x=true:=by simp at al;exact al.1
  have gk:∀ y,lo=some y->Ji y=true:=(by simp_all);have gm:∀ y,hi=some y->Ji y=true:=(by simp_all);have pJ:∀ y,mx=some y->Ji y=true:=(by simp_all);have hx:=hE x kZ;split at hc
  .rename_i e hu;cases cw:P.info? e with
   |none=>simp[cw] at hc
   |some ei =>
    simp[cw] at hc;subst hc;cases mx with
    |none=>simp[VOp.quiet] at hq
    |some mo =>
     simp only[Q8] at h;split at h
     .rename_i a n cap h1;rw[h1] at hx;split at h
      .simp_all
      .rename_i l hh vh hl kW s5;split at h
       .rename_i m ho hm;have jm:=Xs hE gk hl;have mA:=Xs hE gm kW;have s6:=Xs hE pJ hm;obtain⟨ym,km,im,s7,jI,oV,pK⟩:=s6.resolve_left (λhh=>by cases hh.1);obtain rfl:=osj s7;obtain⟨yh,kh,ih,s8,jH,oU,pL⟩:=mA.resolve_left (λhh=>by cases hh.1);obtain rfl:=osj s8;have lf:=λ(ao:Nat) (h1:l<=hh) (h2:hh<=m) (h3:m<=ao) w'=>GF (P:=P) (n:=n) (cap:=ao) jm jH oU pL jI oV pK h1 h2 h3 w';unfold Xe at h;split at h
        .rename_i heq;simp at heq;obtain⟨rfl,rfl,rfl⟩:=heq;obtain⟨_,_,aY⟩:=hx.q1k;split at h
         .rename_i aj;obtain⟨rfl,rfl,dj⟩:=aj;simp at dj;simp at h;obtain⟨rfl,rfl⟩:=h;subst dj;refine⟨.slice none 0 0,w,ρ,.inl ?_,VRel.nilSl,hH,Ext.refl _ _ _⟩;have:=lf 0 (zd _) (zd _) (zd _) w;simp only[xN] at this;simp[execOp,aY,Instr.sliceAt,Instr.slice,Q0 hu,this,Qe cw]
         .cases h
        .rename_i i o n' jG heq;simp at heq;obtain⟨rfl,rfl,rfl⟩:=heq;simp only at h;split at h
         .rename_i c esz wr tight hb;split at h
          .rename_i aj;obtain⟨mT,pC,s9,fb⟩:=aj;obtain⟨ad,ao,aY,aQ,aU⟩:=hx.q1d;obtain⟨p,hp,hB⟩:=hH.live i _ hb;have dT:=(aU p hp).1;have b_:=lf ao pC s9 (zW fb dT) w;simp only[xN] at b_;obtain⟨-,oS,⟨oT,jo⟩|⟨o',rfl,dX,dC⟩⟩:=aU p hp
           .split at h
            .rename_i iD;subst iD;simp at h;obtain⟨rfl,rfl⟩:=h;have pM:hh=m:=by omega
             subst pM;have gH:∀ j,j<U.n->∀ q,(ρ.put U.n (some ⟨p.blk,p.shift,0,esz,true⟩)) j=some q->ρ j=some q:=λj hj q hq=>by unfold Plc.put at hq;rwa [z7 (by omega)] at hq
             have bt:∀ j,j≠U.n->(ρ.put U.n (some ⟨p.blk,p.shift,0,esz,true⟩)) j=ρ j:=λj hj=>by simp[Plc.put,hj]
             have fq:(ρ.put U.n (some ⟨p.blk,p.shift,0,esz,true⟩)) U.n=some ⟨p.blk,p.shift,0,esz,true⟩:=by simp[Plc.put]
             have hU:∀ B,Wr (ρ.put U.n (some ⟨p.blk,p.shift,0,esz,true⟩)) (U.push (.cells [] esz false true)) B->Wr ρ U B:=by
              rintro B ⟨j,q,b,hq,bO,hw,rfl⟩;by_cases aN:j=U.n
              .subst aN;rw[Heap.q0a] at bO;obtain rfl:=osj bO;cases hw
              .rw[Heap.q0e _ _ aN] at bO;rw[bt j aN] at hq;exact⟨j,q,b,hq,bO,hw,rfl⟩
             refine⟨.slice (some ad) 0 0,w,ρ.put U.n (some ⟨p.blk,p.shift,0,esz,true⟩),.inl ?_,.sl _ _ _ _ _ _ (by simp) (λq hq=>?_),⟨⟨?_,?_,?_,?_⟩,λg cs hg=>⟨(hH.tab g cs hg).1,λhw=>(hH.tab g cs hg).2 (hU g hw)⟩⟩,
              ⟨rfl,rfl,rfl,zd _,λ_ _ _=>rfl,λB _=>hU B,by simp,gH⟩⟩
             .simp[execOp,aY,Instr.sliceAt,Instr.slice,Q0 hu,b_,Qe cw]
             .omega
             .intro j b hj;by_cases aN:j=U.n
              .subst aN;rw[Heap.q0a] at hj;obtain rfl:=osj hj;obtain⟨C,e0,f0,hC,oO⟩:=hB.2.2.2.1;refine⟨_,fq,rfl,rfl,zd _,⟨C,e0,f0,hC,?_⟩,λk v hk=>by simp at hk,λhw=>by cases hw⟩
               grind
              .rw[Heap.q0e _ _ aN] at hj;obtain⟨q,hq,eN⟩:=hH.live j b hj;exact⟨q,by rw[bt j aN];exact hq,eN.mono (by simp) gH rfl⟩
             .intro j hj;by_cases aN:j=U.n
              .grind [Heap.q0a]
              .rw[Heap.q0e _ _ aN] at hj;rw[bt j aN];exact hH.dead j hj
             .intro j q hq;by_cases aN:j=U.n
              .subst aN;rw[fq] at hq;obtain rfl:=osj hq;exact hH.lt i p hp
              .rw[bt j aN] at hq;exact hH.lt j q hq
             .intro j k q r b eA hq hr bO hw pN;by_cases aN:j=U.n
              .subst aN;rw[Heap.q0a] at bO;obtain rfl:=osj bO;cases hw
              .rw[Heap.q0e _ _ aN] at bO;rw[bt j aN] at hq;by_cases jD:k=U.n
               .grind
               .rw[bt k jD] at hr;exact hH.sep j k q r b eA hq hr bO hw pN
            .omega
           have dY:p.esz.sz=ei.size:=by rw[hB.1];exact mT
           rw[dY] at dX;split at h
           .rename_i iD;subst iD;simp at h;obtain⟨rfl,rfl⟩:=h;have pM:hh=m:=by omega
            subst pM;have gH:∀ j,j<U.n->∀ q,(ρ.put U.n (some ⟨p.blk,p.shift+o',0,esz,true⟩)) j=some q->ρ j=some q:=λj hj q hq=>by unfold Plc.put at hq;rwa [z7 (by omega)] at hq
            have bt:∀ j,j≠U.n->(ρ.put U.n (some ⟨p.blk,p.shift+o',0,esz,true⟩)) j=ρ j:=λj hj=>by simp[Plc.put,hj]
            have fq:(ρ.put U.n (some ⟨p.blk,p.shift+o',0,esz,true⟩)) U.n=some ⟨p.blk,p.shift+o',0,esz,true⟩:=by simp[Plc.put]
            have hU:∀ B,Wr (ρ.put U.n (some ⟨p.blk,p.shift+o',0,esz,true⟩)) (U.push (.cells [] esz false true)) B->Wr ρ U B:=by
             rintro B ⟨j,q,b,hq,bO,hw,rfl⟩;by_cases aN:j=U.n
             .subst aN;rw[Heap.q0a] at bO;obtain rfl:=osj bO;cases hw
             .rw[Heap.q0e _ _ aN] at bO;rw[bt j aN] at hq;exact⟨j,q,b,hq,bO,hw,rfl⟩
            refine⟨.slice (some ⟨p.blk,p.shift+o',none⟩) 0 0,w,ρ.put U.n (some ⟨p.blk,p.shift+o',0,esz,true⟩),.inl ?_,.sl _ _ _ _ _ _ (by simp) (λq hq=>?_),⟨⟨?_,?_,?_,?_⟩,λg cs hg=>⟨(hH.tab g cs hg).1,λhw=>(hH.tab g cs hg).2 (hU g hw)⟩⟩,
             ⟨rfl,rfl,rfl,zd _,λ_ _ _=>rfl,λB _=>hU B,by simp,gH⟩⟩
            .simp[execOp,aY,Instr.sliceAt,Instr.slice,Q0 hu,b_,Qe cw]
            .omega
            .intro j b hj;by_cases aN:j=U.n
             .subst aN;rw[Heap.q0a] at hj;obtain rfl:=osj hj;obtain⟨C,e0,f0,hC,oO⟩:=hB.2.2.2.1;refine⟨_,fq,rfl,rfl,zd _,⟨C,e0,f0,hC,?_⟩,λk v hk=>by simp at hk,λhw=>by cases hw⟩
              grind
             .rw[Heap.q0e _ _ aN] at hj;obtain⟨q,hq,eN⟩:=hH.live j b hj;exact⟨q,by rw[bt j aN];exact hq,eN.mono (by simp) gH rfl⟩
            .intro j hj;by_cases aN:j=U.n
             .grind [Heap.q0a]
             .rw[Heap.q0e _ _ aN] at hj;rw[bt j aN];exact hH.dead j hj
            .intro j q hq;by_cases aN:j=U.n
             .subst aN;rw[fq] at hq;obtain rfl:=osj hq;exact hH.lt i p hp
             .rw[bt j aN] at hq;exact hH.lt j q hq
            .intro j k q r b eA hq hr bO hw pN;by_cases aN:j=U.n
             .subst aN;rw[Heap.q0a] at bO;obtain rfl:=osj bO;cases hw
             .rw[Heap.q0e _ _ aN] at bO;rw[bt j aN] at hq;by_cases jD:k=U.n
              .grind
              .rw[bt k jD] at hr;exact hH.sep j k q r b eA hq hr bO hw pN
           rename_i iD;split at h
           .rename_i s_;obtain⟨_,rfl⟩:=s_;simp at h;obtain⟨rfl,rfl⟩:=h;have jZ:o'=o:=by
             grind
            subst jZ;refine⟨.slice (some ⟨p.blk,p.shift+(o'+l*ei.size),none⟩) (hh-l) (hh-l),w,ρ,.inl ?_,.slx _ _ _ _ _ aQ (λq hq=>?_),hH,Ext.refl _ _ _⟩
            .simp[execOp,aY,Instr.sliceAt,Instr.slice,Q0 hu,b_,Qe cw,iD,JG,zE]
            .obtain rfl:p=q:=osj (hp.symm.trans hq);refine⟨rfl,?_⟩;rw[dY];have:ao=l+((hh-l)+(ao-hh)):=by omega
             grind [Nat.add_mul]
           .simp at h;obtain⟨rfl,rfl⟩:=h;refine⟨.slice (some ⟨p.blk,p.shift+(o'+l*ei.size),none⟩) (hh-l) (m-l),w,ρ,.inl ?_,.sl _ _ _ _ _ _ aQ (λq hq=>?_),hH,Ext.refl _ _ _⟩
            .simp[execOp,aY,Instr.sliceAt,Instr.slice,Q0 hu,b_,Qe cw,iD,JG,zE]
            .obtain rfl:p=q:=osj (hp.symm.trans hq);refine⟨zd _,λ_=>rfl,.inr ⟨o'+l*ei.size,rfl,?_,?_⟩⟩
             .rw[dY];have:ao=l+((m-l)+(ao-m)):=by omega
              grind [Nat.add_mul]
             omega
          .cases h
         .cases h
        .cases h
       .cases h
      .cases h
     .cases h
  .rename_i hu;split at hc
   .rename_i pD;cases mx with
    |some m=>simp at pD
    |none=>simp at hc;subst hc;simp[VOp.quiet] at hq
   .cases hc
  .cases hc
 case call c =>
  split at hc
  .simp at hc;subst hc;simp[VOp.quiet] at hq
  .simp at hc;subst hc;simp[VOp.quiet] at hq
  .split at hc
   .split at hc
    .simp at hc;subst hc;simp[VOp.quiet] at hq
    .simp at hc;subst hc;simp[VOp.quiet] at hq
    .cases hc
   .cases hc
  .rename_i aF;split at hc
   .rename_i t u s x ht pB av;split at hc
    .rename_i e f hu jM;cases hi:P.info? e with
     |none=>simp[hi] at hc
     |some ei =>
      cases hz:zeroOf P e with
      |none=>simp[hi,hz] at hc
      |some z =>
       obtain⟨ti,zv,bS,dR,gj,eQ,jk⟩:=XB hz;obtain rfl:ei=ti:=osj (hi.symm.trans bS);simp only[hi,hz,zJ,xl] at hc;split at hc
       .cases hc
       .rename_i aj;simp at aj;obtain⟨ib,ta⟩:=aj;simp at hc;subst hc;have cD:c.args=#[s,x]:=by apply Array.ext';simpa using av
        simp[Call.operands,aF,cD] at al;have hs:=hE s al.1;have hx:=hE x al.2;have mX:(Builtin.append_ c.argTypes ty #[ev s,ev x])=(Builtin.append_ #[t,u] ty #[ev s,ev x]):=by unfold Builtin.append_;simp[ht,pB]
        have aO:∀ r w',(Builtin.append_ #[t,u] ty #[ev s,ev x]).run P w=.ok r w'->(execOp ev {dst:=dst,op:=.call c,type:=ty,pos:=pos,after:=after,guard:=guard}).run P w=.ok (.value r) w':=λr w' hr=>by simp[execOp,resolve,aF,cD,invoke,builtin,mX,hr]
        simp only[Q8] at h;split at h
        .rename_i xs a m lb aZ mY;rw[mY] at hx;split at h
         .rename_i mZ;rw[mY] at aZ;exact L1 hH hu jM hi dR gj eQ ta ty hs hx aZ mZ h aO
         .cases h
        .cases h
    .cases hc
   .cases hc
  .split at hc
   .simp at hc;subst hc;simp[VOp.quiet] at hq
   .simp at hc;subst hc;simp[VOp.quiet] at hq
   .simp at hc;subst hc;simp[VOp.quiet] at hq
   .cases hc
  .split at hc
   .simp at hc;subst hc;simp[VOp.quiet] at hq
   .cases hc
  .cases hc
 case move x=>simp at hc;subst hc;simp[VOp.quiet] at hq
 case assign x=>simp at hc;subst hc;simp[VOp.quiet] at hq
 case pick c a b=>simp at hc;subst hc;simp[VOp.quiet] at hq
 case unOp=>simp at hc;subst hc;simp[VOp.quiet] at hq
 case extract=>simp at hc;subst hc;simp[VOp.quiet] at hq
 case nilCheck=>simp at hc;subst hc;simp[VOp.quiet] at hq
 all_goals
  repeat' first
   |(cases hc;done)
   |(simp at hc;subst hc;simp[VOp.quiet] at hq;done)
   |split at hc
 all_goals simp only[zJ,x3,reduceCtorEq,and_false,exists_false] at hc
 all_goals first
  |(obtain⟨_,_,rfl⟩:=hc;simp[VOp.quiet] at hq;done)
  |(obtain⟨_,_,hc⟩:=hc;simp at hc;subst hc;simp[VOp.quiet] at hq;done)
  |(obtain⟨_,_,_,_,hc⟩:=hc;simp at hc;subst hc;simp[VOp.quiet] at hq;done)
  |(obtain⟨_,_,_,_,_,_,hc⟩:=hc;simp at hc;subst hc;simp[VOp.quiet] at hq;done)
  |(obtain⟨d,_,hc⟩:=hc;cases d<;>simp at hc<;>subst hc<;>simp[VOp.quiet] at hq;done)
  |(obtain⟨_,_,_,_,hc⟩:=hc;split at hc<;>simp at hc;subst hc;simp[VOp.quiet] at hq;done)
end
end Go.V
namespace Go.V
open Go
section
variable {P:Program}{ρ:Plc}{U U':Heap}{w:World}{ev:Operand->Value}{env:Env}{v:Value}
theorem VRel.q0q {n:Nat}{c:Value}(h:VRel ρ n (.pointer none) c):c=.pointer none:=by cases h;rfl
theorem VRel.q1g {n:Nat}{a:Addr}{c:Value}(h:VRel ρ n (.pointer (some a)) c):∃ b,c=.pointer (some b):=by cases h<;>exact⟨_,rfl⟩
theorem VRel.q0v {n:Nat}{c:Value}(h:VRel ρ n (.map none) c):c=.map none:=by cases h;rfl
theorem VRel.q1j {n:Nat}{m:Nat}{c:Value}(h:VRel ρ n (.map (some m)) c):∃ r,c=.map (some r)/\m<n/\∀ p,ρ m=some p->r=p.blk:=by
 cases h with
 |map _ r hi h=>exact⟨r,rfl,hi,h⟩
theorem VRel.q1b {n:Nat}{c:Value}(h:VRel ρ n .nilFunc c):c=.nilFunc:=by cases h;rfl
theorem VRel.q1o {n:Nat}{f:Fn}{a b:Array Value}{c:Value}(h:VRel ρ n (.func f a b) c):∃ g a' b',c=.func g a' b':=by cases h<;>exact⟨_,_,_,rfl⟩
theorem VRel.q1u {n:Nat}{a:Addr}{l k:Nat}{c:Value}(h:VRel ρ n (.slice (some a) l k) c):∃ b k',c=.slice (some b) l k':=by cases h<;>exact⟨_,_,rfl⟩
theorem VRel.q1a {n:Nat}{l k:Nat}{c:Value}(h:VRel ρ n (.slice none l k) c):c=.slice none 0 0:=by cases h;rfl
theorem Ab (neg:Bool) (t:TypeId) (x y:Operand) (yt:TypeId) (ty:TypeId) (pos:String) (after:Array Edge) (dst:Option Tmp) (g:Option (Nat×Bool)) {a b:Value}{r:Bool}(hx:ev x=a) (hy:ev y=b)
  (hg:∀ op w',(eqGuard op t x y a b).run P w'=.ok () w') (h:∀ w',(binOp (if neg then .neq else .eql) t a b).run P w'=.ok (.bool (if neg then !r else r)) w') :
  S7 P ρ U w (.bool (if neg then !r else r)) (execOp ev ⟨dst,.binOp (if neg then .neq else .eql) t x y yt,ty,pos,after,g⟩):=by
 refine Qh (c:=.bool (if neg then !r else r)) (λw'=>?_) (.bool _);simp only[execOp,hx,hy];simp[hg,h]
theorem Td (op:BinOp) (t:TypeId) (x y:Operand) {a b:Value}(h:(∀ p q,¬ (a=.nilIface/\b=.nilIface)/\¬ (a=.agg p/\b=.agg q))) (w':World):(eqGuard op t x y a b).run P w'=.ok () w':=by
 have key:∀ op,op=.eql\/op=.neq->(eqGuard op t x y a b).run P w'=.ok () w':=by
  intro op ho;unfold eqGuard;rcases ho with rfl|rfl
  all_goals
   simp only[xQ,zz,if_false];split
   .simp_all
   .simp_all
   .rfl
 cases op<;>first|exact key _ (.inl rfl)|exact key _ (.inr rfl)|rfl
theorem ZD {t:TypeId}{a b:Value}{r:Bool}(h:∀ d w',(Op.equalIn (d+1) t a b).run P w'=.ok r w')
  (hb:∀ neg:Bool,binOp (if neg then .neq else .eql) t a b=(do let r <-Op.equal t a b;pure (.bool (if neg then !r else r)))) (neg:Bool) (w':World) :
  (binOp (if neg then .neq else .eql) t a b).run P w'=.ok (.bool (if neg then !r else r)) w':=by
 rw[hb,zy];have:(Op.equal t a b).run P w'=.ok r w':=h 9999 w';rw[this];rfl
theorem AM {kd:Nat}{t:TypeId}{a b c d:Value}{r:Bool}(hH:HRel ρ U w) (hk:(kd=0/\∃ e i,P.underlying t=some (.pointer e)/\P.info? e=some i)\/(kd=1/\∃ e,P.underlying t=some (.slice e)) \/
   (kd=2/\∃ k e,P.underlying t=some (.map k e))\/(kd=3/\∃ p q s,P.underlying t=some (.func p q s)))
  (ha:VRel ρ U.n a c) (hb:VRel ρ U.n b d) (h:ZA kd a b U=some r):(∀ (neg:Bool) w',(binOp (if neg then .neq else .eql) t c d).run P w'=.ok (.bool (if neg then !r else r)) w')/\(∀ p q,¬ (c=.nilIface/\d=.nilIface)/\¬ (c=.agg p/\d=.agg q)):=by
 unfold ZA at h;split at h
 .obtain rfl:=ha.q0q;obtain rfl:=hb.q0q;simp at h;subst h;rcases hk with⟨_,e,i,h1,h2⟩|⟨h0,_⟩|⟨h0,_⟩|⟨h0,_⟩<;>try (cases h0)
  exact⟨ZD (λd w'=>by simp[Op.equalIn,Q0 h1]) (λneg=>by cases neg<;>rfl),by simp⟩
 .obtain rfl:=ha.q0q;obtain⟨q,rfl⟩:=hb.q1g;simp at h;subst h;rcases hk with⟨_,e,i,h1,h2⟩|⟨h0,_⟩|⟨h0,_⟩|⟨h0,_⟩<;>try (cases h0)
  exact⟨ZD (λd w'=>by simp[Op.equalIn,Q0 h1]) (λneg=>by cases neg<;>rfl),by simp⟩
 .obtain⟨q,rfl⟩:=ha.q1g;obtain rfl:=hb.q0q;simp at h;subst h;rcases hk with⟨_,e,i,h1,h2⟩|⟨h0,_⟩|⟨h0,_⟩|⟨h0,_⟩<;>try (cases h0)
  exact⟨ZD (λd w'=>by simp[Op.equalIn,Q0 h1]) (λneg=>by cases neg<;>rfl),by simp⟩
 .rename_i i o j q;split at h
  .rename_i hc;obtain⟨rfl,rfl,hs⟩:=hc;simp at h;subst h;rcases hk with⟨_,e,i',h1,h2⟩|⟨h0,_⟩|⟨h0,_⟩|⟨h0,_⟩<;>try (cases h0)
   obtain⟨blk,aC⟩:=Option.isSome_iff_exists.1 hs;obtain⟨p,hp,_⟩:=hH.live _ _ aC;obtain⟨_,_,rfl⟩:=ha.q0x hp;obtain⟨_,_,rfl⟩:=hb.q0x hp;exact⟨ZD (λd w'=>by simp[Op.equalIn,Q0 h1,sizeOf,typeInfo,h2,run_sameAddr_same]) (λneg=>by cases neg<;>rfl),by simp⟩
  .cases h
 .obtain rfl:=ha.q1a;obtain rfl:=hb.q1a;simp at h;subst h;rcases hk with⟨h0,_⟩|⟨_,e,h1⟩|⟨h0,_⟩|⟨h0,_⟩<;>try (cases h0)
  exact⟨ZD (λd w'=>by simp[Op.equalIn,Q0 h1]) (λneg=>by cases neg<;>rfl),by simp⟩
 .obtain rfl:=ha.q1a;obtain⟨_,_,rfl⟩:=hb.q1u;simp at h;subst h;rcases hk with⟨h0,_⟩|⟨_,e,h1⟩|⟨h0,_⟩|⟨h0,_⟩<;>try (cases h0)
  exact⟨ZD (λd w'=>by simp[Op.equalIn,Q0 h1]) (λneg=>by cases neg<;>rfl),by simp⟩
 .obtain⟨_,_,rfl⟩:=ha.q1u;obtain rfl:=hb.q1a;simp at h;subst h;rcases hk with⟨h0,_⟩|⟨_,e,h1⟩|⟨h0,_⟩|⟨h0,_⟩<;>try (cases h0)
  exact⟨ZD (λd w'=>by simp[Op.equalIn,Q0 h1]) (λneg=>by cases neg<;>rfl),by simp⟩
 .obtain rfl:=ha.q0v;obtain rfl:=hb.q0v;simp at h;subst h;rcases hk with⟨h0,_⟩|⟨h0,_⟩|⟨_,k,e,h1⟩|⟨h0,_⟩<;>try (cases h0)
  exact⟨ZD (λd w'=>by simp[Op.equalIn,Q0 h1]) (λneg=>by cases neg<;>rfl),by simp⟩
 .obtain rfl:=ha.q0v;obtain⟨_,rfl,_⟩:=hb.q1j;simp at h;subst h;rcases hk with⟨h0,_⟩|⟨h0,_⟩|⟨_,k,e,h1⟩|⟨h0,_⟩<;>try (cases h0)
  exact⟨ZD (λd w'=>by simp[Op.equalIn,Q0 h1]) (λneg=>by cases neg<;>rfl),by simp⟩
 .obtain⟨_,rfl,_⟩:=ha.q1j;obtain rfl:=hb.q0v;simp at h;subst h;rcases hk with⟨h0,_⟩|⟨h0,_⟩|⟨_,k,e,h1⟩|⟨h0,_⟩<;>try (cases h0)
  exact⟨ZD (λd w'=>by simp[Op.equalIn,Q0 h1]) (λneg=>by cases neg<;>rfl),by simp⟩
 .obtain rfl:=ha.q1b;obtain rfl:=hb.q1b;simp at h;subst h;rcases hk with⟨h0,_⟩|⟨h0,_⟩|⟨h0,_⟩|⟨_,p,q,s,h1⟩<;>try (cases h0)
  exact⟨ZD (λd w'=>by simp[Op.equalIn,Q0 h1]) (λneg=>by cases neg<;>rfl),by simp⟩
 .obtain rfl:=ha.q1b;obtain⟨_,_,_,rfl⟩:=hb.q1o;simp at h;subst h;rcases hk with⟨h0,_⟩|⟨h0,_⟩|⟨h0,_⟩|⟨_,p,q,s,h1⟩<;>try (cases h0)
  exact⟨ZD (λd w'=>by simp[Op.equalIn,Q0 h1]) (λneg=>by cases neg<;>rfl),by simp⟩
 .obtain⟨_,_,_,rfl⟩:=ha.q1o;obtain rfl:=hb.q1b;simp at h;subst h;rcases hk with⟨h0,_⟩|⟨h0,_⟩|⟨h0,_⟩|⟨_,p,q,s,h1⟩<;>try (cases h0)
  exact⟨ZD (λd w'=>by simp[Op.equalIn,Q0 h1]) (λneg=>by cases neg<;>rfl),by simp⟩
 .cases h
def Q4a (ρ:Plc) (n:Nat) (e:MapEntry) (kv:ZZ):Prop:=e.key=kv.1/\e.born=kv.2.2/\VRel ρ n kv.2.1 e.val
def LERel (ρ:Plc) (n:Nat) (E:List MapEntry) (es:List ZZ):Prop:=E.length=es.length/\∀ (k:Nat) (e:MapEntry) (kv:ZZ),E[k]?=some e->es[k]?=some kv->Q4a ρ n e kv
theorem LERel.cons_inv {n:Nat}{E:List MapEntry}{es:List ZZ}{kv:ZZ}(h:LERel ρ n E (kv::es)):∃ e E',E=e::E'/\Q4a ρ n e kv/\LERel ρ n E' es:=by
 cases E with
 |nil=>have:=h.1;simp at this
 |cons e E'=>exact⟨e,E',rfl,h.2 0 e kv rfl rfl,by have:=h.1;simpa using this,λk a b ha hb=>h.2 (k+1) a b (by simpa using ha) (by simpa using hb)⟩
theorem ORel.q0t {n:Nat}{es:List ZZ}{clock:Nat}{O:Obj}:ORel ρ n (.map es clock) O<->∃ entries,O=.map entries clock/\LERel ρ n entries.toList es:=by
 constructor
 .rintro⟨entries,h1,h2,h3⟩;refine⟨entries,h1,by simpa using h2,λk e kv he d_=>?_⟩;obtain⟨e',h4,h5,h6,h7⟩:=h3 k kv d_;have:e=e':=by
   simp_all
  subst this;exact⟨h5,h6,h7⟩
 .rintro⟨entries,h1,h2,h3⟩;refine⟨entries,h1,by simpa using h2,λk kv d_=>?_⟩;have hk:k<es.length:=(zu.1 d_).1;have mS:k<entries.toList.length:=by omega
  obtain⟨h4,h5,h6⟩:=h3 k entries.toList[k] kv (z8 mS) d_;simp_all
theorem JF:∀ {s:List MK}{l:List Value},fits s l=true->l.length=s.length
 |[],[],_=>rfl
 |_::s,_::l,h=>by simp only[fits,z1] at h;simp[JF h.2]
 |[],_::_,h=>by cases h
 |_::_,[],h=>by cases h
theorem Kd:∀ {s r:List MK}{l:List Value},fits (s++r) l=true->fits s (l.take s.length)=true/\fits r (l.drop s.length)=true
 |[],r,l,h=>by simpa [fits] using h
 |k::s,r,[],h=>by cases h
 |k::s,r,v::l,h=>by simp only[xw,fits,z1] at h;obtain⟨h1,h2⟩:=Kd h.2;simp only[xj,xP,xU,fits,z1];exact⟨⟨h.1,h1⟩,h2⟩
theorem Vr:∀ (n:Nat) (l m:List Value),l.length=m.length->Ql l m=(Ql (l.take n) (m.take n)&&Ql (l.drop n) (m.drop n))
 |0,l,m,_=>by simp[Ql]
 |n+1,[],[],_=>by simp[Ql]
 |n+1,a::l,b::m,h=>by simp only[Ql,xP,xU];rw[Vr n l m (by simpa using h),Bool.and_assoc]
 |n+1,[],_::_,h=>by simp at h
 |n+1,_::_,[],h=>by simp at h
def mkT (P:Program) (t:TypeId) (cs:List Value):Value:=match P.underlying t with
 |some (.struct _)=>.agg cs.toArray
 |some (.array _ _)=>.agg cs.toArray
 |_=>cs.headD undef
theorem VN {m:Nat}{t:TypeId}{s:List MK}(hs:shp P m t=some s) (hc:P.cellsOf t=s.length) {xs:Array Value}{off:Nat}(hf:fits s ((xs.toList.drop off).take s.length)=true) (w:World) :
  (part t xs off).run P w=.ok (mkT P t ((xs.toList.drop off).take s.length)) w:=by
 cases m with
 |zero=>simp[shp] at hs
 |succ m =>
  simp only[shp] at hs;have plain:∀ kd,P.underlying t=some kd->(∀ n e,kd≠.array n e)->(∀ fs,kd≠.struct fs)->s.length=1->(part t xs off).run P w=.ok (mkT P t ((xs.toList.drop off).take s.length)) w:=λkd hu h1 h2 h3=>by
   have hl:=JF hf;rw[h3] at hl |-;have ai:off<xs.size:=by
    grind
   have e:(xs.toList.drop off).take 1=[xs[off]]:=by
    grind [List.drop_eq_getElem_cons]
   rw[e];have:mkT P t [xs[off]]=xs[off]:=by unfold mkT;simp_all
   rw[this];cases kd<;>first|(exact absurd rfl (h1 _ _))|(exact absurd rfl (h2 _))|simp[part,isAgg,run_underlying hu,xF ai]
  have agg:∀ kd,P.underlying t=some kd->((∃ n e,kd=.array n e)\/∃ fs,kd=.struct fs)->(part t xs off).run P w=.ok (mkT P t ((xs.toList.drop off).take s.length)) w:=λkd hu hk=>by
   obtain⟨i,hi⟩:=info_of_underlying hu;have hl:(xs.extract off (off+P.cellsOf t))=((xs.toList.drop off).take s.length).toArray:=by
    grind
   rcases hk with⟨n,e,rfl⟩|⟨fs,rfl⟩<;>simp[part,isAgg,run_underlying hu,run_sizeOf w hi,hl,mkT,hu]
  cases hu:P.underlying t with
  |none=>rw[hu] at hs;cases hs
  |some kd =>
   rw[hu] at hs;cases kd
   case bool=>grind
   case int q=>grind
   case string=>grind
   case array n e=>exact agg _ hu (.inl ⟨_,_,rfl⟩)
   case struct fs=>exact agg _ hu (.inr ⟨_,rfl⟩)
   all_goals cases hs
theorem A3 {g:TypeId->Option (List MK)}{m d:Nat}(hg:g=shp P m) (ih:∀ t s,shp P m t=some s->∀ (w:World) (cs ds:List Value),fits s cs=true->fits s ds=true->(Op.equalIn (d+m) t (mkT P t cs) (mkT P t ds)).run P w=.ok (Ql cs ds) w) {xs ys:Array Value}(w:World) :
  ∀ (fs:List Field) (off:Nat) (ss:List MK),Lt P g fs off=some ss->fits ss (xs.toList.drop off)=true->fits ss (ys.toList.drop off)=true->(Op.eqFields (d+m) xs ys fs).run P w=.ok (Ql (xs.toList.drop off) (ys.toList.drop off)) w
 |[],off,ss,h,h1,h2=>by simp only[Lt,xe] at h;subst h;have e1:=JF h1;have e2:=JF h2;rw[List.eq_nil_of_length_eq_zero e1];simp[Op.eqFields,Ql]
 |f::r,off,ss,h,h1,h2=>by
  simp only[Lt] at h;split at h
  .rename_i hn;obtain⟨hn,rfl⟩:=hn;split at h
   .rename_i s hs;split at h
    .rename_i hc;obtain⟨q,hq,rfl⟩:=zk.1 h;obtain⟨a1,a2⟩:=Kd h1;obtain⟨b1,b2⟩:=Kd h2;rw[List.drop_drop] at a2 b2;rw[hg] at hs;have p1:=VN hs hc a1 w;have p2:=VN hs hc b1 w;have p3:=ih f.type s hs w _ _ a1 b1;have hr:=A3 hg ih w r (f.offset+s.length) q hq a2 b2;rw[Vr s.length _ _ (by rw[JF h1,JF h2]),List.drop_drop,List.drop_drop];simp only[Op.eqFields,hn,ne_eq,not_false_eq_true,zx,zy,p1,p2,p3,zi];cases hb:Ql (List.take s.length (List.drop f.offset xs.toList)) (List.take s.length (List.drop f.offset ys.toList)) with
     |false=>simp
     |true=>simpa using hr
    .cases h
   .cases h
  .cases h
theorem DU {m d:Nat}{e:TypeId}{s:List MK}(hs:shp P m e=some s) (hc:P.cellsOf e=s.length) (ih:∀ (w:World) (cs ds:List Value),fits s cs=true->fits s ds=true->(Op.equalIn (d+m) e (mkT P e cs) (mkT P e ds)).run P w=.ok (Ql cs ds) w) {xs ys:Array Value}(w:World) :
  ∀ (k i:Nat),fits (List.replicate k s).flatten (xs.toList.drop (i*s.length))=true->fits (List.replicate k s).flatten (ys.toList.drop (i*s.length))=true->(Op.eqItems (d+m) e (P.cellsOf e) xs ys (List.range' i k)).run P w=.ok (Ql (xs.toList.drop (i*s.length)) (ys.toList.drop (i*s.length))) w
 |0,i,h1,h2=>by have e1:=JF h1;have e2:=JF h2;simp only[List.replicate_zero,List.flatten_nil,List.length_nil] at e1 e2;rw[List.eq_nil_of_length_eq_zero e1];simp[Op.eqItems,Ql]
 |k+1,i,h1,h2=>by
  rw[xx,List.flatten_cons] at h1 h2;obtain⟨a1,a2⟩:=Kd h1;obtain⟨b1,b2⟩:=Kd h2;rw[List.drop_drop,<-Nat.succ_mul] at a2 b2;have p1:=VN hs hc a1 w;have p2:=VN hs hc b1 w;have p3:=ih w _ _ a1 b1;have hr:=DU hs hc ih w k (i+1) a2 b2;rw[Vr s.length _ _ (by rw[JF h1,JF h2]),List.drop_drop,List.drop_drop,<-Nat.succ_mul];rw[hc] at hr |-;simp only[List.range'_succ,Op.eqItems,zy,p1,p2,p3,zi];cases hb:Ql (List.take s.length (List.drop (i*s.length) xs.toList)) (List.take s.length (List.drop (i*s.length) ys.toList)) with
  |false=>simp
  |true=>simpa using hr
theorem Kk (d:Nat):∀ (m:Nat) (t:TypeId) (s:List MK),shp P m t=some s->∀ (w:World) (cs ds:List Value),fits s cs=true->fits s ds=true->(Op.equalIn (d+m) t (mkT P t cs) (mkT P t ds)).run P w=.ok (Ql cs ds) w
 |0,t,s,h=>by simp[shp] at h
 |m+1,t,s,h=>by
  intro w cs ds h1 h2;simp only[shp] at h;have one:∀ {k:MK}{cs:List Value},fits [k] cs=true->∃ a,cs=[a]/\IC k a=true:=λ{k cs} h=>by
   cases cs with
   |nil=>cases h
   |cons a l =>
    cases l with
    |nil=>exact⟨a,rfl,by simpa [fits] using h⟩
    |cons b l=>simp[fits] at h
  cases hu:P.underlying t with
  |none=>rw[hu] at h;cases h
  |some kd =>
   rw[hu] at h;cases kd
   case bool =>
    obtain rfl:=osj h;obtain⟨a,rfl,ha⟩:=one h1;obtain⟨b,rfl,hb⟩:=one h2;cases a<;>first|(cases ha;done)|skip
    cases b<;>first|(cases hb;done)|skip
    simp only[mkT,hu,List.headD_cons,Ql,Yh,xI];exact run_equalIn_bool' w (d+m) t _ _ hu
   case int q =>
    obtain rfl:=osj h;obtain⟨a,rfl,ha⟩:=one h1;obtain⟨b,rfl,hb⟩:=one h2;cases a<;>first|(cases ha;done)|skip
    cases b<;>first|(cases hb;done)|skip
    simp only[IC,zg] at ha hb;subst ha;subst hb;simp only[mkT,hu,List.headD_cons,Ql,Yh,xI]
    grind [run_equalIn_int]
   case string =>
    obtain rfl:=osj h;obtain⟨a,rfl,ha⟩:=one h1;obtain⟨b,rfl,hb⟩:=one h2;cases a<;>first|(cases ha;done)|skip
    cases b<;>first|(cases hb;done)|skip
    simp only[mkT,hu,List.headD_cons,Ql,Yh,xI]
    grind [ByteArray.toList_eq,run_equalIn_string]
   case array n e =>
    simp only at h;split at h
    .rename_i s' a7;split at h
     .rename_i hc;obtain rfl:=osj h;obtain⟨i,hi⟩:∃ i,P.info? e=some i:=by
       cases m with
       |zero=>simp[shp] at a7
       |succ m =>
        simp only[shp] at a7;cases jF:P.underlying e with
        |none=>rw[jF] at a7;cases a7
        |some _=>exact info_of_underlying jF
      simp only[mkT,hu];rw[show d+(m+1)=(d+m)+1 from rfl,run_equalIn_array w (d+m) _ _ hu hi,List.range_eq_range'];have:=DU (d:=d) a7 hc (Kk d m e s' a7) (xs:=cs.toArray) (ys:=ds.toArray) w n 0 (by simpa using h1) (by simpa using h2);simpa using this
     .cases h
    .cases h
   case struct fs =>
    simp only at h;split at h
    .cases h
    .rename_i bK;have oR:P.fieldsOf t=fs:=by simp[Program.fieldsOf,hu]
     simp only[mkT,hu];rw[show d+(m+1)=(d+m)+1 from rfl,run_equalIn_struct w (d+m) t _ _ (by rw[oR];exact hu) (by simpa using bK),oR];have:=A3 (d:=d) rfl (Kk d m) (xs:=cs.toArray) (ys:=ds.toArray) w fs.toList 0 s h (by simpa using h1) (by simpa using h2);simpa using this
   all_goals cases h
theorem Db {n:Nat}:∀ {s:List MK}{l m:List Value},fits s l=true->LRel ρ n l m->m=l
 |[],[],m,_,hr=>by have:=hr.1;grind
 |k::s,v::l,[],_,hr=>by have:=hr.1;simp at this
 |k::s,v::l,c::m,h,hr=>by
  simp only[fits,z1] at h;have h0:=hr.2 0 v c rfl rfl;have e:c=v:=by cases k<;>cases v<;>first|(cases h.1;done)|(cases h0;rfl)
  have jN:LRel ρ n l m:=⟨by have:=hr.1;simpa using this,λi a b ha hb=>hr.2 (i+1) a b (by simpa using ha) (by simpa using hb)⟩;rw[e,Db h.2 jN]
 |[],_::_,_,h,_=>by cases h
 |_::_,[],_,h,_=>by cases h
def IZ (P:Program) (t:TypeId):MK->TypeDesc->Prop
 |.int k,d=>d=.int k
 |.string,d=>d=.string
 |.bool,d=>d=.bool
 |.agg s,d=>shp P 8 t=some s/\((∃ fs,d=.struct fs)\/∃ n e,d=.array n e)
theorem Vn {t:TypeId}{mk:MK}(h:RM P t=some mk):∃ d,P.underlying t=some d/\IZ P t mk d:=by
 unfold RM at h;split at h
 .rename_i k hk;simp at h;subst h;exact⟨_,hk,rfl⟩
 .rename_i hk;simp at h;subst h;exact⟨_,hk,rfl⟩
 .rename_i hk;simp at h;subst h;exact⟨_,hk,rfl⟩
 .rename_i fs hk;obtain⟨s,hs,rfl⟩:=zk.1 h;exact⟨_,hk,hs,.inl ⟨fs,rfl⟩⟩
 .rename_i n e hk;obtain⟨s,hs,rfl⟩:=zk.1 h;exact⟨_,hk,hs,.inr ⟨n,e,rfl⟩⟩
 .cases h
theorem XK {n:Nat}{v c:Value}(h:QA v=true) (hv:VRel ρ n v c):c=v:=by cases hv<;>first|rfl|(simp[QA,poison] at h)
theorem DY {mk:MK}{k c:Value}{n:Nat}(h:Za mk k=true) (hv:VRel ρ n k c):c=k:=by
 unfold Za at h;split at h<;>first|(cases h;done)|(exact XK rfl hv)|skip
 obtain⟨ds,rfl,hl⟩:=hv.q1m
 grind [Db,Array.toList_inj]
def MK.plain:MK->Bool
 |.agg _=>false
 |_=>true
theorem Ev {mk:MK}(hp:mk.plain=true) {t:TypeId}{d:TypeDesc}(hd:IZ P t mk d) {a b:Value}(ha:Za mk a=true) (hb:Za mk b=true):Instr.sameNow d a b=some (XY a b):=by
 cases mk
 case agg=>cases hp
 all_goals
  cases a<;>first|(cases ha;done)|skip
  cases b<;>first|(cases hb;done)|skip
  simp only[IZ] at hd;subst hd
 .simp[Za] at ha hb;subst ha;subst hb;simp[Instr.sameNow,XY]
 .simp[Instr.sameNow,XY,beq_toListBytes,ByteArray.toList_eq]
 .simp[Instr.sameNow,XY]
theorem PD:∀ {s:List MK}{l m:List Value},fits s l=true->fits s m=true->Ql l m=true->((m.zip l).all λp=>Instr.sameBits 9999 p.1 p.2)=true
 |[],[],[],_,_,_=>rfl
 |k::s,a::l,b::m,h1,h2,h3=>by
  simp only[fits,Ql,z1] at h1 h2 h3;simp only[List.zip_cons_cons,zX,z1];refine⟨?_,PD h1.2 h2.2 h3.2⟩;obtain⟨h1,_⟩:=h1;obtain⟨h2,_⟩:=h2;obtain⟨h3,_⟩:=h3;cases k<;>cases a<;>first|(cases h1;done)|(cases b<;>first|(cases h2;done)|skip)
  .simp only[IC,zg] at h1 h2;subst h1;subst h2;simp only[Yh,zj] at h3;subst h3;simp[Instr.sameBits]
  .simp only[Yh,zj] at h3;simp[Instr.sameBits,beq_toListBytes,ByteArray.toList_eq,h3]
  .simp only[Yh,zj] at h3;subst h3;simp[Instr.sameBits]
 |[],_::_,_,h,_,_=>by cases h
 |[],[],_::_,_,h,_=>by cases h
 |_::_,[],_,h,_,_=>by cases h
 |_::_,_::_,[],_,h,_=>by cases h
theorem N2 {mk:MK}{a b:Value}(ha:Za mk a=true) (hb:Za mk b=true) (h:XY a b=true):Instr.sameBits 10000 b a=true:=by
 cases mk
 case agg s =>
  cases a<;>first|(cases ha;done)|skip
  cases b<;>first|(cases hb;done)|skip
  rename_i x y;simp only[Za] at ha hb;simp only[XY] at h;simp only[Instr.sameBits,z1,zj];have h1:=JF ha;have h2:=JF hb
  grind [PD]
 all_goals
  cases a<;>first|(cases ha;done)|skip
  cases b<;>first|(cases hb;done)|skip
 .simp[Za] at ha hb;subst ha;subst hb;simp[XY] at h;subst h;simp[Instr.sameBits]
 .simp[XY] at h;simp[Instr.sameBits,beq_toListBytes,ByteArray.toList_eq,h]
 .simp[XY] at h;simp[Instr.sameBits,h]
theorem Wo {t:TypeId}{d:TypeDesc}(hd:P.underlying t=some d) {a:Value}(hm:(∃ k,d=.int k)\/d=.string\/d=.bool) (e:Bool) (n:Nat) (w':World):(Instr.checkKey e (n+1) t a).run P w'=.ok () w':=by simp only[Instr.checkKey,zy,Q0 hd,zi];rcases hm with⟨k,rfl⟩|rfl|rfl<;>rfl
theorem Cq {e:Bool}{g:TypeId->Option (List MK)}{m d:Nat}(hg:g=shp P m) (ih:∀ t s,shp P m t=some s->∀ (w:World) (cs:List Value),fits s cs=true->(Instr.checkKey e (d+m) t (mkT P t cs)).run P w=.ok () w) {xs:Array Value}(w:World) :
  ∀ (fs:List Field) (off:Nat) (ss:List MK),Lt P g fs off=some ss->fits ss (xs.toList.drop off)=true->(forIn fs PUnit.unit λf (_:PUnit)=>(do
   if f.name≠"_" then Instr.checkKey e (d+m) f.type (<-part f.type xs f.offset)
   pure (ForInStep.yield PUnit.unit):Sem (ForInStep PUnit))).run P w=.ok PUnit.unit w
 |[],off,ss,h,h1=>by simp
 |f::r,off,ss,h,h1=>by
  simp only[Lt] at h;split at h
  .rename_i hn;obtain⟨hn,rfl⟩:=hn;split at h
   .rename_i s hs;split at h
    .rename_i hc;obtain⟨q,hq,rfl⟩:=zk.1 h;obtain⟨a1,a2⟩:=Kd h1;rw[List.drop_drop] at a2;rw[hg] at hs;have p1:=VN hs hc a1 w;have p3:=ih f.type s hs w _ a1;have hr:=Cq hg ih w r (f.offset+s.length) q hq a2;simp_all
    .cases h
   .cases h
  .cases h
theorem Bl (e:Bool) (d:Nat):∀ (m:Nat) (t:TypeId) (s:List MK),shp P m t=some s->∀ (w:World) (cs:List Value),fits s cs=true->(Instr.checkKey e (d+m) t (mkT P t cs)).run P w=.ok () w
 |0,t,s,h=>by simp[shp] at h
 |m+1,t,s,h=>by
  intro w cs h1;simp only[shp] at h;cases hu:P.underlying t with
  |none=>rw[hu] at h;cases h
  |some kd =>
   rw[hu] at h;cases kd
   case bool=>grind [Wo]
   case int q=>grind [Wo]
   case string=>rw[show d+(m+1)=(d+m)+1 from rfl];exact Wo hu (by simp) e (d+m) w
   case array n el =>
    simp only at h;split at h
    .rename_i s' a7;split at h
     .rename_i hc;obtain rfl:=osj h;obtain⟨i,hi⟩:∃ i,P.info? el=some i:=by
       cases m with
       |zero=>simp[shp] at a7
       |succ m =>
        simp only[shp] at a7;cases jF:P.underlying el with
        |none=>rw[jF] at a7;cases a7
        |some _=>exact info_of_underlying jF
      simp only[mkT,hu];rw[show d+(m+1)=(d+m)+1 from rfl,Instr.checkKey];simp only[zy,run_underlying hu,zi];simp only[Std.Legacy.Range.forIn_eq_forIn_range',Std.Legacy.Range.size,Nat.sub_zero,Nat.add_one_sub_one,Nat.div_one]
      have key:∀ (k i:Nat),fits (List.replicate k s').flatten (cs.drop (i*s'.length))=true->(forIn (List.range' i k) PUnit.unit λi (_:PUnit)=>(do
        Instr.checkKey e (d+m) el (<-part el cs.toArray (i*(<-sizeOf el)))
        pure (ForInStep.yield PUnit.unit):Sem (ForInStep PUnit))).run P w=.ok PUnit.unit w:=by
       intro k;induction k with
       |zero=>intro i _;simp
       |succ k tc =>intro i hf;rw[xx,List.flatten_cons] at hf;obtain⟨a1,a2⟩:=Kd hf;rw[List.drop_drop,<-Nat.succ_mul] at a2;have p1:=VN (xs:=cs.toArray) (off:=i*s'.length) a7 hc (by simpa using a1) w;have p2:=Bl e d m el s' a7 w _ a1;have hr:=tc (i+1) a2;simp only[List.range'_succ,List.forIn_cons,zy,run_sizeOf w hi,hc,zi,p1,p2,xg];exact hr
      simp_all
     .cases h
    .cases h
   case struct fs =>
    simp only at h;split at h
    .cases h
    .simp only[mkT,hu];rw[show d+(m+1)=(d+m)+1 from rfl,Instr.checkKey];simp only[zy,run_underlying hu,zi];rw[<-Array.forIn_toList];have:=Cq (e:=e) (d:=d) rfl (Bl e d m) (xs:=cs.toArray) w fs.toList 0 s h (by simpa using h1);simp_all
   all_goals cases h
theorem Lw {t:TypeId}{d:TypeDesc}(hd:P.underlying t=some d) (hk:(∃ fs,d=.struct fs)\/∃ n e,d=.array n e) (a:Array Value):mkT P t a.toList=.agg a:=by unfold mkT;rcases hk with⟨fs,rfl⟩|⟨n,e,rfl⟩<;>simp[hd]
theorem Z7 {mk:MK}{t:TypeId}{d:TypeDesc}(hd:P.underlying t=some d) (hm:IZ P t mk d) {a:Value}(ha:Za mk a=true) (e:Bool) (w':World):(Instr.checkKey e 10000 t a).run P w'=.ok () w':=by
 cases mk
 case agg s =>
  cases a<;>first|(cases ha;done)|skip
  rename_i x;have:=Bl (P:=P) e 9992 8 t s hm.1 w' x.toList ha;rw[Lw hd hm.2] at this;exact this
 all_goals (cases a<;>first|(cases ha;done)|(simp only[IZ] at hm;subst hm;exact Wo hd (by simp) e 9999 w'))
theorem AH {mk:MK}(hp:mk.plain=true) {t:TypeId}{d:TypeDesc}(hd:IZ P t mk d) {k:Value}(hk:Za mk k=true) (nv:Value) (c:Nat) {n:Nat}:∀ (es:List ZZ) (E:List MapEntry) (i:Nat),LERel ρ n E es->es.all (λe=>Za mk e.1)=true ->
  (Qv k es=none/\Instr.findNow d k E i=some none/\QC k nv c es=(es++[(k,nv,c)],c+1)) \/
  (∃ j e e',Qv k es=some e/\es[j]?=some e/\E[j]?=some e'/\Instr.findNow d k E i=some (some (i+j,e'.val))/\XY k e.1=true/\QC k nv c es=(es.set j (k,nv,e.2.2),c)):=by
 intro es;induction es with
 |nil =>
  intro E i hE _;have:E=[]:=by have:=hE.1;simpa using this
  subst this;exact .inl ⟨rfl,rfl,rfl⟩
 |cons kv es ih =>
  intro E i hE hall;obtain⟨e,E',rfl,he,bT⟩:=hE.cons_inv;simp only[zX,z1] at hall;have hs:Instr.sameNow d k e.key=some (XY k kv.1):=by rw[he.1];exact Ev hp hd hk hall.1
  cases hq:XY k kv.1 with
  |true =>refine .inr ⟨0,kv,e,by simp[Qv,hq],rfl,rfl,?_,hq,by simp[QC,hq]⟩;simp[Instr.findNow,hs,hq]
  |false =>
   rcases ih E' (i+1) bT hall.2 with⟨h1,h2,h3⟩|⟨j,a,a',h1,h2,h3,h4,h5,h6⟩
   .refine .inl ⟨by simp[Qv,hq,h1],by simp[Instr.findNow,hs,hq,h2],by simp[QC,hq,h3]⟩
   .refine .inr ⟨j+1,a,a',by simp[Qv,hq,h1],by simpa using h2,by simpa using h3,?_,h5,by simp[QC,hq,h6]⟩;simp[Instr.findNow,hs,hq,h4];omega
theorem N3 {t:TypeId}{d:TypeDesc}(hd:P.underlying t=some d) {k:Value}{E:List MapEntry}{r:Option (Nat×Value)}(h:Instr.findNow d k E 0=some r) (w':World):(Instr.findKey t k E).run P w'=.ok r w':=by simp[Instr.findKey,Q0 hd,h]
theorem Eu {s:List MK}{t:TypeId}{d:TypeDesc}(hu:P.underlying t=some d) (hd:IZ P t (.agg s) d) {k:Value}(hk:Za (.agg s) k=true) (nv:Value) (c:Nat) {n:Nat}:∀ (es:List ZZ) (E:List MapEntry) (i:Nat),LERel ρ n E es->es.all (λe=>Za (.agg s) e.1)=true ->
  (Qv k es=none/\(∀ w',(Instr.findAsking t k E i).run P w'=.ok none w')/\QC k nv c es=(es++[(k,nv,c)],c+1)) \/
  (∃ j e e',Qv k es=some e/\es[j]?=some e/\E[j]?=some e'/\(∀ w',(Instr.findAsking t k E i).run P w'=.ok (some (i+j,e'.val)) w')/\XY k e.1=true/\QC k nv c es=(es.set j (k,nv,e.2.2),c)):=by
 intro es;induction es with
 |nil =>
  intro E i hE _;have:E=[]:=by have:=hE.1;simpa using this
  subst this;exact .inl ⟨rfl,λw'=>by simp[Instr.findAsking],rfl⟩
 |cons kv es ih =>
  intro E i hE hall;obtain⟨e,E',rfl,he,bT⟩:=hE.cons_inv;simp only[zX,z1] at hall;have hs:∀ w',(Op.equal t k e.key).run P w'=.ok (XY k kv.1) w':=λw'=>by
   rw[he.1];have h1:=hall.1;cases k<;>first|(cases hk;done)|skip
   rename_i x;generalize d_:kv.1=y at h1 |-;cases y<;>first|(cases h1;done)|skip
   rename_i y;have:=Kk 9992 8 t s hd.1 w' x.toList y.toList hk h1;rw[Lw hu hd.2,Lw hu hd.2] at this;exact this
  cases hq:XY k kv.1 with
  |true =>refine .inr ⟨0,kv,e,by simp[Qv,hq],rfl,rfl,λw'=>?_,hq,by simp[QC,hq]⟩;simp[Instr.findAsking,hs,hq]
  |false =>
   rcases ih E' (i+1) bT hall.2 with⟨h1,h2,h3⟩|⟨j,a,a',h1,h2,h3,h4,h5,h6⟩
   .refine .inl ⟨by simp[Qv,hq,h1],λw'=>by simp[Instr.findAsking,hs,hq,h2],by simp[QC,hq,h3]⟩
   .refine .inr ⟨j+1,a,a',by simp[Qv,hq,h1],by simpa using h2,by simpa using h3,λw'=>?_,h5,by simp[QC,hq,h6]⟩;simp[Instr.findAsking,hs,hq,h4];omega
theorem LP {t:TypeId}{s:List MK}{d:TypeDesc}(hd:IZ P t (.agg s) d) {k:Value}{e:MapEntry}{E:List MapEntry}{i:Nat}:Instr.findNow d k (e::E) i=none:=by rcases hd.2 with⟨fs,rfl⟩|⟨n,el,rfl⟩<;>simp[Instr.findNow,Instr.sameNow]
theorem Ww {mk:MK}{t:TypeId}{d:TypeDesc}(hu:P.underlying t=some d) (hd:IZ P t mk d) {k:Value}(hk:Za mk k=true) (nv:Value) (c:Nat) {n:Nat}(es:List ZZ) (E:List MapEntry) (hE:LERel ρ n E es) (hall:es.all (λe=>Za mk e.1)=true) :
  (Qv k es=none/\(∀ w',(Instr.findKey t k E).run P w'=.ok none w')/\QC k nv c es=(es++[(k,nv,c)],c+1)) \/
  (∃ j e e',Qv k es=some e/\es[j]?=some e/\E[j]?=some e'/\(∀ w',(Instr.findKey t k E).run P w'=.ok (some (0+j,e'.val)) w')/\XY k e.1=true/\QC k nv c es=(es.set j (k,nv,e.2.2),c)):=by
 cases hp:mk.plain with
 |true =>
  rcases AH hp hd hk nv c es E 0 hE hall with⟨h1,h2,h3⟩|⟨j,a,a',h1,h2,h3,h4,h5,h6⟩
  .grind [N3]
  .grind [N3]
 |false =>
  cases mk with
  |agg s =>
   have e1:∀ w',(Instr.findKey t k E).run P w'=(Instr.findAsking t k E 0).run P w':=λw'=>by
    cases E with
    |nil=>simp[Instr.findKey,Q0 hu,Instr.findNow,Instr.findAsking]
    |cons e E=>simp[Instr.findKey,Q0 hu,LP hd]
   rcases Eu hu hd hk nv c es E 0 hE hall with⟨h1,h2,h3⟩|⟨j,a,a',h1,h2,h3,h4,h5,h6⟩
   .simp_all
   .grind
  |_=>cases hp
theorem JB {m:Nat}{es:List ZZ}{clock:Nat}{wr:Bool}(h:U.mapAt m=some (es,clock,wr)):U.get m=some (.obj (.map es clock) wr):=by
 unfold Heap.mapAt at h
 grind
theorem Jv (hH:HRel ρ U w) {m:Nat}{es:List ZZ}{clock:Nat}{wr:Bool}(h:U.mapAt m=some (es,clock,wr)) {c:Value}(hv:VRel ρ U.n (.map (some m)) c) :
  ∃ p entries,c=.map (some p.blk)/\ρ m=some p/\w.heap[p.blk]?=some (.map entries clock)/\LERel ρ U.n entries.toList es:=by
 obtain⟨p,hp,_,O,h1,h2⟩:=hH.live m _ (JB h);obtain⟨entries,rfl,h3⟩:=ORel.q0t.1 h2;obtain⟨r,rfl,_,hr⟩:=hv.q1j
 grind
theorem Qt {w':World}{r:Nat}{O:Obj}(h:w'.heap[r]?=some O) (hc:∀ c e f,O≠.cells c e f):(getObj r).run P w'=.ok O w':=by cases O<;>first|(exact absurd rfl (hc _ _ _))|simp[getObj,Sem.run,h]
theorem Qw {w':World}{r:Nat}{O O':Obj}(h:w'.heap[r]?=some O) (hc:∀ c e f,O≠.cells c e f):(setObj r O').run P w'=.ok () (Da w' r O'):=by cases O<;>first|(exact absurd rfl (hc _ _ _))|simp[setObj,Sem.run,h,Da]
theorem PE {xs:List Value}{s:ByteArray}(h:G3 xs=some s):∃ ns:List Int,xs=ns.map (Value.int .u8)/\s=⟨(ns.map λn=>n.toNat.toUInt8).toArray⟩:=by
 unfold G3 at h;rw[zk] at h;obtain⟨bs,h1,rfl⟩:=h;have key:∀ (xs:List Value) (bs:List UInt8),xs.mapM Lu=some bs->∃ ns:List Int,xs=ns.map (Value.int .u8)/\bs=ns.map λn=>n.toNat.toUInt8:=by
  intro xs;induction xs with
  |nil=>intro bs h;simp at h;subst h;exact⟨[],rfl,rfl⟩
  |cons x xs ih =>
   intro bs h;rw[xd] at h;cases hx:Lu x with
   |none=>simp[hx] at h
   |some b =>
    cases hm:xs.mapM Lu with
    |none=>simp[hx,hm] at h
    |some vi =>
     simp[hx,hm] at h;obtain⟨ns,h1,h2⟩:=ih _ hm;unfold Lu at hx;split at hx
     .rename_i n;simp at hx;exact⟨n::ns,by simp[h1],by rw[<-h,h2,<-hx];rfl⟩
     .cases hx
 simp_all
theorem IN {n:Nat}{ns:List Int}{us:List Value}(h:LRel ρ n (ns.map (Value.int .u8)) us):us=ns.map (Value.int .u8):=by
 apply zN;intro i;cases hi:(ns.map (Value.int .u8))[i]? with
 |none =>have h1:(ns.map (Value.int .u8)).length<=i:=List.getElem?_eq_none_iff.1 hi;exact List.getElem?_eq_none_iff.2 (by rw[<-h.1];exact h1)
 |some v =>
  obtain⟨c,hc,hv⟩:=h.get hi;rw[hc];rw[xp] at hi;cases hn:ns[i]? with
  |none=>rw[hn] at hi;cases hi
  |some x=>rw[hn] at hi;obtain rfl:=osj hi;rw[hv.q0h]
theorem Ex (ns:List Int):∀ (acc:ByteArray),ns.foldl (λr n=>r.push (UInt8.ofNat n.toNat)) acc=⟨acc.data++(ns.map λn=>n.toNat.toUInt8).toArray⟩:=by
 induction ns with
 |nil=>intro acc;simp
 |cons n ns ih =>intro acc;rw[xu,ih];apply ByteArray.ext;simp[ByteArray.push]
theorem IY {n:Nat}(b:Nat):∀ (es:List ZZ) (E:List MapEntry),LERel ρ n E es->∀ e,es.find? (λe=>e.2.2==b)=some e->∃ e',E.find? (λx=>x.born==b)=some e'/\Q4a ρ n e' e:=by
 intro es;induction es with
 |nil=>intro E _ e h;simp at h
 |cons kv es ih =>
  intro E hE e h;obtain⟨x,E',rfl,hx,bT⟩:=hE.cons_inv;cases hb:kv.2.2==b with
  |true =>simp only[List.find?_cons,hb] at h;obtain rfl:=osj h;exact⟨x,by simp only[List.find?_cons,hx.2.1,hb],hx⟩
  |false =>simp only[List.find?_cons,hb] at h;obtain⟨e',h1,h2⟩:=ih E' bT e h;exact⟨e',by simp only[List.find?_cons,hx.2.1,hb];exact h1,h2⟩
theorem Az {u:TypeId}(hc:P.cellsOf u≠0) (n off:Nat) (h0:off=0) (hn:P.cellsOf u<=n):liesAt P P.depth u (n / P.cellsOf u) off u 1=true:=by have hd:P.depth=(2*(P.types.size+Made.depth)+1)+1:=rfl;have h1:1<=n / P.cellsOf u:=(Nat.one_le_div_iff (by omega)).2 hn;subst h0;rw[hd];simp only[liesAt,zt];left;rw[hd];simp[rowAt,hc,sameLayout,h1]
set_option maxHeartbeats 1000000 in
theorem Su {o:Oper}{xo:XOp}(hc:HZ P o.op=some xo) (hq:xo.quiet=true) (hH:HRel ρ U w) (hE:∀ x,Ji x=true->VRel ρ U.n (Q6 env x) (ev x))
  (h:QT xo (Q6 env) U=some (v,U')):U'=U/\S7 P ρ U w v (execOp ev o):=by
 obtain⟨dst,op,ty,pos,after,guard⟩:=o;simp only at hc;unfold HZ at hc;split at hc
 .cases hc
 rename_i al;simp only[x5,zV] at al;cases op<;>simp only[Op.operands] at al hc
 case binOp jE t x y yt =>
  simp at al;have hx:=hE x al.1;have hy:=hE y al.2
  have key:∀ (kd:Nat) (neg:Bool),jE=(if neg then .neq else .eql)->((kd=0/\∃ e i,P.underlying t=some (.pointer e)/\P.info? e=some i)\/(kd=1/\∃ e,P.underlying t=some (.slice e)) \/
   (kd=2/\∃ k e,P.underlying t=some (.map k e))\/(kd=3/\∃ p q s,P.underlying t=some (.func p q s)))->xo=.eqNil kd neg x y->U'=U/\S7 P ρ U w v (execOp ev ⟨dst,.binOp jE t x y yt,ty,pos,after,guard⟩):=by
   intro kd neg lg hk mB;subst mB;simp only[QT] at h;split at h
   .rename_i r hs;simp at h;obtain⟨rfl,rfl⟩:=h;obtain⟨h1,h2⟩:=AM hH hk hx hy hs;rw[lg];exact⟨rfl,Ab neg t x y yt ty pos after dst guard rfl rfl (by grind [Td]) (h1 neg)⟩
   .cases h
  have td:∀ (neg:Bool),jE=(if neg then .neq else .eql)->((∃ fs,P.underlying t=some (.struct fs))\/∃ n e,P.underlying t=some (.array n e))->Pe P neg t x y=some xo->U'=U/\S7 P ρ U w v (execOp ev ⟨dst,.binOp jE t x y yt,ty,pos,after,guard⟩):=by
   intro neg lg hk mB;unfold Pe at mB;split at mB
   .cases mB
   .rename_i rJ;obtain⟨s,hs,rfl⟩:=zk.1 mB;simp only[QT] at h;split at h
    .rename_i a b ha hb;split at h
     .rename_i dH;simp at h;obtain⟨rfl,rfl⟩:=h;rw[ha] at hx;rw[hb] at hy;obtain⟨ca,vj,m9⟩:=hx.q1m;obtain⟨cb,vl,oW⟩:=hy.q1m;have ea:=Db dH.1 m9;have eb:=Db dH.2 oW;have e1:mkT P t a.toList=.agg a:=by
       unfold mkT;rcases hk with⟨fs,hu⟩|⟨n,e,hu⟩<;>simp[hu]
      have e2:mkT P t b.toList=.agg b:=by unfold mkT;rcases hk with⟨fs,hu⟩|⟨n,e,hu⟩<;>simp[hu]
      have aO:=λw'=>Kk 9992 8 t s hs w' a.toList b.toList dH.1 dH.2;rw[e1,e2] at aO;have tf:ev x=.agg a:=by simp_all
      have tg:ev y=.agg b:=by simp_all
      rw[lg];refine⟨rfl,Ab neg t x y yt ty pos after dst guard tf tg (by grind [run_eqGuard_agg]) (λw'=>?_)⟩;have hr:=aO w';cases neg
      .simp only[zz,if_false];rw[run_eql_struct w' t a b,show (10000:Nat)=9992+8 from rfl,hr];rfl
      .simp only[zx];rw[run_neq_struct w' t a b,show (10000:Nat)=9992+8 from rfl,hr];rfl
     .cases h
    .cases h
  split at hc
  .rename_i e hu;cases hi:P.info? e with
   |none=>simp[hi] at hc
   |some i =>simp[hi] at hc;exact(by simp_all)
  .rename_i e hu;cases hi:P.info? e with
   |none=>simp[hi] at hc
   |some i =>simp[hi] at hc;exact(by simp_all)
  .simp_all
  .simp_all
  .simp_all
  .simp_all
  .simp_all
  .simp_all
  .simp_all
  .simp_all
  .simp_all
  .simp_all
  .cases hc
 case makeMap t r=>cases r<;>simp at hc;subst hc;cases hq
 case mapUpdate t m k x =>
  split at hc
  .rename_i kt e hu;cases hk:RM P kt with
   |none=>simp[hk] at hc
   |some mk=>simp[hk] at hc;subst hc;cases hq
  .cases hc
 case insert t m k x =>
  split at hc
  .rename_i kt e hu;cases hk:RM P kt with
   |none=>simp[hk] at hc
   |some mk=>simp[hk] at hc;subst hc;cases hq
  .cases hc
 case mapEntry t m k =>
  split at hc
  .rename_i kt e hu;cases hk:RM P kt with
   |none=>simp[hk] at hc
   |some mk =>
    cases bU:P.info? e with
    |none=>simp[hk,bU] at hc
    |some inf =>
     cases hz:inf.zero with
     |none=>simp[hk,bU,hz] at hc
     |some z=>simp[hk,bU,hz] at hc;obtain⟨_,rfl⟩:=hc;cases hq
  .cases hc
 case entryStore t m s x=>simp at hc;subst hc;cases hq
 case range t x =>
  split at hc
  .simp at hc;subst hc;cases hq
  .simp at hc;subst hc;cases hq
  .cases hc
 case next x b=>cases b<;>(simp at hc;subst hc;cases hq)
 case lookup t x i jO =>
  simp at al;have hx:=hE x al.1;have hi:=hE i al.2;split at hc
  .rename_i kt e hu;cases hk:RM P kt with
   |none=>simp[hk] at hc
   |some mk =>
    cases bU:P.info? e with
    |none=>simp[hk,bU] at hc
    |some inf =>
     cases hz:inf.zero with
     |none=>simp[hk,bU,hz] at hc
     |some z =>
      simp[hk,bU,hz] at hc;obtain⟨lh,rfl⟩:=hc;obtain⟨d,hd,eg⟩:=Vn hk;have ld:∀ w',(zeroValue e).run P w'=.ok z w':=λw'=>QP bU hz w';have dR:VRel ρ U.n z z:=YK lh;simp only[QT] at h;split at h
      .rename_i bG;have pO:ev i=Q6 env i:=DY bG hi;split at h
       .rename_i aY;rw[aY] at hx;obtain bV:=hx.q0v;simp at h;obtain⟨rfl,rfl⟩:=h;refine⟨rfl,if jO then .tuple #[z,.bool false] else z,?_,λw' _=>?_⟩
        .cases jO
         .exact dR
         .exact VRel.q0j (LRel.cons dR (LRel.cons (.bool _) (LRel.nil _ _)))
        .simp only[execOp];simp only[Instr.lookup,zy,Q0 hu,zi,bV,xg,pO,Z7 hd eg bG];rw[N3 hd (r:=none) rfl];cases jO<;>simp[ld]
       .rename_i m aY;rw[aY] at hx;split at h
        .rename_i es clock wr aE;split at h
         .rename_i hall;obtain⟨p,entries,bV,hp,aC,aD⟩:=Jv hH aE hx;have aO:∀ w',Like ρ w w'->(getObj p.blk).run P w'=.ok (.map entries clock) w':=λw' hl =>
           Qt (by rw[hl.blk m p hp];exact aC) (λ_ _ _ e=>by cases e)
          rcases Ww hd eg bG (.bool true) 0 es entries.toList aD hall with⟨h1,h2,_⟩|⟨j,a,a',h1,h2,h3,h4,_,_⟩
          .rw[h1] at h;simp at h;obtain⟨rfl,rfl⟩:=h;refine⟨rfl,if jO then .tuple #[z,.bool false] else z,?_,λw' hl=>?_⟩
           .cases jO
            .exact dR
            .exact VRel.q0j (LRel.cons dR (LRel.cons (.bool _) (LRel.nil _ _)))
           .simp only[execOp];simp only[Instr.lookup,zy,Q0 hu,zi,bV,aO w' hl,xg,pO,Z7 hd eg bG];simp_all
          .rw[h1] at h;simp at h;obtain⟨rfl,rfl⟩:=h;have m_:=(aD.2 j a' a h3 h2).2.2;refine⟨rfl,if jO then .tuple #[a'.val,.bool true] else a'.val,?_,λw' hl=>?_⟩
           .cases jO
            .exact m_
            .exact VRel.q0j (LRel.cons m_ (LRel.cons (.bool _) (LRel.nil _ _)))
           .simp only[execOp];simp only[Instr.lookup,zy,Q0 hu,zi,bV,aO w' hl,xg,pO,Z7 hd eg bG];rw[h4];cases jO<;>simp
         .cases h
        .cases h
       .cases h
      .cases h
  .cases hc
 case entry x =>
  simp at al;have hx:=hE x al;simp at hc;subst hc;simp only[QT] at h;split at h
  .rename_i i aY;rw[aY] at hx;split at h
   .rename_i m since seen last wr hb;split at h
    .rename_i es clock lj b aE dI;split at h
     .rename_i bR;split at h
      .rename_i e dk;split at h
       rotate_left
       .cases h
       rename_i aU;simp at h;obtain⟨rfl,rfl⟩:=h;obtain⟨p,hp,⟨_,ek⟩,O,hO,rm,rfl,oX⟩:=hH.live i _ hb;obtain⟨q,entries,iE,dJ,aC,aD⟩:=Jv hH aE oX;simp at iE;obtain⟨_,_,bV⟩:=hx.q0x hp;rw[ek] at bV;obtain⟨e',ic,jr⟩:=IY b es entries.toList aD e dk;rw[Array.find?_toList] at ic;have cH:(seen.toArray).back?=some b:=by simpa using dI
       have d_:VRel ρ U.n e.1 e'.key:=by rw[jr.1];exact YK aU
       refine⟨rfl,.tuple #[e'.key,e'.val],VRel.q0j (LRel.cons d_ (LRel.cons jr.2.2 (LRel.nil _ _))),λw' hl=>?_⟩;have h1:=Qt (P:=P) (w':=w') (r:=p.blk) (by rw[hl.blk i p hp];exact hO) (λ_ _ _ e=>by cases e);have h2:=Qt (P:=P) (w':=w') (r:=q.blk) (by rw[hl.blk m q dJ];exact aC) (λ_ _ _ e=>by cases e);simp only[execOp];simp only[Instr.entry,bV,zQ,zy,h1,zi,cH];rw[iE,];simp[h2,bR,ic]
      .cases h
     .cases h
    .cases h
   .cases h
  .cases h
 case convert s d x =>
  simp at al;have hx:=hE x al;split at hc
  .rename_i t hs hd;cases hi:P.info? t with
   |none=>simp[hi] at hc
   |some inf =>
    simp[hi] at hc;obtain⟨az,rfl⟩:=hc;simp only[QT] at h;split at h
    .rename_i aY;rw[aY] at hx;obtain bV:=hx.q0q;simp at h;obtain⟨rfl,rfl⟩:=h;refine⟨rfl,Qh (c:=.pointer none) (λw'=>?_) .nilPtr⟩;simp[execOp,bV,convert,Q0 hs,Q0 hd,Conv.unsafePointer]
    .rename_i i o aY;rw[aY] at hx;split at h
     .rename_i c e wr tight hb;split at h
      .rename_i ai;simp at h;obtain⟨rfl,rfl⟩:=h;obtain⟨p,hp,_,_,hl,⟨C,e',f,hC,pP,_⟩,_,_⟩:=hH.live i _ hb;obtain⟨_,_,bV⟩:=hx.q0x hp;refine⟨rfl,ev x,hx,λw' pQ=>?_⟩;have ek:w'.shape? p.blk=some (e',C.size):=by
        have:w'.heap[p.blk]?=some (.cells C e' f):=by rw[pQ.blk i p hp];exact hC
        simp[World.shape?,this]
       simp only[execOp,bV];have:=Go.Lib.run_to_unsafe (P:=P) w' (src:=s) (dst:=d) ⟨p.blk,p.shift+o,none⟩ hs hd hi (by simpa using az) ek (by show p.shift+o<C.size;omega);simp[this]
      .cases h
     .cases h
    .cases h
  .rename_i u hs hd;cases hi:P.info? u with
   |none=>simp[hi] at hc
   |some inf =>
    simp[hi] at hc;obtain⟨⟨az,th⟩,rfl⟩:=hc;simp only[QT] at h;split at h
    .rename_i aY;rw[aY] at hx;obtain bV:=hx.q0q;simp at h;obtain⟨rfl,rfl⟩:=h;refine⟨rfl,Qh (c:=.pointer none) (λw'=>?_) .nilPtr⟩;simp[execOp,bV,convert,Q0 hs,Q0 hd,Conv.unsafePointer]
    .rename_i i o aY;rw[aY] at hx;split at h
     .rename_i c e hb;split at h
      .rename_i ai;obtain⟨rfl,het,hle⟩:=ai;simp at h;obtain⟨rfl,rfl⟩:=h;obtain⟨p,hp,_,_,hl,⟨C,e',f,hC,pP,lk⟩,_,h6⟩:=hH.live i _ hb;obtain⟨_,_,bV⟩:=hx.q0x hp;have tj:=(h6 rfl).1 rfl;refine⟨rfl,ev x,hx,λw' pQ=>?_⟩;have ek:w'.shape? p.blk=some (u,C.size):=by
        have:w'.heap[p.blk]?=some (.cells C e' f):=by rw[pQ.blk i p hp];exact hC
        simp[World.shape?,this,lk,het]
       simp only[execOp,bV];rw[zU] at *
       have:=Go.Lib.run_from_unsafe (P:=P) w' (src:=s) (dst:=d) ⟨p.blk,p.shift,none⟩ hs hd hi ek (Az th _ _ tj (by omega));simp[this]
      .cases h
     .cases h
    .cases h
  .rename_i e hs hd;split at hc
   .rename_i he;simp at hc;subst hc;simp only[QT] at h;split at h
    .rename_i a n c aY;rw[aY] at hx;split at h
     .rename_i xs aZ;split at h
      .rename_i s' oY;simp at h;obtain⟨rfl,rfl⟩:=h;obtain⟨ns,mC,rfl⟩:=PE oY;subst mC;obtain⟨hlen,us,dF,⟨a',ao,bV⟩,aO⟩:=Pq hH aZ hx;have nb:=IN dF;refine⟨rfl,.string ⟨(ns.map λn=>n.toNat.toUInt8).toArray⟩,.string _,λw' hl=>?_⟩;have hr:=aO w' hl;rw[bV] at hr;simp only[execOp,bV];cases a' with
       |none =>
        simp[Builtin.firstCells] at hr;have:ns=[]:=by rw[nb] at hr;simpa using hr.symm
        subst this;simp[convert,Q0 hs,Q0 hd,Q0 he,Conv.bytesToString];rfl
       |some a' =>simp only[Builtin.firstCells,xO] at hr;rw[nb] at hr;have:=run_bytesToString (P:=P) w' a' n ao ns hr;rw[Ex] at this;simp[convert,Q0 hs,Q0 hd,Q0 he,this]
      .cases h
     .cases h
    .cases h
   .cases hc
  .split at hc
   .simp at hc;subst hc;cases hq
   .cases hc
  .cases hc
 case call c =>
  split at hc
  .rename_i aF;split at hc
   .rename_i t x eF cD;split at hc
    .rename_i kt e hu;simp at hc;subst hc;have bA:c.args=#[x]:=Array.ext' (by simpa using cD);have hx:VRel ρ U.n (Q6 env x) (ev x):=hE x (by simpa [Call.operands,aF,bA] using al);simp only[QT] at h;split at h
     .rename_i aY;rw[aY] at hx;obtain bV:=hx.q0v;simp at h;obtain⟨rfl,rfl⟩:=h;refine⟨rfl,Qh (c:=.int .i64 0) (λw'=>?_) (.int _ _)⟩;simp[execOp,resolve,aF,bA,invoke,builtin,Builtin.len_,eF,bV,Q0 hu,goInt]
     .rename_i m aY;rw[aY] at hx;split at h
      .rename_i es clock wr aE;simp at h;obtain⟨rfl,rfl⟩:=h;obtain⟨p,entries,bV,hp,aC,aD⟩:=Jv hH aE hx;refine⟨rfl,.int .i64 es.length,.int _ _,λw' hl=>?_⟩;have h1:=Qt (P:=P) (w':=w') (r:=p.blk) (by rw[hl.blk m p hp];exact aC) (λ_ _ _ e=>by cases e);have h2:entries.size=es.length:=by have:=aD.1;simpa using this
       simp[execOp,resolve,aF,bA,invoke,builtin,Builtin.len_,eF,bV,Q0 hu,goInt,h1,h2]
      .cases h
     .cases h
    .cases hc
   .cases hc
  .split at hc
   .split at hc
    .rename_i kt e hu;cases hk:RM P kt with
     |none=>simp[hk] at hc
     |some mk=>simp[hk] at hc;subst hc;cases hq
    .cases hc
   .cases hc
  .split at hc
   .split at hc
    .rename_i e hu;cases hi:P.info? e with
     |none=>simp[hi] at hc
     |some inf=>simp[hi] at hc;subst hc;cases hq
    .cases hc
   .cases hc
  .split at hc
   .split at hc
    .rename_i e hu;cases hz:zeroOf P e with
     |none=>simp[hz] at hc
     |some z=>simp[hz] at hc;obtain⟨_,rfl⟩:=hc;cases hq
    .cases hc
   .cases hc
  .rename_i aF;split at hc
   .rename_i x cD;simp at hc;subst hc;have bA:c.args=#[x]:=Array.ext' (by simpa using cD);have hx:VRel ρ U.n (Q6 env x) (ev x):=hE x (by simpa [Call.operands,aF,bA] using al);simp only[QT] at h;split at h
    .rename_i aY;rw[aY] at hx;obtain bV:=hx.q1a;simp at h;obtain⟨rfl,rfl⟩:=h;refine⟨rfl,Qh (c:=.pointer none) (λw'=>?_) .nilPtr⟩;simp[execOp,resolve,aF,bA,invoke,builtin,bV,Go.Lib.run_unsafeSliceData_nil]
    .rename_i i o n cap aY;rw[aY] at hx;split at h
     .rename_i bL;simp at h;obtain⟨rfl,rfl⟩:=h;obtain⟨bL,hs⟩:=bL;obtain⟨blk,aC⟩:=Option.isSome_iff_exists.1 hs;obtain⟨p,hp,_⟩:=hH.live _ _ aC;obtain⟨a,ao,bV,aQ,aU⟩:=hx.q1d;obtain⟨h1,_,⟨oT,_⟩|⟨o',rfl,_,ho⟩⟩:=aU p hp
      .omega
      have dC:o'=o:=ho.resolve_right (λhh=>bL hh.2);subst dC;refine⟨rfl,.pointer (some ⟨p.blk,p.shift+o',none⟩),.ptr _ _ _ aQ (by simp_all),λw' _=>?_⟩;simp[execOp,resolve,aF,bA,invoke,builtin,bV,Go.Lib.run_unsafeSliceData_row w' _ _ _ n ao (by omega)]
     .cases h
    .cases h
   .cases hc
  .split at hc
   .split at hc
    .split at hc
     .simp at hc;subst hc;cases hq
     .cases hc
    .cases hc
   .cases hc
  .cases hc
 all_goals cases hc
theorem getElem?_modify_list {α:Type}(l:List α) (j:Nat) (f:α->α) (k:Nat):(l.modify j f)[k]?=if j=k then (l[k]?).map f else l[k]?:=by
 grind
theorem N9 {n:Nat}{E:List MapEntry}{es:List ZZ}(h:LERel ρ n E es) (j:Nat) (f:MapEntry->MapEntry) (kv:ZZ) (hf:∀ e,E[j]?=some e->Q4a ρ n (f e) kv):LERel ρ n (E.modify j f) (es.set j kv):=by
 refine⟨by simp[h.1],λk e tk he d_=>?_⟩;rw[getElem?_modify_list] at he;rw[xE] at d_;by_cases eA:j=k
 .grind
 .simp only[eA,if_false] at he d_;exact h.2 k e tk he d_
theorem MO {n:Nat}{E:List MapEntry}{es:List ZZ}(h:LERel ρ n E es) {e:MapEntry}{kv:ZZ}(he:Q4a ρ n e kv):LERel ρ n (E++[e]) (es++[kv]):=by
 refine⟨by simp[h.1],λk a b ha hb=>?_⟩;have hl:=h.1;rw[List.getElem?_append] at ha hb;split at ha<;>split at hb<;>try omega
 .exact h.2 k a b ha hb
 grind
theorem Rp {γ:Sort _}(f:Option Addr->Value->γ) (g:Array Value->γ) (p:Option Addr) (l:Value):Builtin.unsafeString_.match_3 (motive:=λ_=>γ) #[.pointer p,l] f g=f p l:=rfl
theorem T6 (ts:Array TypeId) (ty pt:TypeId) (h0:ts[0]?=some pt) (p:Option Addr) (w:World):(Builtin.unsafeString_ ts ty #[.pointer p,.int .i64 0]).run P w=.ok (.string .empty) w:=by
 have jP:IntKind.i64.max=9223372036854775807:=rfl;cases p with
 |none =>delta Builtin.unsafeString_;rw[Rp];simp[asInt,asIntOf,jP,h0]
 |some a =>delta Builtin.unsafeString_;rw[Rp];simp[asInt,asIntOf,jP,h0]
theorem RQ:∀ (ns:List Int) (a:Addr) (acc:ByteArray) (w:World),(∀ j n,ns[j]?=some n->w.cell? (a.add j)=some (.int .u8 n)) ->
  (loadBytes a acc ns.length).run P w=.ok ⟨acc.data++(ns.map λn=>n.toNat.toUInt8).toArray⟩ w
 |[],a,acc,w,_=>by simp[loadBytes]
 |n::ns,a,acc,w,h=>by
  have h0:w.cell? a=some (.int .u8 n):=by have:=h 0 n rfl;simpa [Addr.add] using this
  have ih:=RQ ns (a.add 1) (acc.push n.toNat.toUInt8) w (λj y hy=>by
   have:=h (j+1) y (by simpa using hy);have e:(a.add 1).add j=a.add (j+1):=by
    unfold Addr.add
    grind
   rw[e];exact this)
  simp only[xj,loadBytes,zy,run_load,h0,Result.andThen];simp_all
theorem TN {e:TypeId}(hc:P.cellsOf e=1) (count off n:Nat) (hn:off+n<=count):liesAt P P.depth e count off e n=true:=by have hd:P.depth=(2*(P.types.size+Made.depth)+1)+1:=rfl;rw[hd];simp only[liesAt,zt];left;rw[hd];simp[rowAt,hc,hn,sameLayout,Nat.mod_one]
theorem OC (ts:Array TypeId) (ty pt e:TypeId) (h0:ts[0]?=some pt) (hp:P.underlying pt=some (.pointer e)) (hc:P.cellsOf e=1) (a:Addr) (cells:Nat) (w:World) (ek:w.shape? a.block=some (e,cells)) (ns:List Int) (k:Int) (hk:0<k) (pR:ns.length=k.toNat) (hn:a.off+ns.length<=cells)
  (vn:k<=2 ^ 62) (a8:∀ j n,ns[j]?=some n->w.cell? (a.add j)=some (.int .u8 n)) :
  (Builtin.unsafeString_ ts ty #[.pointer (some a),.int .i64 k]).run P w=.ok (.string ⟨(ns.map λn=>n.toNat.toUInt8).toArray⟩) (w.freeze a k.toNat):=by
 have jP:IntKind.i64.max=9223372036854775807:=rfl;have vp:(2:Int) ^ 62=4611686018427387904:=by decide
 have oW:=RQ (P:=P) ns a .empty w a8;have ke:=TN (P:=P) hc (cells / P.cellsOf e) a.off ns.length (by rw[hc];simpa using hn);have h1:¬ k<0:=by omega
 have h2:¬ (9223372036854775807:Int)<k:=by omega
 have h3:¬ k=0:=by omega
 rw[<-pR];rw[pR] at oW ke;delta Builtin.unsafeString_;rw[Rp];simp[asInt,asIntOf,jP,h0,h1,h2,h3,variablesAt,ek,elemOf,Q0 hp,ke,oW,pR]
theorem HRel.freeze (hH:HRel ρ U w) {i:Nat}{p:Pl}{c:List Value}{e:El}{tight:Bool}(hp:ρ i=some p) (hb:U.get i=some (.cells c e true tight)) (off n:Nat) :
  HRel ρ (U.upd i (.cells c e false tight)) (w.freeze ⟨p.blk,off,none⟩ n)/\Ext ρ U w ρ (U.upd i (.cells c e false tight)) (w.freeze ⟨p.blk,off,none⟩ n):=by
 have hi:=U.lt hb;obtain⟨p',bw,hB⟩:=hH.live i _ hb;obtain rfl:p=p':=osj (hp.symm.trans bw);obtain⟨h1,h2,h3,⟨C,e',f,h4,jj⟩,h5,h6⟩:=hB;have ck:∀ k,k≠p.blk->(w.freeze ⟨p.blk,off,none⟩ n).heap[k]?=w.heap[k]?:=λk hk=>by
  unfold World.freeze
  grind
 have az:(w.freeze ⟨p.blk,off,none⟩ n).heap.size=w.heap.size:=by
  unfold World.freeze;split
  .rfl
  .simp
 obtain⟨f',ft⟩:∃ f',(w.freeze ⟨p.blk,off,none⟩ n).heap[p.blk]?=some (.cells C e' f'):=by
  unfold World.freeze
  grind
 have a8:∀ o,(w.freeze ⟨p.blk,off,none⟩ n).cell? ⟨p.blk,o,none⟩=w.cell? ⟨p.blk,o,none⟩:=λo=>by simp[World.cell?,ft,h4]
 have pS:(w.freeze ⟨p.blk,off,none⟩ n).os=w.os/\(w.freeze ⟨p.blk,off,none⟩ n).tape=w.tape/\(w.freeze ⟨p.blk,off,none⟩ n).output=w.output:=by unfold World.freeze;split<;>exact⟨rfl,rfl,rfl⟩
 have hE:Ext ρ U w ρ (U.upd i (.cells c e false tight)) (w.freeze ⟨p.blk,off,none⟩ n):=by
  .refine⟨pS.1,pS.2.1,pS.2.2,by rw[az];exact zd _,λB hB hW=>ck B (λe=>hW ⟨i,p,_,hp,hb,rfl,e.symm⟩),?_,zd _,λ_ _ _ h=>h⟩;rintro B _ ⟨j,q,b,hq,bO,hw,rfl⟩;by_cases aL:j=i
   .subst aL;exact⟨j,q,_,hq,hb,rfl,rfl⟩
   .rw[Heap.q0b _ _ aL] at bO;exact⟨j,q,b,hq,bO,hw,rfl⟩
 refine⟨hH.ext ⟨λj b hj=>?_,λj hj=>?_,λj q hq=>by rw[az];exact hH.lt j q hq,λj k q r b eA hq hr bD hw hx=>?_⟩ hE,hE⟩
 .by_cases aL:j=i
  .subst aL;rw[Heap.q0d _ _ hi] at hj;obtain rfl:=osj hj;exact⟨p,hp,h1,h2,h3,⟨C,e',f',ft,jj⟩,(by simp_all),λh=>by cases h⟩
  .rw[Heap.q0b _ _ aL] at hj;obtain⟨q,hq,eN⟩:=hH.live j b hj;exact⟨q,hq,eN.other (zd _) (λ_ _ _ h=>h) p.blk C e' f h4 (λhx=>hH.sep i j p q _ (Ne.symm aL) hp hq hb rfl hx) ⟨C,f',ft,zd _⟩ (λk hk _=>ck k hk) (hH.lt j q hq)⟩
 .by_cases aL:j=i
  .grind [Heap.q0d]
  .rw[Heap.q0b _ _ aL] at hj;exact hH.dead j hj
 .by_cases aL:j=i
  .subst aL;rw[Heap.q0d _ _ hi] at bD;obtain rfl:=osj bD;cases hw
  .rw[Heap.q0b _ _ aL] at bD;exact hH.sep j k q r b eA hq hr bD hw hx
theorem HRel.freezeOut (hH:HRel ρ U w) {i:Nat}{p:Pl}{c:List Value}{e:El}{tight:Bool}(hp:ρ i=some p) (hb:U.get i=some (.cells c e true tight)) {C:Array Value}{e':TypeId}{f:Nat×Nat}(hC:w.heap[p.blk]?=some (.cells C e' f)) (hf:f.1=f.2) :
  HRel ρ U (w.freeze ⟨p.blk,C.size,none⟩ 1)/\Ext ρ U w ρ U (w.freeze ⟨p.blk,C.size,none⟩ 1):=by
 have ck:∀ k,k≠p.blk->(w.freeze ⟨p.blk,C.size,none⟩ 1).heap[k]?=w.heap[k]?:=λk hk=>by
  unfold World.freeze
  grind
 have az:(w.freeze ⟨p.blk,C.size,none⟩ 1).heap.size=w.heap.size:=by unfold World.freeze;rw[z7 (by omega)];simp
 have ft:(w.freeze ⟨p.blk,C.size,none⟩ 1).heap[p.blk]?=some (.cells C e' (C.size,C.size+1)):=by
  unfold World.freeze
  grind
 have a8:∀ o,(w.freeze ⟨p.blk,C.size,none⟩ 1).cell? ⟨p.blk,o,none⟩=w.cell? ⟨p.blk,o,none⟩:=λo=>by simp[World.cell?,ft,hC]
 have hE:Ext ρ U w ρ U (w.freeze ⟨p.blk,C.size,none⟩ 1):=by refine⟨?_,?_,?_,by rw[az];exact zd _,λB hB hW=>ck B (λe=>hW ⟨i,p,_,hp,hb,rfl,e.symm⟩),λ_ _ h=>h,zd _,λ_ _ _ h=>h⟩<;>(unfold World.freeze;rw[z7 (by omega)])
 refine⟨hH.ext ⟨λj b hj=>?_,hH.dead,λj q hq=>by rw[az];exact hH.lt j q hq,hH.sep⟩ hE,hE⟩;obtain⟨q,hq,eN⟩:=hH.live j b hj;refine⟨q,hq,?_⟩;by_cases hk:q.blk=p.blk
 .cases b with
  |cells c0 e0 tl t0 =>
   obtain⟨h1,h2,h3,⟨C0,e1,f1,h4,h5⟩,h6,h7⟩:=eN;rw[hk,hC] at h4;obtain⟨rfl,rfl,rfl⟩:=(by simpa using h4:C=C0/\e'=e1/\f=f1);refine⟨h1,h2,h3,(by simp_all),λk v hv=>?_,λhw=>⟨(h7 hw).1,λk mS=>?_⟩⟩
   .rw[hk,a8,<-hk];exact h6 k v hv
   .unfold World.frozen?
    grind
  |obj o tl =>obtain⟨_,O,h4,h5⟩:=eN;rw[hk,hC] at h4;obtain rfl:=osj h4;exact absurd h5 ORel.q1x
 .exact eN.mono (zd _) (λ_ _ _ h=>h) (ck _ hk)
theorem LO (hH:HRel ρ U w) {s:ByteArray}{st d e:TypeId}(hs:P.underlying st=some .string) (hd:P.underlying d=some (.slice e)) (he:P.underlying e=some (.int .u8)) {s0:Sem Next}(h0:s0=(do let v <-convert st d (.string s);pure (.value v))) :
  R8 P ρ U w (.slice (some ⟨U.n,0,none⟩) s.size s.size) (U.push (.cells (s.data.toList.map λb=>.int .u8 b.toNat) ⟨1,e⟩ true false)) s0:=by
 obtain⟨cap,bL⟩:∃ cap,cap=(Question.appendCap s.size 0 e).cut (w.tape w.drawn (.appendCap s.size 0 e)):=⟨_,rfl⟩;have hle:s.size<=cap:=by rw[bL];simp[Question.cut]
 let C:Array Value:=(s.data.map λb=>Value.int .u8 b.toNat)++Array.replicate (cap-s.size) (.int .u8 0);have pP:C.size=cap:=by have:s.data.size=s.size:=rfl;simp[C,this];omega
 have nc:=hH.drew;have aD:LRel ρ U.n (s.data.toList.map λb=>Value.int .u8 b.toNat) (C.toList.take (s.data.toList.map λb=>Value.int .u8 b.toNat).length):=by
  have:C.toList.take (s.data.toList.map λb=>Value.int .u8 b.toNat).length=s.data.toList.map λb=>Value.int .u8 b.toNat:=by simp[C]
  rw[this];exact Jf (zf.2 λx hx=>by obtain⟨b,_,rfl⟩:=x7.1 hx;rfl)
 obtain⟨ρ',h1,h2,h3⟩:=nc.alloc (s.data.toList.map λb=>Value.int .u8 b.toNat) C e ⟨1,e⟩ false rfl aD (by
  simp_all)
 have aC:(w.drew.alloc (.cells C e)).heap[w.drew.heap.size]?=some (.cells C e (0,0)):=by show (w.drew.heap.push _)[w.drew.heap.size]?=_;rw[Array.getElem?_push_size]
 obtain⟨h4,h5⟩:=h2.freezeOut (i:=U.n) h1 (Heap.q0a _ _) aC rfl;refine⟨.slice (some ⟨w.heap.size,0,none⟩) s.size cap,_,ρ',.inl ?_,.sl _ _ _ _ _ _ (by simp) (λp hp=>?_),h4,((Ext.drew ρ U w).trans h3).trans h5⟩
 .subst h0;have ek:(w.drew.alloc (.cells C e)).shape? w.drew.heap.size=some (e,C.size):=by
   unfold World.shape?;rw[aC]
  have hq:(Question.appendCap s.size 0 e).forced=false:=rfl;have rK:w.drew.heap.size=w.heap.size:=rfl;simp only[convert,zy,Q0 hs,Q0 hd,Q0 he,zi,Conv.stringToBytes,run_choose_drew,hq,zz,if_false,<-bL,newRow,run_newObj_alloc,xg,markStringish,run_shape,rK];rw[rK] at ek;have pT:(w.drew.alloc (.cells ((s.data.map λb=>Value.int .u8 b.toNat)++Array.replicate (cap-s.size) (.int .u8 0)) e)).shape? w.heap.size=some (e,C.size):=ek;rw[pT];rfl
 simp_all
set_option maxHeartbeats 1000000 in
theorem PG {k nv:Value}{c:Nat}:∀ {es:List ZZ}{e:ZZ},Qv k es=some e->∃ j,es[j]?=some e/\QC k nv c es=(es.set j (k,nv,e.2.2),c)/\Gm k es=es.eraseIdx j
 |[],e,h=>by cases h
 |a::es,e,h=>by
  simp only[Qv] at h;split at h
  .rename_i he;obtain rfl:=osj h;exact⟨0,rfl,by simp[QC,he],by simp[Gm,he]⟩
  .rename_i he;obtain⟨j,h1,h2,h3⟩:=PG (nv:=nv) (c:=c) h;exact⟨j+1,by simpa using h1,by simp[QC,he,h2],by simp[Gm,he,h3]⟩
theorem BI {k:Value}:∀ {es:List ZZ},Qv k es=none->Gm k es=es
 |[],_=>rfl
 |a::es,h=>by
  simp only[Qv] at h;split at h
  .cases h
  .rename_i he;simp[Gm,he,BI h]
def Q4q:Value->Nat
 |.int _ n=>n.natAbs
 |_=>0
theorem Ad {e:ZZ}:∀ {es:List ZZ},e∈es->Q4q e.2.1<=(es.map λx=>Q4q x.2.1).sum
 |a::es,h=>by
  rw[zS,List.sum_cons];rcases zD.1 h with rfl|h
  .omega
  .have:=Ad h;omega
theorem EY (es:List ZZ):∃ nv:Value,∀ e∈es,e.2.1≠nv :=
 ⟨.int .i64 ((es.map λx=>Q4q x.2.1).sum+1:Nat),λe he h=>by
  have h1:=Ad he;rw[h] at h1;simp only[Q4q] at h1;omega⟩
theorem Q0z {es:List ZZ}{i j:Nat}{x y:ZZ}(hi:i<es.length) (_hj:j<es.length) (h:es.set i x=es.set j y) (hx:∀ e∈es,e.2.1≠x.2.1):i=j:=by
 grind [List.getElem?_set_self,List.getElem?_set_ne,List.getElem?_eq_getElem,osj,List.getElem_mem]
theorem LB {n:Nat}{E:List MapEntry}{es:List ZZ}(h:LERel ρ n E es) (j:Nat):LERel ρ n (E.eraseIdx j) (es.eraseIdx j):=by
 refine⟨by rw[List.length_eraseIdx,List.length_eraseIdx,h.1],λk e kv he d_=>?_⟩;rw[List.getElem?_eraseIdx] at he d_;split at he
 .rename_i ai;rw[z6 ai] at d_;exact h.2 _ _ _ he d_
 .rename_i ai;rw[z7 ai] at d_;exact h.2 _ _ _ he d_
theorem Cm {o:Oper}{xo:XOp}(hc:HZ P o.op = some xo) (hq:xo.quiet = false) (hH:HRel ρ U w) (hE:∀ x, Ji x = true -> VRel ρ U.n (Q6 env x) (ev x))
    (h:QT xo (Q6 env) U = some (v, U')):R8 P ρ U w v U' (execOp ev o):=by
  obtain ⟨dst, op, ty, pos, after, guard⟩:=o;simp only at hc;unfold HZ at hc;split at hc
  . cases hc
  rename_i al;simp only [x5, zV] at al;cases op <;> simp only [Op.operands] at al hc
  case binOp jE t x y yt =>
    have nA:∀ neg, Pe P neg t x y = some xo -> False:=λneg hx => by
      unfold Pe at hx;split at hx
      . cases hx
      . obtain ⟨s, _, rfl⟩:=zk.1 hx; cases hq
    split at hc <;> first
      | exact (nA _ hc).elim
      | (simp at hc; subst hc; cases hq; done)
      | (rename_i e hu
         cases hi:P.info? e with
         | none => simp [hi] at hc
         | some i => simp [hi] at hc; obtain ⟨_, rfl⟩:=hc; cases hq)
      | cases hc
  case makeMap t r =>
    cases r with
    | some _ => cases hc
    | none =>
      simp at hc; subst hc;simp [QT] at h;obtain ⟨rfl, rfl⟩:=h;obtain ⟨ρ', h1, h2, h3⟩:=hH.newObj (.map [] 0) (.map #[] 0) (ORel.q0t.2 ⟨#[], rfl, rfl, λk e kv he => by simp at he⟩);refine ⟨.map (some w.heap.size), _, ρ', .inl ?_, .map _ _ (by simp) (λp hp => ?_), h2, h3⟩
      . simp [execOp, Instr.makeMap]
      . simp_all
  case lookup t x i jO =>
    split at hc
    . rename_i kt e hu
      cases hk:RM P kt with
      | none => simp [hk] at hc
      | some mk =>
        cases bU:P.info? e with
        | none => simp [hk, bU] at hc
        | some inf =>
          cases hz:inf.zero with
          | none => simp [hk, bU, hz] at hc
          | some z => simp [hk, bU, hz] at hc; obtain ⟨_, rfl⟩:=hc; cases hq
    . cases hc
  case mapUpdate t m k x =>
    simp at al;have hm:=hE m al.1;have fQ:=hE k al.2.1;have hx:=hE x al.2.2;split at hc
    . rename_i kt e hu
      cases hk:RM P kt with
      | none => simp [hk] at hc
      | some mk =>
        simp [hk] at hc; subst hc;obtain ⟨d, hd, eg⟩:=Vn hk;simp only [QT] at h;split at h
        . rename_i i jt
          rw [jt] at hm;split at h
          . rename_i es clock aE
            split at h
            . rename_i aj
              simp only [z1] at aj;obtain ⟨bG, hall⟩:=aj;simp at h; obtain ⟨rfl, rfl⟩:=h;obtain ⟨p, entries, fb, hp, aC, aD⟩:=Jv hH aE hm;have fc:ev k = Q6 env k:=DY bG fQ;have bm:(getObj p.blk).run P w = .ok (.map entries clock) w:=(by grind [Qt]);have bn:∀ O', (setObj p.blk O').run P w = .ok () (Da w p.blk O'):=(by grind [Qw]);rcases Ww hd eg bG (Q6 env x) clock es entries.toList aD hall with ⟨h1, h2, h3⟩ | ⟨j, a, a', h1, h2, h3, h4, h5, h6⟩
              . rw [h3]
                obtain ⟨k1, k2⟩:=hH.setObj (i:=i) (p:=p) hp (JB aE) (o':=.map (es ++ [(Q6 env k, Q6 env x, clock)]) (clock + 1))
                  (O':=.map (entries.push { key:=ev k, val:=ev x, born:=clock }) (clock + 1)) (ORel.q0t.2 ⟨_, rfl, by
                    rw [Array.toList_push];exact MO aD ⟨fc, rfl, hx⟩⟩)
                refine ⟨undef, _, ρ, .inr ⟨?_, rfl⟩, ZV, k1, k2⟩;simp only [execOp];simp only [Instr.mapUpdate, zy, Q0 hu, zi, fb, bm, fc, Z7 hd eg bG];simp_all
              . rw [h6]
                have iF:((entries[j]?).map (·.key)).getD (Q6 env k) = a.1:=by
                  rw [<- Array.getElem?_toList, h3];simp [(aD.2 j a' a h3 h2).1]
                have fv:Za mk a.1 = true:=(by grind)
                obtain ⟨k1, k2⟩:=hH.setObj (i:=i) (p:=p) hp (JB aE) (o':=.map (es.set j (Q6 env k, Q6 env x, a.2.2)) clock)
                  (O':=.map (entries.modify (0 + j) λe => { e with key:=Q6 env k, val:=ev x }) clock) (ORel.q0t.2 ⟨_, rfl, by
                    rw [Array.toList_modify, zQ];exact N9 aD j _ _ (λe he => by
                      obtain rfl:a' = e:=osj (h3.symm.trans he);exact ⟨rfl, (aD.2 j a' a h3 h2).2.1, hx⟩)⟩)
                refine ⟨undef, _, ρ, .inr ⟨?_, rfl⟩, ZV, k1, k2⟩;simp only [execOp];simp only [Instr.mapUpdate, zy, Q0 hu, zi, fb, bm, fc, Z7 hd eg bG];rw [h4];simp only [zi, zy, zQ, iF];have bK:(Instr.keyThatStays a.1 (Q6 env k)).run P w = .ok (Q6 env k) w:=by unfold Instr.keyThatStays;rw [z6 (N2 bG fv h5)];rfl
                simp_all
            . cases h
          . cases h
        . cases h
    . cases hc
  case insert t m k x =>
    simp at al;have hm:=hE m al.1;have fQ:=hE k al.2.1;have hx:=hE x al.2.2;split at hc
    . rename_i kt e hu
      cases hk:RM P kt with
      | none => simp [hk] at hc
      | some mk =>
        simp [hk] at hc; subst hc;obtain ⟨d, hd, eg⟩:=Vn hk;simp only [QT] at h;split at h
        . rename_i i jt
          rw [jt] at hm;split at h
          . rename_i es clock aE
            split at h
            . rename_i aj
              simp only [z1] at aj;obtain ⟨bG, hall⟩:=aj;simp at h; obtain ⟨rfl, rfl⟩:=h;obtain ⟨p, entries, fb, hp, aC, aD⟩:=Jv hH aE hm;have fc:ev k = Q6 env k:=DY bG fQ;have bm:(getObj p.blk).run P w = .ok (.map entries clock) w:=(by grind [Qt]);have bn:∀ O', (setObj p.blk O').run P w = .ok () (Da w p.blk O'):=(by grind [Qw]);rcases Ww hd eg bG (Q6 env x) clock es entries.toList aD hall with ⟨h1, h2, h3⟩ | ⟨j, a, a', h1, h2, h3, h4, h5, h6⟩
              . rw [h3]
                obtain ⟨k1, k2⟩:=hH.setObj (i:=i) (p:=p) hp (JB aE) (o':=.map (es ++ [(Q6 env k, Q6 env x, clock)]) (clock + 1))
                  (O':=.map (entries.push { key:=ev k, val:=ev x, born:=clock }) (clock + 1)) (ORel.q0t.2 ⟨_, rfl, by
                    rw [Array.toList_push];exact MO aD ⟨fc, rfl, hx⟩⟩)
                refine ⟨undef, _, ρ, .inr ⟨?_, rfl⟩, ZV, k1, k2⟩;simp only [execOp];simp only [Instr.mapUpdate, zy, Q0 hu, zi, fb, bm, fc, Z7 hd eg bG];simp_all
              . rw [h6]
                have iF:((entries[j]?).map (·.key)).getD (Q6 env k) = a.1:=by
                  rw [<- Array.getElem?_toList, h3];simp [(aD.2 j a' a h3 h2).1]
                have fv:Za mk a.1 = true:=(by grind)
                obtain ⟨k1, k2⟩:=hH.setObj (i:=i) (p:=p) hp (JB aE) (o':=.map (es.set j (Q6 env k, Q6 env x, a.2.2)) clock)
                  (O':=.map (entries.modify (0 + j) λe => { e with key:=Q6 env k, val:=ev x }) clock) (ORel.q0t.2 ⟨_, rfl, by
                    rw [Array.toList_modify, zQ];exact N9 aD j _ _ (λe he => by
                      obtain rfl:a' = e:=osj (h3.symm.trans he);exact ⟨rfl, (aD.2 j a' a h3 h2).2.1, hx⟩)⟩)
                refine ⟨undef, _, ρ, .inr ⟨?_, rfl⟩, ZV, k1, k2⟩;simp only [execOp];simp only [Instr.mapUpdate, zy, Q0 hu, zi, fb, bm, fc, Z7 hd eg bG];rw [h4];simp only [zi, zy, zQ, iF];have bK:(Instr.keyThatStays a.1 (Q6 env k)).run P w = .ok (Q6 env k) w:=by unfold Instr.keyThatStays;rw [z6 (N2 bG fv h5)];rfl
                simp_all
            . cases h
          . cases h
        . cases h
    . cases hc
  case mapEntry t m k =>
    simp at al;have hm:=hE m al.1;have fQ:=hE k al.2;split at hc
    . rename_i kt e hu
      cases hk:RM P kt with
      | none => simp [hk] at hc
      | some mk =>
      cases bU:P.info? e with
      | none => simp [hk, bU] at hc
      | some inf =>
      cases hz:inf.zero with
      | none => simp [hk, bU, hz] at hc
      | some z =>
        simp [hk, bU, hz] at hc;obtain ⟨lh, rfl⟩:=hc;obtain ⟨d, hd, eg⟩:=Vn hk;have ld:∀ w', (zeroValue e).run P w' = .ok z w':=λw' => QP bU hz w';have dR:VRel ρ U.n z z:=YK lh;simp only [QT] at h;split at h
        . rename_i i jt
          rw [jt] at hm;split at h
          . rename_i es clock aE
            split at h
            . rename_i aj
              simp only [z1] at aj;obtain ⟨bG, hall⟩:=aj;obtain ⟨p, entries, fb, hp, aC, aD⟩:=Jv hH aE hm;have fc:ev k = Q6 env k:=DY bG fQ;have bm:(getObj p.blk).run P w = .ok (.map entries clock) w:=(by grind [Qt]);have bn:∀ O', (setObj p.blk O').run P w = .ok () (Da w p.blk O'):=(by grind [Qw]);split at h
              . rename_i e0 hf
                simp at h; obtain ⟨rfl, rfl⟩:=h;rcases Ww hd eg bG e0.2.1 clock es entries.toList aD hall with ⟨h1, h2, h3⟩ | ⟨j, a, a', h1, h2, h3, h4, h5, h6⟩
                . rw [hf] at h1; cases h1
                . obtain rfl:e0 = a:=by rw [hf] at h1; exact osj h1
                  rw [h6];have pU:entries[j]? = some a':=by simp_all
                  have iF:((entries[j]?).map (·.key)).getD (Q6 env k) = e0.1:=by
                    rw [pU]; simp [(aD.2 j a' e0 h3 h2).1]
                  have pV:((entries[j]?).map λx => (x.born:Int)).getD 0 = (e0.2.2:Int):=by rw [pU]; simp [(aD.2 j a' e0 h3 h2).2.1]
                  have fv:Za mk e0.1 = true:=(by grind);have m_:=(aD.2 j a' e0 h3 h2).2.2
                  obtain ⟨k1, k2⟩:=hH.setObj (i:=i) (p:=p) hp (JB aE) (o':=.map (es.set j (Q6 env k, e0.2.1, e0.2.2)) clock)
                    (O':=.map (entries.modify (0 + j) λe => { e with key:=Q6 env k }) clock) (ORel.q0t.2 ⟨_, rfl, by
                      rw [Array.toList_modify, zQ];exact N9 aD j _ _ (λe he => by
                        obtain rfl:a' = e:=osj (h3.symm.trans he);exact ⟨rfl, (aD.2 j a' e0 h3 h2).2.1, m_⟩)⟩)
                  refine ⟨.tuple #[a'.val, .int .i64 e0.2.2], _, ρ, .inl ?_, VRel.q0j (LRel.cons m_ (LRel.cons (.int _ _) (LRel.nil _ _))), k1, k2⟩;simp only [execOp];simp only [Instr.mapEntry, zy, Q0 hu, zi, fb, bm, fc, Z7 hd eg bG];rw [h4];simp only [zi, zy, zQ, iF, pV];have bK:(Instr.keyThatStays e0.1 (Q6 env k)).run P w = .ok (Q6 env k) w:=by unfold Instr.keyThatStays;rw [z6 (N2 bG fv h5)];rfl
                  rw [bK];simp only [zi, bn, xg];rfl
              . rename_i hf
                simp at h; obtain ⟨rfl, rfl⟩:=h;rcases Ww hd eg bG z clock es entries.toList aD hall with ⟨h1, h2, h3⟩ | ⟨j, a, a', h1, h2, h3, h4, h5, h6⟩
                . rw [h3]
                  obtain ⟨k1, k2⟩:=hH.setObj (i:=i) (p:=p) hp (JB aE) (o':=.map (es ++ [(Q6 env k, z, clock)]) (clock + 1))
                    (O':=.map (entries.push { key:=Q6 env k, val:=z, born:=clock }) (clock + 1)) (ORel.q0t.2 ⟨_, rfl, by
                      rw [Array.toList_push];exact MO aD ⟨rfl, rfl, dR⟩⟩)
                  refine ⟨.tuple #[z, .int .i64 clock], _, ρ, .inl ?_, VRel.q0j (LRel.cons dR (LRel.cons (.int _ _) (LRel.nil _ _))), k1, k2⟩;simp only [execOp];simp only [Instr.mapEntry, zy, Q0 hu, zi, fb, bm, fc, Z7 hd eg bG];rw [h2];simp only [zi, zy, ld, bn, xg];rfl
                . rw [hf] at h1; cases h1
            . cases h
          . cases h
        . cases h
    . cases hc
  case entryStore t m s x =>
    simp at al;have hm:=hE m al.1;have hs:=hE s al.2.1;have hx:=hE x al.2.2;simp at hc; subst hc;simp only [QT] at h;split at h
    . rename_i i n jt pW
      rw [jt] at hm;rw [pW] at hs;split at h
      . rename_i es clock aE
        split at h
        . rename_i j kY
          split at h
          . rename_i e0 mD
            simp at h; obtain ⟨rfl, rfl⟩:=h;obtain ⟨p, entries, fb, hp, aC, aD⟩:=Jv hH aE hm;have ng:ev s = .int .i64 n:=XK rfl hs;have bm:(getObj p.blk).run P w = .ok (.map entries clock) w:=(by grind [Qt]);have bn:∀ O', (setObj p.blk O').run P w = .ok () (Da w p.blk O'):=(by grind [Qw]);have nh:entries.toList.map (λx => (x.born:Int)) = es.map (λe => (e.2.2:Int)):=by
              refine zN λq => ?_;rw [xp, xp];cases h1:entries.toList[q]? with
              | none =>
                have:es[q]? = none:=by rw [List.getElem?_eq_none_iff] at h1 |-; rw [<- aD.1]; exact h1
                rw [this]; rfl
              | some a =>
                cases h2:es[q]? with
                | none => rw [List.getElem?_eq_none_iff, <- aD.1, <- List.getElem?_eq_none_iff, h1] at h2; cases h2
                | some b => simp [(aD.2 q a b h1 h2).2.1]
            have pX:entries.findIdx? (λe => (e.born:Int) == n) = some j:=by
              have e1:entries.toList.findIdx? (λe => (e.born:Int) == n) = (entries.toList.map (λx => (x.born:Int))).findIdx? (λb => b == n):=by rw [List.findIdx?_map]; rfl
              have e2:es.findIdx? (λe => (e.2.2:Int) == n) = (es.map (λe => (e.2.2:Int))).findIdx? (λb => b == n):=by rw [List.findIdx?_map]; rfl
              have e3:entries.findIdx? (λe => (e.born:Int) == n) = entries.toList.findIdx? (λe => (e.born:Int) == n):=by rw [<- List.findIdx?_toArray, Array.toArray_toList]
              rw [e3, e1, nh, <- e2, kY]
            have cQ:j < entries.toList.length:=by rw [aD.1]; grind
            have pU:=z8 cQ
            obtain ⟨k1, k2⟩:=hH.setObj (i:=i) (p:=p) hp (JB aE) (o':=.map (es.set j (e0.1, Q6 env x, e0.2.2)) clock)
              (O':=.map (entries.modify j λe => { e with val:=ev x }) clock) (ORel.q0t.2 ⟨_, rfl, by
                rw [Array.toList_modify];exact N9 aD j _ _ (λe he => by
                  have hr:=aD.2 j e e0 he mD;exact ⟨hr.1, hr.2.1, hx⟩)⟩)
            refine ⟨undef, _, ρ, .inr ⟨?_, rfl⟩, ZV, k1, k2⟩;simp only [execOp];simp only [Instr.entryStore, fb, zy, bm, zi, ng];simp [asInt, asIntOf, pX, bn]
          . cases h
        . cases h
      . cases h
    . cases h
  case range t x =>
    simp at al;have hx:=hE x al;split at hc
    . rename_i kt e hu
      simp at hc; subst hc;simp only [QT] at h;split at h
      . rename_i m aY
        rw [aY] at hx;split at h
        . rename_i es clock wr aE
          simp at h; obtain ⟨rfl, rfl⟩:=h;obtain ⟨p, entries, fb, hp, aC, aD⟩:=Jv hH aE hx;rw [fb] at hx;obtain ⟨ρ', h1, h2, h3⟩:=hH.newObj (.iter m clock [] clock) (.mapIter (some p.blk) clock #[] clock) ⟨p.blk, rfl, hx⟩;have bm:(getObj p.blk).run P w = .ok (.map entries clock) w:=(by grind [Qt]);refine ⟨.pointer (some ⟨w.heap.size, 0, none⟩), _, ρ', .inl ?_, .ptr _ _ _ (by simp) (λq hq => ?_), h2, h3⟩
          . simp [execOp, Instr.range, Q0 hu, fb, bm]
          simp_all
        . cases h
      . cases h
    . rename_i hu
      simp at hc; subst hc;simp only [QT] at h;split at h
      . rename_i s aY
        rw [aY] at hx;simp at h; obtain ⟨rfl, rfl⟩:=h;have aZ:ev x = .string s:=XK rfl hx;obtain ⟨ρ', h1, h2, h3⟩:=hH.newObj (.siter s 0) (.stringIter s 0) rfl;refine ⟨.pointer (some ⟨w.heap.size, 0, none⟩), _, ρ', .inl ?_, .ptr _ _ _ (by simp) (λq hq => ?_), h2, h3⟩
        . simp [execOp, Instr.range, Q0 hu, aZ]
        simp_all
      . cases h
    . cases hc
  case next x b =>
    cases b with
    | false => simp at hc; subst hc; simp [QT] at h
    | true =>
      simp at al hc;subst hc;have hx:=hE x al;simp only [QT] at h;split at h
      . rename_i i aY
        rw [aY] at hx;split at h
        . rename_i s ps hb
          obtain ⟨p, hp, ⟨_, ek⟩, O, hO, rfl⟩:=hH.live i _ hb;obtain ⟨_, _, bV⟩:=hx.q0x hp;rw [ek, zQ] at bV;have bm:(getObj p.blk).run P w = .ok (.stringIter s ps) w:=(by grind [Qt]);have bn:∀ O', (setObj p.blk O').run P w = .ok () (Da w p.blk O'):=(by grind [Qw]);split at h
          . rename_i b pY
            split at h
            . rename_i ai
              simp at h; obtain ⟨rfl, rfl⟩:=h;obtain ⟨eC, tm⟩:=zu.1 pY;have hps':ps < s.size:=eC;have bD:s[ps]'hps' = b:=tm;obtain ⟨k1, k2⟩:=hH.setObj hp hb (o':=.siter s (ps + 1)) (O':=.stringIter s (ps + 1)) rfl;refine ⟨.tuple #[.bool true, .int .i64 ps, .int .i32 b.toNat], _, ρ, .inl ?_, VRel.q0j (LRel.cons (.bool _) (LRel.cons (.int _ _) (LRel.cons (.int _ _) (LRel.nil _ _)))), k1, k2⟩;simp only [execOp, Instr.next, bV, zy, bm, zi, z6 hps', decode_ascii s ps hps' (by rw [bD]; exact ai), bn];simp [goInt, bD]
            . cases h
          . rename_i pY
            simp at h; obtain ⟨rfl, rfl⟩:=h;have hps':¬ ps < s.size:=by have:=List.getElem?_eq_none_iff.1 pY;intro h; have h':ps < s.data.toList.length:=h; omega
            refine ⟨.tuple #[.bool false], w, ρ, .inl ?_, VRel.q0j (LRel.cons (.bool _) (LRel.nil _ _)), hH, Ext.refl _ _ _⟩;simp only [execOp, Instr.next, bV, zy, bm, zi, z7 hps'];simp
        . cases h
      . cases h
  case entry x => simp at hc; subst hc; cases hq
  case convert s d x =>
    split at hc
    . rename_i t hs hd
      cases hi:P.info? t with
      | none => simp [hi] at hc
      | some inf => simp [hi] at hc; obtain ⟨_, rfl⟩:=hc; cases hq
    . rename_i u hs hd
      cases hi:P.info? u with
      | none => simp [hi] at hc
      | some inf => simp [hi] at hc; obtain ⟨_, rfl⟩:=hc; cases hq
    . split at hc
      . simp at hc; subst hc; cases hq
      . cases hc
    . rename_i e hs hd
      split at hc
      . rename_i he
        simp at hc; subst hc;simp only [QT] at h;split at h
        . rename_i s' aY
          split at h
          . simp at h; obtain ⟨rfl, rfl⟩:=h
            have hx:=hE x (by simpa using al);rw [aY] at hx;refine LO hH hs hd he ?_;simp only [execOp, hx.q0r]
          . cases h
        . cases h
      . cases hc
    . cases hc
  case call c =>
    split at hc
    . split at hc
      . split at hc
        . simp at hc; subst hc; cases hq
        . cases hc
      . cases hc
    . rename_i aF
      split at hc
      . rename_i t mm kk eF cD
        split at hc
        . rename_i kt e hu
          cases hk:RM P kt with
          | none => simp [hk] at hc
          | some mk =>
            simp [hk] at hc; subst hc;obtain ⟨d, hd, eg⟩:=Vn hk;have bA:c.args = #[mm, kk]:=Array.ext' (by simpa using cD);have cI:Ji mm = true /\ Ji kk = true:=by simpa [Call.operands, aF, bA] using al
            have hm:=hE mm cI.1;have fQ:=hE kk cI.2;simp only [QT] at h;split at h
            . rename_i i jt
              rw [jt] at hm;split at h
              . rename_i es clock aE
                split at h
                . rename_i aj
                  simp only [z1] at aj;obtain ⟨bG, hall⟩:=aj;simp at h; obtain ⟨rfl, rfl⟩:=h;obtain ⟨p, entries, fb, hp, aC, aD⟩:=Jv hH aE hm;have fc:ev kk = Q6 env kk:=DY bG fQ;have bm:(getObj p.blk).run P w = .ok (.map entries clock) w:=(by grind [Qt]);have bn:∀ O', (setObj p.blk O').run P w = .ok () (Da w p.blk O'):=(by grind [Qw]);obtain ⟨nv, oZ⟩:=EY es;rcases Ww hd eg bG nv clock es entries.toList aD hall with ⟨h1, h2, h3⟩ | ⟨j, a, a', h1, h2, h3, h4, h5, h6⟩
                  . rw [BI h1]
                    obtain ⟨k1, k2⟩:=hH.setObj (i:=i) (p:=p) hp (JB aE) (o':=.map es clock) (O':=.map entries clock) (ORel.q0t.2 ⟨_, rfl, aD⟩);refine ⟨.tuple #[], _, ρ, .inl ?_, VRel.q0j (LRel.nil _ _), k1, k2⟩;simp only [execOp];simp [resolve, aF, bA, invoke, builtin, Builtin.delete_, eF, Q0 hu, fb, bm, fc, Z7 hd eg bG, h2, bn]
                  . obtain ⟨j0, g1, g2, g3⟩:=PG (nv:=nv) (c:=clock) h1
                    have hj:j = j0:=by
                      rw [g2] at h6;have hs:=congrArg (λx:List ZZ × Nat => x.1) h6
                      grind [Q0z, List.getElem?_eq_some_iff]
                    subst hj;rw [g3];obtain ⟨k1, k2⟩:=hH.setObj (i:=i) (p:=p) hp (JB aE) (o':=.map (es.eraseIdx j) clock) (O':=.map (entries.eraseIdxIfInBounds (0 + j)) clock) (ORel.q0t.2 ⟨_, rfl, by
                      have cQ:j < entries.size:=by
                        grind
                      rw [zQ];have e:(entries.eraseIdxIfInBounds j).toList = entries.toList.eraseIdx j:=by simp
                      grind [LB]⟩)
                    refine ⟨.tuple #[], _, ρ, .inl ?_, VRel.q0j (LRel.nil _ _), k1, k2⟩;simp only [execOp];simp [resolve, aF, bA, invoke, builtin, Builtin.delete_, eF, Q0 hu, fb, bm, fc, Z7 hd eg bG, h4, bn]
                . cases h
              . cases h
            . cases h
        . cases hc
      . cases hc
    . rename_i aF
      split at hc
      . rename_i t dd ss eF cD
        split at hc
        . rename_i e hu
          cases hi:P.info? e with
          | none => simp [hi] at hc
          | some inf =>
            simp [hi] at hc; subst hc;have bA:c.args = #[dd, ss]:=Array.ext' (by simpa using cD);have cI:Ji dd = true /\ Ji ss = true:=by simpa [Call.operands, aF, bA] using al
            have hd:=hE dd cI.1;have hs:=hE ss cI.2;simp only [QT] at h;split at h
            . rename_i db dn dc sb sn sc pZ pW
              rw [pZ] at hd; rw [pW] at hs;obtain ⟨da, tn, p6⟩:=hd.q1z;obtain ⟨sa, ni, ng⟩:=hs.q1z;split at h
              . rename_i h0
                simp at h; obtain ⟨rfl, rfl⟩:=h;refine ⟨.int .i64 0, w, ρ, .inl ?_, .int _ _, hH, Ext.refl _ _ _⟩;simp only [execOp];have rL:Nat.min sn dn = 0:=h0;cases sa <;> cases da <;> simp [resolve, aF, bA, invoke, builtin, Builtin.copy_, eF, p6, ng, Q0 hu, Qe hi, Builtin.lenOf, rL, Builtin.firstCells, loadCells, loadCellsFrom, storeCells, goInt]
              . rename_i h0
                split at h
                . rename_i i o xs aZ
                  split at h
                  . rename_i cc e' wr tight hb
                    split at h
                    . rename_i aj
                      obtain ⟨rfl, mT, jL, iC⟩:=aj;simp at h; obtain ⟨rfl, rfl⟩:=h;have a7:VRel ρ U.n (.slice sb (min sn dn) sc) (.slice sa (min sn dn) ni):=by
                        rw [ng] at hs;cases hs with
                        | nilSl => exact absurd (by simp) h0
                        | slx _ _ _ _ _ iG dK => exact .slx _ _ _ _ _ iG dK
                        | sl i2 o2 _ _ a2 _ iG dK =>
                          refine .sl _ _ _ _ _ _ iG λp hp => ?_;obtain ⟨k1, k2, ⟨k0, vq⟩ | ⟨o', k3, k4, k5⟩⟩:=dK p hp
                          . omega
                          exact (by simp_all)
                      obtain ⟨eO, us, dF, _, aO⟩:=Pq hH aZ a7;have hr:=aO w (Like.refl ρ w);have pX:(Builtin.firstCells inf.size (min sn dn) (.slice sa sn ni)).run P w = .ok us.toArray w:=by rw [<- hr]; cases sa <;> rfl
                      obtain ⟨p, hp, hB⟩:=hH.live i _ hb;rw [p6] at hd;obtain ⟨a2, jG, nj, aQ, aU⟩:=hd.q1d;simp at nj;obtain ⟨rfl, rfl⟩:=nj;obtain ⟨_, _, ⟨_, ib⟩ | ⟨o', mE, _, k_⟩⟩:=aU p hp
                      . exact absurd (by rw [ib]; simp) h0
                      have ho:o' = o:=k_.resolve_right (λhh => h0 (by rw [hh.1]; simp));subst ho;obtain ⟨h2, h3⟩:=hH.store hp hb dF (o:=o') (by omega);refine ⟨.int .i64 (min sn dn:Nat), _, ρ, .inl ?_, .int _ _, h2, h3⟩;have oP:us.length = xs.length:=dF.1.symm
                      have bK:=run_storeCells_cells (P:=P) p.blk (p.shift + o') us 0 w
                        (λj hj => by rw [zU, zE]; exact hB.q0w _ (by have:=hB.2.2.1; omega))
                        (λj hj => by rw [zU, zE]; exact (hB.2.2.2.2.2 rfl).2 _ (by have:=hB.2.2.1; omega))
                        (WI iC dF)
                      rw [zU] at bK;have p7:Nat.min sn dn = min sn dn:=rfl;simp only [execOp];simp [resolve, aF, bA, invoke, builtin, Builtin.copy_, eF, p6, ng, Q0 hu, Qe hi, Builtin.lenOf, p7, pX, mE, bK, goInt]
                    . cases h
                  . cases h
                . cases h
            . cases h
        . cases hc
      . cases hc
    . rename_i aF
      split at hc
      . rename_i t x eF cD
        split at hc
        . rename_i e hu
          cases hz:zeroOf P e with
          | none => simp [hz] at hc
          | some z =>
            simp [hz] at hc;obtain ⟨ib, rfl⟩:=hc;obtain ⟨inf, zv, bU, dR, gj, vt, jk⟩:=XB hz;have bA:c.args = #[x]:=Array.ext' (by simpa using cD);have cI:Ji x = true:=by simpa [Call.operands, aF, bA] using al
            have hx:=hE x cI;simp only [QT] at h;split at h
            . rename_i b n cap aY
              rw [aY] at hx;obtain ⟨a, tu, bV⟩:=hx.q1z;split at h
              . rename_i h0
                simp at h; obtain ⟨rfl, rfl⟩:=h;subst h0;refine ⟨.tuple #[], w, ρ, .inl ?_, VRel.q0j (LRel.nil _ _), hH, Ext.refl _ _ _⟩;simp only [execOp];cases a <;> simp [resolve, aF, bA, invoke, builtin, Builtin.clear_, eF, bV, Q0 hu]
              . rename_i h0
                split at h
                . rename_i i o
                  split at h
                  . rename_i cc e' wr tight hb
                    split at h
                    . rename_i aj
                      obtain ⟨rfl, jL, iC⟩:=aj;simp at h; obtain ⟨rfl, rfl⟩:=h;have dF:LRel ρ U.n (Mf n z) (Mf n z):=Jf (Ms n z jk);have dU:=BG n z;have bW:(Mf n z).all cellOk = true:=Ei n z iC;obtain ⟨p, hp, hB⟩:=hH.live i _ hb;rw [bV] at hx;obtain ⟨a2, jG, nj, aQ, aU⟩:=hx.q1d;simp at nj;obtain ⟨rfl, rfl⟩:=nj;obtain ⟨_, _, ⟨_, ib⟩ | ⟨o', mE, _, k_⟩⟩:=aU p hp
                      . exact absurd ib h0
                      have ho:o' = o:=k_.resolve_right (λhh => h0 hh.1);subst ho;obtain ⟨h2, h3⟩:=hH.store hp hb dF (o:=o') (by omega);refine ⟨.tuple #[], _, ρ, .inl ?_, VRel.q0j (LRel.nil _ _), h2, h3⟩
                      have bK:=run_storeCells_cells (P:=P) p.blk (p.shift + o') (Mf n z) 0 w
                        (λj hj => by rw [zU, zE]; exact hB.q0w _ (by have:=hB.2.2.1; omega))
                        (λj hj => by rw [zU, zE]; exact (hB.2.2.2.2.2 rfl).2 _ (by have:=hB.2.2.1; omega))
                        (WI bW dF)
                      rw [zU] at bK;have tv:(Builtin.zeroCells zv.cells n).toList = Mf n z:=by have:=Mp zv.cells z gj (by intro hh; rw [hh] at ib; exact ib rfl) n;simpa [Builtin.zeroCells, <- gj] using this
                      simp only [execOp];obtain ⟨n', rfl⟩:∃ k, n = k + 1:=⟨n - 1, by omega⟩;simp [resolve, aF, bA, invoke, builtin, Builtin.clear_, eF, bV, Q0 hu, QP bU dR, tv, mE, bK]
                    . cases h
                  . cases h
                . cases h
            . cases h
        . cases hc
      . cases hc
    . split at hc
      . simp at hc; subst hc; cases hq
      . cases hc
    . rename_i aF
      split at hc
      . rename_i t x nn eF cD
        split at hc
        . rename_i e hu
          split at hc
          . rename_i pF
            simp at hc; subst hc;have bA:c.args = #[x, nn]:=Array.ext' (by simpa using cD);have cI:Ji x = true /\ Ji nn = true:=by simpa [Call.operands, aF, bA] using al
            have hx:=hE x cI.1;have hn:=hE nn cI.2;simp only [QT] at h;split at h
            . rename_i q k aY aK
              rw [aY] at hx; rw [aK] at hn;have gI:=hn.q0h;split at h
              . rename_i h0
                simp at h; obtain ⟨rfl, rfl⟩:=h;subst h0;refine ⟨.string ⟨#[]⟩, w, ρ, .inl ?_, .string _, hH, Ext.refl _ _ _⟩;have dJ:∃ q', ev x = .pointer q':=by
                  cases q with
                  | none => exact ⟨none, hx.q0q⟩
                  | some a => obtain ⟨b, hb⟩:=hx.q1g; exact ⟨_, hb⟩
                obtain ⟨q', dJ⟩:=dJ;simp [execOp, resolve, aF, bA, invoke, builtin, dJ, gI, T6 c.argTypes ty t eF q' w];rfl
              . rename_i h0
                split at h
                . rename_i i o
                  split at h
                  . rename_i cc el tight hb
                    split at h
                    . rename_i aj
                      obtain ⟨ll, rM, het, jL⟩:=aj;split at h
                      . rename_i s' oY
                        simp at h; obtain ⟨rfl, rfl⟩:=h;obtain ⟨ns, mC, rfl⟩:=PE oY;obtain ⟨p, hp, h1, h2, h3, ⟨C, e', f, hC, pP, lk⟩, h5, h6⟩:=hH.live i _ hb;obtain ⟨_, _, bV⟩:=hx.q0x hp;have gK:ns.length = k.toNat:=by have:=congrArg List.length mC;simp at this; omega
                        have a8:∀ j n, ns[j]? = some n -> w.cell? ((⟨p.blk, p.shift + o, none⟩:Addr).add j) = some (.int .u8 n):=λj n hj => by
                          have cQ:j < ns.length:=(zu.1 hj).1;have dT:cc[o + j]? = some (.int .u8 n):=by
                            have:((cc.drop o).take k.toNat)[j]? = some (.int .u8 n):=by rw [mC, xp, hj]; rfl
                            rwa [xt, z6 (by omega), zZ] at this
                          obtain ⟨u, dG, cC⟩:=h5 (o + j) _ dT;have fR:(⟨p.blk, p.shift + o, none⟩:Addr).add j = ⟨p.blk, p.shift + (o + j), none⟩:=by unfold Addr.add; split <;> simp_all <;> omega
                          rw [fR, dG, cC.q0h]
                        have ek:w.shape? p.blk = some (e, C.size):=by simp [World.shape?, hC, lk, het]
                        have hr:=OC (P:=P) c.argTypes ty t e eF hu pF ⟨p.blk, p.shift + o, none⟩ C.size w ek ns k ll gK (by show p.shift + o + ns.length <= C.size; omega) rM a8;obtain ⟨k1, k2⟩:=hH.freeze hp hb (p.shift + o) k.toNat;refine ⟨.string ⟨(ns.map λn => n.toNat.toUInt8).toArray⟩, _, ρ, .inl ?_, .string _, k1, k2⟩;simp [execOp, resolve, aF, bA, invoke, builtin, bV, gI, hr]
                      . cases h
                    . cases h
                  . cases h
                . cases h
            . cases h
          . cases hc
        . cases hc
      . cases hc
    . cases hc
  all_goals cases hc
theorem Fb {o:Oper}{vo:VOp}(hc:WY P o.op=vo) (hq:vo.quiet=true) (hH:HRel ρ U w) (hE:∀ x,Ji x=true->VRel ρ U.n (Q6 env x) (ev x))
  (h:Q8 vo (Q6 env) U=some (v,U')):U'=U/\S7 P ρ U w v (execOp ev o):=by
 unfold WY at hc;split at hc
 .grind [C7]
 .split at hc
  .rename_i x hx;subst hc;exact Su hx hq hH hE h
  .subst hc;simp[Q8] at h
theorem O2 {o:Oper}{vo:VOp}(hc:WY P o.op=vo) (hq:vo.quiet=false) (hH:HRel ρ U w) (hE:∀ x,Ji x=true->VRel ρ U.n (Q6 env x) (ev x))
  (h:Q8 vo (Q6 env) U=some (v,U')):R8 P ρ U w v U' (execOp ev o):=by
 unfold WY at hc;split at hc
 .grind [Es]
 .split at hc
  .rename_i x hx;subst hc;exact Cm hx hq hH hE h
  .subst hc;simp[Q8] at h
end
end Go.V