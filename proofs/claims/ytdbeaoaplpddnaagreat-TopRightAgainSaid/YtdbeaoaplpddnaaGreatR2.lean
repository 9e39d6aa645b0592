/- A framework for walks, contracts of functions, and their proofs: part 2. -/
import Derived.RangeFuncLeaves
import Derived.RangeFuncCalls
import Derived.OrdersIn
import Derived.TacticsIn
import Derived.Sort.LoopGhostIn
import Derived.Deep.LoopGhost
import Derived.Test.YtdbeaoaplpddnaaGreatR1
namespace Go.V
open Go
section
variable {P:Program}{S:VSpecs}{B:Nat}
def FF:Option Nat→Fence
 |none=>Fence.wide
 |some l=>Fence.wide.inRound l
theorem IW (ro:Option Nat) (f:FuncId):(FF ro).fn f:=by cases ro<;>trivial
theorem CG (ro:Option Nat):(FF ro).depth=none:=by cases ro<;>rfl
theorem Q4q (ro:Option Nat):(FF ro).round=ro:=by cases ro<;>rfl
theorem Iw {ro:Option Nat}{n:Nat}{f:FuncId}{args:Array Value}{w:World}{R:Ending→World→Prop}(h:Calls P f args w R):CallsIn (FF ro) n P f args w R:=by
 cases ro with
 |none=>exact callsIn_wide.2 h
 |some l=>exact CallsIn.inRound l (callsIn_wide.2 h)
theorem Fc {ro:Option Nat}{n m:Nat}{l:Nat}{f:FuncId}{tmps:Array Value}{eI body:Code}{w:World}{R:Ending→World→Prop}(h:RoundIn Fence.wide m P l f tmps eI body w R):RoundIn (FF ro) n P l f tmps eI body w R:=by refine⟨IW _ _,fun c cs _=>?_⟩;obtain⟨e,w',r,s⟩:=h.2 c cs (room_wide _);refine⟨e,w',r,?_⟩;cases ro<;>exact s
def Got (ρ:Plc) (σ:Heap) (w:World) (R:Value→Heap→Prop) (c:Value) (w':World):Prop :=
 ∃ v ρ' σ',R v σ'∧VRel ρ' σ'.n v c∧HRel ρ' σ' w'∧Ext ρ σ w ρ' σ' w'
def VCallsTo (P:Program) (f:FuncId) (args:List Value) (σ:Heap) (R:Value→Heap→Prop):Prop :=
 ∀ ρ w (aw:Array Value),HRel ρ σ w→LRel ρ σ.n args aw.toList→Calls P f aw w fun e w'=>∃ c,e=.returned c∧Got ρ σ w R c w'
def VCalled (P:Program) (f:FuncId) (args:List Value) (σ:Heap) (R:Value→Heap→Prop):Prop :=
 ∀ ρ w (aw:Array Value),HRel ρ σ w→LRel ρ σ.n args aw.toList →
  ((∀ w,(callFunc f aw).run P w=.ok (.enter f aw) w)∧Calls P f aw w fun e w'=>∃ c,e=.returned c∧Got ρ σ w R c w') ∨
  (∃ c,Got ρ σ w R c w∧∀ w',Like ρ w w'→(callFunc f aw).run P w'=.ok (.value c) w')
def VYields (P:Program) (i:Nat) (args:List Value) (σ:Heap) (R:Value→Heap→Prop):Prop :=
 ∀ ρ w (aw:Array Value),HRel ρ σ w→LRel ρ σ.n args aw.toList →
  ∃ p,ρ i=some p∧∃ fn tmps eI body,(Instr.yield p.blk aw).run P w=.ok (.round p.blk fn tmps eI body) w ∧
   RoundIn Fence.wide 0 P p.blk fn tmps eI body w fun e w'=>∃ c,e=.returned c∧Got ρ σ w R c w'
def XC (P:Program) (f:FuncId):Prop:=∃ fn,P.funcs[f]?=some fn∧fn.body.isSome=true∧(fn.name=="runtime.NumGoroutine")=false
def Z01 (P:Program) (f:FuncId) (s:TA):Prop:=∀ args σ K,s args σ K→VCalled P f args σ K
def Kx (P:Program) (i:Nat) (s:TA):Prop:=∀ args σ K,s args σ K→VYields P i args σ K
def Q7y (P:Program) (f:FuncId) (T:Nat→TA→TA):Prop:=XC P f∧∀ i Y,Kx P i Y→∀ args σ K,T i Y args σ K→VCallsTo P f args σ K
structure OkSpecs (P:Program) (S:VSpecs):Prop where
 fn:∀ f s,S.fn f=some s→Z01 P f s
 yl:∀ i s,S.yl i=some s→Kx P i s
 it:∀ f T,S.it f=some T→Q7y P f T
theorem Mr {f:FuncId}(h:XC P f) (args:Array Value) (w:World):(callFunc f args).run P w=.ok (.enter f args) w:=by
 obtain⟨fn,h1,h2,h3⟩:=h;have h4:¬ fn.body=none:=fun e=>by rw[e] at h2;cases h2
 have h5:¬ fn.name="runtime.NumGoroutine":=fun e=>by rw[e] at h3;simp at h3
 simp[callFunc,h1,h4,h5]
theorem VCallsTo.called {f:FuncId}{args:List Value}{σ:Heap}{R:Value→Heap→Prop}(he:XC P f) (h:VCallsTo P f args σ R):VCalled P f args σ R :=
 fun ρ w aw hH hL=>.inl ⟨fun w=>Mr he aw w,h ρ w aw hH hL⟩
theorem Got.mono {ρ:Plc}{σ:Heap}{w:World}{R R':Value→Heap→Prop}{c:Value}{w':World}(h:Got ρ σ w R c w') (hr:∀ v σ',R v σ'→R' v σ'):Got ρ σ w R' c w' :=
 let ⟨v,ρ',σ',h1,h2⟩:=h;⟨v,ρ',σ',hr _ _ h1,h2⟩
theorem VCallsTo.mono {f:FuncId}{args:List Value}{σ:Heap}{R R':Value→Heap→Prop}(h:VCallsTo P f args σ R) (hr:∀ v σ',R v σ'→R' v σ'):VCallsTo P f args σ R' :=
 fun ρ w aw hH hL=>(h ρ w aw hH hL).mono fun _ _ ⟨c,he,hg⟩=>⟨c,he,hg.mono hr⟩
theorem K9 {ρ:Plc}{n:Nat}{env:Env}{a:Act}(h:LRel ρ n env a.tmps.toList) {v c:Value}(hv:VRel ρ n v c) (d:Option Nat):LRel ρ n (Xt env d v) (a.put d c).tmps.toList:=by
 cases d with
 |none=>exact h
 |some d=>simp only[Xt,Act.put,Array.toList_setIfInBounds];exact h.set d hv
theorem ZB (env:Env) (d:Option Nat) (v:Value):List.length (Xt env d v)=List.length env:=by cases d<;>simp[Xt]
theorem Xk (a:Act) (d:Option Nat) (c:Value):(a.put d c).defers=a.defers:=by cases d<;>rfl
theorem Bt {ρ:Plc}{n:Nat}{env:Env}{a:Act}{ops:Array Oper}{o:Oper}{vo:VOper}(hc:Ji P ops o=some vo) (hL:LRel ρ n env a.tmps.toList) {b:Bool}(h:Je env vo.guard=some b) :
  Region.wanted o (yielded ops a.tmps)=b∧vo.dst=o.dst∧KD P o.op=vo.op:=by
 unfold Ji at hc;simp only[Option.bind_eq_bind] at hc;cases hg:o.guard with
 |none =>simp[hg] at hc;subst hc;simp[Je] at h;subst h;simp[Region.wanted,hg]
 |some jw =>
  obtain⟨j,want⟩:=jw;simp[hg] at hc;cases hj:ops[j]? with
  |none=>simp[hj] at hc
  |some oj =>
   cases hd:oj.dst with
   |none=>simp[hj,hd] at hc
   |some d =>
    simp[hj,hd] at hc;subst hc;refine⟨?_,rfl,rfl⟩;simp only[Je] at h;simp only[Region.wanted,hg,yielded,hj,Option.bind_some,hd];have hlen:List.length env=a.tmps.size:=by have:=hL.1;rw[Array.length_toList] at this;exact this
    rcases Nat.lt_or_ge d (List.length env) with ah|bg
    ·have bY:d<a.tmps.size:=by rw[←hlen];exact ah
     have hr:=hL.2 d env[d] a.tmps[d] (List.getElem?_eq_getElem ah) (by simp[bY]);have he:env.getD d undef=env[d]:=by simp[List.getD,ah]
     rw[he] at h;simp only[Array.getElem?_eq_getElem bY];split at h
     ·rename_i b' heq;rw[heq] at hr;rw[hr.bool_inv];simp at h;simp[←h]
     ·rename_i vs heq;rw[heq] at hr;obtain⟨ds,hds,_⟩:=hr.tuple_inv;rw[hds];simp at h;subst h;simp
     ·cases h
    ·have he:env.getD d undef=undef:=by simp[List.getD,List.getElem?_eq_none bg]
     rw[he] at h;have:a.tmps[d]?=none:=Array.getElem?_eq_none (by rw[←hlen];exact bg);simp only[this];simp[undef] at h;subst h;simp
theorem Q3t {o:Oper}{vo:VOp}(hc:U9 P o.op=some vo) {ρ:Plc}{σ:Heap}{env:Env}{a:Act}(hL:LRel ρ σ.n env a.tmps.toList) {K:Value→Heap→Prop}
  (aD:(∃ f bP,vo=.callF f bP)∨(∃ f bP,vo=.callV f bP)) {σ0:Heap}(h:vop S vo env σ0 K) :
  (∃ f args aw,vcall S f args σ0 K∧LRel ρ σ.n args aw.toList∧∀ w,(execOp a.eval o).run P w=(callFunc f aw).run P w) ∨
  (∃ i r args aw,Ia S i args σ0 K∧VRel ρ σ.n (.func (.yield i) #[] #[]) (.func (.yield r) #[] #[])∧LRel ρ σ.n args aw.toList∧∀ w,(execOp a.eval o).run P w=(Instr.yield r aw).run P w):=by
 have bj:=hc;cases ef:U9 P o.op with
 |none=>rw[ef] at hc;cases hc
 |some tO =>
  clear ef hc tO;obtain⟨dst,op,ty,pos,after,guard⟩:=o;simp only at bj;unfold U9 at bj;split at bj
  ·cases bj
  rename_i aj;simp only[Bool.not_eq_true,Bool.not_eq_false'] at aj;cases op
  case call c =>
   simp only[Op.operands] at aj bj;split at bj
   ·rename_i f aN;simp at bj;subst bj;simp only[vop] at h;have aC:(c.args.toList).all Xz=true:=by
     simp only[Call.operands,aN,Array.toList_append,List.all_append,Bool.and_eq_true] at aj;exact aj.2
    refine .inl ⟨f,_,c.args.map a.eval,h,by have:=Lz (fun x hx=>Ww hL hx) aC;simpa using this,fun w=>?_⟩;simp[execOp,resolve,aN,Act.eval,Deferred.ofValue,invoke]
   ·rename_i fo aA aN;simp at bj;subst bj;simp only[vop] at h;simp only[Call.operands,aN,Array.toList_append,List.all_append,Bool.and_eq_true] at aj;have hf:=Ww hL (x:=fo) (by simpa using aj.1);have has:=Lz (fun x hx=>Ww hL hx) aj.2;split at h
    ·rename_i g first cap heq
     rw[heq] at hf;cases ke:a.eval fo with
     |func fn gs ds =>
      rw[ke] at hf;cases hf with
      |func _ _ _ _ _ h1 h2 h3 h4 =>
       refine .inl ⟨g,_,gs++c.args.map a.eval++ds,h,?_,fun w=>?_⟩
       ·have eP:=LRel.of_array h1 h3;have cG:=LRel.of_array h2 h4;have:=(eP.append has).append cG;simpa using this
       ·simp[execOp,resolve,aN,ke,Deferred.ofValue,invoke]
     |_=>rw[ke] at hf;cases hf
    ·rename_i i first cap heq
     rw[heq] at hf;have hinv:∀ c,VRel ρ σ.n (.func (.yield i) first cap) c→∃ r,c=.func (.yield r) #[] #[]∧VRel ρ σ.n (.func (.yield i) #[] #[]) (.func (.yield r) #[] #[]):=by
      intro c h;cases h with
      |yield _ r hi hr=>exact⟨r,rfl,.yield i r hi hr⟩
     obtain⟨r,ke,hv⟩:=hinv _ hf;refine .inr ⟨i,r,_,c.args.map a.eval,h,hv,by simpa using has,fun w=>?_⟩;simp[execOp,resolve,aN,ke,Deferred.ofValue,invoke]
    ·cases h
   all_goals
    repeat' first
     |(cases bj;done)
     |(simp at bj;subst bj;rcases aD with⟨f,bP,h⟩|⟨f,bP,h⟩<;>cases h;done)
     |split at bj
   all_goals
    simp only[Option.bind_eq_bind,Option.bind_eq_some_iff] at bj;obtain⟨_,_,_,_,bj⟩:=bj;split at bj<;>simp at bj;subst bj;rcases aD with⟨f,bP,h⟩|⟨f,bP,h⟩<;>cases h
  all_goals simp only[Op.operands] at aj bj
  all_goals
   repeat' first
    |(cases bj;done)
    |(simp at bj;subst bj;rcases aD with⟨f,bP,h⟩|⟨f,bP,h⟩<;>cases h;done)
    |split at bj
  all_goals simp only[Option.bind_eq_bind,Option.bind_eq_some_iff,reduceCtorEq,and_false,exists_false] at bj
  all_goals first
   |(obtain⟨_,_,bj⟩:=bj;simp at bj;subst bj;rcases aD with⟨f,bP,h⟩|⟨f,bP,h⟩<;>cases h;done)
   |(obtain⟨_,_,_,_,bj⟩:=bj;simp at bj;subst bj;rcases aD with⟨f,bP,h⟩|⟨f,bP,h⟩<;>cases h;done)
   |(obtain⟨_,_,_,_,_,_,bj⟩:=bj;simp at bj;subst bj;rcases aD with⟨f,bP,h⟩|⟨f,bP,h⟩<;>cases h;done)
   |(obtain⟨d,_,bj⟩:=bj;cases d<;>simp at bj<;>subst bj<;>rcases aD with⟨f,bP,h⟩|⟨f,bP,h⟩<;>cases h;done)
   |(obtain⟨_,_,_,_,bj⟩:=bj;split at bj<;>simp at bj;subst bj;rcases aD with⟨f,bP,h⟩|⟨f,bP,h⟩<;>cases h;done)
   |(obtain⟨_,_,bj⟩:=bj;split at bj<;>simp at bj;subst bj;rcases aD with⟨f,bP,h⟩|⟨f,bP,h⟩<;>cases h;done)
theorem Ml {o:Op}{vo:VOp}(h:KD P o=vo) (hv:vo≠.bad):U9 P o=some vo∨∃ x,RM P o=some x∧vo=.ext x:=by
 unfold KD at h;split at h
 ·rename_i v gm;subst h;exact .inl gm
 ·split at h
  ·rename_i x hx;exact .inr ⟨x,hx,h.symm⟩
  ·exact absurd h.symm hv
theorem ON {o:Op}{x:XOp}(h:U9 P o=some (.ext x)):False:=by
 unfold U9 at h
 repeat' first
  |contradiction
  |(cases h;done)
  |(simp at h;done)
  |(rw[Option.bind_eq_bind,Option.bind_eq_some_iff] at h;obtain⟨_,_,h⟩:=h)
  |split at h
theorem LX {o:Op}{vo:VOp}(h:KD P o=vo) (hv:vo≠.bad) (c:Call):o≠.defer c:=by
 rintro rfl;rcases Ml h hv with h|⟨x,h,_⟩
 ·unfold U9 at h;split at h<;>simp at h
 ·unfold RM at h;split at h<;>simp at h
theorem IZ {o:Oper}{x:Operand}(hc:RM P o.op=some (.nextMap x)) {ρ:Plc}{σ:Heap}{w:World}{env:Env}{ev:Operand→Value}(hH:HRel ρ σ w) (hE:∀ x,Xz x=true→VRel ρ σ.n (Q4 env x) (ev x))
  {K:Value→Heap→Prop}(h:EW (Q4 env x) σ K):∃ c w',(execOp ev o).run P w=.ok (.value c) w'∧Got ρ σ w K c w':=by
 obtain⟨dst,op,ty,pos,after,guard⟩:=o;simp only at hc;unfold RM at hc;split at hc
 ·cases hc
 rename_i aj;simp only[Bool.not_eq_true,Bool.not_eq_false'] at aj;have bJ:op=.next x false:=by
  cases op
  case next y b=>cases b<;>simp at hc;subst hc;rfl
  all_goals
   simp only at hc
   repeat' first
    |contradiction
    |(obtain⟨_,h⟩:=OG hc;cases h;done)
    |(cases hc;done)
    |(simp at hc;done)
    |(rw[Option.bind_eq_bind,Option.bind_eq_some_iff] at hc;obtain⟨_,_,hc⟩:=hc)
    |split at hc
 subst bJ;clear hc;simp[Op.operands] at aj;have hx:=hE x aj;unfold EW at h;split at h
 ·rename_i i bH;rw[bH] at hx;split at h
  ·rename_i m since seen last hb;split at h
   ·rename_i es clock wr aK;obtain⟨h1,af,h2,h3⟩:=h;obtain⟨p,hp,⟨_,eo⟩,O,hO,rm,rfl,pj⟩:=hH.live i _ hb;obtain⟨q,entries,ie,dk,aF,aG⟩:=XG hH aK pj;simp at ie;subst ie;obtain⟨_,_,cR⟩:=hx.ptr_inv hp;rw[eo,Nat.zero_add] at cR;have gX:(getObj p.blk).run P w=.ok (.mapIter (some q.blk) since seen.toArray last) w:=QG hO (fun _ _ _ e=>by cases e);have dm:(getObj q.blk).run P w=.ok (.map entries clock) w:=QG aF (fun _ _ _ e=>by cases e);let left:=entries.filter fun e=>!seen.toArray.contains e.born;let aV:=left.filter (·.born<since);let new:=left.filter (·.born≥since);let bK:Array (Option MapEntry):=(if aV.isEmpty then #[none] else #[])++(aV++new).map some;have dN:0<bK.size:=by
     by_cases ho:aV.isEmpty=true
     ·simp only[bK,ho,if_true,Array.size_append];show 0<1+_;omega
     ·have:aV.size≠0:=fun e=>ho (by simp[Array.isEmpty,e]);simp only[bK,Array.size_append,Array.size_map];omega
    obtain⟨k,w1,hk,eR,nc⟩:∃ k w1,k<bK.size∧(choose (.mapNext bK.size)).run P w=.ok k w1∧(w1=w∨w1=w.drew):=by
     rw[run_choose_drew];by_cases hf:(Question.mapNext bK.size).forced=true
     ·exact⟨0,w,dN,by rw[if_pos hf],.inl rfl⟩
     ·refine⟨_,w.drew,?_,by rw[if_neg hf],.inr rfl⟩;exact Nat.mod_lt _ dN
    have jd:HRel ρ σ w1:=by rcases nc with rfl|rfl;exact hH;exact hH.drew
    have fI:Ext ρ σ w ρ σ w1:=by rcases nc with rfl|rfl;exact Ext.refl _ _ _;exact Ext.drew _ _ _
    have tP:w1.heap[p.blk]?=some (.mapIter (some q.blk) since seen.toArray last):=by rcases nc with rfl|rfl<;>exact hO
    have ak:¬ ((!seen.toArray.isEmpty&&!entries.isEmpty&&entries.all (fun e=>decide (e.born≥last)))=true):=by
     intro hh;simp only[Bool.and_eq_true] at hh;obtain⟨⟨h4,h5⟩,h6⟩:=hh;simp only[Bool.or_eq_true] at h1;rcases h1 with (h1|h1)|h1
     ·rw[List.isEmpty_iff] at h1;subst h1;simp at h4
     ·rw[List.isEmpty_iff] at h1;subst h1;have:entries=#[]:=by have:=aG.1;simpa using this
      subst this;simp at h5
     ·obtain⟨kv,dy,ah⟩:=List.any_eq_true.1 h1;obtain⟨j,hj⟩:=List.mem_iff_getElem?.1 dy;have bN:j<entries.toList.length:=by rw[aG.1];exact(List.getElem?_eq_some_iff.1 hj).1
      have he:=aG.2 j entries.toList[j] kv (List.getElem?_eq_getElem bN) hj;have:=Array.all_eq_true'.1 h6 entries.toList[j] (by rw[←Array.mem_toList_iff];exact List.getElem_mem bN);have h7:=he.2.1;simp at this ah;simp at h7;omega
    have aZ:∀ r,(match bK[k]? with
      |some (some e)=>(do setObj p.blk (.mapIter (some q.blk) since (seen.toArray.push e.born) clock);pure (Value.tuple #[.bool true,e.key,e.val]):Sem Value)
      |some none=>pure (.tuple #[.bool false])
      |none=>stuck "Next: no such candidate").run P w1=r→(Instr.next (ev x) false ty).run P w=r:=by
     intro r hr;rw[←hr];simp only[Instr.next,cR,Sem.run_bind,gX,dm,Result.andThen_ok];rw[if_neg ak];simp only[Sem.run_bind];change ((choose (Question.mapNext bK.size)).run P w).andThen _=_;rw[eR];rfl
    have hval:∀ c w',(Instr.next (ev x) false ty).run P w=.ok c w'→(execOp ev ⟨dst,.next x false,ty,pos,after,guard⟩).run P w=.ok (.value c) w':=fun c w' h=>by simp[execOp,h]
    have fg:bK[k]?=some bK[k]:=Array.getElem?_eq_getElem hk;cases hx:bK[k] with
    |none =>
     rw[hx] at fg;have aO:none∈bK:=hx▸Array.getElem_mem hk;have hold:aV.isEmpty=true:=by
      cases ho:aV.isEmpty with
      |true=>rfl
      |false=>simp[bK,ho] at aO
     refine⟨_,w1,hval _ _ (aZ _ (by rw[fg];rfl)),_,ρ,σ,h2 ?_,VRel.tuple_of (LRel.cons (.bool _) (LRel.nil _ _)),jd,fI⟩;refine List.all_eq_true.2 fun kv dy=>?_;obtain⟨j,hj⟩:=List.mem_iff_getElem?.1 dy;have bN:j<entries.toList.length:=by rw[aG.1];exact(List.getElem?_eq_some_iff.1 hj).1
     have he:=aG.2 j entries.toList[j] kv (List.getElem?_eq_getElem bN) hj;cases tQ:seen.contains kv.2.2 with
     |true=>rfl
     |false =>
      simp only[Bool.false_or,decide_eq_true_eq];rcases Nat.lt_or_ge kv.2.2 since with ah|bg
      ·exfalso;have:entries.toList[j]∈aV:=by
        simp only[aV,left,Array.mem_filter,decide_eq_true_eq];refine⟨⟨by rw[←Array.mem_toList_iff];exact List.getElem_mem bN,?_⟩,by rw[he.2.1];exact ah⟩;rw[he.2.1];simpa using tQ
       rw[Array.isEmpty_iff] at hold;rw[hold] at this;simp at this
      ·exact bg
    |some e =>
     rw[hx] at fg;have aO:some e∈bK:=hx▸Array.getElem_mem hk;have ng:e∈left:=by
      have h4:e∈aV++new:=by
       simp only[bK,Array.mem_append,Array.mem_map] at aO;rcases aO with aO|⟨a,ha,pc⟩
       ·split at aO<;>simp at aO
       ·simp at pc;subst pc;simpa using ha
      rcases Array.mem_append.1 h4 with h4|h4
      ·exact(Array.mem_filter.1 h4).1
      ·exact(Array.mem_filter.1 h4).1
     obtain⟨hel,ml⟩:=Array.mem_filter.1 ng;rw[←Array.mem_toList_iff] at hel;obtain⟨j,hj⟩:=List.mem_iff_getElem?.1 hel;have bN:j<es.length:=by rw[←aG.1];exact(List.getElem?_eq_some_iff.1 hj).1
     have he:=aG.2 j e es[j] hj (List.getElem?_eq_getElem bN);have ja:=h3 es[j] (List.getElem_mem bN) (by rw[←he.2.1];simpa using ml);obtain⟨k1,k2⟩:=jd.setObj (o':=.iter m since (seen++[es[j].2.2]) clock) (O':=.mapIter (some q.blk) since (seen.toArray.push e.born) clock) hp hb ⟨q.blk,by rw[he.2.1];simp,pj⟩;have aU:VRel ρ σ.n es[j].1 e.key:=by rw[he.1];exact U2 (List.all_eq_true.1 af _ (List.getElem_mem bN))
     refine⟨_,_,hval _ _ (aZ _ (by
      rw[fg];simp only[Sem.run_bind,QX tP (fun _ _ _ e=>by cases e),Result.andThen_ok,Sem.run_pure])),_,ρ,_,ja,VRel.tuple_of (LRel.cons (.bool _) (LRel.cons aU (LRel.cons he.2.2 (LRel.nil _ _)))),k1,fI.trans k2⟩
   ·exact h.elim
  ·exact h.elim
 ·exact h.elim
theorem Q2b (hS:OkSpecs P S) {f:FuncId}{args:List Value}{σ:Heap}{K:Value→Heap→Prop}(h:vcall S f args σ K):VCalled P f args σ K:=by
 unfold vcall at h;split at h
 ·rename_i s hs;exact hS.fn f s hs _ _ _ h
 ·exact h.elim
theorem O3 (hS:OkSpecs P S) {i:Nat}{args:List Value}{σ:Heap}{K:Value→Heap→Prop}(h:Ia S i args σ K):VYields P i args σ K:=by
 unfold Ia at h;split at h
 ·rename_i s hs;exact hS.yl i s hs _ _ _ h
 ·exact h.elim
theorem Q2i {o:Oper}{vo:VOp}(hc:KD P o.op=vo) {ρ:Plc}{σ:Heap}{w:World}{env:Env}{a:Act}(hH:HRel ρ σ w) (hL:LRel ρ σ.n env a.tmps.toList) {v:Value}{σ':Heap}
  (h:Q8 vo (Q4 env) σ=some (v,σ')):C8 P ρ σ w v σ' (execOp a.eval o):=by
 cases hq:vo.quiet with
 |false=>exact Q4w hc hq hH (fun x hx=>Ww hL hx) h
 |true =>obtain⟨rfl,c,eE,hr⟩:=Q1k hc hq hH (fun x hx=>Ww hL hx) h;exact⟨c,w,ρ,.inl (hr w (Like.refl ρ w)),eE,hH,Ext.refl _ _ _⟩
theorem VT (hS:OkSpecs P S) {ro:Option Nat}{n:Nat}{o:Oper}{vo:VOp}(bJ:KD P o.op=vo) {ρ:Plc}{σ:Heap}{w:World}{env:Env}{a:Act}(hH:HRel ρ σ w) (hL:LRel ρ σ.n env a.tmps.toList)
  {K:Value→Heap→Prop}(h:vop S vo env σ K) {next:Act→World→Prop}{Q':Exit→Act→World→Prop}(hn:∀ c w',Got ρ σ w K c w'→next (a.put o.dst c) w'):o.wpIn (FF ro) n P a w next Q':=by
 refine⟨fun f _=>IW _ _,?_⟩;have cJ:vo≠.bad:=by rintro rfl;exact h.elim
 rw[Oper.semAt_eq _ _ _ (LX bJ cJ)];by_cases aD:(∃ f bP,vo=.callF f bP)∨(∃ f bP,vo=.callV f bP)
 ·have hc:U9 P o.op=some vo:=by
   rcases Ml bJ cJ with hc|⟨x,_,hx⟩
   ·exact hc
   ·subst hx;rcases aD with⟨f,bP,hh⟩|⟨f,bP,hh⟩<;>cases hh
  rcases Q3t (S:=S) hc hL aD h with⟨f,args,aw,hv,mW,hr⟩|⟨i,r,args,aw,hv,dC,mW,hr⟩
  ·rcases Q2b hS hv ρ w aw hH mW with⟨h1,h2⟩|⟨c,hg,h2⟩
   ·rw[hr,h1];exact⟨(fun hd=>by rw[CG] at hd;cases hd),(Iw h2).mono fun e w' ⟨c,he,hg⟩=>by subst he;exact hn c w' hg⟩
   ·rw[hr,h2 w (Like.refl ρ w)];exact hn c w hg
  ·obtain⟨p,hp,fn,tmps,eI,body,h1,h2⟩:=O3 hS hv ρ w aw hH mW;have tR:r=p.blk:=by
    cases dC with
    |yield _ _ _ hh=>exact hh p hp
   rw[hr,tR,h1];exact⟨(fun hd=>by rw[CG] at hd;cases hd),(Fc h2).mono fun e w' ⟨c,he,hg⟩=>by subst he;exact hn c w' hg⟩
 ·by_cases cw:∃ x,vo=.ext (.nextMap x)
  ·obtain⟨x,rfl⟩:=cw;have hc:RM P o.op=some (.nextMap x):=by
    rcases Ml bJ cJ with hc|⟨y,hy,hx⟩
    ·have:=ON hc;exact this.elim
    ·cases hx;exact hy
   obtain⟨c,w',hr,hg⟩:=IZ hc hH (fun x hx=>Ww hL hx) h;rw[hr];exact hn c w' hg
  ·have fZ:∃ v σ',Q8 vo (Q4 env) σ=some (v,σ')∧K v σ':=by
    unfold vop at h;split at h
    ·exact absurd (.inl ⟨_,_,rfl⟩) aD
    ·exact absurd (.inr ⟨_,_,rfl⟩) aD
    ·exact absurd ⟨_,rfl⟩ cw
    ·cases dQ:Q8 vo (Q4 env) σ with
     |none=>rw[dQ] at h;exact h.elim
     |some p=>rw[dQ] at h;exact⟨p.1,p.2,rfl,h⟩
   obtain⟨v,σ',dQ,hK⟩:=fZ;obtain⟨c,w',ρ',aZ,eE,gy,hE⟩:=Q2i bJ hH hL dQ;have hg:Got ρ σ w K c w':=⟨v,ρ',σ',hK,eE,gy,hE⟩;rcases aZ with aZ|⟨aZ,rfl⟩
   ·rw[aZ];exact hn c w' hg
   ·rw[aZ];exact hn undef w' hg
def Mks (B:Nat) (ds:List Deferred) (w:World):Prop:=B≤w.heap.size∧∃ Ds:List Nat,ds=Ds.map (fun D=>⟨.collected D,#[]⟩)∧Ds.Nodup∧∀ D∈Ds,B≤D∧w.heap[D]?=some (.deferred (some []))
theorem Mks.nil {w:World}(h:B≤w.heap.size):Mks B [] w:=⟨h,[],rfl,List.nodup_nil,fun _ h=>by cases h⟩
theorem Mks.ext {ds:List Deferred}{ρ ρ':Plc}{σ σ':Heap}{w w':World}(h:Mks B ds w) (hH:HRel ρ σ w) (hE:Ext ρ σ w ρ' σ' w'):Mks B ds w':=by
 obtain⟨h0,Ds,h1,h2,h3⟩:=h;refine⟨Nat.le_trans h0 hE.size,Ds,h1,h2,fun D hD=>⟨(h3 D hD).1,?_⟩⟩;have hb:=(h3 D hD).2;have ah:D<w.heap.size:=by
  rcases Nat.lt_or_ge D w.heap.size with h'|h'
  ·exact h'
  ·rw[Array.getElem?_eq_none h'] at hb;cases hb
 rw[hE.keep D ah (fun ⟨i,p,b,hp,_,_,tS⟩=>hH.not_deferred hb i p hp tS)];exact hb
def P8 (B m:Nat) (ρ:Plc) (σ:Heap) (w:World) (K:Env→Heap→Prop) (a':Act) (w':World):Prop :=
 ∃ ae ρ' σ',K ae σ'∧List.length ae=m∧HRel ρ' σ' w'∧LRel ρ' σ'.n ae a'.tmps.toList∧Mks B a'.defers w'∧Ext ρ σ w ρ' σ' w'
theorem IE (hS:OkSpecs P S) {ro:Option Nat}{n:Nat}(ops:Array Oper) (Q:Exit→Act→World→Prop):∀ (l:List Oper) (lv:List VOper),l.mapM (Ji P ops)=some lv →
  ∀ (env:Env) (σ:Heap) (K:Env→Heap→Prop) (ρ:Plc) (w:World) (a:Act),BX S lv env σ K→HRel ρ σ w→LRel ρ σ.n env a.tmps.toList→Mks B a.defers w →
  (∀ a' w',P8 B (List.length env) ρ σ w K a' w'→Q .normal a' w')→wpListIn (FF ro) n P ops Q l a w:=by
 intro l;induction l with
 |nil =>intro lv b9 env σ K ρ w a h hH hL hd hQ;simp at b9;subst b9;exact hQ a w ⟨env,ρ,σ,h,rfl,hH,hL,hd,Ext.refl _ _ _⟩
 |cons o l ih =>
  intro lv b9 env σ K ρ w a h hH hL hd hQ;rw[List.mapM_cons] at b9;cases bj:Ji P ops o with
  |none=>simp[bj] at b9
  |some vo =>
   cases j9:l.mapM (Ji P ops) with
   |none=>simp[bj,j9] at b9
   |some sq =>
    simp[bj,j9] at b9;subst b9;simp only[BX] at h;cases hw:Je env vo.guard with
    |none=>rw[hw] at h;exact h.elim
    |some b =>
     rw[hw] at h;obtain⟨dz,bG,bJ⟩:=Bt bj hL hw;obtain⟨ht,hf⟩:=h;simp only[wpListIn];rw[dz];cases b with
     |false =>rw[if_neg (by simp)];exact⟨fun f _=>IW _ _,ih sq j9 (Xt env vo.dst undef) σ K ρ w _ (hf rfl) hH (by rw[bG];exact K9 hL JK o.dst) (by rw[Xk];exact hd) (fun a' w' hn=>hQ a' w' (by rw[ZB] at hn;exact hn))⟩
     |true =>
      rw[if_pos rfl];refine VT hS bJ hH hL (ht rfl) fun c w' ⟨v,ρ',σ',hK,eE,gy,hE⟩=>?_
      exact ih sq j9 (Xt env vo.dst v) σ' K ρ' w' _ hK gy (by rw[bG];exact K9 (hE.lrel hL) eE o.dst) (by rw[Xk];exact hd.ext hH hE)
       (fun a' o7 ⟨nh,eN,aJ,k1,k0,k2,k3,k4,k5⟩=>hQ a' o7 ⟨nh,eN,aJ,k1,by rw[k0,ZB],k2,k3,k4,hE.trans k5⟩)
theorem Cv:∀ (l:List Nat) (vs:List Value) (env:Env),(XA l vs env).length=env.length:=by
 intro l;induction l with
 |nil=>intro vs env;cases vs<;>rfl
 |cons i l ih =>
  intro vs env;cases vs with
  |nil=>rfl
  |cons v vs=>simp only[XA];rw[ih];simp
theorem IY {ρ:Plc}{n:Nat}:∀ (l:List Nat) (env base:Env) (cs:List Value),LRel ρ n env cs→LRel ρ n base cs→LRel ρ n (XA l (B5 l env) base) cs:=by
 intro l;induction l with
 |nil=>intro env base cs _ hb;exact hb
 |cons i l ih =>
  intro env base cs he hb;simp only[B5,List.map_cons,XA];refine ih env _ cs he ?_;refine⟨by simp[hb.1],fun j v c hv hc=>?_⟩;by_cases bR:i=j
  ·subst bR;rcases Nat.lt_or_ge i (List.length base) with ah|bg
   ·rw[List.getElem?_set_self ah] at hv;obtain rfl:=osj hv;have bY:i<List.length env:=by rw[he.1,←hb.1];exact ah
    have:env.getD i poison=env[i]:=by simp[List.getD,bY]
    rw[this];exact he.2 i _ c (List.getElem?_eq_getElem bY) hc
   ·rw[List.getElem?_eq_none (by simp;exact bg)] at hv;cases hv
  ·rw[List.getElem?_set_ne bR] at hv;exact hb.2 j v c hv hc
theorem Ot {ρ:Plc}{n:Nat}(cs:List Value) {m:Nat}(h:m=cs.length):LRel ρ n (List.replicate m poison) cs :=
 ⟨by simp[h],fun i v c hv _=>by
  have:=List.mem_of_getElem? hv;rw[List.mem_replicate] at this;rw[this.2];exact .poison c⟩
def RoRel (dg ro:Option Nat) (ρ:Plc) (n:Nat):Prop:=(dg=none∧ro=none)∨∃ i l,dg=some i∧ro=some l∧i<n∧∀ p,ρ i=some p→p.blk=l
theorem RoRel.ext {dg ro:Option Nat}{ρ ρ':Plc}{σ σ':Heap}{w w':World}(h:RoRel dg ro ρ σ.n) (hE:Ext ρ σ w ρ' σ' w'):RoRel dg ro ρ' σ'.n:=by
 rcases h with h|⟨i,l,h1,h2,h3,h4⟩
 ·exact .inl h
 ·exact .inr ⟨i,l,h1,h2,Nat.lt_of_lt_of_le h3 hE.n,fun p hp=>h4 p (hE.pl i h3 p hp)⟩
def Sound (P:Program) (S:VSpecs) (c:Code) (vc:VCode):Prop :=
 ∀ ⦃B:Nat⦄ (dg ro:Option Nat) (n:Nat) (Q:Exit→Env→Heap→Prop) (env:Env) (σ:Heap) (ρ:Plc) (w:World) (a:Act),vwp S vc dg Q env σ→HRel ρ σ w→LRel ρ σ.n env a.tmps.toList→Mks B a.defers w→RoRel dg ro ρ σ.n →
  ∀ (Q':Exit→Act→World→Prop),(∀ e a' w',P8 B (List.length env) ρ σ w (Q e) a' w'→Q' e a' w')→c.wpIn (FF ro) n P Q' a w
theorem Q0g {ρ:Plc}{n:Nat}:∀ (ps:List Nat) (vs cs:List Value) (env:Env) (tmps:Array Value),LRel ρ n env tmps.toList→LRel ρ n vs cs →
  LRel ρ n (TQ env ps vs) ((ps.zip cs).foldl (fun (tmps:Array Value) (q:Nat×Value)=>tmps.setIfInBounds q.1 q.2) tmps).toList:=by
 intro ps;induction ps with
 |nil=>intro vs cs env tmps h _;cases vs<;>exact h
 |cons p ps ih =>
  intro vs cs env tmps h hv;cases vs with
  |nil =>
   cases cs with
   |nil=>exact h
   |cons _ _=>have:=hv.1;simp at this
  |cons v vs =>
   cases cs with
   |nil=>have:=hv.1;simp at this
   |cons c cs =>simp only[TQ,List.zip_cons_cons,List.foldl_cons];refine ih vs cs _ _ ?_ ⟨by have:=hv.1;simpa using this,fun i a b ha hb=>hv.2 (i+1) a b (by simpa using ha) (by simpa using hb)⟩;rw[Array.toList_setIfInBounds];exact h.set p (hv.2 0 v c rfl rfl)
theorem XS {w:World}{l:Nat}{r:Loop}(h:w.heap[l]?=some (.loop r)):(Instr.getLoop l).run P w=.ok r w:=by simp[Instr.getLoop,QG h (fun _ _ _ e=>by cases e)]
theorem MZ {ρ:Plc}{σ:Heap}{w:World}(hH:HRel ρ σ w) {i:Nat}{env:Env}{r:Loop}{st:LoopState}{pend:Option Code}{wr:Bool}(h:σ.get i=some (.obj (.lp env r st pend) wr)) :
  ∃ p,ρ i=some p∧w.heap[p.blk]?=some (.loop {r with state:=st,pending:=pend})∧LRel ρ σ.n env r.tmps.toList:=by
 obtain⟨p,hp,_,O,h1,rfl,h2⟩:=hH.live i _ h;exact⟨p,hp,h1,h2⟩
theorem Ek {ρ:Plc}{σ:Heap}{w:World}(hH:HRel ρ σ w) {i:Nat}{env:Env}{r:Loop}{st:LoopState}{pend:Option Code}{p:Pl}(hp:ρ i=some p) (h:σ.get i=some (.obj (.lp env r st pend) true)) (mn:LoopState) (bS:Option Code) :
  HRel ρ (σ.upd i (.obj (.lp env r mn bS) true)) (T9 w p.blk (.loop {r with state:=mn,pending:=bS})) ∧
  Ext ρ σ w ρ (σ.upd i (.obj (.lp env r mn bS) true)) (T9 w p.blk (.loop {r with state:=mn,pending:=bS})):=by
 obtain⟨p',br,h1,h2⟩:=MZ hH h;exact hH.setObj hp h ⟨rfl,h2⟩
theorem Fv {eI body:Code}{va vb:VCode}(ha:Sound P S eI va) (hb:Sound P S body vb) (ps:List Nat) (env:Env) (r:Loop) (fL:r.assign=eI) (dR:r.body=body) (jD:r.params.toList=ps) (i:Nat) :
  Kx P i (IA (vwp S va (some i)) (vwp S vb (some i)) ps env r i):=by
 intro args σ K h ρ w aw hH hL;obtain⟨h1,h2,h3⟩:=h;obtain⟨p,hp,aF,lk⟩:=MZ hH h1;refine⟨p,hp,r.fn,(r.params.zip aw).foldl (fun tmps (t,a)=>tmps.setIfInBounds t a) r.tmps,r.assign,r.body,?_,?_⟩
 ·have aE:aw.size=r.params.size:=by
   have h4:=hL.1;have:r.params.size=ps.length:=by rw[←jD];simp
   simp at h4;omega
  simp[Instr.yield,XS aF,aE]
 ·refine roundIn_of_wpIn (F:=Fence.wide) trivial ?_;rw[fL,dR];refine ha (some i) (some p.blk) 0 _ _ σ ρ w _ h3 hH ?_ (Mks.nil (Nat.le_refl _)) (.inr ⟨i,p.blk,rfl,rfl,σ.lt h1,fun q hq=>by rw[hp] at hq;obtain rfl:=osj hq;rfl⟩) _ ?_
  ·have:=Q0g ps args aw.toList env r.tmps lk hL;rw[←jD,←Array.toList_zip,Array.foldl_toList] at this;rw[jD] at this;exact this
  ·intro e a1 w1 ⟨bt,ρ1,σ1,k1,k0,k2,k3,k4,k5⟩;cases e with
   |normal =>
    obtain⟨k6,k7⟩:=k1;obtain⟨p1,jE,kf,su⟩:=MZ k2 k6;have mg:p1=p:=by have:=k5.pl i (σ.lt h1) p1 jE;rw[hp] at this;exact(osj this).symm
    subst mg;obtain⟨j1,j2⟩:=Ek k2 jE k6 .busy none;refine⟨_,by simp[Instr.beginRound,XS kf,QX kf (fun _ _ _ e=>by cases e)];rfl,?_⟩;refine hb (some i) (some p1.blk) 0 _ _ _ ρ1 _ a1 k7 j1 k3 (k4.ext k2 j2) (.inr ⟨i,p1.blk,rfl,rfl,σ1.lt k6,fun q hq=>by rw[jE] at hq;obtain rfl:=osj hq;rfl⟩) _ ?_;intro e2 a2 w2 ⟨aR,ρ2,σ2,m1,m0,m2,m3,m4,m5⟩;obtain⟨m6,m7⟩:=m1;obtain⟨p2,eQ,eJ,sw⟩:=MZ m2 m6;have mg:p2=p1:=by have h8:=m5.pl i (by rw[Heap.upd_n];exact σ1.lt k6) p2 eQ;rw[jE] at h8;exact(osj h8).symm
    subst mg;cases e2 with
    |normal =>obtain⟨q1,q2⟩:=Ek m2 eQ m6 .ready none;refine⟨.bool true,_,?_,_,rfl,.bool true,ρ2,_,m7,.bool _,q1,k5.trans (j2.trans (m5.trans q2))⟩;simp[Instr.endRound,XS eJ,QX eJ (fun _ _ _ e=>by cases e)]
    |ret =>obtain⟨q1,q2⟩:=Ek m2 eQ m6 .done (some .ret);refine⟨.bool false,_,?_,_,rfl,.bool false,ρ2,_,m7,.bool _,q1,k5.trans (j2.trans (m5.trans q2))⟩;simp[Instr.endRound,XS eJ,QX eJ (fun _ _ _ e=>by cases e)]
    |exit id =>obtain⟨q1,q2⟩:=Ek m2 eQ m6 .done (some (.exit id));refine⟨.bool false,_,?_,_,rfl,.bool false,ρ2,_,m7,.bool _,q1,k5.trans (j2.trans (m5.trans q2))⟩;simp[Instr.endRound,XS eJ,QX eJ (fun _ _ _ e=>by cases e)]
    |goto l=>exact m7.elim
    |panic ch=>exact m7.elim
    |outgrown=>exact m7.elim
   |exit id=>exact k1.elim
   |goto l=>exact k1.elim
   |ret=>exact k1.elim
   |panic ch=>exact k1.elim
   |outgrown=>exact k1.elim
theorem Heap.ext' {σ σ':Heap}(h:∀ j,σ.get j=σ'.get j) (hn:σ.n=σ'.n):σ=σ':=by obtain⟨g,n,wf⟩:=σ;obtain⟨g',n',wq⟩:=σ';have hg:g=g':=funext h;have mq:n=n':=hn;subst hg;subst mq;rfl
theorem Mks.push {ds:List Deferred}{w:World}(h:Mks B ds w):Mks B ({target:=.collected w.heap.size,args:=#[]}::ds) (w.alloc (.deferred (some []))):=by
 obtain⟨h0,Ds,h1,h2,h3⟩:=h;have ah:∀ D∈Ds,D<w.heap.size:=fun D hD=>by
  rcases Nat.lt_or_ge D w.heap.size with h'|h'
  ·exact h'
  ·have:=(h3 D hD).2;rw[Array.getElem?_eq_none h'] at this;cases this
 refine⟨by rw[World.size_alloc];omega,w.heap.size::Ds,by rw[h1];rfl,List.nodup_cons.2 ⟨fun hh=>Nat.lt_irrefl _ (ah _ hh),h2⟩,fun D hD=>?_⟩;rcases List.mem_cons.1 hD with rfl|hD
 ·refine⟨h0,?_⟩;show (w.heap.push _)[w.heap.size]?=_;simp
 ·refine⟨(h3 D hD).1,?_⟩;show (w.heap.push _)[D]?=_;rw[Array.getElem?_push,if_neg (by have:=ah D hD;omega)];exact(h3 D hD).2
theorem Ext.alloc_other {ρ:Plc}{σ:Heap}(w:World) (O:Obj):Ext ρ σ w ρ σ (w.alloc O) :=
 ⟨rfl,rfl,rfl,by have:=World.size_alloc w O;omega,fun B hB _=>by show (w.heap.push _)[B]?=_;rw[Array.getElem?_push,if_neg (by omega)],fun _ _ h=>h,Nat.le_refl _,fun _ _ _ h=>h⟩
theorem HRel.alloc_other {ρ:Plc}{σ:Heap}{w:World}(h:HRel ρ σ w) (O:Obj):HRel ρ σ (w.alloc O) :=
 h.world (by have:=World.size_alloc w O;omega) (fun i p hp=>by show (w.heap.push _)[p.blk]?=_;rw[Array.getElem?_push,if_neg (by have:=h.lt i p hp;omega)]) fun g cs hg=>by show (w.heap.push _)[g]?=_;rw[Array.getElem?_push,if_neg (by have:=h.tab.lt hg;omega)]
theorem F5 {dg ro:Option Nat}{ρ:Plc}{σ:Heap}{w:World}{a:Act}{env:Env}(hH:HRel ρ σ w) (hL:LRel ρ σ.n env a.tmps.toList) (hd:Mks B a.defers w) (hR:RoRel dg ro ρ σ.n) (aP:Z2x σ dg) (fn:FuncId) (ps:Array Nat) (eI body:Code) :
  ∃ (r:Loop) (mark:List Deferred) (w1:World) (ρ1:Plc),(Instr.enterLoop fn a.tmps ps eI body ro).run P w=.ok (w1.heap.size-1,mark) w1∧r.assign=eI∧r.body=body∧r.params=ps ∧
   HRel ρ1 (σ.push (.obj (.lp env r .ready none) true)) w1∧Ext ρ σ w ρ1 (σ.push (.obj (.lp env r .ready none) true)) w1∧Mks B (mark++a.defers) w1 ∧
   (∀ p,ρ1 σ.n=some p→p.blk=w1.heap.size-1):=by
 rcases hR with⟨rfl,rfl⟩|⟨i,l,rfl,rfl,hi,gN⟩
 ·let w0:=w.alloc (.deferred (some []));have f_:HRel ρ σ w0:=hH.alloc_other _;have qy:Ext ρ σ w ρ σ w0:=Ext.alloc_other _ _;let r:Loop:={state:=.ready,pending:=none,fn,tmps:=a.tmps,params:=ps,assign:=eI,body:=body,defers:=w.heap.size};obtain⟨ρ1,h1,h2,h3⟩:=f_.newObj (.lp env r .ready none) (.loop r) ⟨rfl,hL⟩;have aE:(w0.alloc (.loop r)).heap.size-1=w0.heap.size:=by have:=World.size_alloc w0 (.loop r);omega
  refine⟨r,[{target:=.collected w.heap.size,args:=#[]}],w0.alloc (.loop r),ρ1,?_,rfl,rfl,rfl,h2,qy.trans h3,?_,fun p hp=>?_⟩
  ·rw[aE];simp[Instr.enterLoop];exact⟨(World.size_alloc w _).symm,rfl⟩
  ·exact(hd.push).ext f_ h3
  ·rw[h1] at hp;obtain rfl:=osj hp;rw[aE]
 ·obtain⟨tT,r0,st,pend,hb⟩:=aP;obtain⟨p,hp,aF,_⟩:=MZ hH hb;have aX:=gN p hp;subst aX;let r:Loop:={state:=.ready,pending:=none,fn,tmps:=a.tmps,params:=ps,assign:=eI,body:=body,defers:=r0.defers};obtain⟨ρ1,h1,h2,h3⟩:=hH.newObj (.lp env r .ready none) (.loop r) ⟨rfl,hL⟩;have aE:(w.alloc (.loop r)).heap.size-1=w.heap.size:=by have:=World.size_alloc w (.loop r);omega
  refine⟨r,[],w.alloc (.loop r),ρ1,?_,rfl,rfl,rfl,h2,h3,?_,fun p hp=>?_⟩
  ·rw[aE];simp[Instr.enterLoop,XS aF];rfl
  ·exact hd.ext hH h3
  ·rw[h1] at hp;obtain rfl:=osj hp;rw[aE]
theorem FC (hS:OkSpecs P S) {eI body:Code}{va vb:VCode}(ha:Sound P S eI va) (hb:Sound P S body vb) (g:Operand) (hg:Xz g=true) (ps:Array Nat):Sound P S (.rangeFunc g ps eI body) (.rangeF g ps.toList va vb):=by
 intro B dg ro n Q env σ ρ w a h hH hL hd hR Q' hQ;simp only[vwp,A7] at h;have gO:=Ww hL hg;split at h
 ·rename_i f first cap bg
  rw[bg] at gO;split at h
  ·rename_i T hT;obtain⟨aP,h⟩:=h;refine wpIn_rangeFunc fun fn _=>?_;obtain⟨r,mark,w1,ρ1,he,fL,dR,jD,jd,fI,tU,eP⟩:=F5 (P:=P) hH hL hd hR aP fn ps eI body;obtain⟨il,gA⟩:=hS.it f T hT;obtain⟨gs,ds,pr,kW,jZ⟩:∃ gs ds,a.eval g=.func (.func f) gs ds∧LRel ρ σ.n first.toList gs.toList∧LRel ρ σ.n cap.toList ds.toList:=by
    cases pr:a.eval g with
    |func wu gs ds =>
     rw[pr] at gO;cases gO with
     |func _ _ _ _ _ k1 k2 k3 k4=>exact⟨gs,ds,rfl,LRel.of_array k1 k3,LRel.of_array k2 k4⟩
    |_=>rw[pr] at gO;cases gO
   have hY:Kx P σ.n (IA (vwp S va (some σ.n)) (vwp S vb (some σ.n)) ps.toList env r σ.n):=Fv ha hb ps.toList env r fL dR (by rw[jD]) σ.n;have ll:=gA σ.n _ hY _ _ _ (h r) ρ1 w1 (gs++#[.func (.yield (w1.heap.size-1)) #[] #[]]++ds) jd (by
    have k1:=fI.lrel kW;have k2:=fI.lrel jZ;have k3:LRel ρ1 (σ.push (.obj (.lp env r .ready none) true)).n [.func (.yield σ.n) #[] #[]] [.func (.yield (w1.heap.size-1)) #[] #[]] :=
     LRel.cons (.yield _ _ (by simp) (fun p hp=>(eP p hp).symm)) (LRel.nil _ _)
    have:=(k1.append k3).append k2;simpa using this)
   refine⟨w1.heap.size-1,mark,w1,{target:=.fn (.func f) ds,args:=gs++#[.func (.yield (w1.heap.size-1)) #[] #[]]},w1,f,gs++#[.func (.yield (w1.heap.size-1)) #[] #[]]++ds,w1,?_,?_,fun _ _=>IW _ _,?_,(fun hh=>by rw[CG] at hh;cases hh),?_⟩
   ·rw[Q4q];exact he
   ·simp[resolve,pr,Deferred.ofValue];rfl
   ·simp only[invoke];exact Mr il _ _
   ·refine (Iw ll).mono fun e w3 ⟨c,tV,v,ρ3,σ3,k1,k2,k3,k4⟩=>?_;subst tV;unfold Q4v at k1;split at k1
    ·rename_i ae r' st pend mT;obtain⟨a_,k1⟩:=k1;obtain⟨p3,sx,iq,sy⟩:=MZ k3 mT;have aX:p3.blk=w1.heap.size-1:=eP p3 (k4.pl σ.n (by simp) p3 sx);obtain⟨q1,q2⟩:=Ek k3 sx mT .exhausted pend;rw[aX] at iq q1 q2;obtain⟨q3,q4⟩:=q1.kill σ.n;have fK:(σ3.upd σ.n (.obj (.lp ae r' .exhausted pend) true)).kill σ.n=σ3.kill σ.n:=by
      apply Heap.ext'
      ·intro j;by_cases hj:j=σ.n
       ·subst hj;rw[Heap.get_kill_self,Heap.get_kill_self]
       ·rw[Heap.get_kill_ne _ hj,Heap.get_kill_ne _ hj,Heap.get_upd_ne _ _ hj]
      ·rfl
     rw[fK] at q3 q4;have kg:=fI.trans (k4.trans (q2.trans q4));have cy:=tU.ext jd (k4.trans (q2.trans q4));refine⟨pend,_,by simp[Instr.endLoop,XS iq,QX iq (fun _ _ _ e=>by cases e),a_];rfl,?_⟩;have cw:∀ K:Env→Heap→Prop,K env (σ3.kill σ.n)→P8 B (List.length env) ρ σ w K {a with defers:=mark++a.defers} (T9 w3 (w1.heap.size-1) (.loop {r' with state:=.exhausted,pending:=pend})):=fun K hK =>
      ⟨env,_,_,hK,rfl,q3,kg.lrel hL,cy,kg⟩
     cases pend with
     |none=>exact hQ _ _ _ (cw _ k1)
     |some c =>
      cases c with
      |ret=>exact wpIn_ret (hQ _ _ _ (cw _ k1))
      |exit id=>exact wpIn_exit (hQ _ _ _ (cw _ k1))
      |_=>exact k1.elim
    ·exact k1.elim
  ·exact h.elim
 ·exact h.elim
end
end Go.V
namespace Go.V
open Go
theorem Yq {ev fM:Operand→Value}(x:Option Operand) (d:Nat) (h:∀ y∈x.toList,ev y=fM y):JB ev x d=JB fM x d:=by
 cases x with
 |none=>rfl
 |some y=>simp only[JB];rw[h y (by simp)]
theorem O7 {o:XOp}{ev fM:Operand→Value}{σ:Heap}(h:∀ x∈o.opds,ev x=fM x):Zt o ev σ=Zt o fM σ:=by cases o<;>simp only[XOp.opds,List.mem_cons,List.not_mem_nil,or_false,forall_eq_or_imp,forall_eq] at h<;>simp only[Zt]<;>(try simp only[h])
theorem H5 {o:VOp}{ev fM:Operand→Value}{σ:Heap}(h:∀ x∈o.opds,ev x=fM x):Q8 o ev σ=Q8 o fM σ:=by
 cases o
 case build z ps =>
  have:(ps.map fun p=>(p.1,p.2.1,ev p.2.2))=ps.map fun p=>(p.1,p.2.1,fM p.2.2):=List.map_congr_left fun p hp=>by rw[h p.2.2 (List.mem_map.2 ⟨p,hp,rfl⟩)]
  simp only[Q8,this]
 case buildSlice e z n ps =>
  have:(ps.map fun p=>(p.1*e.sz,e.sz,ev p.2))=ps.map fun p=>(p.1*e.sz,e.sz,fM p.2):=List.map_congr_left fun p hp=>by rw[h p.2 (List.mem_map.2 ⟨p,hp,rfl⟩)]
  simp only[Q8,this]
 case makeFunc fn a b =>
  have h1:a.map ev=a.map fM:=List.map_congr_left fun x hx=>h x (List.mem_append_left _ hx);have h2:b.map ev=b.map fM:=List.map_congr_left fun x hx=>h x (List.mem_append_right _ hx);simp only[Q8,h1,h2]
 case slice size x lo hi mx =>
  have h1:=Yq lo 0 (fun y hy=>h y (by simp[VOp.opds] at *;exact .inr (.inl hy)));have h2:∀ n,JB ev hi n=JB fM hi n:=fun n=>Yq hi n (fun y hy=>h y (by simp[VOp.opds] at *;exact .inr (.inr (.inl hy))));have h3:=Yq mx 0 (fun y hy=>h y (by simp[VOp.opds] at *;exact .inr (.inr (.inr hy))));have h4:=h x (by simp[VOp.opds]);simp only[Q8,h4];cases fM x<;>simp only[h1,h2,h3]
 case sliceStr x lo hi =>
  have h1:=Yq lo 0 (fun y hy=>h y (by simp[VOp.opds] at *;exact .inr (.inl hy)));have h2:∀ n,JB ev hi n=JB fM hi n:=fun n=>Yq hi n (fun y hy=>h y (by simp[VOp.opds] at *;exact .inr (.inr hy)));have h4:=h x (by simp[VOp.opds]);simp only[Q8,h4];cases fM x<;>simp only[h1,h2]
 case ext o=>exact O7 h
 all_goals
  simp only[VOp.opds,List.mem_cons,List.not_mem_nil,or_false,forall_eq_or_imp,forall_eq] at h;simp only[Q8];try simp only[h]
theorem Ee {S:VSpecs}{o:VOp}{env ae:Env}{σ:Heap}{K:Value→Heap→Prop}(h:∀ x∈o.opds,Q4 env x=Q4 ae x):vop S o env σ K=vop S o ae σ K:=by
 cases o
 case callF f bP =>
  have:bP.map (Q4 env)=bP.map (Q4 ae):=List.map_congr_left h;simp only[vop,this]
 case callV f bP =>
  have h1:Q4 env f=Q4 ae f:=h f (by simp[VOp.opds]);have h2:bP.map (Q4 env)=bP.map (Q4 ae):=List.map_congr_left fun x hx=>h x (by simp[VOp.opds,hx]);simp only[vop,h1,h2]
 case ext o =>
  by_cases hx:∃ x,o=.nextMap x
  ·obtain⟨x,rfl⟩:=hx;have h1:Q4 env x=Q4 ae x:=h x (by simp[VOp.opds,XOp.opds]);simp only[vop,h1]
  ·have e1:=H5 (σ:=σ) h;cases o<;>first|exact absurd ⟨_,rfl⟩ hx|(simp only[vop];rw[e1])
 all_goals
  have e1:=H5 (σ:=σ) h;simp only[vop];rw[e1]
theorem Heap.Le.refl (σ:Heap):σ.Le σ:=⟨Nat.le_refl _,fun _ _ h=>h⟩
theorem Heap.Le.trans {σ σ' aJ:Heap}(h:σ.Le σ') (k:σ'.Le aJ):σ.Le aJ:=⟨Nat.le_trans h.1 k.1,fun i b hb=>k.2 i b (h.2 i b hb)⟩
theorem Z1b {σ σ':Heap}(h:σ.Le σ') {esz:Nat}{v:Value}{xs:List Value}(hx:σ.sl esz v=some xs):σ'.sl esz v=some xs:=by
 unfold Heap.sl at hx ⊢;split at hx
 ·exact hx
 ·rename_i i o n c;split at hx
  ·rename_i cs e wr t hb;simp only[h.2 i _ hb];exact hx
  ·cases hx
 ·cases hx
theorem Cr {σ σ':Heap}(h:σ.Le σ') {m:Nat}{x:List JP×Nat×Bool}(hx:σ.mapAt m=some x):σ'.mapAt m=some x:=by
 unfold Heap.mapAt at hx ⊢;split at hx
 ·rename_i es clock wr hb;simp only[h.2 m _ hb];exact hx
 ·cases hx
theorem OH {σ σ':Heap}(h:σ.Le σ') {kd:Nat}{a b:Value}{r:Bool}(hx:Jq kd a b σ=some r):Jq kd a b σ'=some r:=by
 unfold Jq at hx ⊢
 split at hx<;>first
  |exact hx
  |(cases hx;done)
  |skip
 rename_i i o j q;split at hx
 ·rename_i hc;obtain⟨h1,h2,h3⟩:=hc;obtain⟨b,hb⟩:=Option.isSome_iff_exists.1 h3;rw[if_pos ⟨h1,h2,by rw[h.2 _ _ hb];rfl⟩];exact hx
 ·cases hx
theorem AH {neg:Bool}{s:List MK}{x y:Operand}{ev:Operand→Value}{σ σ' σ1:Heap}{v:Value}(h:Zt (.eqAgg neg s x y) ev σ=some (v,σ1)):Zt (.eqAgg neg s x y) ev σ'=some (v,σ'):=by
 simp only[Zt] at h ⊢;split at h
 ·split at h
  ·rename_i hc;rw[if_pos hc];simp at h;obtain⟨rfl,_⟩:=h;rfl
  ·cases h
 ·cases h
theorem Q1r {o:XOp}{ev:Operand→Value}{σ σ' σ1:Heap}{v:Value}(hk:(VOp.ext o).kind≠2) (h:Zt o ev σ=some (v,σ1)) (hl:σ.Le σ'):Zt o ev σ'=some (v,σ'):=by
 cases o<;>simp only[VOp.kind,VOp.quiet,XOp.quiet] at hk<;>try (exact absurd rfl hk)
 case eqAgg neg s x y=>exact AH h
 case eqNil kd neg x y =>
  simp only[Zt] at h ⊢;split at h
  ·rename_i r hr;rw[OH hl hr];simp at h;obtain⟨rfl,_⟩:=h;rfl
  ·cases h
 case lookup mk z ok x i =>
  simp only[Zt] at h ⊢;split at h
  ·rename_i bQ;rw[if_pos bQ];split at h
   ·simp at h;obtain⟨rfl,_⟩:=h;rfl
   ·rename_i m wv;split at h
    ·rename_i es clock wr hm;simp only[Cr hl hm];split at h
     ·rename_i af;rw[if_pos af];split at h<;>(rename_i hf;simp at h;obtain⟨rfl,_⟩:=h;rfl)
     ·cases h
    ·cases h
   ·cases h
  ·cases h
 case lenMap x =>
  simp only[Zt] at h ⊢;split at h
  ·simp at h;obtain⟨rfl,_⟩:=h;rfl
  ·split at h
   ·rename_i es clock wr hm;simp only[Cr hl hm];simp at h;obtain⟨rfl,_⟩:=h;rfl
   ·cases h
  ·cases h
 case entry x =>
  simp only[Zt] at h ⊢;split at h
  ·rename_i i hx;split at h
   ·rename_i m since seen last wr hb;simp only[hl.2 i _ hb];split at h
    ·rename_i es clock j_ b hm dO;simp only[Cr hl hm,dO];split at h
     ·rename_i cO;rw[if_pos cO];split at h
      ·rename_i e hf;split at h
       ·rename_i hp;rw[if_pos hp];simp at h;obtain⟨rfl,_⟩:=h;rfl
       ·cases h
      ·cases h
     ·cases h
    ·cases h
   ·cases h
  ·cases h
 case toUnsafe x =>
  simp only[Zt] at h ⊢;split at h
  ·simp at h;obtain⟨rfl,_⟩:=h;rfl
  ·rename_i i o hx;split at h
   ·rename_i c e wr t hb;simp only[hl.2 i _ hb];split at h
    ·rename_i hc;rw[if_pos hc];simp at h;obtain⟨rfl,_⟩:=h;rfl
    ·cases h
   ·cases h
  ·cases h
 case fromUnsafe u sz x =>
  simp only[Zt] at h ⊢;split at h
  ·simp at h;obtain⟨rfl,_⟩:=h;rfl
  ·rename_i i o hx;split at h
   ·rename_i c e hb;simp only[hl.2 i _ hb];split at h
    ·rename_i hc;rw[if_pos hc];simp at h;obtain⟨rfl,_⟩:=h;rfl
    ·cases h
   ·cases h
  ·cases h
 case sliceData x =>
  simp only[Zt] at h ⊢;split at h
  ·simp at h;obtain⟨rfl,_⟩:=h;rfl
  ·rename_i i o n cap hx;split at h
   ·rename_i hc;obtain⟨h1,h2⟩:=hc;obtain⟨b,hb⟩:=Option.isSome_iff_exists.1 h2;rw[if_pos ⟨h1,by rw[hl.2 _ _ hb];rfl⟩];simp at h;obtain⟨rfl,_⟩:=h;rfl
   ·cases h
  ·cases h
 case bytesStr x =>
  simp only[Zt] at h ⊢;split at h
  ·rename_i a n c hx;split at h
   ·rename_i xs bh;simp only[Z1b hl bh];split at h
    ·rename_i s hs;simp at h;obtain⟨rfl,_⟩:=h;rfl
    ·cases h
   ·cases h
  ·cases h
theorem TZ {o : VOp}{ev : Operand → Value}{σ σ' σ1 : Heap}{v : Value}(hk : o.kind = 0) (h : Q8 o ev σ = some (v, σ1)) : Q8 o ev σ' = some (v, σ') := by
  cases o
  case ext o =>
    cases o <;> first | (simp [VOp.kind, VOp.quiet, XOp.quiet] at hk; done) | skip
    case eqAgg neg s x y => exact AH h
  case slice size x lo hi mx => cases mx <;> simp [VOp.kind, VOp.quiet] at hk
  case build z ps =>
    simp only [Q8] at h ⊢;split at h
    · simp at h; obtain ⟨rfl, _⟩ := h; rfl
    · cases h
  all_goals first
    | (simp [VOp.kind, VOp.quiet] at hk; done)
    | skip
  all_goals
    simp only [Q8] at h ⊢
    (repeat' split at h) <;> first
      | (cases h; done)
      | (rename_i qz; obtain ⟨rfl, rfl, rfl⟩ := qz; simp_all; done)
      | (simp_all; done)
      | (simp_all
         obtain ⟨rfl, _⟩ := h
         first
          | rw [if_neg (by omega)]
          | rw [if_pos (by omega)])
theorem R5 {o:VOp}{ev:Operand→Value}{σ σ' σ1:Heap}{v:Value}(hk:o.kind≠2) (h:Q8 o ev σ=some (v,σ1)) (hl:σ.Le σ'):Q8 o ev σ'=some (v,σ'):=by
 cases o
 case ext o=>exact Q1r hk h hl
 case load agg size a =>
  simp only[Q8] at h ⊢;split at h
  ·split at h
   ·split at h
    ·rename_i af;rw[if_pos af];split at h
     ·simp at h;obtain⟨rfl,_⟩:=h;rfl
     ·cases h
    ·cases h
   ·cases h
  ·rename_i i o hx;split at h
   ·rename_i c e wr t hb;simp only[hl.2 i _ hb];split at h
    ·rename_i u hu;simp at h;obtain⟨rfl,_⟩:=h;rfl
    ·cases h
   ·cases h
  ·cases h
 case slice size x lo hi mx =>
  cases mx with
  |some m=>simp[VOp.kind,VOp.quiet] at hk
  |none =>
   simp only[Q8] at h ⊢;split at h
   ·rename_i a n cap hx;split at h
    ·rename_i l k eP cG;unfold YM at h ⊢;split at h
     ·rename_i heq;split at h
      ·rename_i hc;rw[if_pos hc];simp at h;obtain⟨rfl,_⟩:=h;rfl
      ·cases h
     ·rename_i i o n' au heq;split at h
      ·rename_i c e wr t hb;simp only[hl.2 i _ hb];simp only at h;split at h
       ·rename_i hc;rw[if_pos hc];simp at h;obtain⟨rfl,_⟩:=h;rfl
       ·cases h
      ·cases h
     ·cases h
    ·rename_i hm;cases hm
    ·cases h
   ·cases h
 all_goals first
  |(exact absurd rfl hk)
  |(exact TZ rfl h)
end Go.V
namespace Go.V
open Go
section
variable {P:Program}{S:VSpecs}{B:Nat}
def EL (lv:List VOper) (env:Env) (tr:Nat→Value) (A:Nat→Bool):Nat→Env
 |0=>env
 |i+1=>if A i then Xt (EL lv env tr A i) ((lv[i]?).bind (·.dst)) (tr i) else EL lv env tr A i
theorem Kf (lv:List VOper) (env:Env) (tr:Nat→Value) (A:Nat→Bool):∀ i,List.length (EL lv env tr A i)=List.length env
 |0=>rfl
 |i+1=>by
  simp only[EL];split
  ·rw[ZB];exact Kf lv env tr A i
  ·exact Kf lv env tr A i
theorem V5 (lv:List VOper) (env:Env) {tr tr':Nat→Value}{A B:Nat→Bool}:∀ i,(∀ l,l<i→tr l=tr' l)→(∀ l,l<i→A l=B l)→EL lv env tr A i=EL lv env tr' B i
 |0,_,_=>rfl
 |i+1,h,h'=>by simp only[EL];rw[V5 lv env i (fun l hl=>h l (by omega)) (fun l hl=>h' l (by omega)),h i (by omega),h' i (by omega)]
theorem Ky (env:Env) (d:Option Nat) (v:Value) {x:Nat}(h:d≠some x):(Xt env d v)[x]?=env[x]?:=by
 cases d with
 |none=>rfl
 |some d=>simp only[Xt];rw[List.getElem?_set_ne (by rintro rfl;exact h rfl)]
theorem Q7n (lv:List VOper) (env:Env) {tr tr':Nat→Value}{A:Nat→Bool}:∀ i,(∀ l,l<i→A l=true→tr l=tr' l)→EL lv env tr A i=EL lv env tr' A i
 |0,_=>rfl
 |i+1,h=>by
  simp only[EL];rw[Q7n lv env i fun l hl hA=>h l (by omega) hA];split
  ·rename_i hA;rw[h i (by omega) hA]
  ·rfl
theorem Dg (lv:List VOper) (env:Env) (tr:Nat→Value) {A B:Nat→Bool}(x:Nat):∀ i,(∀ l,l<i→(lv[l]?).bind (·.dst)=some x→A l=B l)→(EL lv env tr A i)[x]?=(EL lv env tr B i)[x]?
 |0,_=>rfl
 |i+1,h=>by
  have ih:=Dg lv env tr x i (fun l hl hd=>h l (by omega) hd);by_cases hd:(lv[i]?).bind (·.dst)=some x
  ·have ln:=h i (by omega) hd;simp only[EL];rw[ln];split
   ·rw[hd];simp only[Xt,List.getElem?_set];rw[Kf,Kf];rfl
   ·exact ih
  ·simp only[EL]
   split<;>split<;>first
    |exact ih
    |(rw[Ky _ _ _ hd];exact ih)
    |(rw[Ky _ _ _ hd,Ky _ _ _ hd];exact ih)
theorem BP (lv:List VOper) (env:Env) (tr:Nat→Value) (j:Nat):∀ i,j≤i→EL lv env tr (fun l=>decide (l<j)) i=EL lv env tr (fun _=>true) j
 |0,h=>by
  obtain rfl:j=0:=by omega
  rfl
 |i+1,h=>by
  by_cases hj:j=i+1
  ·subst hj;exact V5 lv env _ (fun _ _=>rfl) (fun l hl=>by simp[hl])
  ·simp only[EL];rw[if_neg (by simp;omega)];exact BP lv env tr j i (by omega)
def DFact (S:VSpecs) (d:DInfo) (lv:List VOper) (env:Env) (tr:Nat→Value) (hp:Nat→Heap) (u:Nat) (i:Nat):Prop :=
 ∀ v,lv[i]?=some v→∃ b,Je (EL lv env tr (fun _=>true) i) v.guard=some b ∧
  (b=true→v.op.kind=2→vop S v.op (EL lv env tr (fun _=>true) i) (hp (d.rank i)) (fun v' σ'=>v'=tr i∧σ'=hp (d.rank i+1))) ∧
  (b=true→v.op.kind=1→∀ r,d.kmin i≤r→r≤d.kmax i→r≤u→∃ σ',Q8 v.op (Q4 (EL lv env tr (fun _=>true) i)) (hp r)=some (tr i,σ')) ∧
  (b=true→v.op.kind≠1→v.op.kind≠2→∃ σ',Q8 v.op (Q4 (EL lv env tr (fun _=>true) i)) (hp (d.rank i))=some (tr i,σ')) ∧
  (b=false→tr i=undef∧(v.op.kind=2→hp (d.rank i+1)=hp (d.rank i)))
def Q9u (d:DInfo) (lv:List VOper) (env:Env) (tr:Nat→Value) (i:Nat) (pend:List (Nat×(Heap→Prop))):Prop :=
 ∀ l,l<i→∀ v,lv[l]?=some v→Je (EL lv env tr (fun _=>true) l) v.guard=some true→v.op.kind=1→d.rank i+1≤d.kmax l→(d.kmax l,Xc v.op (Q4 (EL lv env tr (fun _=>true) l)) (tr l))∈pend
inductive Know (S:VSpecs) (d:DInfo) (lv:List VOper) (env:Env) (K:Env→Heap→Prop):List Nat→Nat→(Nat→Value)→(Nat→Heap)→Prop
 |full {nd:List Nat}{tr:Nat→Value}{hp:Nat→Heap}(hF:∀ l,l<lv.length→l∉nd→DFact S d lv env tr hp (d.rank lv.length) l) (hK:K (EL lv env tr (fun _=>true) lv.length) (hp (d.rank lv.length))):Know S d lv env K nd lv.length tr hp
 |part {nd:List Nat}{i:Nat}{tr:Nat→Value}{hp:Nat→Heap}{v:VOper}(hv:lv[i]?=some v) (hk:v.op.kind=2) (hw:Je (EL lv env tr (fun _=>true) i) v.guard=some true)
   (hF:∀ l,l<i→l∉nd→DFact S d lv env tr hp (d.rank i) l) (ki:∀ j,i<j→j<lv.length→∃ e u,i≤e∧e<j∧lv[e]?=some u∧((∃ x,u.dst=some x∧∀ v,lv[j]?=some v→x∈Vo v)∨(u.op.kind=2∧∀ v,lv[j]?=some v→v.op.kind=2)))
   (R:Value→Heap→Prop) (ga:vop S v.op (EL lv env tr (fun _=>true) i) (hp (d.rank i)) R)
   (I:∀ u σ',R u σ'→Nat) (T:∀ u σ',R u σ'→Nat→Value) (H:∀ u σ',R u σ'→Nat→Heap)
   (hT:∀ u σ' h,i<I u σ' h∧(∀ l,l<i→T u σ' h l=tr l)∧T u σ' h i=u∧(∀ r,r≤d.rank i→H u σ' h r=hp r)∧H u σ' h (d.rank i+1)=σ')
   (next:∀ u σ' h,Know S d lv env K (i::nd) (I u σ' h) (T u σ' h) (H u σ' h)):Know S d lv env K nd i tr hp
theorem E1 {r:Nat}{σ:Heap}:∀ {l:List (Nat×(Heap→Prop))},X6 r σ l→∀ c∈l,r≤c.1→c.2 σ
 |[],_,_,h=>by cases h
 |x::l,h,c,hc=>by
  rcases List.mem_cons.1 hc with rfl|hc
  ·exact h.1
  ·exact E1 h.2 c hc
theorem T7 {op:VOp}{ev:Operand→Value}{v:Value}{τ:Heap}(h:Xc op ev v τ):∃ σ',Q8 op ev τ=some (v,σ'):=by
 unfold Xc at h;cases hv:Q8 op ev τ with
 |none=>rw[hv] at h;exact h.elim
 |some q =>rw[hv] at h;have h:q.1=v:=h;exact⟨q.2,by rw[←h]⟩
theorem DFact.congr {d:DInfo}{lv:List VOper}{env:Env}{tr tr':Nat→Value}{hp br:Nat→Heap}{u u' l:Nat}(h:DFact S d lv env tr hp u l) (ht:∀ k,k≤l→tr' k=tr k) (hh:∀ r,r≤u→br r=hp r) (hr:d.rank l≤u) (h2:∀ v,lv[l]?=some v→v.op.kind=2→d.rank l+1≤u)
  (hu:∀ v,lv[l]?=some v→Je (EL lv env tr (fun _=>true) l) v.guard=some true→v.op.kind=1→∀ r,u<r→r≤u'→r≤d.kmax l→∃ σ',Q8 v.op (Q4 (EL lv env tr (fun _=>true) l)) (br r)=some (tr l,σ')):DFact S d lv env tr' br u' l:=by
 intro v hv;obtain⟨b,f1,f2,f3,f4,f5⟩:=h v hv;have e:=V5 lv env (tr:=tr') (tr':=tr) (A:=fun _=>true) (B:=fun _=>true) l (fun k hk=>ht k (by omega)) (fun _ _=>rfl);rw[e,ht l (Nat.le_refl _),hh _ hr];refine⟨b,f1,fun hb hk=>?_,fun hb hk r r1 r2 r3=>?_,f4,fun hb=>⟨(f5 hb).1,fun hk=>?_⟩⟩
 ·rw[hh _ (h2 v hv hk)];exact f2 hb hk
 ·rcases Nat.lt_or_ge u r with ah|bg
  ·subst hb;exact hu v hv f1 hk r ah r3 r2
  ·rw[hh r bg];exact f3 hb hk r r1 r2 bg
 ·rw[hh _ (h2 v hv hk)];exact(f5 hb).2 hk
theorem SJ:∀ (d:DInfo) (rest:List VOper) (i:Nat) (xs:List Nat),waits xs (d.opers rest i)=true→∀ (k:Nat) (v:VOper),rest[k]?=some v→v.op.kind=2∨(∃ x∈xs,x∈Vo v)∨∃ (e:Nat) (u:VOper) (x:Nat),e<k∧rest[e]?=some u∧u.dst=some x∧x∈Vo v
 |d,[],i,xs,_,k,v,hv=>by simp at hv
 |d,o::rest,i,xs,h,k,v,hv=>by
  simp only[DInfo.opers,waits,Bool.and_eq_true,Bool.or_eq_true,List.any_eq_true,beq_iff_eq] at h;obtain⟨h1,h2⟩:=h;cases k with
  |zero =>
   obtain rfl:o=v:=by simpa using hv
   rcases h1 with h1|⟨x,hx,bh⟩
   ·exact .inl h1
   refine .inr (.inl ⟨x,by simpa using bh,?_⟩);simp only[Vo,List.mem_append] at hx ⊢;rcases hx with hx|hx
   ·exact .inl (.inr hx)
   ·exact .inr hx
  |succ k =>
   rcases SJ d rest (i+1) _ h2 k v (by simpa using hv) with h3|⟨y,hy,sA⟩|⟨e,u,y,he,hu,hd,hn⟩
   ·exact .inl h3
   ·rcases List.mem_append.1 hy with hy|hy
    ·exact .inr (.inr ⟨0,o,y,by omega,rfl,by simpa using hy,sA⟩)
    ·exact .inr (.inl ⟨y,hy,sA⟩)
   ·exact .inr (.inr ⟨e+1,u,y,by omega,by simpa using hu,hd,hn⟩)
theorem AX (d:DInfo) {i j:Nat}(h:i≤j):d.rank i≤d.rank j:=by
 induction j with
 |zero =>
  obtain rfl:i=0:=by omega
  exact Nat.le_refl _
 |succ j ih =>
  by_cases bR:i=j+1
  ·subst bR;exact Nat.le_refl _
  ·have:=ih (by omega);simp only[DInfo.rank];split<;>omega
theorem Q86 (d:DInfo) (lv:List VOper) (kj:∀ i v,lv[i]?=some v→d.k i=v.op.kind) (env:Env) (K:Env→Heap→Prop):∀ (rest:List VOper) (i:Nat),i≤lv.length→lv.drop i=rest→∀ (nd:List Nat) (tp:Nat→Value) (hq:Nat→Heap) (pend:List (Nat×(Heap→Prop))),
  (∀ l,l<i→l∉nd→DFact S d lv env tp hq (d.rank i) l)→Q9u d lv env tp i pend →
  ZD S (d.opers rest i) (EL lv env tp (fun _=>true) i) ((List.range (d.rank i+1)).map hq) (hq (d.rank i)) pend K →
  ∃ k tr hp,i≤k∧(∀ l,l<i→tr l=tp l)∧(∀ r,r≤d.rank i→hp r=hq r)∧Know S d lv env K nd k tr hp:=by
 intro rest;induction rest with
 |nil =>
  intro i gN hi nd tp hq pend hF hP h;have hl:lv.length≤i:=by simpa using hi
  obtain rfl:i=lv.length:=by omega
  simp only[DInfo.opers,ZD] at h;exact⟨_,tp,hq,Nat.le_refl _,fun _ _=>rfl,fun _ _=>rfl,.full hF h⟩
 |cons v rest ih =>
  intro i gN hi nd tp hq pend hF hP h;have ah:i<lv.length:=by
   rcases Nat.lt_or_ge i lv.length with h'|h'
   ·exact h'
   ·rw[List.drop_eq_nil_of_le h'] at hi;cases hi
  have hv:lv[i]?=some v:=by have:=congrArg List.head? hi;rw[List.head?_drop] at this;simpa using this
  have dS:lv.drop (i+1)=rest:=by have:=congrArg List.tail hi;simpa using this
  have hk:=kj i v hv;have fL:v.op.kind=2→d.rank (i+1)=d.rank i+1:=fun e=>by simp only[DInfo.rank,hk,e,if_true]
  have j7:v.op.kind≠2→d.rank (i+1)=d.rank i:=fun e=>by simp only[DInfo.rank,hk,e,if_false]
  have eS:∀ l,l<i→d.rank l≤d.rank i∧∀ w,lv[l]?=some w→w.op.kind=2→d.rank l+1≤d.rank i:=fun l hl=>by have h1:=AX d (show l+1≤i by omega);refine⟨by simp only[DInfo.rank] at h1;split at h1<;>omega,fun w hw h2=>?_⟩;simp only[DInfo.rank,kj l w hw,h2,if_true] at h1;exact h1
  simp only[DInfo.opers,ZD] at h;have hlen:((List.range (d.rank i+1)).map hq).length=d.rank i+1:=by simp
  cases hw:Je (EL lv env tp (fun _=>true) i) v.guard with
  |none=>rw[hw] at h;exact h.elim
  |some b =>
   rw[hw] at h;obtain⟨ht,hf⟩:=h
   have go:∀ (ji:List Nat) (u:Value) (σ':Heap) (bS:List (Nat×(Heap→Prop))),(∀ l,l∈nd→l∈ji) →
     ZD S (d.opers rest (i+1)) (Xt (EL lv env tp (fun _=>true) i) v.dst u) (if v.op.kind=2 then (List.range (d.rank i+1)).map hq++[σ'] else (List.range (d.rank i+1)).map hq) (if v.op.kind=2 then σ' else hq (d.rank i)) bS K →
     (v.op.kind=2→X6 (d.rank i+1) σ' pend)→(∀ c∈pend,c∈bS) →
     (b=true→v.op.kind=1→d.rank i+1≤d.kmax i→(d.kmax i,Xc v.op (Q4 (EL lv env tp (fun _=>true) i)) u)∈bS) →
     (i∉ji→∀ tr hp,(∀ l,l<i→tr l=tp l)→tr i=u→(∀ r,r≤d.rank i→hp r=hq r)→(v.op.kind=2→hp (d.rank i+1)=σ')→DFact S d lv env tr hp (d.rank (i+1)) i) →
     ∃ k tr hp,i<k∧(∀ l,l<i→tr l=tp l)∧tr i=u∧(∀ r,r≤d.rank i→hp r=hq r)∧(v.op.kind=2→hp (d.rank i+1)=σ')∧Know S d lv env K ji k tr hp:=by
    intro ji u σ' bS fx h kn gP jk ni;let gZ:Nat→Value:=fun l=>if l=i then u else tp l
    let dk:Nat→Heap:=fun r=>if v.op.kind=2∧r=d.rank i+1 then σ' else hq r
    have et:∀ l,l<i→gZ l=tp l:=fun l hl=>by simp[gZ];intro e;omega
    have ei:gZ i=u:=by simp[gZ]
    have eh:∀ r,r≤d.rank i→dk r=hq r:=fun r hr=>by simp only[dk];rw[if_neg (by omega)]
    have qA:v.op.kind=2→dk (d.rank i+1)=σ':=fun aq=>by simp[dk,aq]
    have e1:EL lv env gZ (fun _=>true) (i+1)=Xt (EL lv env tp (fun _=>true) i) v.dst u:=by simp only[EL,if_true];rw[V5 lv env (tr:=gZ) (tr':=tp) i et (fun _ _=>rfl),hv,ei];rfl
    have e2:(List.range (d.rank (i+1)+1)).map dk=if v.op.kind=2 then (List.range (d.rank i+1)).map hq++[σ'] else (List.range (d.rank i+1)).map hq:=by
     simp only[DInfo.rank,hk];split
     ·rename_i aq;rw[List.range_succ,List.map_append];congr 1
      ·exact List.map_congr_left fun r hr=>eh r (by have:=List.mem_range.1 hr;omega)
      ·simp[dk,aq]
     ·rename_i aq;exact List.map_congr_left fun r hr=>by simp[dk,aq]
    have e3:dk (d.rank (i+1))=if v.op.kind=2 then σ' else hq (d.rank i):=by simp only[DInfo.rank,hk];split<;>rename_i aq<;>simp[dk,aq]
    have tW:∀ l,l<i+1→l∉ji→DFact S d lv env gZ dk (d.rank (i+1)) l:=fun l hl gb=>by
     by_cases iu:l=i
     ·subst iu;exact ni gb gZ dk et ei eh qA
     ·have iu:l<i:=by omega
      refine (hF l iu fun h=>gb (fx l h)).congr (fun k hk=>et k (by omega)) eh (eS l iu).1 (eS l iu).2 fun w dp lq bE r r1 r2 r3=>?_;by_cases aq:v.op.kind=2
      ·rw[fL aq] at r2;obtain rfl:r=d.rank i+1:=by omega
       rw[qA aq];exact T7 (E1 (kn aq) _ (hP l iu w dp lq bE (by omega)) (by simpa using r3))
      ·rw[j7 aq] at r2;omega
    have tX:Q9u d lv env gZ (i+1) bS:=fun l hl w dp lq bE pq=>by
     by_cases iu:l=i
     ·subst iu;rw[hv] at dp;obtain rfl:=osj dp;have e:=V5 lv env (tr:=gZ) (tr':=tp) (A:=fun _=>true) (B:=fun _=>true) l et (fun _ _=>rfl);rw[e] at lq ⊢;rw[hw] at lq;obtain rfl:b=true:=by simpa using lq
      rw[ei];exact jk rfl bE (by rw[j7 (by omega)] at pq;exact pq)
     ·have iu:l<i:=by omega
      have e:=V5 lv env (tr:=gZ) (tr':=tp) (A:=fun _=>true) (B:=fun _=>true) l (fun k hk=>et k (by omega)) (fun _ _=>rfl);rw[e] at lq ⊢;rw[et l iu];have hle:d.rank i≤d.rank (i+1):=by simp only[DInfo.rank];split<;>omega
      exact gP _ (hP l iu w dp lq bE (by omega))
    obtain⟨k,tr,hp,k0,k1,k2,k3⟩:=ih (i+1) (by omega) dS ji gZ dk bS tW tX (by rw[e1,e2,e3];exact h);have hle:d.rank i≤d.rank (i+1):=by simp only[DInfo.rank];split<;>omega
    exact⟨k,tr,hp,by omega,fun l hl=>by rw[k1 l (by omega),et l hl],by rw[k1 i (by omega),ei],fun r hr=>by rw[k2 r (by omega),eh r hr],fun aq=>by rw[k2 _ (by rw[fL aq];exact Nat.le_refl _),qA aq],k3⟩
   have weak:∀ {ji:List Nat}{u:Value}{σ':Heap},(∃ k tr hp,i<k∧(∀ l,l<i→tr l=tp l)∧tr i=u∧(∀ r,r≤d.rank i→hp r=hq r)∧(v.op.kind=2→hp (d.rank i+1)=σ')∧Know S d lv env K ji k tr hp)→∃ k tr hp,i≤k∧(∀ l,l<i→tr l=tp l)∧(∀ r,r≤d.rank i→hp r=hq r)∧Know S d lv env K ji k tr hp:=by rintro ji u σ' ⟨k,tr,hp,h0,h1,_,h2,_,h3⟩;exact⟨k,tr,hp,by omega,h1,h2,h3⟩
   have fact:∀ {u:Value}{σ':Heap},(b=true→v.op.kind=1→∀ r,d.kmin i≤r→r≤d.rank i→Xc v.op (Q4 (EL lv env tp (fun _=>true) i)) u (hq r))→(b=true→v.op.kind≠1→v.op.kind≠2→∃ aJ,Q8 v.op (Q4 (EL lv env tp (fun _=>true) i)) (hq (d.rank i))=some (u,aJ))→(b=false→u=undef∧(v.op.kind=2→σ'=hq (d.rank i)))→(b=true→v.op.kind=2→vop S v.op (EL lv env tp (fun _=>true) i) (hq (d.rank i)) (fun v' aJ=>v'=u∧aJ=σ')) →
     ∀ tr hp,(∀ l,l<i→tr l=tp l)→tr i=u→(∀ r,r≤d.rank i→hp r=hq r)→(v.op.kind=2→hp (d.rank i+1)=σ')→DFact S d lv env tr hp (d.rank (i+1)) i:=by
    intro u σ' g1 g2 g3 k5 tr hp k1 k2 k3 k4 v' gm;rw[hv] at gm;obtain rfl:=osj gm;have e:=V5 lv env (tr:=tr) (tr':=tp) (A:=fun _=>true) (B:=fun _=>true) i k1 (fun _ _=>rfl);rw[e,k2,k3 _ (Nat.le_refl _)];refine⟨b,hw,fun hb aq=>by rw[k4 aq];exact k5 hb aq,fun hb bE r r1 r2 r3=>?_,g2,fun hb=>⟨(g3 hb).1,fun aq=>by rw[k4 aq];exact(g3 hb).2 aq⟩⟩;rw[j7 (by omega)] at r3;rw[k3 r r3];exact T7 (g1 hb bE r r1 r3)
   cases b with
   |false =>
    have hf:=hf rfl;by_cases aq:v.op.kind=2
    ·rw[if_pos aq] at hf;obtain⟨jE,hf⟩:=hf;exact weak (go nd undef (hq (d.rank i)) pend (fun _ h=>h) (by rw[if_pos aq,ite_self];exact hf) (fun _=>by rw[hlen] at jE;exact jE) (fun _ h=>h) (fun h=>by cases h) (fun _=>fact (fun h=>by cases h) (fun h=>by cases h) (fun _=>⟨rfl,fun _=>rfl⟩) (fun h=>by cases h)))
    ·rw[if_neg aq] at hf;exact weak (go nd undef (hq (d.rank i)) pend (fun _ h=>h) (by rw[if_neg aq,ite_self];exact hf) (fun h=>absurd h aq) (fun _ h=>h) (fun h=>by cases h) (fun _=>fact (fun h=>by cases h) (fun h=>by cases h) (fun _=>⟨rfl,fun _=>rfl⟩) (fun h=>by cases h)))
   |true =>
    have ht:=ht rfl;by_cases aq:v.op.kind=2
    ·rw[if_pos aq] at ht;rw[hlen] at ht;rcases ht with⟨u,σ',h1,h2,h3⟩|⟨gQ,ga⟩
     ·exact weak (go nd u σ' pend (fun _ h=>h) (by rw[if_pos aq,if_pos aq];exact h3) (fun _=>h2) (fun _ h=>h) (fun _ hk=>by omega) (fun _=>fact (fun _ hk=>by omega) (fun _ _ hk=>absurd aq hk) (fun h=>by cases h) (fun _ _=>h1)))
     ·have nx:∀ u σ',(X6 (d.rank i+1) σ' pend∧ZD S (d.opers rest (i+1)) (Xt (EL lv env tp (fun _=>true) i) v.dst u) ((List.range (d.rank i+1)).map hq++[σ']) σ' pend K) →
        ∃ k tr hp,i<k∧(∀ l,l<i→tr l=tp l)∧tr i=u∧(∀ r,r≤d.rank i→hp r=hq r)∧(v.op.kind=2→hp (d.rank i+1)=σ')∧Know S d lv env K (i::nd) k tr hp:=fun u σ' ⟨h2,h3⟩ =>
       go (i::nd) u σ' pend (fun _ h=>List.mem_cons_of_mem _ h) (by rw[if_pos aq,if_pos aq];exact h3) (fun _=>h2) (fun _ h=>h) (fun _ hk=>by omega) (fun h=>absurd List.mem_cons_self h)
      refine⟨i,tp,hq,Nat.le_refl _,fun _ _=>rfl,fun _ _=>rfl,.part hv aq hw hF (fun j hj a8=>?_) _ ga (fun u σ' h=>(nx u σ' h).choose) (fun u σ' h=>(nx u σ' h).choose_spec.choose) (fun u σ' h=>(nx u σ' h).choose_spec.choose_spec.choose) (fun u σ' h=>?_) (fun u σ' h=>?_)⟩
      ·obtain⟨n,hn⟩:∃ n,j=i+1+n:=⟨j-(i+1),by omega⟩;subst hn;have tY:∀ k w,lv[i+1+k]?=some w→rest[k]?=some w:=fun k w dp=>by
        rw[←dS,List.getElem?_drop];exact dp
       have qB:∀ k w,rest[k]?=some w→lv[i+1+k]?=some w:=fun k w dp=>by rw[←dS,List.getElem?_drop] at dp;exact dp
       have px:=List.getElem?_eq_getElem a8;rcases SJ d rest (i+1) _ gQ n _ (tY n _ px) with mr|⟨x,hx,jF⟩|⟨e,u,x,he,hu,hd,jF⟩
       ·exact⟨i,v,Nat.le_refl _,by omega,hv,.inr ⟨aq,fun w dp=>by rw[px] at dp;obtain rfl:=osj dp;exact mr⟩⟩
       ·exact⟨i,v,Nat.le_refl _,by omega,hv,.inl ⟨x,by simpa using hx,fun w dp=>by rw[px] at dp;obtain rfl:=osj dp;exact jF⟩⟩
       ·exact⟨i+1+e,u,by omega,by omega,qB e u hu,.inl ⟨x,hd,fun w dp=>by rw[px] at dp;obtain rfl:=osj dp;exact jF⟩⟩
      ·obtain⟨q1,q2,q3,q4,q5,_⟩:=(nx u σ' h).choose_spec.choose_spec.choose_spec;exact⟨q1,q2,q3,q4,q5 aq⟩
      ·exact(nx u σ' h).choose_spec.choose_spec.choose_spec.2.2.2.2.2
    ·rw[if_neg aq] at ht;by_cases bE:v.op.kind=1
     ·rw[if_pos bE] at ht;cases dQ:Q8 v.op (Q4 (EL lv env tp (fun _=>true) i)) (hq (d.rank i)) with
      |none=>rw[dQ] at ht;exact ht.elim
      |some p =>
       rw[dQ] at ht;obtain⟨g1,g2⟩:=ht;refine weak (go nd p.1 (hq (d.rank i)) _ (fun _ h=>h) (by rw[if_neg aq,ite_self];exact g2) (fun h=>absurd h aq) (fun c hc=>?_) (fun _ _ hr=>?_) (fun _=>fact (fun _ _ r tZ t_=>?_) (fun _ hk=>absurd bE hk) (fun h=>by cases h) (fun _ hk=>absurd hk aq)))
       ·split
        ·exact List.mem_cons_of_mem _ hc
        ·exact hc
       ·rw[if_pos (by rw[hlen];exact hr)];simp
       ·refine g1 _ ?_;rw[List.mem_iff_getElem?];refine⟨r-d.kmin i,?_⟩;rw[List.getElem?_drop,List.getElem?_map,List.getElem?_range (by omega)];simp;congr 1;omega
     ·rw[if_neg bE] at ht;cases dQ:Q8 v.op (Q4 (EL lv env tp (fun _=>true) i)) (hq (d.rank i)) with
      |none=>rw[dQ] at ht;exact ht.elim
      |some p =>rw[dQ] at ht;exact weak (go nd p.1 (hq (d.rank i)) pend (fun _ h=>h) (by rw[if_neg aq,ite_self];exact ht) (fun h=>absurd h aq) (fun _ h=>h) (fun _ hk=>absurd hk bE) (fun _=>fact (fun _ hk=>absurd hk bE) (fun _ _ _=>⟨p.2,dQ⟩) (fun h=>by cases h) (fun _ hk=>absurd hk aq)))
structure DOk (d:DInfo) (n:Nat):Prop where
 edge:∀ j,j<n→∀ e∈d.ed.getD j [],e<j
 path:∀ j,j<n→∀ i,i<j→d.lt i j=true→∃ e∈d.ed.getD j [],e=i∨(i<e∧d.lt i e=true)
 free:∀ j,j<n→∀ i,i<j→d.lt i j=false→d.touch i j=false∧¬(d.k i=2∧d.k j=2)
 kmin:∀ j,j<n→d.k j=1→(d.kmin j≤d.rank j∧d.rank j≤d.kmax j)∧d.kmax j≤d.rank n∧∀ l,l<n→d.k l=2→((d.lt l j=true↔d.rank l<d.kmin j)∧(d.lt j l=true↔d.kmax j≤d.rank l))
theorem DOk.of {d:DInfo}(h:d.ok=true):DOk d d.ks.length:=by
 have h0:∀ j,j<d.ks.length→d.okE j=true∧d.okP j=true∧d.okK j=true:=fun j hj=>by have:=List.all_eq_true.1 h j (List.mem_range.2 hj);simpa [Bool.and_eq_true] using this
 refine⟨fun j hj e he=>?_,fun j hj i hi ah=>?_,fun j hj i hi ah=>?_,fun j hj hk=>?_⟩
 ·have:=List.all_eq_true.1 (h0 j hj).1 e he;simpa using this
 ·have:=List.all_eq_true.1 (h0 j hj).2.1 i (List.mem_range.2 hi);simp only[ah,if_true,List.any_eq_true,Bool.or_eq_true,Bool.and_eq_true,decide_eq_true_eq,beq_iff_eq] at this;exact this
 ·have:=List.all_eq_true.1 (h0 j hj).2.1 i (List.mem_range.2 hi);simp[ah] at this;exact⟨this.1,fun hk=>this.2.elim (fun h=>h hk.1) (fun h=>h hk.2)⟩
 ·have:=(h0 j hj).2.2;simp only[DInfo.okK,hk,BEq.rfl,Bool.not_true,Bool.false_or,Bool.and_eq_true,decide_eq_true_eq] at this;refine⟨this.1,this.2.1,fun l hl aq=>?_⟩;have h1:=List.all_eq_true.1 this.2.2 l (List.mem_range.2 hl);simp only[aq,BEq.rfl,Bool.not_true,Bool.false_or,Bool.and_eq_true,beq_iff_eq] at h1;rw[h1.1,h1.2];simp
theorem Da (d:DInfo) {i j:Nat}(h:i<j) (hk:d.k i=2):d.rank i<d.rank j:=by have:=AX d (show i+1≤j from h);simp only[DInfo.rank,hk,if_true] at this;omega
theorem Ul (d:DInfo):∀ j r,r<d.rank j→∃ l,l<j∧d.k l=2∧d.rank l=r
 |0,r,h=>by simp[DInfo.rank] at h
 |j+1,r,h=>by
  simp only[DInfo.rank] at h;split at h
  ·rename_i hk;rcases Nat.lt_or_ge r (d.rank j) with h'|h'
   ·obtain⟨l,h1,h2⟩:=Ul d j r h';exact⟨l,by omega,h2⟩
   ·exact⟨j,by omega,hk,by omega⟩
  ·obtain⟨l,h1,h2⟩:=Ul d j r h;exact⟨l,by omega,h2⟩
theorem M0 {d:DInfo}{n:Nat}(hd:DOk d n) {A:Nat→Bool}(hc:∀ j,j<n→A j=true→∀ e∈d.ed.getD j [],A e=true):∀ j,j<n→A j=true→∀ i,i<j→d.lt i j=true→A i=true:=by
 intro j;induction j using Nat.strongRecOn with
 |ind j ih =>
  intro hj hA i hi ah;obtain⟨e,he,h⟩:=hd.path j hj i hi ah;have nj:=hd.edge j hj e he;have gB:=hc j hj hA e he;rcases h with rfl|⟨h1,h2⟩
  ·exact gB
  ·exact ih e nj (by omega) gB i h1 h2
def cnt (A:Nat→Bool):Nat→Nat
 |0=>0
 |i+1=>cnt A i+if A i then 0 else 1
theorem FR {A:Nat→Bool}:∀ {n},cnt A n=0→∀ i,i<n→A i=true
 |0,_,i,h=>by omega
 |n+1,hc,i,h=>by
  simp only[cnt] at hc;by_cases hi:i=n
  ·subst hi;split at hc
   ·assumption
   ·omega
  ·exact FR (n:=n) (by omega) i (by omega)
theorem Q20 {A B:Nat→Bool}{j:Nat}(hA:A j=false) (hB:B j=true) (h:∀ i,i≠j→A i=B i):∀ n,j<n→cnt A n=cnt B n+1
 |0,hj=>by omega
 |n+1,hj=>by
  simp only[cnt];by_cases a8:j=n
  ·subst a8;have:cnt A j=cnt B j:=by
    have key:∀ m,m≤j→cnt A m=cnt B m:=by
     intro m;induction m with
     |zero=>intro _;rfl
     |succ m ih=>intro hm;simp only[cnt];rw[ih (by omega),h m (by omega)]
    exact key j (Nat.le_refl _)
   simp[hA,hB,this]
  ·have:=Q20 hA hB h n (by omega);rw[h n (by omega)];omega
theorem Q6u (o:VOp):o.kind≤2:=by
 unfold VOp.kind;split<;>try omega
 split<;>omega
theorem Q6r {o:VOp}{env:Env}{σ:Heap}{p:Value×Heap}{K:Value→Heap→Prop}(hk:o.kind≠2) (h:Q8 o (Q4 env) σ=some p) (hK:K p.1 p.2):vop S o env σ K:=by
 cases o
 case callF=>exact absurd rfl hk
 case callV=>exact absurd rfl hk
 case ext x =>
  cases x
  case nextMap=>exact absurd rfl hk
  all_goals (simp only[vop];rw[h];exact hK)
 all_goals (simp only[vop];rw[h];exact hK)
theorem BB {o:VOp}{ev:Operand→Value}{σ σ':Heap}{v:Value}(hk:o.kind≠2) (h:Q8 o ev σ=some (v,σ')):σ'=σ:=by have:=R5 hk h (Heap.Le.refl σ);rw[h] at this;simp at this;exact this
theorem Lk {env ae:Env}{g:Option (Nat×Bool)}(h:∀ x b,g=some (x,b)→env[x]?=ae[x]?):Je env g=Je ae g:=by
 cases g with
 |none=>rfl
 |some p =>obtain⟨x,b⟩:=p;simp only[Je,List.getD_eq_getElem?_getD];rw[h x b rfl]
theorem SP {env ae:Env}{x:Operand}(h:∀ t,x=.tmp t→env[t]?=ae[t]?):Q4 env x=Q4 ae x:=by
 cases x<;>try rfl
 rename_i t;simp only[Q4,List.getD_eq_getElem?_getD];rw[h t rfl]
structure DInv (B:Nat) (d:DInfo) (lv:List VOper) (env:Env) (tr:Nat→Value) (hp:Nat→Heap) (ρ0:Plc) (σ0:Heap) (w0:World) (A:Nat→Bool) (a:Act) (w:World):Prop where
 closed:∀ j,j<lv.length→A j=true→∀ e∈d.ed.getD j [],A e=true
 run:∃ m ρ,(∀ l,l<lv.length→d.k l=2→(A l=true↔d.rank l<m))∧m≤d.rank lv.length∧HRel ρ (hp m) w∧LRel ρ (hp m).n (EL lv env tr A lv.length) a.tmps.toList∧Mks B a.defers w∧Ext ρ0 σ0 w0 ρ (hp m) w
structure DLink (P:Program) (ops:Array Oper) (pm:List Nat) (d:DInfo) (lv:List VOper):Prop where
 comp:∀ (p:Nat) (v:VOper),lv[p]?=some v→∃ o,ops[pm.getD p 0]?=some o∧Ji P ops o=some v∧d.k p=v.op.kind
 touch:∀ (i j:Nat) (u v:VOper),lv[i]?=some u→lv[j]?=some v→d.touch i j=false→(∀ x,u.dst=some x→x∉Vo v)∧(∀ x,v.dst=some x→x∉Vo u)
 size:pm.length=lv.length
theorem DLink.of {ops:Array Oper}{vs:List VOper}(h:ops.toList.mapM (Ji P ops)=some vs) {d0:DInfo}{pm:List Nat}(jY:∀ i∈pm,i<vs.length):DLink P ops pm (F2 d0 vs pm) (Ud vs pm):=by
 obtain⟨h1,h2⟩:=Wy _ _ _ h;refine⟨fun p v hv=>?_,fun i j u v hu hv ht=>?_,by simp[Ud]⟩
 ·simp only[Ud,List.getElem?_map,Option.map_eq_some_iff] at hv;obtain⟨i,hi,rfl⟩:=hv;have aP:=jY i (List.mem_of_getElem? hi);have nk:i<ops.toList.length:=by omega
  obtain⟨v,hv,hc⟩:=h2 i _ (List.getElem?_eq_getElem nk);have hg:vs.getD i default=v:=by simp[List.getD_eq_getElem?_getD,hv]
  have hp:pm.getD p 0=i:=by simp[List.getD_eq_getElem?_getD,hi]
  refine⟨ops.toList[i],?_,by rw[hg];exact hc,?_⟩
  ·rw[hp];simp
  ·simp[DInfo.k,F2,Ud,List.getD_eq_getElem?_getD,hi]
 ·simp only[DInfo.touch,F2,Q50,List.getD_eq_getElem?_getD,List.getElem?_map,hu,hv,Option.map_some,Option.getD_some,Bool.or_eq_false_iff] at ht;refine⟨fun x hx hm=>?_,fun x hx hm=>?_⟩
  ·have:=ht.1;rw[hx] at this;simp at this;exact this hm
  ·have:=ht.2;rw[hx] at this;simp at this;exact this hm
theorem I9 {v:VOper}{x:Nat}(h:v.dst=some x):x∈Vo v:=by simp[Vo,h]
theorem Io {v:VOper}{x:Nat}(h:Operand.tmp x∈v.op.opds):x∈Vo v:=by refine List.mem_append_left _ (List.mem_append_right _ ?_);exact List.mem_filterMap.2 ⟨_,h,rfl⟩
theorem Lg {v:VOper}{x:Nat}{b:Bool}(h:v.guard=some (x,b)):x∈Vo v:=by refine List.mem_append_right _ ?_;simp[h]
theorem PM (hS:OkSpecs P S) {ro:Option Nat}{n:Nat}{ops:Array Oper}{pm:List Nat}{d:DInfo}{lv:List VOper}(hl:DLink P ops pm d lv) (hd:DOk d lv.length) {env:Env}{tr:Nat→Value}{hp:Nat→Heap}
  {bd j:Nat}(hF:DFact S d lv env tr hp bd j)
  {Q:Exit→Act→World→Prop}{ρ0:Plc}{σ0:Heap}{w0:World}{A:Nat→Bool}{a:Act}{w:World}(ua:∀ m,(∀ l,l<lv.length→d.k l=2→(A l=true↔d.rank l<m))→m≤d.rank lv.length→m≤bd) (hI:DInv B d lv env tr hp ρ0 σ0 w0 A a w)
  (a8:j<lv.length) (dT:A j=false) (dU:∀ e∈d.ed.getD j [],A e=true) {A':Nat→Bool}(aW:∀ i,A' i=if i=j then true else A i) {K:Act→World→Prop}(hK:∀ a' w',DInv B d lv env tr hp ρ0 σ0 w0 A' a' w'→K a' w'):wpOpIn (FF ro) n P ops Q (pm.getD j 0) K a w:=by
 obtain⟨v,hv⟩:∃ v,lv[j]?=some v:=⟨_,List.getElem?_eq_getElem a8⟩;obtain⟨o,ho,hc,hk⟩:=hl.comp j v hv;obtain⟨bO,m,ρ,hm,kp,hH,hL,dD,hE⟩:=hI;have dA:∀ i,i<j→d.lt i j=true→A i=true:=by
  intro i hi ah;obtain⟨e,he,h⟩:=hd.path j a8 i hi ah;have nj:=hd.edge j a8 e he;have gB:A e=true:=dU e he;rcases h with rfl|⟨h1,h2⟩
  ·exact gB
  ·exact M0 hd bO e (by omega) gB i h1 h2
 have eK:∀ i,i<lv.length→j<i→d.lt j i=true→A i=false:=by
  intro i hi aM ah;cases hA:A i with
  |false=>rfl
  |true=>rw[M0 hd bO i hi hA j aM ah] at dT;cases dT
 have fy:∀ x,x∈Vo v→(EL lv env tr A lv.length)[x]?=(EL lv env tr (fun _=>true) j)[x]?:=by
  intro x hx;rw[←BP lv env tr j lv.length (by omega)];refine Dg lv env tr x lv.length fun l aS bG=>?_;cases b9:lv[l]? with
  |none=>rw[b9] at bG;cases bG
  |some u =>
   rw[b9] at bG;rcases Nat.lt_trichotomy l j with h|h|h
   ·have ah:d.lt l j=true:=by
     cases ah:d.lt l j with
     |true=>rfl
     |false=>exact absurd hx ((hl.touch l j u v b9 hv (hd.free j a8 l h ah).1).1 x bG)
    simp only[h,decide_true];exact dA l h ah
   ·subst h;simp only[Nat.lt_irrefl,decide_false];exact dT
   ·have ah:d.lt j l=true:=by
     cases ah:d.lt j l with
     |true=>rfl
     |false=>exact absurd hx ((hl.touch j l v u hv b9 (hd.free l aS j h ah).1).2 x bG)
    have:¬ l<j:=by omega
    simp only[this,decide_false];exact eK l aS h ah
 obtain⟨b,f1,f2,f3,ub,f4⟩:=hF v hv;have hw:Je (EL lv env tr A lv.length) v.guard=some b:=by rw[Lk (fun x b' hg=>fy x (Lg hg))];exact f1
 have jG:∀ x∈v.op.opds,Q4 (EL lv env tr A lv.length) x=Q4 (EL lv env tr (fun _=>true) j) x:=fun x hx=>SP fun t ht=>fy t (Io (ht▸hx));obtain⟨dz,bG,bJ⟩:=Bt hc hL hw;have dq:EL lv env tr A' lv.length=Xt (EL lv env tr A lv.length) v.dst (tr j):=by
  apply List.ext_getElem?;intro x;by_cases hx:v.dst=some x
  ·have h1:(EL lv env tr A' lv.length)[x]?=(EL lv env tr (fun l=>decide (l<j+1)) lv.length)[x]?:=by
    refine Dg lv env tr x lv.length fun l aS bp=>?_;rw[aW];by_cases iv:l=j
    ·subst iv;simp
    ·rw[if_neg iv];cases b9:lv[l]? with
     |none=>rw[b9] at bp;cases bp
     |some u =>
      rw[b9] at bp;have jH:=I9 hx;rcases Nat.lt_or_ge l j with h|h
      ·have ah:d.lt l j=true:=by
        cases ah:d.lt l j with
        |true=>rfl
        |false=>exact absurd jH ((hl.touch l j u v b9 hv (hd.free j a8 l h ah).1).1 x bp)
       have:l<j+1:=by omega
       simp only[this,decide_true];exact dA l h ah
      ·have h':j<l:=by omega
       have ah:d.lt j l=true:=by
        cases ah:d.lt j l with
        |true=>rfl
        |false=>exact absurd jH ((hl.touch j l v u hv b9 (hd.free l aS j h' ah).1).2 x bp)
       have:¬ l<j+1:=by omega
       simp only[this,decide_false];exact eK l aS h' ah
   rw[h1,BP lv env tr (j+1) lv.length (by omega)];simp only[EL,if_true,hv,Option.bind_some,hx,Xt];rw[List.getElem?_set,List.getElem?_set];simp only[if_true,Kf]
  ·rw[Ky _ _ _ hx];refine Dg lv env tr x lv.length fun l aS bp=>?_;rw[aW];split
   ·rename_i h;subst h;rw[hv] at bp;exact absurd bp hx
   ·rfl
 have cz:∀ i,i<lv.length→A' i=true→∀ e∈d.ed.getD i [],A' e=true:=by
  intro i hi hA e he;rw[aW] at hA ⊢;split
  ·rfl
  ·by_cases bR:i=j
   ·subst bR;exact dU e he
   ·rw[if_neg bR] at hA;exact bO i hi hA e he
 have ku:d.k j=2→d.rank j=m:=by
  intro aq;have h1:¬ d.rank j<m:=fun h=>by rw[(hm j a8 aq).2 h] at dT;cases dT
  by_cases h2:d.rank j=m
  ·exact h2
  ·obtain⟨l,iv,bc,eS⟩:=Ul d j m (by omega);have ah:d.lt l j=true:=by
    cases ah:d.lt l j with
    |true=>rfl
    |false=>exact absurd ⟨bc,aq⟩ (hd.free j a8 l iv ah).2
   have:=(hm l (by omega) bc).1 (dA l iv ah);omega
 have jl:d.k j=2→∀ l,l<lv.length→d.k l=2→(A' l=true↔d.rank l<m+1):=by
  intro aq l aS bc;rw[aW];have gd:=ku aq;split
  ·rename_i h;subst h;simp;omega
  ·rename_i h;rw[hm l aS bc];have:d.rank l≠m:=by
    rcases Nat.lt_or_ge l j with h'|h'
    ·have:=Da d h' bc;omega
    ·have:=Da d (show j<l by omega) aq;omega
   omega
 have nq:d.k j≠2→∀ l,l<lv.length→d.k l=2→(A' l=true↔d.rank l<m):=by intro aq l aS bc;rw[aW,if_neg (by rintro rfl;exact aq bc)];exact hm l aS bc
 have jI:d.k j=2→m+1≤d.rank lv.length:=fun aq=>by have:=Da d a8 aq;have:=ku aq;omega
 unfold wpOpIn;simp only[ho];cases b with
 |false =>
  rw[dz,if_neg (by simp)];obtain⟨g1,g2⟩:=f4 rfl;refine⟨fun f _=>IW _ _,hK _ _ ⟨cz,?_⟩⟩;by_cases aq:d.k j=2
  ·have gd:=ku aq;have hh:hp (m+1)=hp m:=by rw[←gd];exact g2 (hk▸aq)
   refine⟨m+1,ρ,jl aq,jI aq,by rw[hh];exact hH,?_,by rw[Xk];exact dD,by rw[hh];exact hE⟩;rw[hh,dq,g1,bG];exact K9 hL JK o.dst
  ·refine⟨m,ρ,nq aq,kp,hH,?_,by rw[Xk];exact dD,hE⟩;rw[dq,g1,bG];exact K9 hL JK o.dst
 |true =>
  rw[dz,if_pos rfl];by_cases aq:d.k j=2
  ·have gd:=ku aq;have g1:=f2 rfl (hk▸aq);rw[gd] at g1;rw[←Ee jG] at g1;refine VT hS bJ hH hL g1 fun c w' ⟨u,ρ',σ',⟨hu,hσ⟩,eE,gy,bW⟩=>hK _ _ ⟨cz,?_⟩;subst hu;subst hσ;refine⟨m+1,ρ',jl aq,jI aq,gy,?_,by rw[Xk];exact dD.ext hH bW,hE.trans bW⟩;rw[dq,bG];exact K9 (bW.lrel hL) eE o.dst
  ·have g2:∃ σ1,Q8 v.op (Q4 (EL lv env tr A lv.length)) (hp m)=some (tr j,σ1):=by
    rw[H5 jG];by_cases bE:d.k j=1
    ·obtain⟨⟨k1,k4⟩,k3,k2⟩:=hd.kmin j a8 bE;refine f3 rfl (hk▸bE) m ?_ ?_ (ua m hm kp)
     ·rcases Nat.lt_or_ge m (d.kmin j) with h|h
      ·obtain⟨l,aS,bc,eS⟩:=Ul d j m (by omega);have ah:=(k2 l (by omega) bc).1.2 (by omega);have:=(hm l (by omega) bc).1 (dA l aS ah);omega
      ·exact h
     ·rcases Nat.lt_or_ge (d.kmax j) m with h|h
      ·obtain⟨l,aS,bc,eS⟩:=Ul d lv.length (d.kmax j) (by omega);have ah:=(k2 l aS bc).2.2 (by omega);have ky:=(hm l aS bc).2 (by omega);rcases Nat.lt_trichotomy j l with h'|h'|h'
       ·rw[eK l aS h' ah] at ky;cases ky
       ·subst h';omega
       ·exfalso;have fL:d.rank l<d.rank j:=Da d h' bc;omega
      ·exact h
    ·have fw:v.op.kind=0:=by
      have h2:v.op.kind≤2:=Q6u v.op;omega
     obtain⟨σ1,g1⟩:=ub rfl (by omega) (by omega);exact⟨hp m,TZ fw g1⟩
   obtain⟨σ1,g2⟩:=g2;have hq:=BB (hk▸aq) g2;subst hq;refine VT hS (K:=fun v' σ'=>v'=tr j∧σ'=hp m) bJ hH hL (Q6r (hk▸aq) g2 ⟨rfl,rfl⟩) fun c w' ⟨u,ρ',σ',⟨hu,hσ⟩,eE,gy,bW⟩=>hK _ _ ⟨cz,?_⟩;subst hu;subst hσ;refine⟨m,ρ',nq aq,kp,gy,?_,by rw[Xk];exact dD.ext hH bW,hE.trans bW⟩;rw[dq,bG];exact K9 (bW.lrel hL) eE o.dst
theorem Ft (hS:OkSpecs P S) {ro:Option Nat}{n:Nat}{ops:Array Oper}{pm:List Nat}{d:DInfo}{lv:List VOper}(hl:DLink P ops pm d lv) (hd:DOk d lv.length) {env:Env}{tr:Nat→Value}{hp:Nat→Heap}
  {j:Nat}{v:VOper}(hv:lv[j]?=some v) (qC:v.op.kind=2) (uc:Je (EL lv env tr (fun _=>true) j) v.guard=some true) {R:Value→Heap→Prop}(ga:vop S v.op (EL lv env tr (fun _=>true) j) (hp (d.rank j)) R)
  {Q:Exit→Act→World→Prop}{ρ0:Plc}{σ0:Heap}{w0:World}{A:Nat→Bool}{a:Act}{w:World}(hI:DInv B d lv env tr hp ρ0 σ0 w0 A a w) (nr:∀ l,j≤l→l<lv.length→A l=false)
  (a8:j<lv.length) (dT:A j=false) (dU:∀ e∈d.ed.getD j [],A e=true) {A':Nat→Bool}(aW:∀ i,A' i=if i=j then true else A i) {K:Act→World→Prop}
  (hK:∀ u σ' a' w',R u σ'→(∀ tr' br,(∀ l,l<j→tr' l=tr l)→tr' j=u→(∀ r,r≤d.rank j→br r=hp r)→br (d.rank j+1)=σ'→DInv B d lv env tr' br ρ0 σ0 w0 A' a' w')→K a' w'):wpOpIn (FF ro) n P ops Q (pm.getD j 0) K a w:=by
 obtain⟨o,ho,hc,hk⟩:=hl.comp j v hv;obtain⟨bO,m,ρ,hm,kp,hH,hL,dD,hE⟩:=hI;have dA:∀ i,i<j→d.lt i j=true→A i=true:=by
  intro i hi ah;obtain⟨e,he,h⟩:=hd.path j a8 i hi ah;have nj:=hd.edge j a8 e he;have gB:A e=true:=dU e he;rcases h with rfl|⟨h1,h2⟩
  ·exact gB
  ·exact M0 hd bO e (by omega) gB i h1 h2
 have eK:∀ i,i<lv.length→j<i→d.lt j i=true→A i=false:=by
  intro i hi aM ah;cases hA:A i with
  |false=>rfl
  |true=>rw[M0 hd bO i hi hA j aM ah] at dT;cases dT
 have fy:∀ x,x∈Vo v→(EL lv env tr A lv.length)[x]?=(EL lv env tr (fun _=>true) j)[x]?:=by
  intro x hx;rw[←BP lv env tr j lv.length (by omega)];refine Dg lv env tr x lv.length fun l aS bG=>?_;cases b9:lv[l]? with
  |none=>rw[b9] at bG;cases bG
  |some u =>
   rw[b9] at bG;rcases Nat.lt_trichotomy l j with h|h|h
   ·have ah:d.lt l j=true:=by
     cases ah:d.lt l j with
     |true=>rfl
     |false=>exact absurd hx ((hl.touch l j u v b9 hv (hd.free j a8 l h ah).1).1 x bG)
    simp only[h,decide_true];exact dA l h ah
   ·subst h;simp only[Nat.lt_irrefl,decide_false];exact dT
   ·have ah:d.lt j l=true:=by
     cases ah:d.lt j l with
     |true=>rfl
     |false=>exact absurd hx ((hl.touch j l v u hv b9 (hd.free l aS j h ah).1).2 x bG)
    have:¬ l<j:=by omega
    simp only[this,decide_false];exact eK l aS h ah
 have hw:Je (EL lv env tr A lv.length) v.guard=some true:=by rw[Lk (fun x b' hg=>fy x (Lg hg))];exact uc
 have jG:∀ x∈v.op.opds,Q4 (EL lv env tr A lv.length) x=Q4 (EL lv env tr (fun _=>true) j) x:=fun x hx=>SP fun t ht=>fy t (Io (ht▸hx));obtain⟨dz,bG,bJ⟩:=Bt hc hL hw;have dq:∀ tr:Nat→Value,EL lv env tr A' lv.length=Xt (EL lv env tr A lv.length) v.dst (tr j):=fun tr=>by
  apply List.ext_getElem?;intro x;by_cases hx:v.dst=some x
  ·have h1:(EL lv env tr A' lv.length)[x]?=(EL lv env tr (fun l=>decide (l<j+1)) lv.length)[x]?:=by
    refine Dg lv env tr x lv.length fun l aS bp=>?_;rw[aW];by_cases iv:l=j
    ·subst iv;simp
    ·rw[if_neg iv];cases b9:lv[l]? with
     |none=>rw[b9] at bp;cases bp
     |some u =>
      rw[b9] at bp;have jH:=I9 hx;rcases Nat.lt_or_ge l j with h|h
      ·have ah:d.lt l j=true:=by
        cases ah:d.lt l j with
        |true=>rfl
        |false=>exact absurd jH ((hl.touch l j u v b9 hv (hd.free j a8 l h ah).1).1 x bp)
       have:l<j+1:=by omega
       simp only[this,decide_true];exact dA l h ah
      ·have h':j<l:=by omega
       have ah:d.lt j l=true:=by
        cases ah:d.lt j l with
        |true=>rfl
        |false=>exact absurd jH ((hl.touch j l v u hv b9 (hd.free l aS j h' ah).1).2 x bp)
       have:¬ l<j+1:=by omega
       simp only[this,decide_false];exact eK l aS h' ah
   rw[h1,BP lv env tr (j+1) lv.length (by omega)];simp only[EL,if_true,hv,Option.bind_some,hx,Xt];rw[List.getElem?_set,List.getElem?_set];simp only[if_true,Kf]
  ·rw[Ky _ _ _ hx];refine Dg lv env tr x lv.length fun l aS bp=>?_;rw[aW];split
   ·rename_i h;subst h;rw[hv] at bp;exact absurd bp hx
   ·rfl
 have cz:∀ i,i<lv.length→A' i=true→∀ e∈d.ed.getD i [],A' e=true:=by
  intro i hi hA e he;rw[aW] at hA ⊢;split
  ·rfl
  ·by_cases bR:i=j
   ·subst bR;exact dU e he
   ·rw[if_neg bR] at hA;exact bO i hi hA e he
 have ku:d.k j=2→d.rank j=m:=by
  intro aq;have h1:¬ d.rank j<m:=fun h=>by rw[(hm j a8 aq).2 h] at dT;cases dT
  by_cases h2:d.rank j=m
  ·exact h2
  ·obtain⟨l,iv,bc,eS⟩:=Ul d j m (by omega);have ah:d.lt l j=true:=by
    cases ah:d.lt l j with
    |true=>rfl
    |false=>exact absurd ⟨bc,aq⟩ (hd.free j a8 l iv ah).2
   have:=(hm l (by omega) bc).1 (dA l iv ah);omega
 have jl:d.k j=2→∀ l,l<lv.length→d.k l=2→(A' l=true↔d.rank l<m+1):=by
  intro aq l aS bc;rw[aW];have gd:=ku aq;split
  ·rename_i h;subst h;simp;omega
  ·rename_i h;rw[hm l aS bc];have:d.rank l≠m:=by
    rcases Nat.lt_or_ge l j with h'|h'
    ·have:=Da d h' bc;omega
    ·have:=Da d (show j<l by omega) aq;omega
   omega
 have nq:d.k j≠2→∀ l,l<lv.length→d.k l=2→(A' l=true↔d.rank l<m):=by intro aq l aS bc;rw[aW,if_neg (by rintro rfl;exact aq bc)];exact hm l aS bc
 have jI:d.k j=2→m+1≤d.rank lv.length:=fun aq=>by have:=Da d a8 aq;have:=ku aq;omega
 unfold wpOpIn;simp only[ho];rw[dz,if_pos rfl];have aq:d.k j=2:=hk.trans qC;have gd:=ku aq;rw[gd,←Ee jG] at ga;refine VT hS bJ hH hL ga fun c w' ⟨u,ρ',σ',hR,eE,gy,bW⟩=>hK u σ' _ _ hR fun tr' br t1 t2 t3 t4=>⟨cz,m+1,ρ',jl aq,jI aq,?_,?_,?_,?_⟩
 ·rw[←gd,t4];exact gy
 ·have e0:EL lv env tr' A lv.length=EL lv env tr A lv.length:=Q7n lv env lv.length fun l aS hA=>t1 l (by
   rcases Nat.lt_or_ge l j with h|h
   ·exact h
   ·rw[nr l h aS] at hA;cases hA)
  rw[←gd,t4,dq tr',e0,bG,t2];exact K9 (bW.lrel hL) eE o.dst
 ·rw[Xk];exact dD.ext hH bW
 ·rw[←gd,t4];exact hE.trans bW
theorem Z4b {ops:Array Oper}{pm:List Nat}{d:DInfo}{lv:List VOper}(_hl:DLink P ops pm d lv) {env:Env}{tr:Nat→Value}{hp:Nat→Heap}{ρ0:Plc}{σ0:Heap}{w0:World}{A:Nat→Bool}{a:Act}{w:World}
  (hI:DInv B d lv env tr hp ρ0 σ0 w0 A a w) (af:∀ j,j<lv.length→A j=true):P8 B (List.length env) ρ0 σ0 w0 (fun ae σ'=>ae=EL lv env tr (fun _=>true) lv.length∧σ'=hp (d.rank lv.length)) a w:=by
 obtain⟨bO,m,ρ,hm,kp,hH,hL,dD,hE⟩:=hI;have iw:m=d.rank lv.length:=by
  rcases Nat.lt_or_ge m (d.rank lv.length) with h|h
  ·obtain⟨l,h1,h2,h3⟩:=Ul d _ _ h;have:=(hm l h1 h2).1 (af l h1);omega
  ·omega
 subst iw;have e:=V5 lv env (tr:=tr) (tr':=tr) (A:=A) (B:=fun _=>true) lv.length (fun _ _=>rfl) (fun l hl=>af l hl);exact⟨_,ρ,_,⟨rfl,rfl⟩,Kf _ _ _ _ _,hH,by rw[←e];exact hL,dD,hE⟩
def Q19 (pm:List Nat) (d:DInfo) (n:Nat):(Nat→Bool)→List Nat→Prop
 |A,[]=>∀ p,p<n→A p=true
 |A,j::rest=>∃ p,p<n∧pm.getD p 0=j∧A p=false∧(∀ e∈d.ed.getD p [],A e=true)∧Q19 pm d n (fun q=>if q=p then true else A q) rest
theorem Ol (hS:OkSpecs P S) {ro:Option Nat}{n:Nat}{ops:Array Oper}{pm:List Nat}{d:DInfo}{lv:List VOper}(hl:DLink P ops pm d lv) (hd:DOk d lv.length) {env:Env}{K:Env→Heap→Prop}
  {Q:Exit→Act→World→Prop}{ρ0:Plc}{σ0:Heap}{w0:World}{l2:List Nat}(hQ:∀ a w,P8 B (List.length env) ρ0 σ0 w0 K a w→wpOpsIn (FF ro) n P ops Q l2 a w) {nd:List Nat}{i:Nat}{tr:Nat→Value}{hp:Nat→Heap}(ud:Know S d lv env K nd i tr hp) :
  ∀ (l:List Nat) (A:Nat→Bool) (a:Act) (w:World),Q19 pm d lv.length A l→DInv B d lv env tr hp ρ0 σ0 w0 A a w→(∀ j,i≤j→j<lv.length→A j=false)→(∀ j,j∈nd→j<lv.length→A j=true)→wpOpsIn (FF ro) n P ops Q (l++l2) a w:=by
 induction ud with
 |full hF hK =>
  intro l;induction l with
  |nil =>intro A a w hs hI _ _;obtain⟨ae,ρ',σ',⟨e1,e2⟩,n1⟩:=Z4b hl hI hs;exact hQ a w ⟨ae,ρ',σ',by rw[e1,e2];exact hK,n1⟩
  |cons j rest ih =>
   intro A a w hs hI hA hN;obtain⟨p,br,rfl,kz,he,a9⟩:=hs;rw[List.cons_append,wpOpsIn_cons];refine PM hS hl hd (hF p br fun h=>?_) (fun m _ h=>h) hI br kz he (fun _=>rfl) fun a' w' nu=>ih _ a' w' a9 nu (fun j h1 h2=>by omega) (fun j hj ec=>?_)
   ·rw[hN p h br] at kz;cases kz
   ·split
    ·rfl
    ·exact hN j hj ec
 |part hv hk hw hF ki R ga I T H hT next py =>
  rename_i nd i tr hp v;have aP:i<lv.length:=by
   rcases Nat.lt_or_ge i lv.length with h|h
   ·exact h
   ·rw[List.getElem?_eq_none h] at hv;cases hv
  intro l;induction l with
  |nil =>intro A a w hs hI hA _;have:=hs i aP;rw[hA i (Nat.le_refl _) aP] at this;cases this
  |cons j rest ih =>
   intro A a w hs hI hA hN;obtain⟨p,br,rfl,kz,he,a9⟩:=hs;rw[List.cons_append,wpOpsIn_cons];have jW:d.k i=2:=by obtain⟨_,_,_,h⟩:=hl.comp i v hv;exact h.trans hk
   rcases Nat.lt_trichotomy p i with jm|rfl|jm
   ·refine PM hS hl hd (hF p jm fun h=>?_) (fun m hm _=>?_) hI br kz he (fun _=>rfl) fun a' w' nu=>ih _ a' w' a9 nu (fun j h1 h2=>?_) (fun j hj ec=>?_)
    ·rw[hN p h br] at kz;cases kz
    ·have h1:¬ d.rank i<m:=fun h=>by
      have:=(hm i aP jW).2 h;rw[hA i (Nat.le_refl _) aP] at this;cases this
     omega
    ·rw[if_neg (by omega)];exact hA j h1 h2
    ·split
     ·rfl
     ·exact hN j hj ec
   ·refine Ft hS hl hd hv hk hw ga hI hA br kz he (fun _=>rfl) fun u σ' a' w' hR nu=>?_;obtain⟨q1,q2,q3,q4,q5⟩:=hT u σ' hR;refine py u σ' hR _ _ a' w' a9 (nu _ _ q2 q3 q4 q5) (fun j h1 h2=>?_) (fun j hj ec=>?_)
    ·rw[if_neg (by omega)];exact hA j (by omega) h2
    ·split
     ·rfl
     ·rename_i aA;rcases List.mem_cons.1 hj with h|h
      ·exact absurd h aA
      ·exact hN j h ec
   ·exfalso;obtain⟨e,u,h1,h2,hu,hn⟩:=ki p jm br;have kn:=List.getElem?_eq_getElem br;have ah:d.lt e p=true:=by
     cases h:d.lt e p with
     |true=>rfl
     |false =>
      rcases hn with⟨x,hx,hn⟩|⟨fT,eg⟩
      ·exact absurd (hn _ kn) ((hl.touch e p u _ hu kn (hd.free p br e h2 h).1).1 x hx)
      ·obtain⟨_,_,_,q1⟩:=hl.comp e u hu;obtain⟨_,_,_,q2⟩:=hl.comp p _ kn;exact absurd ⟨q1.trans fT,q2.trans (eg _ kn)⟩ (hd.free p br e h2 h).2
    have gB:A e=true:=by
     obtain⟨e',nw,h3⟩:=hd.path p br e h2 ah;have ny:=he e' nw;rcases h3 with rfl|⟨h3,h4⟩
     ·exact ny
     ·exact M0 hd hI.closed e' (by have:=hd.edge p br e' nw;omega) ny e h3 h4
    rw[hA e h1 (by omega)] at gB;cases gB
def Vk (ops:Array Oper):Array Bool→List Nat→Prop
 |L,[]=>∀ j,j<ops.size→L.getD j false=true
 |L,j::rest=>j∈Region.ready .any ops L∧Vk ops (L.setIfInBounds j true) rest
theorem V7 (L:Array Bool) (j i:Nat) (hj:j<L.size):(L.setIfInBounds j true).getD i false=if i=j then true else L.getD i false:=by
 by_cases h:i=j
 ·subst h;simp[hj]
 ·simp[h,Array.getElem?_setIfInBounds_ne (Ne.symm h)]
theorem Q1c {ops:Array Oper}(iz:∀ (j:Nat) (o:Oper),ops[j]?=some o→∀ e∈HO o,e<j) {L:Array Bool}(hs:L.size=ops.size) (h:Region.ready .any ops L=[]):∀ j,j<ops.size→L.getD j false=true:=by
 intro j;induction j using Nat.strongRecOn with
 |ind j ih =>
  intro hj;cases hA:L.getD j false with
  |true=>rfl
  |false =>
   exfalso;have:j∈Region.ready .any ops L:=by
    refine mem_ready.2 ⟨?_,ops[j],Array.getElem?_eq_getElem hj,fun e he hb=>?_⟩
    ·have h1:L.getD j true=L[j]:=by simp[hs,hj]
     have h2:L.getD j false=L[j]:=by simp[hs,hj]
     rw[h1,←h2];exact hA
    ·have:=iz j ops[j] (Array.getElem?_eq_getElem hj) e.on (List.mem_map.2 ⟨e,List.mem_filter.2 ⟨by simpa using he,hb⟩,rfl⟩);exact ih _ this (by omega)
   rw[h] at this;cases this
theorem Pt {ops:Array Oper}{L:Array Bool}(hs:L.size=ops.size) {j:Nat}(h:j∈Region.ready .any ops L):j<ops.size∧L.getD j false=false∧∃ o,ops[j]?=some o∧∀ e∈HO o,L.getD e false=true:=by obtain⟨h1,o,ho,h2⟩:=mem_ready.1 h;have a8:j<ops.size:=(Array.getElem?_eq_some_iff.1 ho).1;refine⟨a8,by simp[hs,a8] at h1 ⊢;exact h1,o,ho,fun e he=>?_⟩;obtain⟨x,hx,rfl⟩:=List.mem_map.1 he;obtain⟨uf,ug⟩:=List.mem_filter.1 hx;exact h2 x (by simpa using uf) ug
theorem Q51 {ops:Array Oper}(iz:∀ (j:Nat) (o:Oper),ops[j]?=some o→∀ e∈HO o,e<j):∀ (fuel t:Nat) (L:Array Bool),L.size=ops.size→cnt (fun i=>L.getD i false) ops.size≤fuel →
  Vk ops L (Region.linearise.go .any ops fuel t L []):=by
 intro fuel;induction fuel with
 |zero =>intro t L hs hc;simp only[Region.linearise.go,List.reverse_nil,Vk];exact FR (by omega)
 |succ fuel ih =>
  intro t L hs hc;simp only[Region.linearise.go]
  change Vk ops L (match (Region.ready .any ops L)[t % (Region.ready .any ops L).length]? with
   |some i=>Region.linearise.go .any ops fuel (t / (Region.ready .any ops L).length) (L.setIfInBounds i true) [i]
   |none=>[].reverse)
  cases hi:(Region.ready .any ops L)[t % (Region.ready .any ops L).length]? with
  |none =>
   have iA:Region.ready .any ops L=[]:=by
    cases hr:Region.ready .any ops L with
    |nil=>rfl
    |cons x xs =>rw[hr] at hi;have ah:t % (x::xs).length<(x::xs).length:=Nat.mod_lt _ (by simp);simp at hi;simp at ah;omega
   simp only[List.reverse_nil,Vk];exact Q1c iz hs iA
  |some i =>
   simp only[];rw[linearise_go_acc,List.reverse_singleton,List.singleton_append];have jo:=List.mem_of_getElem? hi;obtain⟨aP,nz,_⟩:=Pt hs jo;refine⟨jo,ih _ _ (by simp[hs]) ?_⟩;have iB:i<L.size:=by rw[hs];exact aP
   have:=Q20 (A:=fun i=>L.getD i false) (B:=fun k=>(L.setIfInBounds i true).getD k false) (j:=i) nz (by simp only[V7 L i i iB,if_true]) (fun k hk=>by simp only[V7 L i k iB,if_neg hk]) ops.size aP;omega
theorem FD {ops:Array Oper}:∀ (l:List Nat) (L:Array Bool),L.size=ops.size→Vk ops L l→l.Nodup∧∀ j,j∈l↔(j<ops.size∧L.getD j false=false):=by
 intro l;induction l with
 |nil=>intro L hs h;exact⟨List.nodup_nil,fun j=>⟨fun h=>(by cases h),fun ⟨h1,h2⟩=>by rw[h j h1] at h2;cases h2⟩⟩
 |cons i l ih =>
  intro L hs h;obtain⟨jo,h'⟩:=h;obtain⟨aP,nz,_⟩:=Pt hs jo;have iB:i<L.size:=by rw[hs];exact aP
  obtain⟨k1,k2⟩:=ih _ (by simp[hs]) h';refine⟨List.nodup_cons.2 ⟨fun hm=>?_,k1⟩,fun j=>?_⟩
  ·have:=((k2 i).1 hm).2;rw[V7 L i i iB,if_pos rfl] at this;cases this
  ·rw[List.mem_cons,k2 j,V7 L i j iB];by_cases aM:j=i
   ·subst aM;simp[aP,nz]
   ·simp[aM]
structure DBase (ops:Array Oper) (d:DInfo):Prop where
 ed:∀ (j:Nat) (o:Oper),ops[j]?=some o→d.ed.getD j []=HO o
 edge:∀ j,j<ops.size→∀ e∈d.ed.getD j [],e<j
 path:∀ j,j<ops.size→∀ i,i<j→d.lt i j=true→∃ e∈d.ed.getD j [],e=i∨(i<e∧d.lt i e=true)
 up:∀ i j,d.lt i j=true→i<j
 size:d.ks.length=ops.size
theorem EY {ops:Array Oper}{d:DInfo}(hb:DBase ops d) {A:Nat→Bool}(hc:∀ j,j<ops.size→A j=true→∀ e∈d.ed.getD j [],A e=true):∀ j,j<ops.size→A j=true→∀ i,i<j→d.lt i j=true→A i=true:=by
 intro j;induction j using Nat.strongRecOn with
 |ind j ih =>
  intro hj hA i hi ah;obtain⟨e,he,h⟩:=hb.path j hj i hi ah;have nj:=hb.edge j hj e he;have gB:=hc j hj hA e he;rcases h with rfl|⟨h1,h2⟩
  ·exact gB
  ·exact ih e nj (by omega) gB i h1 h2
theorem Z0g {ops:Array Oper}{d:DInfo}(hb:DBase ops d):∀ (l:List Nat) (L:Array Bool),L.size=ops.size→(∀ j,j<ops.size→L.getD j false=true→∀ e∈d.ed.getD j [],L.getD e false=true)→Vk ops L l →
  l.Pairwise fun j i=>d.lt i j=false:=by
 intro l;induction l with
 |nil=>intro L _ _ _;exact List.Pairwise.nil
 |cons j l ih =>
  intro L hs hc h;obtain⟨jo,h'⟩:=h;obtain⟨aP,nz,o,ho,iz⟩:=Pt hs jo;have iB:j<L.size:=by rw[hs];exact aP
  have cT:∀ k,k<ops.size→(L.setIfInBounds j true).getD k false=true→∀ e∈d.ed.getD k [],(L.setIfInBounds j true).getD e false=true:=by
   intro k hk hA e he;rw[V7 L j e iB];split
   ·rfl
   ·rw[V7 L j k iB] at hA;split at hA
    ·rename_i uh;subst uh;rw[hb.ed _ o ho] at he;exact iz e he
    ·exact hc k hk hA e he
  obtain⟨k1,k2⟩:=FD l _ (by simp[hs]) h';refine List.Pairwise.cons (fun i hi=>?_) (ih _ (by simp[hs]) cT h');cases ah:d.lt i j with
  |false=>rfl
  |true =>
   exfalso;have bR:=hb.up i j ah;have hA:(L.setIfInBounds j true).getD j false=true:=by rw[V7 L j j iB,if_pos rfl]
   have:=EY hb cT j aP hA i bR ah;rw[((k2 i).1 hi).2] at this;cases this
theorem CE (lt:Nat→Nat→Bool):∀ (s l:List Nat) (n:Nat),s.Perm l→l.length≤n→s.Pairwise (fun j i=>lt i j=false)→s∈exts lt n l:=by
 intro s;induction s with
 |nil =>intro l n hp hn _;have:l=[]:=hp.symm.eq_nil;subst this;cases n<;>simp[exts]
 |cons k s ih =>
  intro l n hp hn hs;have hk:k∈l:=hp.mem_iff.1 (by simp);cases l with
  |nil=>cases hk
  |cons x xs =>
   cases n with
   |zero=>simp at hn
   |succ n =>
    simp only[exts];refine List.mem_flatMap.2 ⟨k,hk,?_⟩;obtain⟨h1,h2⟩:=List.pairwise_cons.1 hs;have af:((x::xs).all fun i=>i==k||!lt i k)=true:=by
     refine List.all_eq_true.2 fun i hi=>?_;have:i∈k::s:=hp.mem_iff.2 hi;rcases List.mem_cons.1 this with rfl|h
     ·simp
     ·simp[h1 i h]
    rw[if_pos af];refine List.mem_map.2 ⟨s,ih _ n ?_ ?_ h2,rfl⟩
    ·exact(List.cons_perm_iff_perm_erase.1 hp).2
    ·rw[List.length_erase_of_mem hk];simp at hn ⊢;omega
theorem Q4f {j:Nat}:∀ (a a' b b':List Nat),j∉a→j∉a'→a++j::b=a'++j::b'→a=a':=by
 intro a;induction a with
 |nil =>
  intro a' b b' _ h' h;cases a' with
  |nil=>rfl
  |cons x a'=>simp at h;exact absurd h.1 (by rintro rfl;exact h' (by simp))
 |cons x a ih =>
  intro a' b b' h1 h2 h;cases a' with
  |nil=>simp at h;exact absurd h.1 (by rintro rfl;exact h1 (by simp))
  |cons y a' =>simp at h;obtain⟨rfl,h⟩:=h;rw[ih a' b b' (fun hm=>h1 (by simp[hm])) (fun hm=>h2 (by simp[hm])) h]
theorem FK {ops:Array Oper}{d:DInfo}(hb:DBase ops d):∀ (l:List Nat) (L:Array Bool),L.size=ops.size→Vk ops L l→∀ pre j post,l=pre++j::post→∀ e∈d.ed.getD j [],L.getD e false=true∨e∈pre:=by
 intro l;induction l with
 |nil=>intro L _ _ pre j post h;simp at h
 |cons i l ih =>
  intro L hs h pre j post he e gf;obtain⟨jo,h'⟩:=h;obtain⟨aP,nz,o,ho,iz⟩:=Pt hs jo;have iB:i<L.size:=by rw[hs];exact aP
  cases pre with
  |nil =>simp at he;obtain⟨rfl,_⟩:=he;rw[hb.ed _ o ho] at gf;exact .inl (iz e gf)
  |cons x pre =>
   simp at he;obtain⟨rfl,he⟩:=he;rcases ih _ (by simp[hs]) h' pre j post he e gf with h1|h1
   ·rw[V7 L i e iB] at h1;split at h1
    ·rename_i cQ;subst cQ;exact .inr (by simp)
    ·exact .inl h1
   ·exact .inr (by simp[h1])
theorem AG {d0 d:DInfo}{pm l:List Nat}(N:Nat) (hN:∀ i∈l,i<N) (jk:pm.Nodup) (gb:l.Nodup) (aO:∀ i,i∈pm↔i∈l) (bT:∀ pre j post,l=pre++j::post→∀ e∈d0.ed.getD j [],e∈l→e∈pre)
  (iz:∀ p,p<pm.length→d.ed.getD p []=Q5u d0 pm p) (hf:pm.filter (fun i=>d0.k i==2)=l.filter (fun i=>d0.k i==2)) :
  ∀ (post pre:List Nat),l=pre++post→Q19 pm d pm.length (fun q=>pre.contains (pm.getD q N)) post:=by
 intro post;induction post with
 |nil =>
  intro pre hl p hp;have hm:pm.getD p N∈pm:=by simp[List.getD_eq_getElem?_getD,hp]
  have:=(aO _).1 hm;rw[hl,List.append_nil] at this;simpa using this
 |cons j post ih =>
  intro pre hl;have bN:j∈l:=by rw[hl];simp
  have gd:=(aO j).2 bN;have hp:pm.idxOf j<pm.length:=List.idxOf_lt_length_of_mem gd;have sB:pm[pm.idxOf j]'hp=j:=List.getElem_idxOf hp;have hg:∀ z,pm.getD (pm.idxOf j) z=j:=fun z=>by simp[List.getD_eq_getElem?_getD,hp]
  have kA:j∉pre:=fun hm=>by rw[hl] at gb;exact(List.nodup_append.1 gb).2.2 j hm j (by simp) rfl
  refine⟨pm.idxOf j,hp,hg 0,by simp only[hg];simpa using kA,fun e he=>?_,?_⟩
  ·rw[iz _ hp] at he;rcases List.mem_append.1 he with he|he
   ·obtain⟨e0,lh,rfl⟩:=List.mem_map.1 he;rw[hg] at lh;obtain⟨jg,gY⟩:=List.mem_filter.1 lh;have gY:e0∈pm:=by simpa using gY
    have ui:pm.idxOf e0<pm.length:=List.idxOf_lt_length_of_mem gY;have:pm.getD (pm.idxOf e0) N=e0:=by simp[List.getD_eq_getElem?_getD,ui]
    simp only[this];have:=bT pre j post hl e0 jg ((aO e0).1 gY);simpa using this
   ·split at he
    ·rename_i aq;rw[hg] at aq;obtain⟨hq,hk⟩:=List.mem_filter.1 (List.mem_of_getLast? (Option.mem_toList.1 he));have dk:e<pm.idxOf j:=List.mem_range.1 hq;have hel:e<pm.length:=by omega
     have heq:pm.getD e N=pm[e]'hel:=by simp[List.getD_eq_getElem?_getD,hel]
     have qD:pm.getD e 0=pm[e]'hel:=by simp[List.getD_eq_getElem?_getD,hel]
     rw[qD] at hk;simp only[heq];have du:pm=pm.take (pm.idxOf j)++j::pm.drop (pm.idxOf j+1):=by conv=>lhs;rw[←List.take_append_drop (pm.idxOf j) pm,List.drop_eq_getElem_cons hp,sB]
     have nB:j∉pm.take (pm.idxOf j):=by intro hm;have hn:=jk;rw[du] at hn;exact(List.nodup_append.1 hn).2.2 j hm j (by simp) rfl
     have uj:(pm.take (pm.idxOf j)).filter (fun i=>d0.k i==2)++j::(pm.drop (pm.idxOf j+1)).filter (fun i=>d0.k i==2)=pre.filter (fun i=>d0.k i==2)++j::post.filter (fun i=>d0.k i==2):=by have h1:=hf;rw[du,hl] at h1;simp only[List.filter_append,List.filter_cons,aq,if_true] at h1;exact h1
     have:=Q4f _ _ _ _ (fun hm=>nB (List.mem_filter.1 hm).1) (fun hm=>kA (List.mem_filter.1 hm).1) uj;have aP:pm[e]∈(pm.take (pm.idxOf j)).filter (fun i=>d0.k i==2):=List.mem_filter.2 ⟨List.mem_take_iff_getElem.2 ⟨e,by omega,rfl⟩,hk⟩;rw[this] at aP;have:=(List.mem_filter.1 aP).1;simpa using this
    ·cases he
  ·have qE:(fun q=>if q=pm.idxOf j then true else pre.contains (pm.getD q N))=fun q=>(pre++[j]).contains (pm.getD q N):=by
    funext q
    by_cases hq:q=pm.idxOf j
    ·subst hq;simp only[if_true,hg];simp
    ·rw[if_neg hq];have aA:pm.getD q N≠j:=by
      intro he;rcases Nat.lt_or_ge q pm.length with mu|mu
      ·have h1:pm[q]=j:=by simpa [List.getD_eq_getElem?_getD,mu] using he
       exact hq ((List.getElem_inj (h₀:=mu) (h₁:=hp) jk).1 (h1.trans sB.symm))
      ·simp[List.getD_eq_getElem?_getD,List.getElem?_eq_none mu] at he;have:=hN j bN;omega
     rw[Bool.eq_iff_iff];simp only[List.contains_iff_mem,List.mem_append,List.mem_singleton,aA,or_false]
   rw[qE];exact ih (pre++[j]) (by rw[hl];simp)
theorem Q08 {ops:Array Oper}{vs:List VOper}(h:ops.toList.mapM (Ji P ops)=some vs) (aj:(KB ops.toList vs).okB=true):DBase ops (KB ops.toList vs):=by
 have hlen:vs.length=ops.size:=by have:=(Wy _ _ _ h).1;simpa using this
 have kj:(KB ops.toList vs).ks.length=ops.size:=by simp[KB,hlen]
 have dB:=aj;unfold DInfo.okB at dB;rw[Bool.and_eq_true,decide_eq_true_eq] at dB;obtain⟨uk,la⟩:=dB;have h0:∀ j,j<ops.size→(KB ops.toList vs).okE j=true∧(KB ops.toList vs).an.getD j 0<2 ^ j∧((List.range j).all fun i=>!((KB ops.toList vs).lt i j)||((KB ops.toList vs).ed.getD j []).any (fun e=>e==i||decide (i<e)&&(KB ops.toList vs).lt i e))=true:=fun j hj=>by have:=List.all_eq_true.1 la j (List.mem_range.2 (by rw[kj];exact hj));rw[Bool.and_eq_true,Bool.and_eq_true,decide_eq_true_eq] at this;exact this
 have nC:∀ j,j<ops.size→∀ e∈(KB ops.toList vs).ed.getD j [],e<j:=fun j hj e he=>by have:=List.all_eq_true.1 (h0 j hj).1 e he;simpa using this
 refine⟨fun j o ho=>by simp[KB,List.getD_eq_getElem?_getD,ho],nC,fun j hj i hi ah=>?_,fun i j ah=>?_,kj⟩
 ·have:=List.all_eq_true.1 (h0 j hj).2.2 i (List.mem_range.2 hi);simp only[ah,Bool.not_true,Bool.false_or,List.any_eq_true,Bool.or_eq_true,Bool.and_eq_true,decide_eq_true_eq,beq_iff_eq] at this;exact this
 ·rcases Nat.lt_or_ge i j with h|h
  ·exact h
  ·exfalso;unfold DInfo.lt at ah;rcases Nat.lt_or_ge j ops.size with hj|hj
   ·have h1:=(h0 j hj).2.1;have h2:(KB ops.toList vs).an.getD j 0<2 ^ i:=Nat.lt_of_lt_of_le h1 (Nat.pow_le_pow_right (by omega) h);rw[Nat.testBit_lt_two_pow h2] at ah;cases ah
   ·have:(KB ops.toList vs).an.getD j 0=0:=by
     rw[List.getD_eq_getElem?_getD,List.getElem?_eq_none (by rw[uk,kj];exact hj)];rfl
    rw[this,Nat.zero_testBit] at ah;cases ah
theorem FI {t:Nat}:∀ (l:List Nat),l.Pairwise (fun j i=>¬ (i<t∧t≤j))→l=l.filter (fun i=>decide (i<t))++l.filter (fun i=>decide (t≤i))
 |[],_=>rfl
 |x::l,h=>by
  obtain⟨h1,h2⟩:=List.pairwise_cons.1 h;have ih:=FI l h2;by_cases hx:x<t
  ·have mI:¬ t≤x:=by omega
   simp only[List.filter_cons,hx,decide_true,if_true,mI,decide_false,List.cons_append,Bool.false_eq_true,if_false];rw[←ih]
  ·have mI:t≤x:=by omega
   have iA:l.filter (fun i=>decide (i<t))=[]:=List.filter_eq_nil_iff.2 fun i hi=>by have:=h1 i hi;simp;omega
   have af:l.filter (fun i=>decide (t≤i))=l:=List.filter_eq_self.2 fun i hi=>by have:=h1 i hi;simp;omega
   simp only[List.filter_cons,hx,decide_false,mI,decide_true,if_true,iA,af];simp
theorem PZ (hS:OkSpecs P S) {ro:Option Nat}{n:Nat}{ops:Array Oper}{vs:List VOper}(cH:ops.toList.mapM (Ji P ops)=some vs) {d0:DInfo}(_hb:DBase ops d0) {l l2 idx pm:List Nat}(gb:l.Nodup) (ah:∀ i∈l,i<ops.size) (qF:∀ i,i∈l↔i∈idx)
  (bT:∀ pre j post,l=pre++j::post→∀ e∈d0.ed.getD j [],e∈l→e∈pre) (iw:Z11 d0 vs idx (l.filter fun i=>d0.k i==2) pm=true)
  {env:Env}{σ:Heap}{K:Env→Heap→Prop}{ρ:Plc}{w:World}{a:Act}(qG:ZD S ((F2 d0 vs pm).opers (Ud vs pm) 0) env [σ] σ [] K) (hH:HRel ρ σ w) (hL:LRel ρ σ.n env a.tmps.toList) (dD:Mks B a.defers w)
  {Q:Exit→Act→World→Prop}(hQ:∀ a' w',P8 B (List.length env) ρ σ w K a' w'→wpOpsIn (FF ro) n P ops Q l2 a' w'):wpOpsIn (FF ro) n P ops Q (l++l2) a w:=by
 have qf:vs.length=ops.size:=by have:=(Wy _ _ _ cH).1;simpa using this
 simp only[Z11,Bool.and_eq_true,decide_eq_true_eq,List.all_eq_true,List.contains_iff_mem] at iw;obtain⟨m1,m2,m3,m4,m5⟩:=iw;have kB:∀ i,i∈pm↔i∈l:=fun i=>by rw[qF i];exact⟨fun hi=>m2 i hi,fun hi=>m1 i hi⟩
 have jm:∀ i∈pm,i<vs.length:=fun i hi=>by have:=ah i ((kB i).1 hi);omega
 have hl:DLink P ops pm (F2 d0 vs pm) (Ud vs pm):=DLink.of cH jm;have qH:(Ud vs pm).length=pm.length:=by simp[Ud]
 have kj:(F2 d0 vs pm).ks.length=(Ud vs pm).length:=by simp[F2]
 have hd:=DOk.of m5;rw[kj] at hd;have iz:∀ p,p<pm.length→(F2 d0 vs pm).ed.getD p []=Q5u d0 pm p:=fun p hp=>by simp[F2,List.getD_eq_getElem?_getD,hp]
 have iC:=AG (d:=F2 d0 vs pm) ops.size ah m3 gb kB bT iz m4 l [] (by simp);have fK:∀ i v,(Ud vs pm)[i]?=some v→(F2 d0 vs pm).k i=v.op.kind:=fun i v hv=>(hl.comp i v hv).choose_spec.2.2;obtain⟨k,tr,hp,_,_,k2,k3⟩:=Q86 (F2 d0 vs pm) (Ud vs pm) fK env K (Ud vs pm) 0 (by omega) rfl [] (fun _=>undef) (fun _=>σ) [] (fun l hl=>by omega) (fun l hl=>by omega) (by simpa [DInfo.rank,EL] using qG);have qI:hp 0=σ:=k2 0 (by omega);have nD:(fun q=>([]:List Nat).contains (pm.getD q ops.size))=fun _=>false:=by funext q;rfl
 rw[nD] at iC;refine Ol (B:=B) (pm:=pm) hS hl hd hQ k3 l (fun _=>false) a w (by rw[qH];exact iC) ?_ (fun _ _ _=>rfl) (fun j hj=>by cases hj) (ρ0:=ρ) (σ0:=σ) (w0:=w)
 ·refine⟨fun j hj hA=>(by cases hA),0,ρ,fun l aS hk=>by simp,by omega,by rw[qI];exact hH,?_,dD,by rw[qI];exact Ext.refl _ _ _⟩;have e:EL (Ud vs pm) env tr (fun _=>false) (Ud vs pm).length=env:=by
   have:∀ m,EL (Ud vs pm) env tr (fun _=>false) m=env:=by
    intro m;induction m with
    |zero=>rfl
    |succ m ih=>simp only[EL,Bool.false_eq_true,if_false];exact ih
   exact this _
  rw[e,qI];exact hL
theorem CB (d:DInfo):∀ (lv:List VOper) (i:Nat),(∀ v∈lv,v.op.kind≠2)→∀ (env:Env) (σ:Heap) (pend:List (Nat×(Heap→Prop))) (K:Env→Heap→Prop),BX S lv env σ K→ZD S (d.opers lv i) env [σ] σ pend K:=by
 intro lv;induction lv with
 |nil=>intro i _ env σ pend K h;exact h
 |cons v rest ih =>
  intro i hk env σ pend K h;have aq:v.op.kind≠2:=hk v (by simp);have dS:∀ u∈rest,u.op.kind≠2:=fun u hu=>hk u (by simp[hu]);simp only[BX] at h;simp only[DInfo.opers,ZD];cases hw:Je env v.guard with
  |none=>rw[hw] at h;exact h.elim
  |some b =>
   rw[hw] at h;obtain⟨ht,hf⟩:=h;refine⟨fun e=>?_,fun e=>?_⟩
   ·have ht:=ht e;have fZ:∃ p,Q8 v.op (Q4 env) σ=some p∧BX S rest (Xt env v.dst p.1) p.2 K:=by
     have cJ:∀ x:XOp,v.op=.ext x→(∀ y,x≠.nextMap y):=fun x hx y hy=>by rw[hx,hy] at aq;exact aq rfl
     have:=ht;unfold vop at this;split at this
     ·rename_i f bP heq;rw[heq] at aq;exact absurd rfl aq
     ·rename_i f bP heq;rw[heq] at aq;exact absurd rfl aq
     ·rename_i x heq;rw[heq] at aq;exact absurd rfl aq
     ·cases dQ:Q8 v.op (Q4 env) σ with
      |none=>rw[dQ] at this;exact this.elim
      |some p=>rw[dQ] at this;exact⟨p,rfl,this⟩
    obtain⟨p,hp,hr⟩:=fZ;have hq:p.2=σ:=BB aq (v:=p.1) (σ':=p.2) hp;rw[hq] at hr;rw[if_neg aq];split
    ·rw[hp];refine⟨fun τ hτ=>?_,ih (i+1) dS _ _ _ _ hr⟩;have:τ=σ:=by
      have:=List.mem_of_mem_drop hτ;simpa using this
     subst this;show Zg (Q8 v.op (Q4 env) τ) _;rw[hp];rfl
    ·rw[hp];exact ih (i+1) dS _ _ _ _ hr
   ·rw[if_neg aq];exact ih (i+1) dS _ _ _ _ (hf e)
theorem Q10 (hS:OkSpecs P S) {ro:Option Nat}{n:Nat}{ops:Array Oper}{vs:List VOper}(cH:ops.toList.mapM (Ji P ops)=some vs) {d0:DInfo}(hb:DBase ops d0) (_hk0:∀ i v,vs[i]?=some v→d0.k i=v.op.kind) {s len:Nat}(hlen:0<len) (gM:s+len≤ops.size) {x:DSeg}(hx:Z2k d0 vs s len=some x)
  {l l2:List Nat}(gb:l.Nodup) (aO:∀ i,i∈l↔(s≤i∧i<s+len)) (bT:∀ pre j post,l=pre++j::post→∀ e∈d0.ed.getD j [],e∈l→e∈pre) (jJ:l.Pairwise fun j i=>d0.lt i j=false)
  {rest:List DSeg}{env:Env}{σ:Heap}{K:Env→Heap→Prop}{ρ:Plc}{w:World}{a:Act}(h:Gl S (x::rest) env σ K) (hH:HRel ρ σ w) (hL:LRel ρ σ.n env a.tmps.toList) (dD:Mks B a.defers w)
  {Q:Exit→Act→World→Prop}(hQ:∀ a' w',P8 B (List.length env) ρ σ w (fun env σ=>Gl S rest env σ K) a' w'→wpOpsIn (FF ro) n P ops Q l2 a' w'):wpOpsIn (FF ro) n P ops Q (l++l2) a w:=by
 have qf:vs.length=ops.size:=by have:=(Wy _ _ _ cH).1;simpa using this
 unfold Z2k at hx;split at hx
 ·rename_i h1;subst h1;obtain rfl:=osj hx;have hs:s<ops.size:=by omega
  have eP:l=[s]:=by
   have hm:∀ i,i∈l↔i=s:=fun i=>by rw[aO i];omega
   have hp:l.Perm [s]:=(List.perm_ext_iff_of_nodup gb (by simp)).2 fun i=>by rw[hm i];simp
   exact List.perm_singleton.1 hp
  subst eP;obtain⟨v,hv,hc⟩:=(Wy _ _ _ cH).2 s ops[s] (by simp[hs]);have hg:vs.getD s default=v:=by simp[List.getD_eq_getElem?_getD,hv]
  simp only[Gl,hg] at h;simp only[BX] at h;rw[List.singleton_append,wpOpsIn_cons];unfold wpOpIn;rw[Array.getElem?_eq_getElem hs];simp only;cases hw:Je env v.guard with
  |none=>rw[hw] at h;exact h.elim
  |some b =>
   rw[hw] at h;obtain⟨ht,hf⟩:=h;obtain⟨dz,bG,bJ⟩:=Bt hc hL hw;rw[dz];cases b with
   |false =>rw[if_neg (by simp)];refine⟨fun f _=>IW _ _,hQ _ _ ⟨_,ρ,σ,hf rfl,ZB _ _ _,hH,by rw[bG];exact K9 hL JK _,by rw[Xk];exact dD,Ext.refl _ _ _⟩⟩
   |true =>rw[if_pos rfl];refine VT hS bJ hH hL (ht rfl) fun c w' ⟨u,ρ',σ',hK,eE,gy,hE⟩=>?_;exact hQ _ _ ⟨_,ρ',σ',hK,ZB _ _ _,gy,by rw[bG];exact K9 (hE.lrel hL) eE _,by rw[Xk];exact dD.ext hH hE,hE⟩
 ·rename_i fT;simp only at hx;split at hx
  ·rename_i hP;obtain rfl:=osj hx;simp only[Gl] at h;have nE:(l.filter fun i=>d0.k i==2).Perm ((List.range' s len).filter fun i=>d0.k i==2):=by
    refine (List.Perm.filter _ ?_);refine (List.perm_ext_iff_of_nodup gb List.nodup_range').2 fun j=>?_;rw[aO j,List.mem_range'_1]
   have hs:=CE d0.lt _ _ len nE (by
    refine Nat.le_trans (List.length_filter_le _ _) (by simp)) (jJ.filter _)
   have iw:=List.all_eq_true.1 hP _ (List.mem_map.2 ⟨_,hs,rfl⟩);have qG:=h _ (List.mem_map.2 ⟨_,List.mem_map.2 ⟨_,hs,rfl⟩,rfl⟩);exact PZ hS cH hb gb (fun i hi=>by have:=(aO i).1 hi;omega) (fun i=>by rw[aO i,List.mem_range'_1]) bT iw qG hH hL dD (fun a' w' hn=>by
    obtain⟨ae,ρ',σ',⟨aR,σ2,hD,hR⟩,n1,n2,n3,n4,n5⟩:=hn;obtain⟨ρ2,d1,d2,d3⟩:=hD ρ w ρ' w' a'.tmps.toList hH n5 n2 n3;exact hQ a' w' ⟨aR,ρ2,σ2,hR,(d1.1.trans n3.1.symm).trans n1,d2,d1,n4,d3⟩)
  ·cases hx
theorem O8 (hS:OkSpecs P S) {ro:Option Nat}{n:Nat}{ops:Array Oper}{vs:List VOper}(cH:ops.toList.mapM (Ji P ops)=some vs) {d0:DInfo}(hb:DBase ops d0) (fw:∀ i v,vs[i]?=some v→d0.k i=v.op.kind)
  {Q:Exit→Act→World→Prop}{K:Env→Heap→Prop}:∀ (f s:Nat) (aQ:List DSeg),Q06 d0 vs f s=some aQ→s≤ops.size→∀ (l:List Nat),l.Nodup→(∀ i,i∈l↔(s≤i∧i<ops.size)) →
   (∀ pre j post,l=pre++j::post→∀ e∈d0.ed.getD j [],e∈l→e∈pre)→(l.Pairwise fun j i=>d0.lt i j=false) →
   ∀ (env:Env) (σ:Heap) (ρ:Plc) (w:World) (a:Act),Gl S aQ env σ K→HRel ρ σ w→LRel ρ σ.n env a.tmps.toList→Mks B a.defers w→(∀ a' w',P8 B (List.length env) ρ σ w K a' w'→Q .normal a' w') →
   wpOpsIn (FF ro) n P ops Q l a w:=by
 intro f
 have fin:∀ (s:Nat) (aQ:List DSeg),s=d0.ks.length→[]=aQ→∀ (l:List Nat),(∀ i,i∈l↔(s≤i∧i<ops.size))→∀ (env:Env) (σ:Heap) (ρ:Plc) (w:World) (a:Act),Gl S aQ env σ K→HRel ρ σ w→LRel ρ σ.n env a.tmps.toList→Mks B a.defers w→(∀ a' w',P8 B (List.length env) ρ σ w K a' w'→Q .normal a' w') →
   wpOpsIn (FF ro) n P ops Q l a w:=by
  intro s aQ hs eT l aO env σ ρ w a h hH hL dD hQ;subst eT;have:l=[]:=by
   cases l with
   |nil=>rfl
   |cons x l =>have:=(aO x).1 (by simp);rw[hs,hb.size] at this;omega
  subst this;exact hQ a w ⟨env,ρ,σ,h,rfl,hH,hL,dD,Ext.refl _ _ _⟩
 induction f with
 |zero =>
  intro s aQ eT hs l gb aO bT jJ env σ ρ w a h hH hL dD hQ;simp only[Q06] at eT;split at eT
  ·rename_i he;exact fin s aQ he (osj eT) l aO env σ ρ w a h hH hL dD hQ
  ·cases eT
 |succ f ih =>
  intro s aQ eT hs l gb aO bT jJ env σ ρ w a h hH hL dD hQ;simp only[Q06] at eT;split at eT
  ·rename_i he;exact fin s aQ he (osj eT) l aO env σ ρ w a h hH hL dD hQ
  ·rename_i aA;split at eT
   ·cases eT
   ·rename_i t ht;have qJ:=List.find?_some ht;have nF:=List.mem_range'_1.1 (List.mem_of_find?_eq_some ht);rw[hb.size] at nF;split at eT
    ·rename_i x r hx hr;obtain rfl:=osj eT;have ah:∀ i p,i<t→t≤p→p<ops.size→d0.lt i p=true:=fun i p hi hp jk=>by
      have h1:=List.all_eq_true.1 qJ p (List.mem_range'_1.2 ⟨hp,by rw[hb.size];omega⟩);exact List.all_eq_true.1 h1 i (List.mem_range.2 hi)
     have qK:l.Pairwise (fun j i=>¬ (i<t∧t≤j)):=by refine (List.pairwise_iff_forall_sublist.2 fun {j i} gP=>?_);rintro⟨h1,h2⟩;have hj:j∈l:=gP.subset (by simp);have h3:=(List.pairwise_iff_forall_sublist.1 jJ) gP;rw[ah i j h1 h2 ((aO j).1 hj).2] at h3;cases h3
     have du:=FI l qK;have nq:∀ i,i∈l.filter (fun i=>decide (i<t))↔(s≤i∧i<s+(t-s)):=fun i=>by rw[List.mem_filter,aO i,decide_eq_true_eq];omega
     have jl:∀ i,i∈l.filter (fun i=>decide (t≤i))↔(t≤i∧i<ops.size):=fun i=>by rw[List.mem_filter,aO i,decide_eq_true_eq];omega
     rw[du];refine Q10 hS cH hb fw (by omega) (by omega) hx (gb.filter _) nq ?_ (jJ.filter _) h hH hL dD ?_
     ·intro pre j post he e gf hel;refine bT pre j (post++l.filter (fun i=>decide (t≤i))) ?_ e gf (List.mem_filter.1 hel).1;exact du.trans (by rw[he,List.append_assoc];rfl)
     ·intro a' w' ⟨ae,ρ',σ',k1,k0,k2,k3,k4,k5⟩;refine ih t r hr (by omega) _ (gb.filter _) jl ?_ (jJ.filter _) ae σ' ρ' w' a' k1 k2 k3 k4 ?_
      ·intro pre j post he e gf hel;have:=bT (l.filter (fun i=>decide (i<t))++pre) j post (du.trans (by rw[he,List.append_assoc])) e gf (List.mem_filter.1 hel).1;rcases List.mem_append.1 this with h1|h1
       ·have h2:=(List.mem_filter.1 h1).2;have h3:=(List.mem_filter.1 hel).2;simp at h2 h3;omega
       ·exact h1
      ·intro a2 w2 ⟨aR,ρ2,σ2,m1,m0,m2,m3,m4,m5⟩;exact hQ a2 w2 ⟨aR,ρ2,σ2,m1,m0.trans k0,m2,m3,m4,k5.trans m5⟩
    ·cases eT
theorem OL (hm:P.follows .mixedOrders=true) (hS:OkSpecs P S) {ro:Option Nat}{n:Nat}{id:Nat}{ops:Array Oper}{vs:List VOper}(cH:ops.toList.mapM (Ji P ops)=some vs) {aQ:List DSeg}(aj:Q5w (KB ops.toList vs) vs=some aQ)
  {env:Env}{σ:Heap}{K:Env→Heap→Prop}{ρ:Plc}{w:World}{a:Act}(h:Gl S aQ env σ K) (hH:HRel ρ σ w) (hL:LRel ρ σ.n env a.tmps.toList) (dD:Mks B a.defers w)
  {Q:Exit→Act→World→Prop}(hQ:∀ a' w',P8 B (List.length env) ρ σ w K a' w'→Q .normal a' w'):(Code.region id ops true).wpIn (FF ro) n P Q a w:=by
 unfold Q5w at aj;split at aj
 ·rename_i hB;have hb:=Q08 cH hB;have fK:∀ i v,vs[i]?=some v→(KB ops.toList vs).k i=v.op.kind:=fun i v hv=>by
   simp[DInfo.k,KB,List.getD_eq_getElem?_getD,hv]
  generalize qv:KB ops.toList vs=d0 at *
  refine wpIn_region_draw fun t=>?_;simp only[Region.schedule,hm,Bool.true_or,if_true];have gg:∀ (j:Nat) (o:Oper),ops[j]?=some o→∀ e∈HO o,e<j:=fun j o ho e he=>hb.edge j (Array.getElem?_eq_some_iff.1 ho).1 e (by rw[hb.ed j o ho];exact he);have af:∀ i,(Array.replicate ops.size false).getD i false=false:=fun i=>by rw[Array.getD_eq_getD_getElem?,Array.getElem?_replicate];split<;>rfl
  have gR:=Q51 gg ops.size t (Array.replicate ops.size false) (by simp) (by
   have:∀ m,cnt (fun i=>(Array.replicate ops.size false).getD i false) m≤m:=by
    intro m;induction m with
    |zero=>exact Nat.le_refl _
    |succ m ih=>simp only[cnt];split<;>omega
   exact this _)
  change wpOpsIn _ _ _ _ _ (Region.linearise.go .any ops ops.size t (Array.replicate ops.size false) []) _ _;generalize Region.linearise.go .any ops ops.size t (Array.replicate ops.size false) []=l at *
  obtain⟨fx,aO⟩:=FD l _ (by simp) gR;have jJ:=Z0g hb l _ (by simp) (fun j _ hA=>by rw[af] at hA;cases hA) gR;have bT:=FK hb l _ (by simp) gR;refine O8 hS cH hb fK _ 0 aQ aj (by omega) l fx (fun i=>by rw[aO i,af];simp) (fun pre j post he e gf _=>?_) jJ env σ ρ _ a h hH.drew hL (dD.ext hH (Ext.drew _ _ _)) (fun a' w' hn=>?_)
  ·rcases bT pre j post he e gf with h1|h1
   ·rw[af] at h1;cases h1
   ·exact h1
  ·obtain⟨ae,ρ',σ',n0,n1,n2,n3,n4,n5⟩:=hn;exact hQ a' w' ⟨ae,ρ',σ',n0,n1,n2,n3,n4,(Ext.drew _ _ _).trans n5⟩
 ·cases aj
theorem A0 (hm:P.follows .mixedOrders=true) (hS:OkSpecs P S) {ro:Option Nat}{n:Nat}{id:Nat}{ops:Array Oper}{vs:List VOper}(cH:ops.toList.mapM (Ji P ops)=some vs) (aj:D2 (KB ops.toList vs) vs=true)
  {env:Env}{σ:Heap}{K:Env→Heap→Prop}{ρ:Plc}{w:World}{a:Act}(h:BX S vs env σ K) (hH:HRel ρ σ w) (hL:LRel ρ σ.n env a.tmps.toList) (dD:Mks B a.defers w)
  {Q:Exit→Act→World→Prop}(hQ:∀ a' w',P8 B (List.length env) ρ σ w K a' w'→Q .normal a' w'):(Code.region id ops true).wpIn (FF ro) n P Q a w:=by
 simp only[D2,Bool.and_eq_true] at aj;obtain⟨hB,lr,jY⟩:=aj;have hb:=Q08 cH hB;have qf:vs.length=ops.size:=by have:=(Wy _ _ _ cH).1;simpa using this
 have aq:∀ v∈vs,v.op.kind≠2:=fun v hv=>by have:=List.all_eq_true.1 lr v hv;simpa using this
 have fK:∀ i v,vs[i]?=some v→(KB ops.toList vs).k i=v.op.kind:=fun i v hv=>by simp[DInfo.k,KB,List.getD_eq_getElem?_getD,hv]
 generalize qv:KB ops.toList vs=d0 at *
 refine wpIn_region_draw fun t=>?_;simp only[Region.schedule,hm,Bool.true_or,if_true];have gg:∀ (j:Nat) (o:Oper),ops[j]?=some o→∀ e∈HO o,e<j:=fun j o ho e he=>hb.edge j (Array.getElem?_eq_some_iff.1 ho).1 e (by rw[hb.ed j o ho];exact he);have af:∀ i,(Array.replicate ops.size false).getD i false=false:=fun i=>by rw[Array.getD_eq_getD_getElem?,Array.getElem?_replicate];split<;>rfl
 have gR:=Q51 gg ops.size t (Array.replicate ops.size false) (by simp) (by
  have:∀ m,cnt (fun i=>(Array.replicate ops.size false).getD i false) m≤m:=by
   intro m;induction m with
   |zero=>exact Nat.le_refl _
   |succ m ih=>simp only[cnt];split<;>omega
  exact this _)
 change wpOpsIn _ _ _ _ _ (Region.linearise.go .any ops ops.size t (Array.replicate ops.size false) []) _ _;generalize Region.linearise.go .any ops ops.size t (Array.replicate ops.size false) []=l at *
 obtain⟨fx,aO⟩:=FD l _ (by simp) gR;have bT:=FK hb l _ (by simp) gR;have ah:∀ i∈l,i<ops.size:=fun i hi=>((aO i).1 hi).1;have iA:l.filter (fun i=>d0.k i==2)=[]:=List.filter_eq_nil_iff.2 fun i hi=>by have aP:=ah i hi;have sC:vs[i]?=some vs[i]:=List.getElem?_eq_getElem (by omega);rw[fK i _ sC];simpa using aq _ (List.mem_of_getElem? sC)
 have qL:Ud vs (List.range' 0 d0.ks.length)=vs:=by
  apply List.ext_getElem?;intro i;unfold Ud;rw[List.getElem?_map];rcases Nat.lt_or_ge i vs.length with hi|hi
  ·rw[List.getElem?_range' (by rw[hb.size];omega),List.getElem?_eq_getElem hi];simp[List.getD_eq_getElem?_getD,hi]
  ·rw[List.getElem?_eq_none (by simp[hb.size];omega),List.getElem?_eq_none hi];rfl
 have hd:=CB (S:=S) (F2 d0 vs (List.range' 0 d0.ks.length)) vs 0 aq env σ [] K h;rw[←List.append_nil l];refine PZ hS cH hb fx ah (fun i=>by rw[aO i,af,List.mem_range'_1,hb.size];simp) (fun pre j post he e gf _=>?_) (idx:=List.range' 0 d0.ks.length) (pm:=List.range' 0 d0.ks.length) (by rw[iA];exact jY) (by rw[qL];exact hd) hH.drew hL (dD.ext hH (Ext.drew _ _ _)) (fun a' w' hn=>?_)
 ·rcases bT pre j post he e gf with h1|h1
  ·rw[af] at h1;cases h1
  ·exact h1
 ·obtain⟨ae,ρ',σ',n0,n1,n2,n3,n4,n5⟩:=hn;exact hQ a' w' ⟨ae,ρ',σ',n0,n1,n2,n3,n4,(Ext.drew _ _ _).trans n5⟩
theorem Eo (hS:OkSpecs P S) {id:Nat}{ops:Array Oper}{lv:List VOper}(b9:ops.toList.mapM (Ji P ops)=some lv):Sound P S (.region id ops false) (.region lv):=by intro B dg ro n Q env σ ρ w a h hH hL hd hR Q' hQ;simp only[vwp] at h;refine wpIn_region ?_;rw[List.range_eq_range',←Array.length_toList,wpOpsIn_eq_wpListIn ops.toList 0 (by simp)];exact IE hS ops Q' ops.toList lv b9 env σ _ ρ w a h hH hL hd (fun a' w' hn=>hQ .normal a' w' hn)
theorem cond_true {v:Value}{A B:Prop}(h:E6 v A B):∃ t,v=.bool t∧(t=true→A)∧(t=false→B):=by
 unfold E6 at h;split at h
 ·exact⟨_,rfl,h⟩
 ·exact h.elim
theorem OJ {c:Code}{vc:VCode}(ih:Sound P S c vc):Sound P S (.loop c) (.loop vc):=by
 intro B dg ro n Q env σ ρ w a h hH hL hd hR Q' hQ;simp only[vwp] at h;obtain⟨live,I,n0,h0,dV⟩:=h;refine wpIn_loop_ghost (fun k a' w'=>P8 B (List.length env) ρ σ w (fun ae σ'=>I k (B5 live ae) σ') a' w') n0 ⟨env,ρ,σ,h0,rfl,hH,hL,hd,Ext.refl _ _ _⟩ ?_;rintro k a1 w1 ⟨bt,ρ1,σ1,k1,k0,k2,k3,k4,k5⟩;have hlen:List.length (XA live (B5 live bt) (List.replicate env.length poison))=List.length env:=by rw[Cv];simp
 refine ih dg ro n _ _ σ1 ρ1 w1 a1 (dV k (B5 live bt) σ1 k1) k2 (IY live bt _ _ k3 (Ot _ (by rw[←k3.1,k0]))) k4 (hR.ext k5) _ ?_;rintro e a2 w2 ⟨aR,ρ2,σ2,m1,m0,m2,m3,m4,m5⟩;rw[hlen] at m0;cases e with
 |normal =>obtain⟨n',mq,hI⟩:=m1;exact⟨n',mq,aR,ρ2,σ2,hI,m0,m2,m3,m4,k5.trans m5⟩
 |_=>exact hQ _ a2 w2 ⟨aR,ρ2,σ2,m1,m0,m2,m3,m4,k5.trans m5⟩
theorem DE (c:Code):Sound P S c .bad:=by intro B dg ro n Q env σ ρ w a h;exact h.elim
theorem Oo (hm:P.follows .mixedOrders=true) (hS:OkSpecs P S):∀ (c:Code) (vc:VCode),comp P c=some vc→Sound P S c vc:=by
 intro c;induction c with
 |skip =>intro vc hc;simp[comp] at hc;subst hc;intro B dg ro n Q env σ ρ w a h hH hL hd hR Q' hQ;exact wpIn_skip (hQ _ _ _ ⟨env,ρ,σ,h,rfl,hH,hL,hd,Ext.refl _ _ _⟩)
 |region id ops dr =>
  intro vc hc;cases dr with
  |false =>simp only[comp,Option.bind_eq_bind,Option.bind_eq_some_iff] at hc;obtain⟨lv,b9,hc⟩:=hc;simp at hc;subst hc;exact Eo hS b9
  |true =>
   simp only[comp,Option.bind_eq_bind,Option.bind_eq_some_iff] at hc;obtain⟨lv,b9,hc⟩:=hc;split at hc
   ·rename_i aj;simp at hc;subst hc;intro B dg ro n Q env σ ρ w a h hH hL hd hR Q' hQ;exact A0 hm hS b9 aj h hH hL hd (fun a' w' hn=>hQ .normal a' w' hn)
   split at hc
   ·rename_i aQ aj;simp at hc;subst hc;intro B dg ro n Q env σ ρ w a h hH hL hd hR Q' hQ;exact OL hm hS b9 aj h hH hL hd (fun a' w' hn=>hQ .normal a' w' hn)
   ·simp at hc;subst hc;exact DE _
 |seq x y jK nG =>
  intro vc hc;simp only[comp,Option.bind_eq_bind,Option.bind_eq_some_iff] at hc;obtain⟨vx,hx,vy,hy,hc⟩:=hc;simp at hc;subst hc;intro B dg ro n Q env σ ρ w a h hH hL hd hR Q' hQ;simp only[vwp] at h;refine wpIn_seq (jK vx hx dg ro n _ env σ ρ w a h hH hL hd hR _ ?_);rintro e a1 w1 ⟨bt,ρ1,σ1,k1,k0,k2,k3,k4,k5⟩;cases e with
  |normal =>refine nG vy hy dg ro n _ bt σ1 ρ1 w1 a1 k1 k2 k3 k4 (hR.ext k5) _ ?_;rintro e2 a2 w2 ⟨aR,ρ2,σ2,m1,m0,m2,m3,m4,m5⟩;exact hQ e2 a2 w2 ⟨aR,ρ2,σ2,m1,m0.trans k0,m2,m3,m4,k5.trans m5⟩
  |_=>exact hQ _ a1 w1 ⟨bt,ρ1,σ1,k1,k0,k2,k3,k4,k5⟩
 |cond c x y jK nG =>
  intro vc hc;simp only[comp] at hc;split at hc
  ·rename_i aj;simp only[Option.bind_eq_bind,Option.bind_eq_some_iff] at hc;obtain⟨vx,hx,vy,hy,hc⟩:=hc;simp at hc;subst hc;intro B dg ro n Q env σ ρ w a h hH hL hd hR Q' hQ;simp only[vwp] at h;obtain⟨t,ht,h1,h2⟩:=cond_true h;have hv:=Ww hL aj;rw[ht] at hv;refine wpIn_cond_split hv.bool_inv (fun e=>?_) (fun e=>?_)
   ·exact jK vx hx dg ro n Q env σ ρ w a (h1 e) hH hL hd hR Q' hQ
   ·exact nG vy hy dg ro n Q env σ ρ w a (h2 e) hH hL hd hR Q' hQ
  ·simp at hc;subst hc;exact DE _
 |block id x jK =>
  intro vc hc;simp only[comp,Option.bind_eq_bind,Option.bind_eq_some_iff] at hc;obtain⟨vx,hx,hc⟩:=hc;simp at hc;subst hc;intro B dg ro n Q env σ ρ w a h hH hL hd hR Q' hQ;simp only[vwp] at h;refine wpIn_block (jK vx hx dg ro n _ env σ ρ w a h hH hL hd hR _ ?_);rintro e a1 w1 ⟨bt,ρ1,σ1,k1,k0,k2,k3,k4,k5⟩;cases e with
  |exit h_ =>
   simp only[Av] at k1;simp only[Exit.inBlock];split at k1
   ·rename_i he;rw[if_pos he];exact hQ _ a1 w1 ⟨bt,ρ1,σ1,k1,k0,k2,k3,k4,k5⟩
   ·rename_i he;rw[if_neg he];exact hQ _ a1 w1 ⟨bt,ρ1,σ1,k1,k0,k2,k3,k4,k5⟩
  |_=>exact hQ _ a1 w1 ⟨bt,ρ1,σ1,k1,k0,k2,k3,k4,k5⟩
 |loop x jK =>intro vc hc;simp only[comp,Option.bind_eq_bind,Option.bind_eq_some_iff] at hc;obtain⟨vx,hx,hc⟩:=hc;simp at hc;subst hc;exact OJ (jK vx hx)
 |rangeFunc g ps x y jK nG =>
  intro vc hc;simp only[comp] at hc;split at hc
  ·rename_i aj;simp only[Option.bind_eq_bind,Option.bind_eq_some_iff] at hc;obtain⟨vx,hx,vy,hy,hc⟩:=hc;simp at hc;subst hc;exact FC hS (jK vx hx) (nG vy hy) g aj ps
  ·simp at hc;subst hc;exact DE _
 |exit id =>intro vc hc;simp[comp] at hc;subst hc;intro B dg ro n Q env σ ρ w a h hH hL hd hR Q' hQ;exact wpIn_exit (hQ _ _ _ ⟨env,ρ,σ,h,rfl,hH,hL,hd,Ext.refl _ _ _⟩)
 |ret =>intro vc hc;simp[comp] at hc;subst hc;intro B dg ro n Q env σ ρ w a h hH hL hd hR Q' hQ;exact wpIn_ret (hQ _ _ _ ⟨env,ρ,σ,h,rfl,hH,hL,hd,Ext.refl _ _ _⟩)
 |_ =>intro vc hc;simp[comp] at hc;subst hc;exact DE _
end
end Go.V
namespace Go.V
open Go
inductive Ren (n:Nat) (π:Nat→Nat):Value→Value→Prop
 |plain (v:Value) (h:QW v=true):Ren n π v v
 |poison (c:Value):Ren n π poison c
 |glob (g o s:Nat):Ren n π (.pointer (some ⟨g,o,some s⟩)) (.pointer (some ⟨g,o,some s⟩))
 |ptr (i o:Nat) (hi:i<n):Ren n π (.pointer (some ⟨i,o,none⟩)) (.pointer (some ⟨π i,o,none⟩))
 |sl (i o len cap:Nat) (hi:i<n):Ren n π (.slice (some ⟨i,o,none⟩) len cap) (.slice (some ⟨π i,o,none⟩) len cap)
 |map (i:Nat) (hi:i<n):Ren n π (.map (some i)) (.map (some (π i)))
 |iface (t:TypeId) (v c:Value) (h:Ren n π v c):Ren n π (.iface t v) (.iface t c)
 |yield (i:Nat) (hi:i<n):Ren n π (.func (.yield i) #[] #[]) (.func (.yield (π i)) #[] #[])
 |func (fn:FuncId) (fs gs cs ds:Array Value) (hf:fs.size=gs.size) (hc:cs.size=ds.size)
   (h1:∀ i (h1:i<fs.size) (h2:i<gs.size),Ren n π fs[i] gs[i]) (h2:∀ i (h1:i<cs.size) (h2:i<ds.size),Ren n π cs[i] ds[i]):Ren n π (.func (.func fn) fs cs) (.func (.func fn) gs ds)
 |agg (cs ds:Array Value) (hc:cs.size=ds.size) (h:∀ i (h1:i<cs.size) (h2:i<ds.size),Ren n π cs[i] ds[i]):Ren n π (.agg cs) (.agg ds)
 |tuple (cs ds:Array Value) (hc:cs.size=ds.size) (h:∀ i (h1:i<cs.size) (h2:i<ds.size),Ren n π cs[i] ds[i]):Ren n π (.tuple cs) (.tuple ds)
def LRen (n:Nat) (π:Nat→Nat) (vs cs:List Value):Prop:=vs.length=cs.length∧∀ (i:Nat) (v c:Value),vs[i]?=some v→cs[i]?=some c→Ren n π v c
theorem Ren.rel {ρ:Plc}{nf n':Nat}{π:Nat→Nat}{v' v:Value}(h:Ren n' π v' v):∀ {c:Value},VRel ρ nf v c→VRel (fun i=>if i<n' then ρ (π i) else none) n' v' c:=by
 induction h with
 |plain v h =>intro c hv;have:c=v:=Vd h hv;subst this;exact WA h
 |poison c=>intro c _;exact .poison _
 |glob g o s=>intro c hv;cases hv;exact .glob _ _ _
 |ptr i o hi =>intro c hv;obtain⟨a,rfl,_,h⟩:=hv.ptr_inv';exact .ptr _ _ _ hi fun p hp=>h p (by simpa [hi] using hp)
 |sl i o len cap hi =>intro c hv;obtain⟨a,au,rfl,_,h⟩:=hv.sl_inv;exact .sl _ _ _ _ _ _ hi fun p hp=>h p (by simpa [hi] using hp)
 |map i hi =>
  intro c hv;cases hv with
  |map _ r _ h=>exact .map _ _ hi fun p hp=>h p (by simpa [hi] using hp)
 |yield i hi =>
  intro c hv;cases hv with
  |yield _ r _ h=>exact .yield _ _ hi fun p hp=>h p (by simpa [hi] using hp)
 |iface t v c h ih =>
  intro c hv;cases hv with
  |iface _ _ _ h=>exact .iface _ _ _ (ih h)
 |func fn fs gs cs ds hf hc h1 h2 kR kS =>
  intro c hv;cases hv with
  |func _ _ wx _ ds' lu cT g7 g8 =>exact .func _ _ _ _ _ (hf.trans lu) (hc.trans cT) (fun i k1 k2=>kR i k1 (by omega) (g7 i (by omega) k2)) (fun i k1 k2=>kS i k1 (by omega) (g8 i (by omega) k2))
 |agg cs ds hc h ih =>
  intro c hv;cases hv with
  |agg _ ds' cT h'=>exact .agg _ _ (hc.trans cT) fun i k1 k2=>ih i k1 (by omega) (h' i (by omega) k2)
 |tuple cs ds hc h ih =>
  intro c hv;cases hv with
  |tuple _ ds' cT h'=>exact .tuple _ _ (hc.trans cT) fun i k1 k2=>ih i k1 (by omega) (h' i (by omega) k2)
theorem VRel.ren {ρ:Plc}{n n':Nat}{π:Nat→Nat}(hn:n≤n') (hπ:∀ i,i<n→π i=i) {v c:Value}(h:VRel ρ n v c):Ren n' π v v:=by
 induction h with
 |poison c=>exact .poison _
 |bool b=>exact .plain _ rfl
 |int k x=>exact .plain _ rfl
 |string s=>exact .plain _ rfl
 |nilPtr=>exact .plain _ rfl
 |nilSl=>exact .plain _ rfl
 |nilMap=>exact .plain _ rfl
 |nilFunc=>exact .plain _ rfl
 |nilIface=>exact .plain _ rfl
 |glob g o s=>exact .glob _ _ _
 |ptr i o a hi h=>have:=Ren.ptr (n:=n') (π:=π) i o (by omega);rwa [hπ i hi] at this
 |sl i o len cap a au hi h=>have:=Ren.sl (n:=n') (π:=π) i o len cap (by omega);rwa [hπ i hi] at this
 |map i r hi h=>have:=Ren.map (n:=n') (π:=π) i (by omega);rwa [hπ i hi] at this
 |yield i r hi h=>have:=Ren.yield (n:=n') (π:=π) i (by omega);rwa [hπ i hi] at this
 |iface t v c _ ih=>exact .iface _ _ _ ih
 |func fn fs gs cs ds hf hc _ _ kR kS=>exact .func _ _ _ _ _ rfl rfl (fun i k1 _=>kR i k1 (by omega)) (fun i k1 _=>kS i k1 (by omega))
 |agg cs ds hc _ ih=>exact .agg _ _ rfl fun i k1 _=>ih i k1 (by omega)
 |tuple cs ds hc _ ih=>exact .tuple _ _ rfl fun i k1 _=>ih i k1 (by omega)
theorem LRen.rel {ρ:Plc}{nf n':Nat}{π:Nat→Nat}{c_ vs:List Value}(h:LRen n' π c_ vs) {cs:List Value}(hL:LRel ρ nf vs cs):LRel (fun i=>if i<n' then ρ (π i) else none) n' c_ cs:=by
 refine⟨h.1.trans hL.1,fun i v c hv hc=>?_⟩;have ah:i<vs.length:=by rw[←h.1];exact(List.getElem?_eq_some_iff.1 hv).1
 exact(h.2 i v _ hv (List.getElem?_eq_getElem ah)).rel (hL.2 i _ c (List.getElem?_eq_getElem ah) hc)
theorem LRel.ren {ρ:Plc}{n n':Nat}{π:Nat→Nat}(hn:n≤n') (hπ:∀ i,i<n→π i=i) {vs cs:List Value}(h:LRel ρ n vs cs):LRen n' π vs vs :=
 ⟨rfl,fun i v u hv hu=>by
  obtain rfl:v=u:=osj (hv.symm.trans hu);obtain⟨c,_,hc⟩:=h.get hv;exact hc.ren hn hπ⟩
def ORen (n:Nat) (π:Nat→Nat):VObj→VObj→Prop
 |.map es clock,.map fs lx=>clock=lx∧es.length=fs.length∧∀ (k:Nat) (a b:JP),es[k]?=some a→fs[k]?=some b→a.1=b.1∧a.2.2=b.2.2∧Ren n π a.2.1 b.2.1
 |.iter m since seen last,.iter m' ly nH nJ=>m'=π m∧m<n∧since=ly∧seen=nH∧last=nJ
 |.lp env r st pend,.lp ae r' mn bS=>LRen n π env ae∧r=r'∧st=mn∧pend=bS
 |_,_=>False
theorem ORen.rel {ρ:Plc}{nf n':Nat}{π:Nat→Nat}{o' o:VObj}(h:ORen n' π o' o) {O:Obj}(hO:ORel ρ nf o O):ORel (fun i=>if i<n' then ρ (π i) else none) n' o' O:=by
 cases o'<;>cases o<;>try exact h.elim
 ·obtain⟨rfl,hl,hk⟩:=h;obtain⟨entries,h1,h2,h3⟩:=hO;refine⟨entries,h1,by rw[hl];exact h2,fun k a ha=>?_⟩;have bc:=(List.getElem?_eq_some_iff.1 ha).1;rw[hl] at bc;obtain⟨e,he,h4,h5,h6⟩:=h3 k _ (List.getElem?_eq_getElem bc);obtain⟨k1,k2,k3⟩:=hk k a _ ha (List.getElem?_eq_getElem bc);exact⟨e,he,h4.trans k1.symm,h5.trans k2.symm,k3.rel h6⟩
 ·obtain⟨rfl,hm,rfl,rfl,rfl⟩:=h;obtain⟨rm,h1,h2⟩:=hO;exact⟨rm,h1,(Ren.map _ hm).rel h2⟩
 ·obtain⟨hl,rfl,rfl,rfl⟩:=h;exact⟨hO.1,hl.rel hO.2⟩
theorem ORel.ren {ρ:Plc}{n n':Nat}{π:Nat→Nat}(hn:n≤n') (hπ:∀ i,i<n→π i=i) {o:VObj}{O:Obj}(h:ORel ρ n o O):ORen n' π o o:=by
 cases o with
 |map es clock =>obtain⟨entries,h1,h2,h3⟩:=h;refine⟨rfl,rfl,fun k a b ha hb=>?_⟩;obtain rfl:a=b:=osj (ha.symm.trans hb);obtain⟨e,_,_,_,hv⟩:=h3 k a ha;exact⟨rfl,rfl,hv.ren hn hπ⟩
 |iter m since seen last =>
  obtain⟨rm,h1,h2⟩:=h;cases h2 with
  |map _ _ hi _=>exact⟨(hπ m hi).symm,by omega,rfl,rfl,rfl⟩
 |lp env r st pend=>exact⟨h.2.ren hn hπ,rfl,rfl,rfl⟩
def BRen (n:Nat) (π:Nat→Nat):Blk→Blk→Prop
 |.cells c esz wr tight,.cells d nK j_ iD=>esz=nK∧wr=j_∧tight=iD∧LRen n π c d
 |.obj o wr,.obj o' j_=>wr=j_∧ORen n π o o'
 |_,_=>False
theorem BRen.wr {n:Nat}{π:Nat→Nat}{b c:Blk}(h:BRen n π b c):b.wr=c.wr:=by cases b<;>cases c<;>first|(exact h.elim)|exact h.2.1|exact h.1
theorem BRen.rel {ρ:Plc}{nf n':Nat}{π:Nat→Nat}{p:Pl}{w:World}{b' b:Blk}(h:BRen n' π b' b) (hB:BRel ρ nf p w b):BRel (fun i=>if i<n' then ρ (π i) else none) n' p w b':=by
 cases b' with
 |cells c esz wr tight =>
  cases b with
  |cells d nK j_ iD =>
   obtain⟨rfl,rfl,rfl,hl⟩:=h;obtain⟨h1,h2,h3,h4,h5,h6⟩:=hB;refine⟨h1,h2,by rw[hl.1];exact h3,h4,fun k v hk=>?_,h6⟩;have bc:k<d.length:=by rw[←hl.1];exact(List.getElem?_eq_some_iff.1 hk).1
   obtain⟨u,hu,hv⟩:=h5 k _ (List.getElem?_eq_getElem bc);exact⟨u,hu,(hl.2 k v _ hk (List.getElem?_eq_getElem bc)).rel hv⟩
  |obj _ _=>exact h.elim
 |obj o wr =>
  cases b with
  |cells _ _ _ _=>exact h.elim
  |obj o' j_ =>obtain⟨rfl,ho⟩:=h;obtain⟨h0,O,h1,h2⟩:=hB;exact⟨h0,O,h1,ho.rel h2⟩
def VObj.plain:VObj→Bool
 |.map es _=>es.all fun kv=>QW kv.2.1
 |_=>false
def Blk.plain:Blk→Bool
 |.cells c _ _ _=>c.all QW
 |.obj o _=>o.plain
theorem LRen.plain {n:Nat}{π:Nat→Nat}{c:List Value}(h:c.all QW=true):LRen n π c c :=
 ⟨rfl,fun i v u hv hu=>by
  obtain rfl:v=u:=osj (hv.symm.trans hu);exact .plain _ (List.all_eq_true.1 h v (List.mem_of_getElem? hv))⟩
theorem BRen.plain {n:Nat}{π:Nat→Nat}{b:Blk}(h:b.plain=true):BRen n π b b:=by
 cases b with
 |cells c esz wr tight=>exact⟨rfl,rfl,rfl,LRen.plain h⟩
 |obj o wr =>
  cases o with
  |map es clock =>refine⟨rfl,rfl,rfl,fun k a b ha hb=>?_⟩;obtain rfl:a=b:=osj (ha.symm.trans hb);exact⟨rfl,rfl,.plain _ (List.all_eq_true.1 h a (List.mem_of_getElem? ha))⟩
  |_=>cases h
theorem BRel.ren {ρ:Plc}{n n':Nat}{π:Nat→Nat}(hn:n≤n') (hπ:∀ i,i<n→π i=i) {p:Pl}{w:World}{b:Blk}(h:BRel ρ n p w b):BRen n' π b b:=by
 cases b with
 |cells c esz wr tight =>refine⟨rfl,rfl,rfl,rfl,fun i v u hv hu=>?_⟩;obtain rfl:v=u:=osj (hv.symm.trans hu);obtain⟨_,_,um⟩:=h.2.2.2.2.1 i v hv;exact um.ren hn hπ
 |obj o wr =>obtain⟨_,O,_,ho⟩:=h;exact⟨rfl,ho.ren hn hπ⟩
def DropTo (σ0:Heap) (v:Value) (σf:Heap) (v':Value) (σ':Heap):Prop :=
 ∀ ρ0 w0 ρ w c,HRel ρ0 σ0 w0→Ext ρ0 σ0 w0 ρ σf w→HRel ρ σf w→VRel ρ σf.n v c→∃ ρ',VRel ρ' σ'.n v' c∧HRel ρ' σ' w∧Ext ρ0 σ0 w0 ρ' σ' w
theorem DropTo.refl (σ0:Heap) (v:Value) (σf:Heap):DropTo σ0 v σf v σf:=fun _ _ ρ _ _ _ hE hH hv=>⟨ρ,hv,hH,hE⟩
theorem DropTo.rename {σ0 σf σ':Heap}{v v':Value}(π:Nat→Nat) (h1:σ0.n≤σ'.n)
  (h2:∀ i,i<σ0.n→π i=i∧σ'.get i=σf.get i∧(σf.get i=σ0.get i∨∃ b,σf.get i=some b∧b.plain=true))
  (h3:∀ i,σ0.n≤i→i<σ'.n→σ0.n≤π i∧∃ b' b,σ'.get i=some b'∧σf.get (π i)=some b∧BRen σ'.n π b' b)
  (h4:∀ i j,σ0.n≤i→i<σ'.n→σ0.n≤j→j<σ'.n→π i=π j→i=j) (h5:Ren σ'.n π v' v):DropTo σ0 v σf v' σ':=by
 intro ρ0 w0 ρ w c f_ hE hH hv;have hπ:∀ i,i<σ0.n→π i=i:=fun i hi=>(h2 i hi).1;have aF:∀ i b',σ'.get i=some b'→∃ b,σf.get (π i)=some b∧BRen σ'.n π b' b:=fun i b' hb=>by
  have hi:=σ'.lt hb;rcases Nat.lt_or_ge i σ0.n with ah|bg
  ·obtain⟨k1,k2,k3⟩:=h2 i ah;rw[k1];rw[k2] at hb;refine⟨b',hb,?_⟩;rcases k3 with k3|⟨b,k3,k4⟩
   ·rw[k3] at hb;obtain⟨p,_,hB⟩:=f_.live i b' hb;exact hB.ren h1 hπ
   ·rw[k3] at hb;obtain rfl:=osj hb;exact BRen.plain k4
  ·obtain⟨_,b1,b,k1,k2,k3⟩:=h3 i bg hi;rw[k1] at hb;obtain rfl:=osj hb;exact⟨b,k2,k3⟩
 have eU:∀ i j,i<σ'.n→j<σ'.n→π i=π j→i=j:=fun i j hi hj he=>by
  rcases Nat.lt_or_ge i σ0.n with ah|bg<;>rcases Nat.lt_or_ge j σ0.n with bY|iE
  ·rw[hπ i ah,hπ j bY] at he;exact he
  ·have:=(h3 j iE hj).1;rw[hπ i ah] at he;omega
  ·have:=(h3 i bg hi).1;rw[hπ j bY] at he;omega
  ·exact h4 i j bg hi iE hj he
 have hX:Ext ρ0 σ0 w0 (fun i=>if i<σ'.n then ρ (π i) else none) σ' w:=by
  refine⟨hE.os,hE.tape,hE.output,hE.size,hE.keep,?_,h1,fun i hi p hp=>?_⟩
  ·rintro B hB ⟨i,p,b,hp,hb,hw,rfl⟩;change (if i<σ'.n then ρ (π i) else none)=some p at hp;split at hp
   ·obtain⟨b0,bC,cf⟩:=aF i b hb;exact hE.wr _ hB ⟨π i,p,b0,hp,bC,by rw[←cf.wr];exact hw,rfl⟩
   ·cases hp
  ·change (if i<σ'.n then ρ (π i) else none)=some p at hp;split at hp
   ·rw[hπ i hi] at hp;exact hE.pl i hi p hp
   ·cases hp
 refine⟨fun i=>if i<σ'.n then ρ (π i) else none,h5.rel hv,f_.ext ⟨fun i b' hb=>?_,fun i hi=>?_,fun i p hp=>?_,fun i j p q b bR hp hq hb hw hx=>?_⟩ hX,hX⟩
 ·obtain⟨b,bC,cf⟩:=aF i b' hb;obtain⟨p,hp,hB⟩:=hH.live _ b bC;exact⟨p,by simp[σ'.lt hb,hp],cf.rel hB⟩
 ·show (if i<σ'.n then ρ (π i) else none)=none;split
  ·rename_i ah;rcases Nat.lt_or_ge i σ0.n with bY|bg
   ·obtain⟨k1,k2,_⟩:=h2 i bY;rw[k1];exact hH.dead i (by rw[←k2];exact hi)
   ·obtain⟨_,b1,b,k1,_⟩:=h3 i bg ah;rw[k1] at hi;cases hi
  ·rfl
 ·change (if i<σ'.n then ρ (π i) else none)=some p at hp;split at hp
  ·exact hH.lt _ p hp
  ·cases hp
 ·change (if i<σ'.n then ρ (π i) else none)=some p at hp;change (if j<σ'.n then ρ (π j) else none)=some q at hq;split at hp
  ·rename_i hi;split at hq
   ·rename_i hj;obtain⟨b0,bC,cf⟩:=aF i b hb;exact hH.sep (π i) (π j) p q b0 (fun e=>bR (eU i j hi hj e)) hp hq bC (by rw[←cf.wr];exact hw) hx
   ·cases hq
  ·cases hp
def Agree (σ0 σf:Heap):Prop:=∀ i,i<σ0.n→σf.get i=σ0.get i
theorem Agree.refl (σ:Heap):Agree σ σ:=fun _ _=>rfl
theorem Agree.push {σ0 σ:Heap}(h:Agree σ0 σ) (hn:σ0.n≤σ.n) (b:Blk):Agree σ0 (σ.push b):=fun i hi=>(Heap.get_push_lt σ b (by omega)).trans (h i hi)
theorem Agree.trans {σ0 σ1 σ2:Heap}(h:Agree σ0 σ1) (k:Agree σ1 σ2) (hn:σ0.n≤σ1.n):Agree σ0 σ2:=fun i hi=>(k i (by omega)).trans (h i hi)
section
variable {P:Program}{S:VSpecs}
def U6 (tmps:Array Value):ResultVar→Sem Value
 |.tmp t=>pure (tmps.getD t undef)
 |.cell a t=>do loadVar t (←asAddr (tmps.getD a undef))
theorem L6 (fn:Func) (tmps:Array Value):results fn tmps=(do
  let vs ←fn.results.mapM (U6 tmps)
  pure (if h:vs.size=1 then vs[0] else .tuple vs)):=by
 unfold results;congr 1
theorem Lv {ρ:Plc}{σ:Heap}{w:World}{env:Env}{tmps:Array Value}(hH:HRel ρ σ w) (hL:LRel ρ σ.n env tmps.toList) {r:ResultVar}{vr:VResult}
  (hc:JQ P r=some vr) {v:Value}(h:JJ env σ vr=some v):∃ c,VRel ρ σ.n v c∧(U6 tmps r).run P w=.ok c w:=by
 have ai:∀ t,VRel ρ σ.n (env.getD t undef) (tmps.getD t undef):=fun t=>Ww (a:=⟨tmps,[]⟩) hL (x:=.tmp t) rfl;cases r with
 |tmp t =>simp[JQ] at hc;subst hc;simp only[JJ,Option.some.injEq] at h;subst h;exact⟨_,ai t,rfl⟩
 |cell a t =>
  simp only[JQ] at hc;split at hc
  ·rename_i i d hi hu;simp at hc;subst hc;simp only[JJ,Option.map_eq_some_iff] at h;obtain⟨p,hp,rfl⟩:=h;simp only[Q8,Q4] at hp;have ha:=ai a;split at hp
   ·rename_i g o s h1;rw[h1] at ha;split at hp
    ·rename_i c hb;split at hp
     ·rename_i af;split at hp
      ·rename_i v0 hv;simp at hp;subst hp;obtain⟨u,cF,hr⟩:=Et hH hi hu hb af hv ha;refine⟨u,cF,?_⟩;have:=hr w (Like.refl ρ w);have nL:tmps.getD a undef=.pointer (some ⟨g,o,none⟩):=by
        generalize tmps.getD a undef=c at ha;cases ha;rfl
       rw[nL] at this;simp only[Instr.loadAt,Instr.sureAddr,Sem.run_bind,Sem.run_pure,Result.andThen_ok] at this;simp only[U6,nL,asAddr,Sem.run_bind,Sem.run_pure,Result.andThen_ok];exact this
      ·cases hp
     ·cases hp
    ·cases hp
   ·rename_i i' o h1;rw[h1] at ha;split at hp
    ·rename_i c esz wr tight hb;split at hp
     ·rename_i v0 hv;simp at hp;subst hp;obtain⟨u,cF,hr⟩:=FJ hH hi hu hb hv ha;refine⟨u,cF,?_⟩;have:=hr w (Like.refl ρ w);obtain⟨ad,nL,_⟩:=ha.ptr_inv';rw[nL] at this;simp only[Instr.loadAt,Instr.sureAddr,Sem.run_bind,Sem.run_pure,Result.andThen_ok] at this;simp only[U6,nL,asAddr,Sem.run_bind,Sem.run_pure,Result.andThen_ok];exact this
     ·cases hp
    ·cases hp
   ·cases hp
  ·cases hc
theorem F6 {α:Type}{ρ:Plc}{n:Nat}(g:α→Sem Value) (w:World) (f:α→Option Value):∀ (l:List α) (vs:List Value),l.mapM f=some vs →
  (∀ a∈l,∀ v,f a=some v→∃ c,VRel ρ n v c∧(g a).run P w=.ok c w)→∃ cs,LRel ρ n vs cs∧(l.mapM g).run P w=.ok cs w:=by
 intro l;induction l with
 |nil=>intro vs h _;simp at h;subst h;exact⟨[],LRel.nil _ _,rfl⟩
 |cons a l ih =>
  intro vs h hg;rw[List.mapM_cons] at h;cases hf:f a with
  |none=>simp[hf] at h
  |some v =>
   cases hm:l.mapM f with
   |none=>simp[hf,hm] at h
   |some c_ =>simp[hf,hm] at h;subst h;obtain⟨c,fG,g9⟩:=hg a (by simp) v hf;obtain⟨cs,qM,jL⟩:=ih c_ hm (fun b hb=>hg b (by simp[hb]));refine⟨c::cs,LRel.cons fG qM,?_⟩;rw[List.mapM_cons];simp[g9,jL]
theorem Si {ρ:Plc}{σ:Heap}{w:World}{env:Env}{tmps:Array Value}(hH:HRel ρ σ w) (hL:LRel ρ σ.n env tmps.toList) {fn:Func}{rs:List VResult}
  (hc:UC P fn.results.toList=some rs) {v:Value}(h:JT env σ rs=some v):∃ c,VRel ρ σ.n v c∧(results fn tmps).run P w=.ok c w:=by
 unfold UC at hc;have af:∀ vs,rs.mapM (JJ env σ)=some vs→∃ cs,LRel ρ σ.n vs cs∧(fn.results.mapM (U6 tmps)).run P w=.ok cs.toArray w:=by
  intro vs cH;have nM:fn.results.toList.mapM (fun r=>(JQ P r).bind (JJ env σ))=some vs:=by
   have:∀ (l:List ResultVar) (rs:List VResult) (vs:List Value),l.mapM (JQ P)=some rs→rs.mapM (JJ env σ)=some vs→l.mapM (fun r=>(JQ P r).bind (JJ env σ))=some vs:=by
    intro l;induction l with
    |nil=>intro rs vs h1 h2;simp at h1;subst h1;simpa using h2
    |cons r l ih =>
     intro rs vs h1 h2;rw[List.mapM_cons] at h1;cases hg:JQ P r with
     |none=>simp[hg] at h1
     |some x =>
      cases hm:l.mapM (JQ P) with
      |none=>simp[hg,hm] at h1
      |some bw =>
       simp[hg,hm] at h1;subst h1;rw[List.mapM_cons] at h2;cases hx:JJ env σ x with
       |none=>simp[hx] at h2
       |some y =>
        cases jl:bw.mapM (JJ env σ) with
        |none=>simp[hx,jl] at h2
        |some c_ =>simp[hx,jl] at h2;subst h2;rw[List.mapM_cons];simp[hg,hx,ih bw c_ hm jl]
   exact this _ _ _ hc cH
  obtain⟨cs,k1,k2⟩:=F6 (P:=P) (ρ:=ρ) (n:=σ.n) (U6 tmps) w _ _ _ nM (fun r _ v hv=>by
   cases hr:JQ P r with
   |none=>rw[hr] at hv;cases hv
   |some vr=>rw[hr] at hv;exact Lv hH hL hr hv)
  refine⟨cs,k1,?_⟩;rw[Array.mapM_eq_mapM_toList];simp[k2]
 unfold JT at h;split at h
 ·rename_i r;obtain⟨cs,k1,k2⟩:=af [v] (by simp[h]);have cO:cs.length=1:=by rw[←k1.1];rfl
  obtain⟨c,rfl⟩:=List.length_eq_one_iff.1 cO;refine⟨c,k1.2 0 v c rfl rfl,?_⟩;rw[L6];simp only[Sem.run_bind];rw[k2];simp
 ·rename_i aA;simp only[Option.map_eq_some_iff] at h;obtain⟨vs,cH,rfl⟩:=h;obtain⟨cs,k1,k2⟩:=af vs cH;refine⟨.tuple cs.toArray,VRel.tuple_of k1,?_⟩;have hl:cs.length≠1:=by
   rw[←k1.1,(Wy _ _ _ cH).1];intro e;obtain⟨r,hr⟩:=List.length_eq_one_iff.1 e;exact aA r hr
  rw[L6];simp only[Sem.run_bind];rw[k2];simp[hl]
theorem A_ {ρ:Plc}{n:Nat}(k:Nat):LRel ρ n (List.replicate k undef) (List.replicate k undef) :=
 ⟨rfl,fun i v c hv hc=>by
  obtain rfl:v=c:=osj (hv.symm.trans hc);have:=List.mem_of_getElem? hv;rw[List.mem_replicate] at this;rw[this.2];exact JK⟩
theorem P6 {w:World}{D:Nat}{ds:List Deferred}(h:w.heap[D]?=some (.deferred (some ds))):(Instr.takeDeferred D).run P w=.ok ds (T9 w D (.deferred none)):=by simp[Instr.takeDeferred,QG h (fun _ _ _ e=>by cases e),QX h (fun _ _ _ e=>by cases e)]
theorem Ext.mark {ρ0 ρ:Plc}{σ0 σ:Heap}{w0 w:World}(hE:Ext ρ0 σ0 w0 ρ σ w) {D:Nat}(hD:w0.heap.size≤D) (O:Obj):Ext ρ0 σ0 w0 ρ σ (T9 w D O) :=
 ⟨hE.os,hE.tape,hE.output,by rw[Bh];exact hE.size,fun B hB hW=>(Kb w D O B (by omega)).trans (hE.keep B hB hW),hE.wr,hE.n,hE.pl⟩
theorem HRel.mark {ρ:Plc}{σ:Heap}{w:World}(hH:HRel ρ σ w) {D:Nat}{d:Option (List Deferred)}(hD:w.heap[D]?=some (.deferred d)) (O:Obj):HRel ρ σ (T9 w D O) :=
 hH.world (by rw[Bh];exact Nat.le_refl _) (fun i p hp=>Kb w D O p.blk (hH.not_deferred hD i p hp)) fun g cs hg=>Kb w D O g fun e=>by obtain⟨⟨e',f,h1⟩,_⟩:=hH.tab g cs hg;rw[e,hD] at h1;cases h1
theorem AZ {fn:Func}{tmps:Array Value}{R:Ending→World→Prop}{ρ0:Plc}{σ0:Heap}{w0:World}{ρ:Plc}{σ:Heap}
  (qN:∀ w,HRel ρ σ w→Ext ρ0 σ0 w0 ρ σ w→∃ v,(results fn tmps).run P w=.ok v w∧R (.returned v) w) :
  ∀ (Ds:List Nat) (w:World),Ds.Nodup→(∀ D∈Ds,w0.heap.size≤D∧w.heap[D]?=some (.deferred (some [])))→HRel ρ σ w→Ext ρ0 σ0 w0 ρ σ w →
   LeavesInM Fence.wide 0 P fn tmps R (Ds.map fun D=>⟨.collected D,#[]⟩) .returning w:=by
 intro Ds;induction Ds with
 |nil=>intro w _ _ hH hE;exact qN w hH hE
 |cons D Ds ih =>intro w fx af hH hE;obtain⟨h1,h2⟩:=List.nodup_cons.1 fx;obtain⟨h3,h4⟩:=af D (by simp);refine⟨by simp,.inl ⟨D,_,rfl,P6 h4,ih _ h2 (fun E bW=>?_) (hH.mark h4 _) (hE.mark h3 _)⟩⟩;obtain⟨k1,k2⟩:=af E (by simp[bW]);exact⟨k1,by rw[Kb _ _ _ _ (by rintro rfl;exact h1 bW)];exact k2⟩
theorem HX (hm:P.follows .mixedOrders=true) (hS:OkSpecs P S) {f:FuncId}{fn:Func}{c:Code}{vc:VCode}{rs:List VResult}(hf:P.funcs[f]?=some fn) (hb:fn.body=some c) (hc:comp P c=some vc) (hr:UC P fn.results.toList=some rs)
  {args:List Value}{σ:Heap}{R:Value→Heap→Prop}(h:vwp S vc none (Z0p rs fun v σf=>∃ v' σ',DropTo σ v σf v' σ'∧R v' σ') (args++List.replicate (fn.ntmps-args.length) undef) σ):VCallsTo P f args σ R:=by
 intro ρ w aw hH hL;refine callsIn_wide.1 (callsIn_of_wp_marks (n:=0) hf hb trivial (Oo hm hS c vc hc (B:=w.heap.size) none none 0 _ _ σ ρ w _ h hH ?_ (Mks.nil (Nat.le_refl _)) (.inl ⟨rfl,rfl⟩) _ ?_) rfl)
 ·have hl:args.length=aw.size:=by have:=hL.1;simpa using this
  have:=hL.append (A_ (ρ:=ρ) (n:=σ.n) (fn.ntmps-args.length));simpa [hl] using this
 ·intro e a' w' ⟨ae,ρ',σ',k1,_,k2,k3,⟨_,Ds,k4,k6,k7⟩,k5⟩;have fin:(Zg (JT ae σ' rs) fun v=>∃ v' aJ,DropTo σ v σ' v' aJ∧R v' aJ)→LeavesInM Fence.wide 0 P fn a'.tmps (fun e w'=>∃ c,e=.returned c∧Got ρ σ w R c w') a'.defers .returning w':=by
   intro hk;rw[k4];refine AZ (fun w1 jd fI=>?_) Ds w' k6 k7 k2 k5;cases hv:JT ae σ' rs with
   |none=>rw[hv] at hk;exact hk.elim
   |some v =>rw[hv] at hk;obtain⟨v',aJ,hd,hR⟩:=hk;obtain⟨c,fG,g9⟩:=Si jd k3 hr hv;obtain⟨eN,j1,j2,j3⟩:=hd ρ w ρ' w1 c hH fI jd fG;exact⟨c,g9,c,rfl,v',eN,aJ,hR,j1,j2,j3⟩
  cases e with
  |normal=>exact fin k1
  |ret=>exact fin k1
  |_=>exact k1.elim
end
end Go.V
namespace Go.V
open Go
def Fun (P:Program) (f:FuncId) (vc:VCode) (rs:List VResult) (nt:Nat):Prop :=
 ∃ fn,P.funcs[f]?=some fn∧fn.body.bind (comp P)=some vc∧UC P fn.results.toList=some rs∧fn.ntmps=nt∧(fn.name=="runtime.NumGoroutine")=false
def Z14 (σ:Heap) (rs:List VResult) (R:Value→Heap→Prop):Exit→Env→Heap→Prop:=Z0p rs fun v σf=>∃ v' σ',DropTo σ v σf v' σ'∧R v' σ'
section
variable {P:Program}{S:VSpecs}{f:FuncId}{vc:VCode}{rs:List VResult}{nt:Nat}
theorem Fun.calls (h:Fun P f vc rs nt) (hm:P.follows .mixedOrders=true) (hS:OkSpecs P S) {args:List Value}{σ:Heap}{R:Value→Heap→Prop}
  (hw:vwp S vc none (Z14 σ rs R) (args++List.replicate (nt-args.length) undef) σ):VCalled P f args σ R:=by
 obtain⟨fn,h1,h2,h3,h4,h5⟩:=h;cases hb:fn.body with
 |none=>rw[hb] at h2;cases h2
 |some c =>rw[hb] at h2;exact VCallsTo.called ⟨fn,h1,by rw[hb];rfl,h5⟩ (HX hm hS h1 hb h2 h3 (by rw[h4];exact hw))
theorem Fun.enterable (h:Fun P f vc rs nt):XC P f:=by
 obtain⟨fn,h1,h2,h3,h4,h5⟩:=h;refine⟨fn,h1,?_,h5⟩;cases hb:fn.body with
 |none=>rw[hb] at h2;cases h2
 |some c=>rfl
theorem Fun.callsTo (h:Fun P f vc rs nt) (hm:P.follows .mixedOrders=true) (hS:OkSpecs P S) {args:List Value}{σ:Heap}{R:Value→Heap→Prop}
  (hw:vwp S vc none (Z14 σ rs R) (args++List.replicate (nt-args.length) undef) σ):VCallsTo P f args σ R:=by
 obtain⟨fn,h1,h2,h3,h4,h5⟩:=h;cases hb:fn.body with
 |none=>rw[hb] at h2;cases h2
 |some c =>rw[hb] at h2;exact HX hm hS h1 hb h2 h3 (by rw[h4];exact hw)
noncomputable def Q3 (P:Program):VSpecs where
 fn f:=some fun args σ K=>VCalled P f args σ K
 yl i:=some fun args σ K=>VYields P i args σ K
 it f:=@ite _ (XC P f) (Classical.propDecidable _) (some fun i Y args σ K=>Kx P i Y→VCallsTo P f args σ K) none
theorem S3 : OkSpecs P (Q3 P) :=
  ⟨fun f s h => by obtain rfl := osj h; exact fun args σ K h => h,
   fun f s h => by obtain rfl := osj h; exact fun args σ K h => h,
   fun f T h => by
    simp only [Q3] at h;split at h
    · rename_i he; obtain rfl := osj h; exact ⟨he, fun i Y hY args σ K h => h hY⟩
    · cases h⟩
end
theorem A8 {x:Int}(h:-9223372036854775808≤x∧x≤9223372036854775807):IntKind.i64.wrap x=x:=IntWalk.i64_in x (by omega)
end Go.V
namespace Go.V
open Go
inductive EB where
 |cells (c:List Value) (esz:El) (wr tight:Bool)
 |map (es:List JP) (clock:Nat) (wr:Bool)
 |iter (m since:Nat) (seen:List Nat) (last:Nat)
 |lp (st:LoopState) (pend:Option Code)
inductive GT (α:Type) where
 |nil
 |node (v:α) (l r:GT α)
noncomputable def GT.get {α:Type}(d:α) (t:GT α):Nat→α :=
 GT.rec (motive:=fun _=>Nat→α) (fun _=>d)
  (fun v _ _ gl gr i=>Bool.rec (motive:=fun _=>α) (Bool.rec (motive:=fun _=>α) (gr (i / 2-1)) (gl (i / 2)) (Nat.beq (i % 2) 1)) v (Nat.beq i 0)) t
noncomputable def GT.set {α:Type}(d:α) (f:Nat):GT α→Nat→α→GT α :=
 Nat.rec (motive:=fun _=>GT α→Nat→α→GT α) (fun t _ _=>t)
  (fun _ ih t i b=>GT.rec (motive:=fun _=>GT α)
   (Bool.rec (motive:=fun _=>GT α) (Bool.rec (motive:=fun _=>GT α) (.node d .nil (ih .nil (i / 2-1) b)) (.node d (ih .nil (i / 2) b) .nil) (Nat.beq (i % 2) 1)) (.node b .nil .nil) (Nat.beq i 0))
   (fun v l r _ _=>Bool.rec (motive:=fun _=>GT α) (Bool.rec (motive:=fun _=>GT α) (.node v l (ih r (i / 2-1) b)) (.node v (ih l (i / 2) b) r) (Nat.beq (i % 2) 1)) (.node b l r) (Nat.beq i 0)) t) f
theorem GT.get_node {α:Type}(d v:α) (l r:GT α) (k:Nat):(GT.node v l r).get d k=if k=0 then v else if k % 2=1 then l.get d (k / 2) else r.get d (k / 2-1):=by
 show (Bool.rec (motive:=fun _=>α) (Bool.rec (motive:=fun _=>α) (r.get d (k / 2-1)) (l.get d (k / 2)) (Nat.beq (k % 2) 1)) v (Nat.beq k 0))=_;by_cases h0:k=0
 ·subst h0;rfl
 ·have:Nat.beq k 0=false:=by
   cases h:Nat.beq k 0 with
   |false=>rfl
   |true=>exact absurd (Nat.eq_of_beq_eq_true h) h0
  rw[this,if_neg h0];by_cases h1:k % 2=1
  ·rw[if_pos h1,h1];rfl
  ·have:Nat.beq (k % 2) 1=false:=by
    cases h:Nat.beq (k % 2) 1 with
    |false=>rfl
    |true=>exact absurd (Nat.eq_of_beq_eq_true h) h1
   rw[this,if_neg h1]
theorem GT.set_node {α:Type}(d v:α) (f:Nat) (l r:GT α) (i:Nat) (b:α):(GT.node v l r).set d (f+1) i b=if i=0 then .node b l r else if i % 2=1 then .node v (l.set d f (i / 2) b) r else .node v l (r.set d f (i / 2-1) b):=by
 show (Bool.rec (motive:=fun _=>GT α) (Bool.rec (motive:=fun _=>GT α) (.node v l (r.set d f (i / 2-1) b)) (.node v (l.set d f (i / 2) b) r) (Nat.beq (i % 2) 1)) (.node b l r) (Nat.beq i 0))=_;by_cases h0:i=0
 ·subst h0;rfl
 ·have:Nat.beq i 0=false:=by
   cases h:Nat.beq i 0 with
   |false=>rfl
   |true=>exact absurd (Nat.eq_of_beq_eq_true h) h0
  rw[this,if_neg h0];by_cases h1:i % 2=1
  ·rw[if_pos h1,h1];rfl
  ·have:Nat.beq (i % 2) 1=false:=by
    cases h:Nat.beq (i % 2) 1 with
    |false=>rfl
    |true=>exact absurd (Nat.eq_of_beq_eq_true h) h1
   rw[this,if_neg h1]
theorem GT.set_nil {α:Type}(d:α) (f i:Nat) (b:α):(GT.nil:GT α).set d (f+1) i b=(GT.node d .nil .nil).set d (f+1) i b:=rfl
theorem GT.get_set {α:Type}(d:α):∀ (f:Nat) (t:GT α) (i:Nat) (b:α) (j:Nat),i+1<2 ^ f→(t.set d f i b).get d j=if j=i then b else t.get d j:=by
 intro f;induction f with
 |zero=>intro t i b j h;simp at h
 |succ f ih =>
  intro t i b j h;have hp:2 ^ (f+1)=2*2 ^ f:=by rw[Nat.pow_succ];omega
  have gC:∀ v l r,((GT.node v l r).set d (f+1) i b).get d j=if j=i then b else (GT.node v l r).get d j:=by
   intro v l r;rw[GT.set_node];by_cases hi:i=0
   ·subst hi;rw[if_pos rfl,GT.get_node,GT.get_node];split<;>rfl
   ·rw[if_neg hi];by_cases ho:i % 2=1
    ·rw[if_pos ho,GT.get_node,GT.get_node,ih _ _ _ _ (by omega)];by_cases jb:j=0
     ·subst jb;rw[if_pos rfl,if_neg (Ne.symm hi),if_pos rfl]
     ·rw[if_neg jb,if_neg jb];by_cases iF:j % 2=1
      ·rw[if_pos iF,if_pos iF];by_cases aM:j=i
       ·subst aM;simp
       ·rw[if_neg aM,if_neg (by omega)]
      ·rw[if_neg iF,if_neg iF,if_neg (by rintro rfl;exact iF ho)]
    ·rw[if_neg ho,GT.get_node,GT.get_node,ih _ _ _ _ (by omega)];by_cases jb:j=0
     ·subst jb;rw[if_pos rfl,if_neg (Ne.symm hi),if_pos rfl]
     ·rw[if_neg jb,if_neg jb];by_cases iF:j % 2=1
      ·rw[if_pos iF,if_pos iF,if_neg (by rintro rfl;exact ho iF)]
      ·rw[if_neg iF,if_neg iF];by_cases aM:j=i
       ·subst aM;simp
       ·rw[if_neg aM,if_neg (by omega)]
  cases t with
  |node v l r=>exact gC v l r
  |nil =>
   rw[GT.set_nil,gC d .nil .nil,GT.get_node];split
   ·rfl
   ·split
    ·rfl
    ·split<;>rfl
structure CH where
 t:GT (Option EB)
 n:Nat
noncomputable def CH.get (h:CH) (i:Nat):Option EB:=Bool.rec (motive:=fun _=>Option EB) none (h.t.get none i) (Nat.blt i h.n)
noncomputable def CH.upd (h:CH) (i:Nat) (b:EB):CH:=⟨h.t.set none 32 i (some b),h.n⟩
noncomputable def CH.kill (h:CH) (i:Nat):CH:=⟨h.t.set none 32 i none,h.n⟩
noncomputable def CH.push (h:CH) (b:EB):CH:=⟨h.t.set none 32 h.n (some b),h.n+1⟩
def CH.room (h:CH):Bool:=Nat.ble h.n 1000000000
def CH.empty:CH:=⟨.nil,0⟩
theorem CH.get_lt {h:CH}{i:Nat}(hi:i<h.n):h.get i=h.t.get none i:=by unfold CH.get;rw[show Nat.blt i h.n=true from Nat.ble_eq_true_of_le hi]
theorem CH.get_ge {h:CH}{i:Nat}(hi:h.n≤i):h.get i=none:=by
 unfold CH.get;cases hb:Nat.blt i h.n with
 |false=>rfl
 |true=>have:=Nat.le_of_ble_eq_true hb;omega
theorem CH.get_upd {h:CH}{i:Nat}{b:EB}(hi:i<h.n) (hs:h.n≤1000000001) (j:Nat):(h.upd i b).get j=if j=i then some b else h.get j:=by
 rcases Nat.lt_or_ge j h.n with hj|hj
 ·rw[CH.get_lt (h:=h.upd i b) hj,CH.get_lt hj];exact GT.get_set none 32 _ _ _ _ (by omega)
 ·rw[CH.get_ge (h:=h.upd i b) hj,CH.get_ge hj,if_neg (by omega)]
theorem CH.get_kill {h:CH}{i:Nat}(hi:i<h.n) (hs:h.n≤1000000001) (j:Nat):(h.kill i).get j=if j=i then none else h.get j:=by
 rcases Nat.lt_or_ge j h.n with hj|hj
 ·rw[CH.get_lt (h:=h.kill i) hj,CH.get_lt hj];exact GT.get_set none 32 _ _ _ _ (by omega)
 ·rw[CH.get_ge (h:=h.kill i) hj,CH.get_ge hj];simp
theorem CH.get_push {h:CH}{b:EB}(hs:h.n≤1000000001) (j:Nat):(h.push b).get j=if j=h.n then some b else h.get j:=by
 rcases Nat.lt_or_ge j (h.n+1) with hj|hj
 ·rw[CH.get_lt (h:=h.push b) hj];show (h.t.set none 32 h.n (some b)).get none j=_;rw[GT.get_set none 32 _ _ _ _ (by omega)];split
  ·rfl
  ·rw[CH.get_lt (by omega)]
 ·rw[CH.get_ge (h:=h.push b) hj,CH.get_ge (by omega),if_neg (by omega)]
def EB.to (q:Env×Loop):EB→Blk
 |.cells c e w t=>.cells c e w t
 |.map es cl w=>.obj (.map es cl) w
 |.iter m s sn l=>.obj (.iter m s sn l) true
 |.lp st pend=>.obj (.lp q.1 q.2 st pend) true
structure CSim (rs:Nat→Env×Loop) (h:CH) (σ:Heap):Prop where
 n:h.n=σ.n
 sm:h.n≤1000000001
 get:∀ i,σ.get i=(h.get i).map (EB.to (rs i))
theorem CSim.cells {rs:Nat→Env×Loop}{h:CH}{σ:Heap}(hs:CSim rs h σ) {i:Nat}{c:List Value}{e:El}{w t:Bool}(hg:h.get i=some (.cells c e w t)):σ.get i=some (.cells c e w t):=by rw[hs.get,hg];rfl
theorem CSim.map {rs:Nat→Env×Loop}{h:CH}{σ:Heap}(hs:CSim rs h σ) {i:Nat}{es:List JP}{cl:Nat}{w:Bool}(hg:h.get i=some (.map es cl w)):σ.get i=some (.obj (.map es cl) w):=by rw[hs.get,hg];rfl
theorem CSim.iter {rs:Nat→Env×Loop}{h:CH}{σ:Heap}(hs:CSim rs h σ) {i m s:Nat}{sn:List Nat}{l:Nat}(hg:h.get i=some (.iter m s sn l)):σ.get i=some (.obj (.iter m s sn l) true):=by rw[hs.get,hg];rfl
theorem CSim.lp {rs:Nat→Env×Loop}{h:CH}{σ:Heap}(hs:CSim rs h σ) {i:Nat}{st:LoopState}{pend:Option Code}(hg:h.get i=some (.lp st pend)):σ.get i=some (.obj (.lp (rs i).1 (rs i).2 st pend) true):=by rw[hs.get,hg];rfl
theorem CSim.lt {rs:Nat→Env×Loop}{h:CH}{σ:Heap}(hs:CSim rs h σ) {i:Nat}{b:EB}(hg:h.get i=some b):i<h.n:=by
 have:σ.get i=some (b.to (rs i)):=by rw[hs.get,hg];rfl
 rw[hs.n];exact σ.lt this
theorem CSim.upd {rs:Nat→Env×Loop}{h:CH}{σ:Heap}(hs:CSim rs h σ) {i:Nat}(hi:i<h.n) {b:EB}{b':Blk}(hb:b.to (rs i)=b'):CSim rs (h.upd i b) (σ.upd i b'):=by
 refine⟨hs.n,hs.sm,fun j=>?_⟩;rw[CH.get_upd hi hs.sm];show (if j=i∧i<σ.n then some b' else σ.get j)=_;by_cases hj:j=i
 ·subst hj;rw[if_pos ⟨rfl,by rw[←hs.n];exact hi⟩,if_pos rfl,←hb];rfl
 ·rw[if_neg (fun e=>hj e.1),if_neg hj];exact hs.get j
theorem CSim.kill {rs:Nat→Env×Loop}{h:CH}{σ:Heap}(hs:CSim rs h σ) {i:Nat}(hi:i<h.n):CSim rs (h.kill i) (σ.kill i):=by
 refine⟨hs.n,hs.sm,fun j=>?_⟩;rw[CH.get_kill hi hs.sm];show (if j=i then none else σ.get j)=_;by_cases hj:j=i
 ·rw[if_pos hj,if_pos hj];rfl
 ·rw[if_neg hj,if_neg hj];exact hs.get j
theorem CSim.push {rs:Nat→Env×Loop}{h:CH}{σ:Heap}(hs:CSim rs h σ) (hr:h.room=true) {b:EB}{b':Blk}(hb:b.to (rs h.n)=b'):CSim rs (h.push b) (σ.push b'):=by
 have hr:h.n≤1000000000:=Nat.le_of_ble_eq_true hr;refine⟨by show h.n+1=σ.n+1;rw[hs.n],by show h.n+1≤_;omega,fun j=>?_⟩;rw[CH.get_push hs.sm];show (if j=σ.n then some b' else σ.get j)=_;rw[←hs.n];by_cases hj:j=h.n
 ·subst hj;rw[if_pos rfl,if_pos rfl,←hb];rfl
 ·rw[if_neg hj,if_neg hj];exact hs.get j
theorem CSim.rs {rs bw:Nat→Env×Loop}{h:CH}{σ:Heap}(hs:CSim rs h σ) (hr:∀ i,i<h.n→bw i=rs i):CSim bw h σ :=
 ⟨hs.n,hs.sm,fun i=>by
  rw[hs.get];cases hg:h.get i with
  |none=>rfl
  |some b=>rw[hr i (hs.lt hg)]⟩
noncomputable def CH.sl (σ:CH) (esz:Nat):Value→Option (List Value)
 |.slice none 0 0=>some []
 |.slice (some ⟨i,o,none⟩) n _ =>
  match σ.get i with
  |some (.cells c e _ _)=>if e.sz=esz∧o+n*esz≤c.length then some ((c.drop o).take (n*esz)) else none
  |_=>none
 |_=>none
noncomputable def CH.mapAt (σ:CH) (m:Nat):Option (List JP×Nat×Bool):=match σ.get m with
 |some (.map es clock wr)=>some (es,clock,wr)
 |_=>none
noncomputable def Mz (σ:CH) (b:EB) (v:Value):Option (Value×CH):=if σ.room=true then some (v,σ.push b) else none
noncomputable def LR (esz:El) (bytes:Nat) (σ:CH) (s:Value) (m:Nat) (xs:List Value):Option (Value×CH) :=
 match s with
 |.slice none 0 0 =>
  if m=0 then some (s,σ) else
  if m*bytes≤2 ^ 46 then Mz σ (.cells xs esz true false) (.slice (some ⟨σ.n,0,none⟩) m m) else none
 |.slice (some ⟨i,o,none⟩) n cap =>
  match σ.get i with
  |some (.cells c e wr tight) =>
   if e=esz∧n≤cap∧o+n*esz.sz≤c.length then
    if m=0 then some (s,σ) else
    if n+m≤cap then
     (if wr=true∧o+(n+m)*esz.sz≤c.length then some (.slice (some ⟨i,o,none⟩) (n+m) cap,σ.upd i (.cells (K0 c (o+n*esz.sz) xs) e wr tight)) else none)
    else if (n+m)*bytes≤2 ^ 46 then
     (if tight then Mz σ (.cells ((c.drop o).take (n*esz.sz)++xs) esz true false) (.slice (some ⟨σ.n,0,none⟩) (n+m) (n+m))
     else if wr then Mz (σ.kill i) (.cells ((c.drop o).take (n*esz.sz)++xs) esz true false) (.slice (some ⟨σ.n,0,none⟩) (n+m) (n+m))
     else none)
    else none
   else none
  |_=>none
 |_=>none
noncomputable def Ir (size:Nat) (σ:CH) (s:Value) (l h:Nat) (m:Option Nat):Option (Value×CH) :=
 match s with
 |.slice none 0 0=>if l=0∧h=0∧(m.getD 0)=0 then some (.slice none 0 0,σ) else none
 |.slice (some ⟨i,o,none⟩) _ cap =>
  match σ.get i with
  |some (.cells _ e _ _) =>
   match m with
   |none=>if e.sz=size∧l≤h∧h≤cap then some (.slice (some ⟨i,o+l*size,none⟩) (h-l) (cap-l),σ) else none
   |some m =>
    if e.sz=size∧l≤h∧h≤m∧m≤cap then
     if m=l then Mz σ (.cells [] e false true) (.slice (some ⟨σ.n,0,none⟩) 0 0)
     else some (.slice (some ⟨i,o+l*size,none⟩) (h-l) (m-l),σ)
    else none
  |_=>none
 |_=>none
noncomputable def Q62:Nat→Value→Value→CH→Option Bool
 |0,.pointer none,.pointer none,_=>some true
 |0,.pointer none,.pointer (some _),_=>some false
 |0,.pointer (some _),.pointer none,_=>some false
 |0,.pointer (some ⟨i,o,none⟩),.pointer (some ⟨j,q,none⟩),σ=>if i=j∧o=q∧(σ.get i).isSome=true then some true else none
 |1,.slice none _ _,.slice none _ _,_=>some true
 |1,.slice none _ _,.slice (some _) _ _,_=>some false
 |1,.slice (some _) _ _,.slice none _ _,_=>some false
 |2,.map none,.map none,_=>some true
 |2,.map none,.map (some _),_=>some false
 |2,.map (some _),.map none,_=>some false
 |3,.nilFunc,.nilFunc,_=>some true
 |3,.nilFunc,.func _ _ _,_=>some false
 |3,.func _ _ _,.nilFunc,_=>some false
 |_,_,_,_=>none
noncomputable def Wa (o:XOp) (ev:Operand→Value) (σ:CH):Option (Value×CH) :=
 match o with
 |.eqAgg neg s x y=>match ev x,ev y with
  |.agg a,.agg b=>if fits s a.toList=true∧fits s b.toList=true then some (.bool (if neg then !(Qq a.toList b.toList) else Qq a.toList b.toList),σ) else none
  |_,_=>none
 |.eqNil kd neg x y=>match Q62 kd (ev x) (ev y) σ with|some b=>some (.bool (if neg then !b else b),σ)|none=>none
 |.makeMap=>Mz σ (.map [] 0 true) (.map (some σ.n))
 |.lookup mk z ok x i =>
  let k:=ev i
  if Zz mk k then
   match ev x with
   |.map none=>some (if ok then .tuple #[z,.bool false] else z,σ)
   |.map (some m)=>match σ.mapAt m with
    |some (es,_,_)=>if es.all (fun e=>Zz mk e.1) then
      (match Qi k es with
      |some e=>some (if ok then .tuple #[e.2.1,.bool true] else e.2.1,σ)
      |none=>some (if ok then .tuple #[z,.bool false] else z,σ)) else none
    |none=>none
   |_=>none
  else none
 |.mapUpdate mk m k v=>match ev m with
  |.map (some i)=>match σ.mapAt i with
   |some (es,clock,true)=>if Zz mk (ev k)&&es.all (fun e=>Zz mk e.1) then some (undef,σ.upd i (.map (QD (ev k) (ev v) clock es).1 (QD (ev k) (ev v) clock es).2 true)) else none
   |_=>none
  |_=>none
 |.delete mk m k=>match ev m with
  |.map (some i)=>match σ.mapAt i with
   |some (es,clock,true)=>if Zz mk (ev k)&&es.all (fun e=>Zz mk e.1) then some (.tuple #[],σ.upd i (.map (P0 (ev k) es) clock true)) else none
   |_=>none
  |_=>none
 |.lenMap x=>match ev x with
  |.map none=>some (.int .i64 0,σ)
  |.map (some m)=>match σ.mapAt m with
   |some (es,_,_)=>some (.int .i64 es.length,σ)
   |none=>none
  |_=>none
 |.rangeMap x=>match ev x with
  |.map (some m)=>match σ.mapAt m with
   |some (_,clock,_)=>Mz σ (.iter m clock [] clock) (.pointer (some ⟨σ.n,0,none⟩))
   |none=>none
  |_=>none
 |.entry x=>match ev x with
  |.pointer (some ⟨i,0,none⟩)=>match σ.get i with
   |some (.iter m _ seen last)=>match σ.mapAt m,seen.getLast? with
    |some (es,clock,_),some b=>if clock=last then (match es.find? (fun e=>e.2.2==b) with|some e=>if VD e.1 then some (.tuple #[e.1,e.2.1],σ) else none|none=>none) else none
    |_,_=>none
   |_=>none
  |_=>none
 |.copy size d s=>match ev d,ev s with
  |.slice db dn _,.slice sb sn sc =>
   if min sn dn=0 then some (.int .i64 0,σ) else
   match db,σ.sl size (.slice sb (min sn dn) sc) with
   |some ⟨i,o,none⟩,some xs=>match σ.get i with
    |some (.cells c e wr tight)=>if wr=true∧e.sz=size∧o+xs.length≤c.length∧xs.all cellOk=true then some (.int .i64 (min sn dn:Nat),σ.upd i (.cells (K0 c o xs) e wr tight)) else none
    |_=>none
   |_,_=>none
  |_,_=>none
 |.toUnsafe x=>match ev x with
  |.pointer none=>some (.pointer none,σ)
  |.pointer (some ⟨i,o,none⟩)=>match σ.get i with
   |some (.cells c _ _ _)=>if o<c.length then some (.pointer (some ⟨i,o,none⟩),σ) else none
   |_=>none
  |_=>none
 |.fromUnsafe u size x=>match ev x with
  |.pointer none=>some (.pointer none,σ)
  |.pointer (some ⟨i,o,none⟩)=>match σ.get i with
   |some (.cells c e true true)=>if o=0∧e.ty=u∧size≤c.length then some (.pointer (some ⟨i,o,none⟩),σ) else none
   |_=>none
  |_=>none
 |.sliceData x=>match ev x with
  |.slice none _ _=>some (.pointer none,σ)
  |.slice (some ⟨i,o,none⟩) _ cap=>if cap≠0∧(σ.get i).isSome=true then some (.pointer (some ⟨i,o,none⟩),σ) else none
  |_=>none
 |.unsafeStr e x n=>match ev x,ev n with
  |.pointer p,.int .i64 k =>
   if k=0 then some (.string ⟨#[]⟩,σ) else
   match p with
   |some ⟨i,o,none⟩=>match σ.get i with
    |some (.cells c el true tight) =>
     if 0<k∧k≤2 ^ 62∧el.ty=e∧o+k.toNat≤c.length then
      (match HC ((c.drop o).take k.toNat) with
      |some s=>some (.string s,σ.upd i (.cells c el false tight))
      |none=>none) else none
    |_=>none
   |_=>none
  |_,_=>none
 |.bytesStr x=>match ev x with
  |.slice a n c=>match σ.sl 1 (.slice a n c) with
   |some xs=>match HC xs with|some s=>some (.string s,σ)|none=>none
   |none=>none
  |_=>none
 |.strBytes e x=>match ev x with
  |.string s=>if s.size≤2 ^ 62 then Mz σ (.cells (s.data.toList.map fun b=>.int .u8 b.toNat) ⟨1,e⟩ true false) (.slice (some ⟨σ.n,0,none⟩) s.size s.size) else none
  |_=>none
 |_=>none
def Heap.empty:Heap:=⟨fun _=>none,0,fun _ _=>rfl⟩
noncomputable def Q30 (o:VOp) (ev:Operand→Value) (σ:CH):Option (Value×CH) :=
 match o with
 |.alloc t z=>Mz σ (.cells z ⟨z.length,t⟩ true true) (.pointer (some ⟨σ.n,0,none⟩))
 |.box t x=>match Kn (ev x) with
  |some vs=>Mz σ (.cells vs ⟨vs.length,t⟩ true true) (.pointer (some ⟨σ.n,0,none⟩))
  |none=>none
 |.buildSlice esz z len parts=>match NJ (EG len z) (parts.map fun p=>(p.1*esz.sz,esz.sz,ev p.2)) with
  |some cs=>Mz σ (.cells cs esz true true) (.slice (some ⟨σ.n,0,none⟩) len len)
  |none=>none
 |.load agg size a=>match ev a with
  |.pointer (some ⟨g,o,some _⟩)=>(match Q3f g with
   |some c=>if c.all QW then (match Xy agg size c o with|some v=>some (v,σ)|none=>none) else none
   |none=>none)
  |.pointer (some ⟨i,o,none⟩)=>match σ.get i with
   |some (.cells c _ _ _)=>match Xy agg size c o with|some v=>some (v,σ)|none=>none
   |_=>none
  |_=>none
 |.store size a v=>match ev a,Kn (ev v) with
  |.pointer (some ⟨i,o,none⟩),some vs=>match σ.get i with
   |some (.cells c e wr tight)=>if wr=true∧vs.length=size∧o+size≤c.length∧vs.all cellOk=true then some (undef,σ.upd i (.cells (K0 c o vs) e wr tight)) else none
   |_=>none
  |_,_=>none
 |.slice size x lo hi mx =>
  match ev x with
  |.slice a n cap =>
   match JB ev lo 0,JB ev hi n,mx with
   |some l,some h,none=>Ir size σ (.slice a n cap) l h none
   |some l,some h,some _=>match JB ev mx 0,hi with
    |some m,some _=>Ir size σ (.slice a n cap) l h (some m)
    |_,_=>none
   |_,_,_=>none
  |_=>none
 |.makeSlice esz bytes z l c =>
  match ev l,ev c with
  |.int _ a,.int _ b=>if 0≤a∧a≤b∧b*bytes≤2 ^ 46∧b≤2 ^ 46 then Mz σ (.cells (EG b.toNat z) esz true true) (.slice (some ⟨σ.n,0,none⟩) a.toNat b.toNat) else none
  |_,_=>none
 |.append esz bytes s x =>
  match σ.sl esz.sz (ev x),ev x with
  |some xs,.slice _ m _=>if xs.all cellOk then LR esz bytes σ (ev s) m xs else none
  |_,_=>none
 |.ext o=>Wa o ev σ
 |o=>if o.kind=0 then (match Q8 o ev Heap.empty with|some p=>some (p.1,σ)|none=>none) else none
def ESnd (rs:Nat→Env×Loop) (h:CH) (_σ:Heap) (r:Option (Value×Heap)) (p:Value×CH):Prop:=h.n≤p.2.n∧∃ σ',r=some (p.1,σ')∧CSim rs p.2 σ'
theorem ESnd.same {rs:Nat→Env×Loop}{h:CH}{σ:Heap}(hs:CSim rs h σ) {r:Option (Value×Heap)}{v:Value}(hr:r=some (v,σ)):ESnd rs h σ r (v,h):=⟨Nat.le_refl _,σ,hr,hs⟩
theorem ESnd.upd {rs:Nat→Env×Loop}{h:CH}{σ:Heap}(hs:CSim rs h σ) {r:Option (Value×Heap)}{v:Value}{i:Nat}{b:EB}{b0:EB}(hg:h.get i=some b0) {b':Blk}(hb:b.to (rs i)=b') (hr:r=some (v,σ.upd i b')):ESnd rs h σ r (v,h.upd i b):=by have hi:=hs.lt hg;have pz:=hs.sm;exact⟨Nat.le_refl _,_,hr,hs.upd hi hb⟩
theorem ESnd.push {rs:Nat→Env×Loop}{h:CH}{σ:Heap}(hs:CSim rs h σ) {r:Option (Value×Heap)}{v:Value}{p:Value×CH}{b:EB}(hp:Mz h b v=some p) {b':Blk}(hb:b.to (rs h.n)=b') (hr:r=some (v,σ.push b')):ESnd rs h σ r p:=by
 unfold Mz at hp;split at hp
 ·rename_i aY;obtain rfl:=osj hp;have pz:=hs.sm;exact⟨Nat.le_succ _,_,hr,hs.push aY hb⟩
 ·cases hp
theorem CSim.sl {rs:Nat→Env×Loop}{h:CH}{σ:Heap}(hs:CSim rs h σ) {esz:Nat}{v:Value}{xs:List Value}(hx:h.sl esz v=some xs):σ.sl esz v=some xs:=by
 unfold CH.sl at hx;unfold Heap.sl;split at hx
 ·exact hx
 ·rename_i i o n c;split at hx
  ·rename_i cs e wr t hb;simp only[hs.cells hb];exact hx
  ·cases hx
 ·cases hx
theorem CSim.mapAt {rs:Nat→Env×Loop}{h:CH}{σ:Heap}(hs:CSim rs h σ) {m:Nat}{x:List JP×Nat×Bool}(hx:h.mapAt m=some x):σ.mapAt m=some x∧h.get m=some (.map x.1 x.2.1 x.2.2):=by
 unfold CH.mapAt at hx;unfold Heap.mapAt;split at hx
 ·rename_i es clock wr hb;obtain rfl:=osj hx;exact⟨by simp only[hs.map hb],hb⟩
 ·cases hx
theorem Fe {rs:Nat→Env×Loop}{h:CH}{σ:Heap}(hs:CSim rs h σ) {kd:Nat}{a b:Value}{r:Bool}(hx:Q62 kd a b h=some r):Jq kd a b σ=some r:=by
 unfold Q62 at hx;unfold Jq
 split at hx<;>first
  |exact hx
  |(cases hx;done)
  |skip
 rename_i i o j q;split at hx
 ·rename_i hc;obtain⟨h1,h2,h3⟩:=hc;have cT:i=j∧o=q∧(σ.get i).isSome=true:=⟨h1,h2,by rw[hs.get];simpa using h3⟩;simp only[if_pos cT];exact hx
 ·cases hx
theorem Cj {rs:Nat→Env×Loop}{h:CH}{σ:Heap}(hs:CSim rs h σ) {esz:El}{bytes:Nat}{s:Value}{m:Nat}{xs:List Value}{p:Value×CH}(hx:LR esz bytes h s m xs=some p):ESnd rs h σ (YI esz bytes σ s m xs) p:=by
 unfold LR at hx;unfold YI;split at hx
 ·split at hx
  ·rename_i hm;simp only[if_pos hm];obtain rfl:=osj hx;exact .same hs rfl
  ·rename_i hm;simp only[if_neg hm];split at hx
   ·rename_i hb;simp only[if_pos hb];rw[hs.n] at hx;exact .push hs hx rfl rfl
   ·cases hx
 ·rename_i i o n cap;split at hx
  ·rename_i c e wr tight hg;have pz:=hs.sm;have hi:=hs.lt hg;simp only[hs.cells hg];split at hx
   ·rename_i h1;simp only[if_pos h1];split at hx
    ·rename_i h2;simp only[if_pos h2];obtain rfl:=osj hx;exact .same hs rfl
    ·rename_i h2;simp only[if_neg h2];split at hx
     ·rename_i h3;simp only[if_pos h3];split at hx
      ·rename_i h4;simp only[if_pos h4];obtain rfl:=osj hx;exact .upd hs hg rfl rfl
      ·cases hx
     ·rename_i h3;simp only[if_neg h3];split at hx
      ·rename_i h4;simp only[if_pos h4];split at hx
       ·rename_i h5;simp only[if_pos h5];rw[hs.n] at hx;exact .push hs hx rfl rfl
       ·rename_i h5;simp only[if_neg h5];split at hx
        ·rename_i h6;simp only[if_pos h6];rw[hs.n] at hx;have hk:=hs.kill hi;obtain⟨k1,σ',k2,k3⟩:=ESnd.push (r:=some (.slice (some ⟨σ.n,0,none⟩) (n+m) (n+m),(σ.kill i).push (.cells ((c.drop o).take (n*esz.sz)++xs) esz true false))) hk hx rfl rfl;exact⟨k1,σ',k2,k3⟩
        ·cases hx
      ·cases hx
   ·cases hx
  ·cases hx
 ·cases hx
theorem HL {rs:Nat→Env×Loop}{h:CH}{σ:Heap}(hs:CSim rs h σ) {size:Nat}{s:Value}{l k:Nat}{m:Option Nat}{p:Value×CH}(hx:Ir size h s l k m=some p):ESnd rs h σ (YM size σ s l k m) p:=by
 unfold Ir at hx;unfold YM;split at hx
 ·split at hx
  ·rename_i hm;simp only[if_pos hm];obtain rfl:=osj hx;exact .same hs rfl
  ·cases hx
 ·rename_i i o n cap;split at hx
  ·rename_i c e wr tight hg;simp only[hs.cells hg];split at hx
   ·split at hx
    ·rename_i h1;simp only[if_pos h1];obtain rfl:=osj hx;exact .same hs rfl
    ·cases hx
   ·split at hx
    ·rename_i h1;simp only[if_pos h1];split at hx
     ·rename_i h2;simp only[if_pos h2];rw[hs.n] at hx;exact .push hs hx rfl rfl
     ·rename_i h2;simp only[if_neg h2];obtain rfl:=osj hx;exact .same hs rfl
    ·cases hx
  ·cases hx
 ·cases hx
theorem PW {rs:Nat→Env×Loop}{h:CH}{σ:Heap}(hs:CSim rs h σ) {o:XOp}{ev:Operand→Value}{p:Value×CH}(hx:Wa o ev h=some p):ESnd rs h σ (Zt o ev σ) p:=by
 cases o
 case eqAgg neg s x y =>
  simp only[Wa] at hx;simp only[Zt];split at hx
  ·rename_i a b ha hb;split at hx
   ·rename_i hc;rw[ha,hb];simp only;rw[if_pos hc];obtain rfl:=osj hx;exact .same hs rfl
   ·cases hx
  ·cases hx
 case eqNil kd neg x y =>
  simp only[Wa] at hx;simp only[Zt];split at hx
  ·rename_i b hb;rw[Fe hs hb];obtain rfl:=osj hx;exact .same hs rfl
  ·cases hx
 case makeMap =>
  simp only[Wa] at hx;simp only[Zt];rw[hs.n] at hx;exact .push hs hx rfl rfl
 case lookup mk z ok x i =>
  simp only[Wa] at hx;simp only[Zt];generalize ev x=q0 at hx ⊢;generalize ev i=q1 at hx ⊢;split at hx
  ·rename_i hk;simp only[if_pos hk];split at hx
   ·obtain rfl:=osj hx;exact .same hs rfl
   ·rename_i m hm;split at hx
    ·rename_i es cl wr gS;obtain⟨k1,k2⟩:=hs.mapAt gS;simp only[k1];split at hx
     ·rename_i af;simp only[if_pos af];split at hx
      ·rename_i e hf;simp only[hf];obtain rfl:=osj hx;exact .same hs rfl
      ·rename_i hf;simp only[hf];obtain rfl:=osj hx;exact .same hs rfl
     ·cases hx
    ·cases hx
   ·cases hx
  ·cases hx
 case mapUpdate mk m k v =>
  simp only[Wa] at hx;simp only[Zt];generalize ev m=q0 at hx ⊢;split at hx
  ·rename_i i hi;split at hx
   ·rename_i es cl gS;obtain⟨k1,k2⟩:=hs.mapAt gS;simp only[k1];split at hx
    ·rename_i hc;simp only[if_pos hc];obtain rfl:=osj hx;exact .upd hs k2 rfl rfl
    ·cases hx
   ·cases hx
  ·cases hx
 case delete mk m k =>
  simp only[Wa] at hx;simp only[Zt];generalize ev m=q0 at hx ⊢;split at hx
  ·rename_i i hi;split at hx
   ·rename_i es cl gS;obtain⟨k1,k2⟩:=hs.mapAt gS;simp only[k1];split at hx
    ·rename_i hc;simp only[if_pos hc];obtain rfl:=osj hx;exact .upd hs k2 rfl rfl
    ·cases hx
   ·cases hx
  ·cases hx
 case mapEntry=>cases hx
 case entryStore=>cases hx
 case lenMap x =>
  simp only[Wa] at hx;simp only[Zt];generalize ev x=q0 at hx ⊢;split at hx
  ·obtain rfl:=osj hx;exact .same hs rfl
  ·split at hx
   ·rename_i es cl wr gS;obtain⟨k1,k2⟩:=hs.mapAt gS;simp only[k1];obtain rfl:=osj hx;exact .same hs rfl
   ·cases hx
  ·cases hx
 case rangeMap x =>
  simp only[Wa] at hx;simp only[Zt];generalize ev x=q0 at hx ⊢;split at hx
  ·split at hx
   ·rename_i es cl wr gS;obtain⟨k1,k2⟩:=hs.mapAt gS;simp only[k1];rw[hs.n] at hx;exact .push hs hx rfl rfl
   ·cases hx
  ·cases hx
 case nextMap=>cases hx
 case entry x =>
  simp only[Wa] at hx;simp only[Zt];generalize ev x=q0 at hx ⊢;split at hx
  ·split at hx
   ·rename_i m since seen last hg;simp only[hs.iter hg];split at hx
    ·rename_i es clock wr b gS dO;obtain⟨k1,_⟩:=hs.mapAt gS;simp only[k1,dO];split at hx
     ·rename_i hc;rw[if_pos hc];split at hx
      ·rename_i e hf;split at hx
       ·rename_i hp;rw[hf];simp only[hp,if_true];obtain rfl:=osj hx;exact .same hs rfl
       ·cases hx
      ·cases hx
     ·cases hx
    ·cases hx
   ·cases hx
  ·cases hx
 case copy size d s =>
  simp only[Wa] at hx;simp only[Zt];generalize ev d=q0 at hx ⊢;generalize ev s=q1 at hx ⊢;split at hx
  ·rename_i db dn dc sb sn sc h1 h2;split at hx
   ·rename_i hm;simp only[if_pos hm];obtain rfl:=osj hx;exact .same hs rfl
   ·rename_i hm;simp only[if_neg hm];split at hx
    ·rename_i i o xs bh;simp only[hs.sl bh];split at hx
     ·rename_i c e wr tight hg;simp only[hs.cells hg];split at hx
      ·rename_i hc;simp only[if_pos hc];obtain rfl:=osj hx;exact .upd hs hg rfl rfl
      ·cases hx
     ·cases hx
    ·cases hx
  ·cases hx
 case toUnsafe x =>
  simp only[Wa] at hx;simp only[Zt];generalize ev x=q0 at hx ⊢;split at hx
  ·obtain rfl:=osj hx;exact .same hs rfl
  ·split at hx
   ·rename_i c e wr tight hg;simp only[hs.cells hg];split at hx
    ·rename_i hc;simp only[if_pos hc];obtain rfl:=osj hx;exact .same hs rfl
    ·cases hx
   ·cases hx
  ·cases hx
 case fromUnsafe u size x =>
  simp only[Wa] at hx;simp only[Zt];generalize ev x=q0 at hx ⊢;split at hx
  ·obtain rfl:=osj hx;exact .same hs rfl
  ·split at hx
   ·rename_i c e hg;simp only[hs.cells hg];split at hx
    ·rename_i hc;simp only[if_pos hc];obtain rfl:=osj hx;exact .same hs rfl
    ·cases hx
   ·cases hx
  ·cases hx
 case sliceData x =>
  simp only[Wa] at hx;simp only[Zt];generalize ev x=q0 at hx ⊢;split at hx
  ·obtain rfl:=osj hx;exact .same hs rfl
  ·rename_i i o n cap;split at hx
   ·rename_i hc;simp only[if_pos (show cap≠0∧(σ.get i).isSome=true from ⟨hc.1,by rw[hs.get];simpa using hc.2⟩)];obtain rfl:=osj hx;exact .same hs rfl
   ·cases hx
  ·cases hx
 case unsafeStr e x n =>
  simp only[Wa] at hx;simp only[Zt];generalize ev x=q0 at hx ⊢;generalize ev n=q1 at hx ⊢;split at hx
  ·rename_i q k h1 h2;split at hx
   ·rename_i hk;simp only[if_pos hk];obtain rfl:=osj hx;exact .same hs rfl
   ·rename_i hk;simp only[if_neg hk];split at hx
    ·rename_i i o;split at hx
     ·rename_i c el tight hg;simp only[hs.cells hg];split at hx
      ·rename_i hc;simp only[if_pos hc];split at hx
       ·rename_i u hu;simp only[hu];obtain rfl:=osj hx;exact .upd hs hg rfl rfl
       ·cases hx
      ·cases hx
     ·cases hx
    ·cases hx
  ·cases hx
 case bytesStr x =>
  simp only[Wa] at hx;simp only[Zt];generalize ev x=q0 at hx ⊢;split at hx
  ·split at hx
   ·rename_i xs bh;simp only[hs.sl bh];split at hx
    ·rename_i u hu;simp only[hu];obtain rfl:=osj hx;exact .same hs rfl
    ·cases hx
   ·cases hx
  ·cases hx
 case strBytes e x =>
  simp only[Wa] at hx;simp only[Zt];generalize ev x=q0 at hx ⊢;split at hx
  ·split at hx
   ·rename_i h1;simp only[if_pos h1];rw[hs.n] at hx;exact .push hs hx rfl rfl
   ·cases hx
  ·cases hx
theorem Q0z {rs:Nat→Env×Loop}{h:CH}{σ:Heap}(hs:CSim rs h σ) {o:VOp}{ev:Operand→Value}{p:Value×CH}
  (hx:(if o.kind=0 then (match Q8 o ev Heap.empty with|some p=>some (p.1,h)|none=>none) else none)=some p):ESnd rs h σ (Q8 o ev σ) p:=by
 split at hx
 ·rename_i hk;split at hx
  ·rename_i q hq;obtain rfl:=osj hx;exact .same hs (TZ hk (v:=q.1) (σ1:=q.2) hq)
  ·cases hx
 ·cases hx
theorem Y7 {rs:Nat→Env×Loop}{h:CH}{σ:Heap}(hs:CSim rs h σ) {o:VOp}{ev:Operand→Value}{p:Value×CH}(hx:Q30 o ev h=some p):ESnd rs h σ (Q8 o ev σ) p:=by
 cases o
 case alloc t z =>
  simp only[Q30] at hx;simp only[Q8];rw[hs.n] at hx;exact .push hs hx rfl rfl
 case box t x =>
  simp only[Q30] at hx;simp only[Q8];generalize Kn (ev x)=q0 at hx ⊢;split at hx
  ·rw[hs.n] at hx;exact .push hs hx rfl rfl
  ·cases hx
 case buildSlice esz z len parts =>
  simp only[Q30] at hx;simp only[Q8];generalize NJ (EG len z) (parts.map fun p=>(p.1*esz.sz,esz.sz,ev p.2))=q0 at hx ⊢;split at hx
  ·rw[hs.n] at hx;exact .push hs hx rfl rfl
  ·cases hx
 case load agg size a =>
  simp only[Q30] at hx;simp only[Q8];generalize ev a=q0 at hx ⊢;split at hx
  ·split at hx
   ·rename_i c hg;split at hx
    ·rename_i af;simp only[hg,if_pos af];split at hx
     ·rename_i u hu;simp only[hu];obtain rfl:=osj hx;exact .same hs rfl
     ·cases hx
    ·cases hx
   ·cases hx
  ·split at hx
   ·rename_i c e wr tight hg;simp only[hs.cells hg];split at hx
    ·rename_i u hu;simp only[hu];obtain rfl:=osj hx;exact .same hs rfl
    ·cases hx
   ·cases hx
  ·cases hx
 case store size a v =>
  simp only[Q30] at hx;simp only[Q8];generalize Kn (ev v)=q0 at hx ⊢;generalize ev a=q1 at hx ⊢;split at hx
  ·rename_i i o vs h1 h2;split at hx
   ·rename_i c e wr tight hg;simp only[hs.cells hg];split at hx
    ·rename_i hc;simp only[if_pos hc];obtain rfl:=osj hx;exact .upd hs hg rfl rfl
    ·cases hx
   ·cases hx
  ·cases hx
 case slice size x lo hi mx =>
  simp only[Q30] at hx;simp only[Q8];generalize ev x=q0 at hx ⊢;split at hx
  ·rename_i a n cap;dsimp only;generalize JB ev lo 0=q1 at hx ⊢;generalize JB ev hi n=q2 at hx ⊢;split at hx
   ·exact HL hs hx
   ·rename_i l k m;dsimp only;generalize JB ev (some m) 0=q3 at hx ⊢;split at hx
    ·exact HL hs hx
    ·cases hx
   ·cases hx
  ·cases hx
 case makeSlice esz bytes z l c =>
  simp only[Q30] at hx;simp only[Q8];generalize ev l=q0 at hx ⊢;generalize ev c=q1 at hx ⊢;split at hx
  ·split at hx
   ·rename_i hc;simp only[if_pos hc];rw[hs.n] at hx;exact .push hs hx rfl rfl
   ·cases hx
  ·cases hx
 case append esz bytes s x =>
  simp only[Q30] at hx;simp only[Q8];generalize ev x=q0 at hx ⊢;split at hx
  ·rename_i bh;simp only[hs.sl bh];split at hx
   ·rename_i hc;simp only[if_pos hc];exact Cj hs hx
   ·cases hx
  ·cases hx
 case ext o=>exact PW hs hx
 all_goals exact Q0z hs hx
def IK (k:IntKind) (n:Int):Int:=match n with
 |.ofNat x=>match Nat.ble x 127 with
  |true=>.ofNat x
  |false=>k.wrap (.ofNat x)
 |.negSucc x=>k.wrap (.negSucc x)
theorem Ih (k:IntKind) (n:Int):IK k n=k.wrap n:=by
 cases n with
 |negSucc x=>rfl
 |ofNat x =>
  simp only[IK];split
  ·rename_i h;have hx:x≤127:=Nat.le_of_ble_eq_true h;show (x:Int)=k.wrap (x:Int);cases k<;>simp[IntKind.wrap,IntKind.bits,IntKind.signed]<;>omega
  ·rfl
def Q85 (c a b:Value):Option Value:=match c with|.bool t=>some (if t then a else b)|_=>none
def Q55 (op:BinOp) (x y:Value):Option Value:=match x,y with|.int k a,.int k' b=>if k=k' then some (.int k (match op with|.add=>IK k (a+b)|.sub=>IK k (a-b)|_=>IK k (a*b))) else none|_,_=>none
def Z40 (op:BinOp) (x y:Value):Option Value:=match x,y with|.int k a,.int k' b=>if k=k'∧b≠0 then some (.int k (Q7g op k a b)) else none|_,_=>none
def Z0c (op:BinOp) (x y:Value):Option Value:=match x,y with|.int k a,.int k' b=>if k=k' then some (.int k (Q9 op k a b)) else none|_,_=>none
def Q5d (op:BinOp) (x y:Value):Option Value:=match x,y with|.int k a,.int _ b=>if 0≤b then some (.int k (L3 op k a b)) else none|_,_=>none
def Z3k (op:BinOp) (x y:Value):Option Value:=match x,y with|.int k a,.int k' b=>if k=k' then some (.bool (Z12 op a b)) else none|_,_=>none
def Z3s (op:BinOp) (x y:Value):Option Value:=match x,y with
  |.string a,.string b=>match op with
   |.add=>if a.size+b.size≤2 ^ 62 then some (.string (a++b)) else none
   |.eql=>some (.bool (a.data.toList==b.data.toList))
   |.neq=>some (.bool (!(a.data.toList==b.data.toList)))
   |.lss=>some (.bool (Op.bytesLess a.data.toList b.data.toList))
   |_=>none
  |_,_=>none
def Z2z (neg:Bool) (x y:Value):Option Value:=match x,y with|.bool a,.bool b=>some (.bool (if neg then !(a==b) else (a==b)))|_,_=>none
def pUn (op:UnOp) (x:Value):Option Value:=match op,x with
  |.not,.bool b=>some (.bool (!b))
  |.neg,.int k n=>some (.int k (k.wrap (0-n)))
  |.xor,.int k n=>some (.int k (Q9 .xor k (if k.signed then -1 else k.max) n))
  |_,_=>none
def Q5f (k:IntKind) (x:Value):Option Value:=match x with|.int _ n=>some (.int k (IK k n))|_=>none
def Q5e (x:Value):Option Value:=match x with|.string s=>some (.string s)|_=>none
def Q5j (z:List Value) (l:List (Nat×Nat×Value)):Option Value:=match NJ z l with|some cs=>some (.agg cs.toArray)|none=>none
def Lf (off:Nat) (a:Value):Option Value:=match a with
  |.pointer (some ⟨i,o,none⟩)=>some (.pointer (some ⟨i,o+off,none⟩))
  |_=>none
def Q5h (agg:Bool) (off size:Nat) (x:Value):Option Value:=match x with
  |.agg cs=>Xy agg size cs.toList off
  |_=>none
def SK (size:Nat) (x i:Value):Option Value:=match x,i with
  |.slice (some ⟨b,o,none⟩) n _,.int _ k=>if 0≤k∧k<n then some (.pointer (some ⟨b,o+k.toNat*size,none⟩)) else none
  |_,_=>none
def Bc (len size:Nat) (x i:Value):Option Value:=match x,i with
  |.pointer (some ⟨g,o,some s⟩),.int _ k=>if 0≤k∧k<len then some (.pointer (some ⟨g,o+k.toNat*size,some s⟩)) else none
  |.pointer (some ⟨b,o,none⟩),.int _ k=>if 0≤k∧k<len then some (.pointer (some ⟨b,o+k.toNat*size,none⟩)) else none
  |_,_=>none
def Eg (x i:Value):Option Value:=match x,i with
  |.string s,.int _ k=>if 0≤k then (match s.data.toList[k.toNat]? with|some b=>some (.int .u8 b.toNat)|none=>none) else none
  |_,_=>none
def Ak (len:Nat) (agg:Bool) (size:Nat) (x i:Value):Option Value:=match x,i with
  |.agg cs,.int _ k=>if 0≤k∧k<len then Xy agg size cs.toList (k.toNat*size) else none
  |_,_=>none
def Ag (ev:Operand→Value) (x:Value) (lo hi:Option Operand):Option Value:=match x with
  |.string s =>
   match JB ev lo 0,JB ev hi s.size with
   |some l,some h=>if l≤h∧h≤s.size then some (.string (s.extract l h)) else none
   |_,_=>none
  |_=>none
def Z34 (x:Value):Option Value:=match x with|.slice _ n _=>some (.int .i64 n)|_=>none
def Q1x (x:Value):Option Value:=match x with|.string s=>some (.int .i64 s.size)|_=>none
def Q8n (x y z w:Value):Option Value:=match x,y,z,w with|.int k a,.int k2 b,.int k3 c,.int k4 d=>if k=k2∧k=k3∧k=k4 then some (.int k (Q00 (Q00 (Q00 a b) c) d)) else none|_,_,_,_=>none
def Z3d (x y:Value):Option Value:=match x,y with|.int k a,.int k' b=>if k=k' then some (.int k (if b > a then b else a)) else none|_,_=>none
def Z30 (x y:Value):Option Value:=match x,y with|.int k a,.int k' b=>if k=k' then some (.int k (if b<a then b else a)) else none|_,_=>none
def Q5g (t:TypeId) (x:Value):Option Value:=match x with|.chan _=>none|v=>some (.iface t v)
def FP (i:Nat) (x:Value):Option Value:=match x with
  |.tuple vs=>vs.toList[i]?
  |_=>none
def An (x:Value):Option Value:=match x with
  |.pointer (some a)=>some (.pointer (some a))
  |.func (.func f) first cap=>some (.func (.func f) first cap)
  |_=>none
def ppp (r:Option Value) (σ:CH):Option (Value×CH):=match r with|some v=>some (v,σ)|none=>none
noncomputable def Z46 (t:Nat) (x:Value) (σ:CH):Option (Value×CH):=match Kn x with
  |some vs=>Mz σ (.cells vs ⟨vs.length,t⟩ true true) (.pointer (some ⟨σ.n,0,none⟩))
  |none=>none
noncomputable def EX (esz:El) (z:List Value) (len:Nat) (l:List (Nat×Nat×Value)) (σ:CH):Option (Value×CH):=match NJ (EG len z) l with
  |some cs=>Mz σ (.cells cs esz true true) (.slice (some ⟨σ.n,0,none⟩) len len)
  |none=>none
noncomputable def Z0n (agg:Bool) (size:Nat) (a:Value) (σ:CH):Option (Value×CH):=match a with
  |.pointer (some ⟨g,o,some _⟩)=>(match Q3f g with
   |some c=>if c.all QW then (match Xy agg size c o with|some v=>some (v,σ)|none=>none) else none
   |none=>none)
  |.pointer (some ⟨i,o,none⟩)=>match σ.get i with
   |some (.cells c _ _ _)=>match Xy agg size c o with|some v=>some (v,σ)|none=>none
   |_=>none
  |_=>none
def stL (c:List Value) (o:Nat) (vs:List Value):List Value:=match vs with
 |[v]=>c.set o v
 |vs=>c.take o++(vs++c.drop (o+vs.length))
theorem Ik:∀ (vs a b c:List Value),vs.length=b.length→K0 (a++(b++c)) a.length vs=a++(vs++c)
 |[],a,b,c,h=>by have:b=[]:=List.eq_nil_of_length_eq_zero (by simpa using h.symm);subst this;rfl
 |v::vs,a,[],c,h=>by simp at h
 |v::vs,a,x::b,c,h=>by
  simp only[K0];have e:(a++(x::b++c)).set a.length v=(a++[v])++(b++c):=by simp
  rw[e];have:=Ik vs (a++[v]) b c (by simpa using h);rw[List.length_append,List.length_singleton] at this;rw[this];simp
theorem Z0l {c:List Value}{o:Nat}{vs:List Value}(h:o+vs.length≤c.length):stL c o vs=K0 c o vs:=by
 unfold stL;split
 ·rfl
 ·have h1:c=c.take o++((c.drop o).take vs.length++c.drop (o+vs.length)):=by
   rw[←List.drop_drop,List.take_append_drop,List.take_append_drop]
  have h2:(c.take o).length=o:=by simp;omega
  have:=Ik vs (c.take o) ((c.drop o).take vs.length) (c.drop (o+vs.length)) (by simp;omega);rw[h2,←h1] at this;exact this.symm
noncomputable def Q4x (size:Nat) (a v:Value) (σ:CH):Option (Value×CH):=match a,Kn v with
  |.pointer (some ⟨i,o,none⟩),some vs=>match σ.get i with
   |some (.cells c e wr tight)=>if wr=true∧vs.length=size∧o+size≤c.length∧vs.all cellOk=true then some (undef,σ.upd i (.cells (stL c o vs) e wr tight)) else none
   |_=>none
  |_,_=>none
noncomputable def OF (esz:El) (bytes:Nat) (z:List Value) (l c:Value) (σ:CH):Option (Value×CH) :=
  match l,c with
  |.int _ a,.int _ b=>if 0≤a∧a≤b∧b*bytes≤2 ^ 46∧b≤2 ^ 46 then Mz σ (.cells (EG b.toNat z) esz true true) (.slice (some ⟨σ.n,0,none⟩) a.toNat b.toNat) else none
  |_,_=>none
noncomputable def Z4g (esz:El) (bytes:Nat) (s x:Value) (σ:CH):Option (Value×CH) :=
  match σ.sl esz.sz x,x with
  |some xs,.slice _ m _=>if xs.all cellOk then LR esz bytes σ s m xs else none
  |_,_=>none
noncomputable def EU (o:VOp) (ev:Operand→Value) (σ:CH):Option (Value×CH) :=
 match o with
 |.move x=>some (ev x,σ)
 |.pick c a b=>ppp (Q85 (ev c) (ev a) (ev b)) σ
 |.arith op x y=>ppp (Q55 op (ev x) (ev y)) σ
 |.div op x y=>ppp (Z40 op (ev x) (ev y)) σ
 |.bits op x y=>ppp (Z0c op (ev x) (ev y)) σ
 |.shift op x y=>ppp (Q5d op (ev x) (ev y)) σ
 |.cmp op x y=>ppp (Z3k op (ev x) (ev y)) σ
 |.str op x y=>ppp (Z3s op (ev x) (ev y)) σ
 |.eqB n x y=>ppp (Z2z n (ev x) (ev y)) σ
 |.un op x=>ppp (pUn op (ev x)) σ
 |.convI k x=>ppp (Q5f k (ev x)) σ
 |.convS x=>ppp (Q5e (ev x)) σ
 |.build z parts=>ppp (Q5j z (parts.map fun p=>(p.1,p.2.1,ev p.2.2))) σ
 |.fieldAddr off a=>ppp (Lf off (ev a)) σ
 |.field agg off size x=>ppp (Q5h agg off size (ev x)) σ
 |.indexAddr size x i=>ppp (SK size (ev x) (ev i)) σ
 |.indexAddrArr len size x i=>ppp (Bc len size (ev x) (ev i)) σ
 |.indexStr x i=>ppp (Eg (ev x) (ev i)) σ
 |.indexArr len agg size x i=>ppp (Ak len agg size (ev x) (ev i)) σ
 |.sliceStr x lo hi=>ppp (Ag ev (ev x) lo hi) σ
 |.len x=>ppp (Z34 (ev x)) σ
 |.lenStr x=>ppp (Q1x (ev x)) σ
 |.max x y=>ppp (Z3d (ev x) (ev y)) σ
 |.max4 x y z w=>ppp (Q8n (ev x) (ev y) (ev z) (ev w)) σ
 |.min x y=>ppp (Z30 (ev x) (ev y)) σ
 |.makeFunc fn first cap=>some (.func fn (first.map ev).toArray (cap.map ev).toArray,σ)
 |.iface t x=>ppp (Q5g t (ev x)) σ
 |.extract x i=>ppp (FP i (ev x)) σ
 |.nilCheck x=>ppp (An (ev x)) σ
 |.alloc t z=>Mz σ (.cells z ⟨z.length,t⟩ true true) (.pointer (some ⟨σ.n,0,none⟩))
 |.box t x=>Z46 t (ev x) σ
 |.buildSlice esz z len parts=>EX esz z len (parts.map fun p=>(p.1*esz.sz,esz.sz,ev p.2)) σ
 |.load agg size a=>Z0n agg size (ev a) σ
 |.store size a v=>Q4x size (ev a) (ev v) σ
 |.slice size x lo hi mx=>Q30 (.slice size x lo hi mx) ev σ
 |.makeSlice esz bytes z l c=>OF esz bytes z (ev l) (ev c) σ
 |.append esz bytes s x=>Z4g esz bytes (ev s) (ev x) σ
 |.ext o=>Wa o ev σ
 |_=>none
theorem Q2x {rs:Nat→Env×Loop}{h:CH}{σ:Heap}(hs:CSim rs h σ) {r:Option Value}{r':Option (Value×Heap)}{p:Value×CH}(hr:∀ v,r=some v→r'=some (v,σ)) (hx:ppp r h=some p):ESnd rs h σ r' p:=by
 unfold ppp at hx;split at hx
 ·rename_i v;obtain rfl:=osj hx;exact .same hs (hr v rfl)
 ·cases hx
theorem Ko {rs:Nat→Env×Loop}{h:CH}{σ:Heap}(hs:CSim rs h σ) {o:VOp}{ev:Operand→Value}{p:Value×CH}(hx:EU o ev h=some p):ESnd rs h σ (Q8 o ev σ) p:=by
 cases o
 case move x=>exact .same hs (by obtain rfl:=osj hx;rfl) |> fun (h:ESnd rs _ σ (Q8 (.move x) ev σ) (ev x,_))=>by obtain rfl:=osj hx;exact h
 case makeFunc fn a b=>obtain rfl:=osj hx;exact .same hs rfl
 case alloc t z=>exact Y7 (o:=.alloc t z) hs hx
 case box t x=>exact Y7 (o:=.box t x) hs hx
 case buildSlice a b c d=>exact Y7 (o:=.buildSlice a b c d) hs hx
 case load a b c=>exact Y7 (o:=.load a b c) hs hx
 case store size a v =>
  simp only[EU] at hx;simp only[Q8];unfold Q4x at hx;generalize Kn (ev v)=q0 at hx ⊢;generalize ev a=q1 at hx ⊢;split at hx
  ·rename_i i o vs;split at hx
   ·rename_i c e wr tight hg;simp only[hs.cells hg];split at hx
    ·rename_i hc;simp only[if_pos hc];rw[Z0l (by omega)] at hx;obtain rfl:=osj hx;exact .upd hs hg rfl rfl
    ·cases hx
   ·cases hx
  ·cases hx
 case slice a b c d e=>exact Y7 (o:=.slice a b c d e) hs hx
 case makeSlice a b c d e=>exact Y7 (o:=.makeSlice a b c d e) hs hx
 case append a b c d=>exact Y7 (o:=.append a b c d) hs hx
 case ext o=>exact PW hs hx
 case callF=>cases hx
 case callV=>cases hx
 case bad=>cases hx
 all_goals refine Q2x hs (fun v hv=>?_) hx
 case arith op x y =>
  simp only[Q8];generalize ev x=a at hv ⊢;generalize ev y=b at hv ⊢;unfold Q55 at hv;split at hv
  ·split at hv
   ·rename_i hk;simp only[if_pos hk];obtain rfl:=osj hv;cases op<;>simp only[L4,Ih]
   ·cases hv
  ·cases hv
 case convI k x =>
  simp only[Q8];generalize ev x=a at hv ⊢;unfold Q5f at hv;split at hv
  ·obtain rfl:=osj hv;simp only[Ih]
  ·cases hv
 case pick c a b =>
  simp only[Q8];generalize ev c=q0 at hv ⊢;generalize ev a=q1 at hv ⊢;generalize ev b=q2 at hv ⊢;unfold Q85 at hv
  (repeat' split at hv)<;>first|(cases hv;done)|(obtain rfl:=osj hv;first|rfl|(simp_all;done)|(simp_all;intros;omega))
 case div op x y =>
  simp only[Q8];generalize ev x=q0 at hv ⊢;generalize ev y=q1 at hv ⊢;unfold Z40 at hv
  (repeat' split at hv)<;>first|(cases hv;done)|(obtain rfl:=osj hv;first|rfl|(simp_all;done)|(simp_all;intros;omega))
 case bits op x y =>
  simp only[Q8];generalize ev x=q0 at hv ⊢;generalize ev y=q1 at hv ⊢;unfold Z0c at hv
  (repeat' split at hv)<;>first|(cases hv;done)|(obtain rfl:=osj hv;first|rfl|(simp_all;done)|(simp_all;intros;omega))
 case shift op x y =>
  simp only[Q8];generalize ev x=q0 at hv ⊢;generalize ev y=q1 at hv ⊢;unfold Q5d at hv
  (repeat' split at hv)<;>first|(cases hv;done)|(obtain rfl:=osj hv;first|rfl|(simp_all;done)|(simp_all;intros;omega))
 case cmp op x y =>
  simp only[Q8];generalize ev x=q0 at hv ⊢;generalize ev y=q1 at hv ⊢;unfold Z3k at hv
  (repeat' split at hv)<;>first|(cases hv;done)|(obtain rfl:=osj hv;first|rfl|(simp_all;done)|(simp_all;intros;omega))
 case eqB n x y =>
  simp only[Q8];generalize ev x=q0 at hv ⊢;generalize ev y=q1 at hv ⊢;unfold Z2z at hv
  (repeat' split at hv)<;>first|(cases hv;done)|(obtain rfl:=osj hv;first|rfl|(simp_all;done)|(simp_all;intros;omega))
 case un op x =>
  simp only[Q8];generalize ev x=q0 at hv ⊢;unfold pUn at hv
  (repeat' split at hv)<;>first|(cases hv;done)|(obtain rfl:=osj hv;first|rfl|(simp_all;done)|(simp_all;intros;omega))
 case convS x =>
  simp only[Q8];generalize ev x=q0 at hv ⊢;unfold Q5e at hv
  (repeat' split at hv)<;>first|(cases hv;done)|(obtain rfl:=osj hv;first|rfl|(simp_all;done)|(simp_all;intros;omega))
 case fieldAddr off a =>
  simp only[Q8];generalize ev a=q0 at hv ⊢;unfold Lf at hv
  (repeat' split at hv)<;>first|(cases hv;done)|(obtain rfl:=osj hv;first|rfl|(simp_all;done)|(simp_all;intros;omega))
 case indexAddr size x i =>
  simp only[Q8];generalize ev x=q0 at hv ⊢;generalize ev i=q1 at hv ⊢;unfold SK at hv
  (repeat' split at hv)<;>first|(cases hv;done)|(obtain rfl:=osj hv;first|rfl|(simp_all;done)|(simp_all;intros;omega))
 case indexAddrArr len size x i =>
  simp only[Q8];generalize ev x=q0 at hv ⊢;generalize ev i=q1 at hv ⊢;unfold Bc at hv
  (repeat' split at hv)<;>first|(cases hv;done)|(obtain rfl:=osj hv;first|rfl|(simp_all;done)|(simp_all;intros;omega))
 case len x =>
  simp only[Q8];generalize ev x=q0 at hv ⊢;unfold Z34 at hv
  (repeat' split at hv)<;>first|(cases hv;done)|(obtain rfl:=osj hv;first|rfl|(simp_all;done)|(simp_all;intros;omega))
 case lenStr x =>
  simp only[Q8];generalize ev x=q0 at hv ⊢;unfold Q1x at hv
  (repeat' split at hv)<;>first|(cases hv;done)|(obtain rfl:=osj hv;first|rfl|(simp_all;done)|(simp_all;intros;omega))
 case max4 x y z w =>
  simp only[Q8];generalize ev x=q0 at hv ⊢;generalize ev y=q1 at hv ⊢;generalize ev z=q2 at hv ⊢;generalize ev w=q3 at hv ⊢;unfold Q8n at hv
  (repeat' split at hv)<;>first|(cases hv;done)|(rename_i qz;obtain⟨rfl,rfl,rfl⟩:=qz;obtain rfl:=osj hv;simp_all;done)
 case max x y =>
  simp only[Q8];generalize ev x=q0 at hv ⊢;generalize ev y=q1 at hv ⊢;unfold Z3d at hv
  (repeat' split at hv)<;>first|(cases hv;done)|(obtain rfl:=osj hv;first|rfl|(simp_all;done)|(simp_all;intros;omega))
 case min x y =>
  simp only[Q8];generalize ev x=q0 at hv ⊢;generalize ev y=q1 at hv ⊢;unfold Z30 at hv
  (repeat' split at hv)<;>first|(cases hv;done)|(obtain rfl:=osj hv;first|rfl|(simp_all;done)|(simp_all;intros;omega))
 case nilCheck x =>
  simp only[Q8];generalize ev x=q0 at hv ⊢;unfold An at hv
  (repeat' split at hv)<;>first|(cases hv;done)|(obtain rfl:=osj hv;first|rfl|(simp_all;done)|(simp_all;intros;omega))
 case str op x y =>
  simp only[Q8];generalize ev x=q0 at hv ⊢;generalize ev y=q1 at hv ⊢;unfold Z3s at hv
  (repeat' split at hv)<;>first|(cases hv;done)|(obtain rfl:=osj hv;first|rfl|(simp_all;done)|(simp_all;intros;omega))
 case build z parts =>
  simp only[Q8];unfold Q5j at hv;split at hv
  ·rename_i cs hc;rw[hc];obtain rfl:=osj hv;rfl
  ·cases hv
 case field agg off size x =>
  simp only[Q8];generalize ev x=q0 at hv ⊢;unfold Q5h at hv;split at hv
  ·dsimp only;rw[hv]
  ·cases hv
 case indexStr x i =>
  simp only[Q8];generalize ev x=q0 at hv ⊢;generalize ev i=q1 at hv ⊢;unfold Eg at hv;split at hv
  ·split at hv
   ·rename_i hc;simp only[if_pos hc];split at hv
    ·rename_i b hb;simp only[hb];obtain rfl:=osj hv;rfl
    ·cases hv
   ·cases hv
  ·cases hv
 case indexArr len agg size x i =>
  simp only[Q8];generalize ev x=q0 at hv ⊢;generalize ev i=q1 at hv ⊢;unfold Ak at hv;split at hv
  ·split at hv
   ·rename_i hc;simp only[if_pos hc,hv]
   ·cases hv
  ·cases hv
 case sliceStr x lo hi =>
  simp only[Q8];generalize ev x=q0 at hv ⊢;unfold Ag at hv;split at hv
  ·rename_i s;split at hv
   ·rename_i l h h1 h2;split at hv
    ·rename_i hc;simp only[h1,h2,if_pos hc];obtain rfl:=osj hv;rfl
    ·cases hv
   ·cases hv
  ·cases hv
 case iface t x =>
  simp only[Q8];generalize ev x=q0 at hv ⊢;unfold Q5g at hv;split at hv
  ·cases hv
  ·rename_i aA;obtain rfl:=osj hv;split
   ·exact absurd rfl (aA _)
   ·rfl
 case extract x i =>
  simp only[Q8];generalize ev x=q0 at hv ⊢;unfold FP at hv;split at hv
  ·dsimp only;rw[hv]
  ·cases hv
end Go.V
namespace Go.V
open Go
inductive Sh (a m d:Nat):Value→Value→Prop
 |plain (v:Value) (h:QW v=true):Sh a m d v v
 |ptr (i o:Nat) (h:a≤i) (hi:i<m):Sh a m d (.pointer (some ⟨i,o,none⟩)) (.pointer (some ⟨d+(i-a),o,none⟩))
 |sl (i o len cap:Nat) (h:a≤i) (hi:i<m):Sh a m d (.slice (some ⟨i,o,none⟩) len cap) (.slice (some ⟨d+(i-a),o,none⟩) len cap)
 |agg (cs ds:Array Value) (hc:cs.size=ds.size) (h:∀ i (h1:i<cs.size) (h2:i<ds.size),Sh a m d cs[i] ds[i]):Sh a m d (.agg cs) (.agg ds)
 |tuple (cs ds:Array Value) (hc:cs.size=ds.size) (h:∀ i (h1:i<cs.size) (h2:i<ds.size),Sh a m d cs[i] ds[i]):Sh a m d (.tuple cs) (.tuple ds)
theorem Sh.rel {ρ ρ':Plc}{a m d n':Nat}(hn:d+(m-a)≤n') (hρ:∀ i,a≤i→i<m→ρ' (d+(i-a))=ρ i) {v v':Value}(h:Sh a m d v v') :
  ∀ {c:Value},VRel ρ m v c→VRel ρ' n' v' c:=by
 induction h with
 |plain v h =>intro c hv;have:c=v:=Vd h hv;subst this;exact WA h
 |ptr i o h hi =>intro c hv;obtain⟨a',rfl,_,br⟩:=hv.ptr_inv';exact .ptr _ _ _ (by omega) fun p hp=>br p (by rw[←hρ i h hi];exact hp)
 |sl i o len cap h hi =>intro c hv;obtain⟨a',au,rfl,_,br⟩:=hv.sl_inv;exact .sl _ _ _ _ _ _ (by omega) fun p hp=>br p (by rw[←hρ i h hi];exact hp)
 |agg cs ds hc h ih =>
  intro c hv;cases hv with
  |agg _ ds' cT h'=>exact .agg _ _ (hc.symm.trans cT) fun i k1 k2=>ih i (by omega) k1 (h' i (by omega) k2)
 |tuple cs ds hc h ih =>
  intro c hv;cases hv with
  |tuple _ ds' cT h'=>exact .tuple _ _ (hc.symm.trans cT) fun i k1 k2=>ih i (by omega) k1 (h' i (by omega) k2)
theorem BRel.any {ρ ρ':Plc}{n n':Nat}{p:Pl}{w:World}{c:List Value}{esz:El}{wr tight:Bool}(hp:c.all QW=true) (h:BRel ρ n p w (.cells c esz wr tight)) :
  BRel ρ' n' p w (.cells c esz wr tight):=by
 obtain⟨h1,h2,h3,h4,h5,h6⟩:=h;refine⟨h1,h2,h3,h4,fun k v hk=>?_,h6⟩;obtain⟨u,hu,hv⟩:=h5 k v hk;have aX:QW v=true:=List.all_eq_true.1 hp v (List.mem_of_getElem? hk);obtain rfl:u=v:=Vd aX hv;exact⟨u,hu,WA aX⟩
theorem BRel.asRo {ρ ρ':Plc}{n n':Nat}{p:Pl}{w:World}{c:List Value}{esz:El}{wr tight:Bool}(hp:c.all QW=true) (h:BRel ρ n p w (.cells c esz wr tight)) :
  BRel ρ' n' p w (.cells c esz false tight):=by
 obtain⟨h1,h2,h3,h4,h5,h6⟩:=BRel.any (ρ':=ρ') (n':=n') hp h;exact⟨h1,h2,h3,h4,h5,fun h=>by cases h⟩
structure PB where
 c:List Value
 esz:El
 tight:Bool
def PB.blk (wr:Bool) (b:PB):Blk:=.cells b.c b.esz wr b.tight
def Wt (bl fr:List PB):Heap where
 get i:=if i<bl.length then (bl[i]?).map (PB.blk false) else (fr[i-bl.length]?).map (PB.blk true)
 n:=bl.length+fr.length
 wf i h:=by rw[if_neg (by omega),List.getElem?_eq_none (by omega)];rfl
def WI (σ:Heap) (fr:List PB):Heap where
 get i:=if i<σ.n then σ.get i else (fr[i-σ.n]?).map (PB.blk true)
 n:=σ.n+fr.length
 wf i h:=by rw[if_neg (by omega),List.getElem?_eq_none (by omega)];rfl
theorem VCalled.localize {P:Program}{f:FuncId}{iG args:List Value}{bl fr:List PB}{vm v:Value}{σ:Heap}{π:Nat→Nat}{K:Value→Heap→Prop}
  (hm:VCalled P f iG (Wt bl []) fun u τ=>u=vm∧τ=Wt bl fr)
  (ib:∀ b∈bl,b.c.all QW=true) (cU:∀ b∈fr,b.c.all QW=true)
  (hπ:∀ i b,bl[i]?=some b→∃ wr,σ.get (π i)=some (b.blk wr))
  (aC:LRen bl.length π iG args) (hv:Sh bl.length (bl.length+fr.length) σ.n vm v) (hK:K v (WI σ fr)):VCalled P f args σ K:=by
 intro ρ w aw hH hL;have bU:∀ B,¬ Wr (fun i=>if i<bl.length then ρ (π i) else none) (Wt bl []) B:=by
  rintro B ⟨i,p,b,_,hb,hw,_⟩;have hi:i<bl.length:=by have:=(Wt bl []).lt hb;simpa [Wt] using this
  simp only[Wt,if_pos hi] at hb;cases eL:bl[i]? with
  |none=>rw[eL] at hb;cases hb
  |some b0=>rw[eL] at hb;obtain rfl:=osj hb;cases hw
 have uo:HRel (fun i=>if i<bl.length then ρ (π i) else none) (Wt bl []) w:=by
  refine⟨⟨fun i b hb=>?_,fun i hi=>?_,fun i p hp=>?_,fun i j p q b _ hp _ hb hw _=>(bU _ ⟨i,p,b,hp,hb,hw,rfl⟩).elim⟩,fun g cs hg=>⟨(hH.tab g cs hg).1,bU g⟩⟩
  ·have hi:i<bl.length:=by have:=(Wt bl []).lt hb;simpa [Wt] using this
   simp only[Wt,if_pos hi] at hb;cases eL:bl[i]? with
   |none=>rw[eL] at hb;cases hb
   |some b0 =>rw[eL] at hb;obtain rfl:=osj hb;obtain⟨wr,hg⟩:=hπ i b0 eL;obtain⟨p,hp,hB⟩:=hH.live _ _ hg;exact⟨p,by simp[hi,hp],BRel.asRo (ib b0 (List.mem_of_getElem? eL)) hB⟩
  ·by_cases h:i<bl.length
   ·simp only[Wt,if_pos h,List.getElem?_eq_getElem h] at hi;cases hi
   ·simp[h]
  ·skip
   split at hp
   ·exact hH.lt _ p hp
   ·cases hp
 have uq:LRel (fun i=>if i<bl.length then ρ (π i) else none) (Wt bl []).n iG aw.toList:=by have:=aC.rel hL;simpa [Wt] using this
 have lift:∀ c w',Got (fun i=>if i<bl.length then ρ (π i) else none) (Wt bl []) w (fun u τ=>u=vm∧τ=Wt bl fr) c w'→Got ρ σ w K c w':=by
  rintro c w' ⟨_,ρm,_,⟨rfl,rfl⟩,dC,iH,hE⟩;have dW:∀ B,B<w.heap.size→w'.heap[B]?=w.heap[B]?:=fun B hB=>hE.keep B hB (bU B);have gh:∀ i p,bl.length≤i→ρm i=some p→w.heap.size≤p.blk:=fun i p hi hp=>by
   rcases Nat.lt_or_ge p.blk w.heap.size with h|h
   ·refine (bU _ (hE.wr p.blk h ?_)).elim;have gN:=iH.idlt hp;cases hb:(Wt bl fr).get i with
    |none=>rw[iH.dead i hb] at hp;cases hp
    |some b =>
     refine⟨i,p,b,hp,hb,?_,rfl⟩;simp only[Wt,if_neg (Nat.not_lt.2 hi)] at hb;cases eL:fr[i-bl.length]? with
     |none=>rw[eL] at hb;cases hb
     |some b0=>rw[eL] at hb;obtain rfl:=osj hb;rfl
   ·exact h
  have hρ:∀ i,σ.n≤i→(if i<σ.n then ρ i else if i<σ.n+fr.length then ρm (bl.length+(i-σ.n)) else none)=if i<σ.n+fr.length then ρm (bl.length+(i-σ.n)) else none:=fun i hi=>if_neg (by omega)
  have hX:Ext ρ σ w (fun i=>if i<σ.n then ρ i else if i<σ.n+fr.length then ρm (bl.length+(i-σ.n)) else none) (WI σ fr) w':=by
   refine⟨hE.os,hE.tape,hE.output,hE.size,fun B hB _=>dW B hB,?_,by simp[WI],fun i hi p hp=>?_⟩
   ·rintro B hB ⟨i,p,b,hp,hb,hw,rfl⟩
    replace hp:(if i<σ.n then ρ i else if i<σ.n+fr.length then ρm (bl.length+(i-σ.n)) else none)=some p:=hp
    by_cases hi:i<σ.n
    ·rw[if_pos hi] at hp;simp only[WI,if_pos hi] at hb;exact⟨i,p,b,hp,hb,hw,rfl⟩
    ·rw[if_neg hi] at hp;split at hp
     ·have:=gh _ p (by omega) hp;omega
     ·cases hp
   ·skip
    rwa [if_pos hi] at hp
  refine⟨v,fun i=>if i<σ.n then ρ i else if i<σ.n+fr.length then ρm (bl.length+(i-σ.n)) else none,WI σ fr,hK,?_,hH.ext ⟨fun i b hb=>?_,fun i hi=>?_,fun i p hp=>?_,fun i j p q b bR hp hq hb hw hx=>?_⟩ hX,hX⟩
  ·refine hv.rel (by simp[WI]) (fun i h1 h2=>?_) dC;rw[if_neg (by omega),if_pos (by omega)];congr 1;omega
  ·by_cases hi:i<σ.n
   ·simp only[WI,if_pos hi] at hb;obtain⟨p,hp,hB⟩:=hH.live i b hb;exact⟨p,by simp[hi,hp],hB.mono (by simp[WI]) (fun j hj q hq=>by simpa [hj] using hq) (dW _ (hH.lt i p hp))⟩
   ·simp only[WI,if_neg hi] at hb;cases eL:fr[i-σ.n]? with
    |none=>rw[eL] at hb;cases hb
    |some b0 =>
     rw[eL] at hb;obtain rfl:=osj hb;have ah:i-σ.n<fr.length:=(List.getElem?_eq_some_iff.1 eL).1;obtain⟨p,hp,hB⟩:=iH.live (bl.length+(i-σ.n)) (b0.blk true) (by
      show (if _ then _ else _)=_;rw[if_neg (by omega),show bl.length+(i-σ.n)-bl.length=i-σ.n by omega,eL];rfl)
     exact⟨p,by rw[if_neg hi,if_pos (by omega)];exact hp,BRel.any (cU b0 (List.mem_of_getElem? eL)) hB⟩
  ·by_cases h:i<σ.n
   ·simp only[WI,if_pos h] at hi;rw[if_pos h];exact hH.dead i hi
   ·simp only[WI,if_neg h] at hi;rw[if_neg h];split
    ·rename_i h2;have ah:i-σ.n<fr.length:=by omega
     rw[List.getElem?_eq_getElem ah] at hi;cases hi
    ·rfl
  ·skip
   split at hp
   ·exact Nat.lt_of_lt_of_le (hH.lt i p hp) hE.size
   ·split at hp
    ·exact iH.lt _ p hp
    ·cases hp
  ·skip
   by_cases hi:i<σ.n<;>by_cases hj:j<σ.n
   ·rw[if_pos hi] at hp;rw[if_pos hj] at hq;simp only[WI,if_pos hi] at hb;exact hH.sep i j p q b bR hp hq hb hw hx
   ·rw[if_pos hi] at hp;rw[if_neg hj] at hq;split at hq
    ·have h1:=hH.lt i p hp;have h2:=gh _ q (by omega) hq;omega
    ·cases hq
   ·rw[if_neg hi] at hp;rw[if_pos hj] at hq;split at hp
    ·have h1:=hH.lt j q hq;have h2:=gh _ p (by omega) hp;omega
    ·cases hp
   ·rw[if_neg hi] at hp;rw[if_neg hj] at hq;split at hp
    ·split at hq
     ·simp only[WI,if_neg hi] at hb;refine iH.sep (bl.length+(i-σ.n)) (bl.length+(j-σ.n)) p q b (by omega) hp hq ?_ hw hx;show (if _ then _ else _)=_;rw[if_neg (by omega),show bl.length+(i-σ.n)-bl.length=i-σ.n by omega];exact hb
     ·cases hq
    ·cases hp
 rcases hm _ w aw uo uq with⟨h1,h2⟩|⟨c,h1,h2⟩
 ·refine .inl ⟨h1,?_⟩;exact h2.mono fun e w' he=>by
   obtain⟨c,rfl,hc⟩:=he;exact⟨c,rfl,lift c w' hc⟩
 ·refine .inr ⟨c,lift c w h1,fun w' dp=>h2 w' ⟨dp.1,fun i p hp=>?_,dp.tab⟩⟩
  replace hp:(if i<bl.length then ρ (π i) else none)=some p:=hp
  split at hp
  ·exact dp.2 _ p hp
  ·cases hp
end Go.V
namespace Go.V
open Go
def Q1s {α:Type}(p:α→α→Bool):List α→List α→Bool
 |[],[]=>true
 |a::l,b::m=>p a b&&Q1s p l m
 |_,_=>false
theorem UL {α:Type}{p:α→α→Bool}(hp:∀ a b,p a b=true→a=b):∀ l m,Q1s p l m=true→l=m
 |[],[],_=>rfl
 |a::l,b::m,h=>by simp only[Q1s,Bool.and_eq_true] at h;rw[hp a b h.1,UL hp l m h.2]
 |[],_::_,h=>by cases h
 |_::_,[],h=>by cases h
def FH:Nat→Value→Value→Bool
 |0,_,_=>false
 |f+1,a,b=>match a,b with
  |.bool x,.bool y=>x==y
  |.int k x,.int k' y=>decide (k=k')&&decide (x=y)
  |.string s,.string t=>decide (s.data.toList=t.data.toList)
  |.pointer none,.pointer none=>true
  |.pointer (some ⟨i,o,none⟩),.pointer (some ⟨j,q,none⟩)=>Nat.beq i j&&Nat.beq o q
  |.slice none l c,.slice none l' c'=>Nat.beq l l'&&Nat.beq c c'
  |.slice (some ⟨i,o,none⟩) l c,.slice (some ⟨j,q,none⟩) l' c'=>Nat.beq i j&&(Nat.beq o q&&(Nat.beq l l'&&Nat.beq c c'))
  |.map x,.map y=>decide (x=y)
  |.chan none,.chan none=>true
  |.nilFunc,.nilFunc=>true
  |.nilIface,.nilIface=>true
  |.func (.func g) fs cs,.func (.func g') sD cs'=>decide (g=g')&&(Q1s (FH f) fs.toList sD.toList&&Q1s (FH f) cs.toList cs'.toList)
  |.iface t v,.iface t' v'=>decide (t=t')&&FH f v v'
  |.agg cs,.agg ds=>Q1s (FH f) cs.toList ds.toList
  |.tuple cs,.tuple ds=>Q1s (FH f) cs.toList ds.toList
  |_,_=>false
theorem SC {α:Type}{a b:Array α}(h:a.toList=b.toList):a=b:=by cases a;cases b;simp at h;rw[h]
theorem Du:∀ (f:Nat) (a b:Value),FH f a b=true→a=b:=by
 intro f;induction f with
 |zero=>intro a b h;cases h
 |succ f ih =>
  intro a b h;unfold FH at h
  split at h<;>first
   |(cases h;done)
   |rfl
   |(simp at h;subst h;rfl)
   |(simp at h;obtain⟨rfl,rfl⟩:=h;rfl)
   |(simp at h;obtain⟨rfl,rfl,rfl,rfl⟩:=h;rfl)
   |skip
  ·rename_i s t;have h:=of_decide_eq_true h;have:=SC h;cases s;cases t;simp at this;rw[this]
  ·rename_i g fs cs g' sD cs';simp only[Bool.and_eq_true,decide_eq_true_eq] at h;obtain⟨rfl,h1,h2⟩:=h;rw[SC (UL ih _ _ h1),SC (UL ih _ _ h2)]
  ·rename_i t v t' v';simp only[Bool.and_eq_true,decide_eq_true_eq] at h;obtain⟨rfl,h1⟩:=h;rw[ih _ _ h1]
  ·rw[SC (UL ih _ _ h)]
  ·rw[SC (UL ih _ _ h)]
def EB.beq:EB→EB→Bool
 |.cells c e w t,.cells c' e' w' t'=>decide (e=e')&&(w==w'&&(t==t'&&Q1s (FH 20) c c'))
 |.map es cl w,.map bV ur w'=>Nat.beq cl ur&&(w==w'&&Q1s (fun a b=>FH 20 a.1 b.1&&(FH 20 a.2.1 b.2.1&&Nat.beq a.2.2 b.2.2)) es bV)
 |.iter m s sn l,.iter m' s' uu l'=>Nat.beq m m'&&(Nat.beq s s'&&(Nat.beq l l'&&decide (sn=uu)))
 |.lp .ready none,.lp .ready none=>true
 |.lp .busy none,.lp .busy none=>true
 |_,_=>false
theorem EB.beq_eq {a b:EB}(h:a.beq b=true):a=b:=by
 unfold EB.beq at h
 split at h<;>first
  |(cases h;done)
  |rfl
  |skip
 ·simp only[Bool.and_eq_true,decide_eq_true_eq,beq_iff_eq] at h;obtain⟨rfl,rfl,rfl,h⟩:=h;rw[UL (Du 20) _ _ h]
 ·simp only[Bool.and_eq_true,beq_iff_eq,Nat.beq_eq] at h;obtain⟨rfl,rfl,h⟩:=h;rw[UL (fun a b h=>by
   simp only[Bool.and_eq_true,Nat.beq_eq] at h;obtain⟨a1,a2,a3⟩:=a;obtain⟨b1,b2,b3⟩:=b;obtain⟨h1,h2,h3⟩:=h;simp at h1 h2 h3;rw[Du _ _ _ h1,Du _ _ _ h2,h3]) _ _ h]
 ·simp only[Bool.and_eq_true,decide_eq_true_eq,Nat.beq_eq] at h;obtain⟨rfl,rfl,rfl,rfl⟩:=h;rfl
noncomputable def CH.newOk (h h':CH):Bool:=Nat.ble h.n h'.n&&(h'.room&&(List.range' h.n (h'.n-h.n)).all fun i=>match h'.get i with
 |some (.lp _ _)=>false
 |_=>true)
structure AnsOps (A:Type) where
 fail:A
 both:A→A→A
structure Good {A:Type}(R:AnsOps A) (G:A→Prop):Prop where
 fail:¬ G R.fail
 both:∀ a b,G (R.both a b)→G a∧G b
def VF:AnsOps Bool:=⟨false,and⟩
theorem FY:Good VF (·=true):=⟨by simp[VF],fun a b h=>by simpa [VF] using h⟩
noncomputable def FM:AnsOps (Option (Value×CH)):=⟨none,fun _ _=>none⟩
theorem Q6w (x:Value×CH):Good FM (·=some x):=⟨by simp[FM],fun a b h=>by simp[FM] at h⟩
noncomputable def CH.same (h h':CH):Bool:=Nat.beq h.n h'.n&&(List.range h.n).all fun i=>match h.get i,h'.get i with
 |none,none=>true
 |some a,some b=>a.beq b
 |_,_=>false
def EB.plainE:EB→Bool
 |.cells c _ _ _=>c.all QW
 |.map es _ _=>es.all fun kv=>QW kv.2.1
 |_=>false
noncomputable def CH.keepOk (h h':CH):Bool:=Nat.ble h.n h'.n&&(List.range h.n).all fun i=>match h.get i,h'.get i with
 |none,none=>true
 |some a,some b=>b.plainE||a.beq b
 |_,_=>false
def gcI (n0:Nat) (refs:List Nat) (i:Nat):Nat×List Nat :=
 if i<n0 then (i,refs) else if refs.contains i=true then (n0+refs.idxOf i,refs) else (n0+refs.length,refs++[i])
def Q45 (g:List Nat→Value→Option (Value×List Nat)):List Value→List Nat→Option (List Value×List Nat)
 |[],refs=>some ([],refs)
 |v::vs,refs=>match g refs v with
  |none=>none
  |some p=>match Q45 g vs p.2 with
   |none=>none
   |some q=>some (p.1::q.1,q.2)
def gcX (n0:Nat):Nat→List Nat→Value→Option (Value×List Nat)
 |0,_,_=>none
 |f+1,refs,v=>match v with
  |.pointer (some ⟨i,o,none⟩)=>some (.pointer (some ⟨(gcI n0 refs i).1,o,none⟩),(gcI n0 refs i).2)
  |.slice (some ⟨i,o,none⟩) l c=>some (.slice (some ⟨(gcI n0 refs i).1,o,none⟩) l c,(gcI n0 refs i).2)
  |.map (some i)=>some (.map (some (gcI n0 refs i).1),(gcI n0 refs i).2)
  |.chan none=>some (.chan none,refs)
  |.iface t u=>match gcX n0 f refs u with
   |some p=>some (.iface t p.1,p.2)
   |none=>none
  |.agg cs=>match Q45 (gcX n0 f) cs.toList refs with
   |some p=>some (.agg p.1.toArray,p.2)
   |none=>none
  |.tuple cs=>match Q45 (gcX n0 f) cs.toList refs with
   |some p=>some (.tuple p.1.toArray,p.2)
   |none=>none
  |.func (.func g) fs cs=>match Q45 (gcX n0 f) fs.toList refs with
   |some p=>match Q45 (gcX n0 f) cs.toList p.2 with
    |some q=>some (.func (.func g) p.1.toArray q.1.toArray,q.2)
    |none=>none
   |none=>none
  |v=>if QW v=true then some (v,refs) else none
def Z15 (n0:Nat):List JP→List Nat→Option (List JP×List Nat)
 |[],refs=>some ([],refs)
 |e::es,refs=>match gcX n0 8 refs e.2.1 with
  |none=>none
  |some p=>match Z15 n0 es p.2 with
   |none=>none
   |some q=>some ((e.1,p.1,e.2.2)::q.1,q.2)
def gcB (n0:Nat) (refs:List Nat):EB→Option (EB×List Nat)
 |.cells c e w t=>match Q45 (gcX n0 8) c refs with
  |some p=>some (.cells p.1 e w t,p.2)
  |none=>none
 |.map es cl w=>match Z15 n0 es refs with
  |some p=>some (.map p.1 cl w,p.2)
  |none=>none
 |_=>none
noncomputable def Q3c (h':CH) (n0:Nat):Nat→Nat→List Nat→CH→Option (CH×List Nat)
 |0,_,_,_=>none
 |f+1,k,refs,acc=>if refs.length≤k then (if k=refs.length then some (acc,refs) else none) else match h'.get (refs.getD k 0) with
  |none=>none
  |some b=>match gcB n0 refs b with
   |none=>none
   |some p=>if acc.room=true then Q3c h' n0 f (k+1) p.2 (acc.push p.1) else none
noncomputable def Q59 (h h':CH) (refs:List Nat):Option (CH×List Nat) :=
 if h.keepOk h'=true then Q3c h' h.n 100000 0 refs ⟨h'.t,h.n⟩ else none
noncomputable def ED (h h':CH) (v:Value):Option (Value×CH):=match gcX h.n 8 [] v with
 |none=>none
 |some p=>match Q59 h h' p.2 with
  |none=>none
  |some q=>some (p.1,q.1)
noncomputable def joinOps:AnsOps (Option (Value×CH)):=⟨none,fun a b=>match a with
 |some x=>match b with
  |some y=>if FH 20 x.1 y.1=true∧x.2.same y.2=true then some x else none
  |none=>none
 |none=>none⟩
structure ET where
 t:GT Value
 m:Nat
noncomputable def ET.get (e:ET) (i:Nat):Value:=Bool.rec (motive:=fun _=>Value) undef (e.t.get undef i) (Nat.blt i e.m)
noncomputable def ET.set (e:ET) (i:Nat) (v:Value):ET:=Bool.rec (motive:=fun _=>ET) e ⟨e.t.set undef 32 i v,e.m⟩ (Nat.blt i e.m)
noncomputable def ET.put (e:ET) (d:Option Nat) (v:Value):ET:=Option.rec (motive:=fun _=>ET) e (fun d=>e.set d v) d
noncomputable def etL (l:List Value):Nat→GT Value→GT Value:=List.rec (motive:=fun _=>Nat→GT Value→GT Value) (fun _ t=>t) (fun v _ ih i t=>ih (i+1) (t.set undef 32 i v)) l
noncomputable def ET.of (args:List Value) (nt:Nat):ET:=⟨etL args 0 .nil,args.length+(nt-args.length)⟩
noncomputable def Dd (e:ET) (x:Operand):Value:=Operand.rec (motive:=fun _=>Value) (fun t=>e.get t) (fun v=>v) (fun g=>.pointer (some ⟨g,0,some 0⟩)) (fun f=>.func (.func f) #[] #[]) x
noncomputable def Q5q (e:ET) (ps:List Nat):List Value→ET:=List.rec (motive:=fun _=>ET→List Value→ET) (fun e _=>e) (fun p _ ih e vs=>List.rec (motive:=fun _=>ET) e (fun v vs _=>ih (e.set p v) vs) vs) ps e
noncomputable def Q2j (e:ET) (g:Option (Nat×Bool)):Option Bool:=match g with
 |none=>some true
 |some (d,want)=>match e.get d with
  |.bool b=>some (b==want)
  |.tuple _=>some false
  |_=>none
noncomputable def ET.list (e:ET):List Value:=(List.range e.m).map e.get
noncomputable def Q8i (h h':CH) (e:ET):Option (Value×CH):=ED h h' (.tuple e.list.toArray)
structure RCtx where
 ps:List Nat
 a:VCode
 b:VCode
 env:ET
abbrev Ys:=List (Nat×RCtx)
def Ys.find:Ys→Nat→Option RCtx
 |[],_=>none
 |(j,c)::l,i=>if Nat.beq i j=true then some c else Ys.find l i
structure Memo where
 args:List Value
 bl:List PB
 v:Value
 fr:List PB
def Q7r (g:Value→Option Value):List Value→Option (List Value)
 |[]=>some []
 |v::vs=>match g v with
  |none=>none
  |some u=>match Q7r g vs with
   |none=>none
   |some us=>some (u::us)
def shX (a m d:Nat):Nat→Value→Option Value
 |0,_=>none
 |f+1,v=>match v with
  |.pointer (some ⟨i,o,none⟩)=>if a≤i∧i<m then some (.pointer (some ⟨d+(i-a),o,none⟩)) else none
  |.slice (some ⟨i,o,none⟩) l c=>if a≤i∧i<m then some (.slice (some ⟨d+(i-a),o,none⟩) l c) else none
  |.agg cs=>match Q7r (shX a m d f) cs.toList with
   |some p=>some (.agg p.toArray)
   |none=>none
  |.tuple cs=>match Q7r (shX a m d f) cs.toList with
   |some p=>some (.tuple p.toArray)
   |none=>none
  |v=>if QW v=true then some v else none
noncomputable def Z1s (h:CH) (i:Nat) (b:PB):Bool:=match h.get i with
 |some (.cells c e _ t)=>decide (e=b.esz)&&(t==b.tight&&Q1s (FH 20) c b.c)
 |_=>false
noncomputable def Q1p (h:CH):List Nat→List PB→Bool
 |[],[]=>true
 |i::l,b::m=>Z1s h i b&&Q1p h l m
 |_,_=>false
noncomputable def G0:List PB→CH→CH
 |[],h=>h
 |b::l,h=>G0 l (h.push (.cells b.c b.esz true b.tight))
noncomputable def I8 (h:CH) (args:List Value) (refs:List Nat):List Memo→Option Memo
 |[]=>none
 |m::ms=>if (Q1s (FH 20) args m.args&&Q1p h refs m.bl)=true then some m else I8 h args refs ms
noncomputable def LB (h:CH) (args:List Value) (ms:List Memo):Option (Value×CH) :=
 match Q45 (gcX 0 8) args [] with
 |none=>none
 |some p=>match I8 h p.1 p.2 ms with
  |none=>none
  |some m=>match Nat.ble (h.n+m.fr.length) 1000000000 with
   |false=>none
   |true=>match shX m.bl.length (m.bl.length+m.fr.length) h.n 8 m.v with
    |some v=>some (v,G0 m.fr h)
    |none=>none
inductive FEnt where
 |code (vc:VCode) (rs:List VResult) (nt:Nat)
 |codeJ (vc:VCode) (rs:List VResult) (nt:Nat)
 |codeM (vc:VCode) (rs:List VResult) (nt:Nat) (ms:List Memo)
 |same
abbrev Tab:=FuncId→Option FEnt
abbrev Q7b:=∀ {A:Type},AnsOps A→Ys→VCode→Option Nat→ET→CH→(Exit→ET→CH→A)→A
noncomputable def R4 (env:ET) (σ:CH):VResult→Option Value
 |.tmp t=>some (env.get t)
 |.cell a agg size=>match Z0n agg size (env.get a) σ with|some p=>some p.1|none=>none
noncomputable def BO (env:ET) (σ:CH):List VResult→Option (List Value)
 |[]=>some []
 |r::rs=>match R4 env σ r with
  |none=>none
  |some v=>match BO env σ rs with
   |none=>none
   |some vs=>some (v::vs)
noncomputable def M_ (env:ET) (σ:CH) (rs:List VResult):Option Value :=
 match rs with
 |[r]=>R4 env σ r
 |rs=>match BO env σ rs with|some vs=>some (.tuple vs.toArray)|none=>none
section
variable (T:Tab) (ev:Q7b) {A:Type}(R:AnsOps A) (ys:Ys)
noncomputable def Q3r (fail:A) (rs:List VResult) (k:Value→CH→A):Exit→ET→CH→A:=fun e env h'=>match e with
  |.normal=>(match M_ env h' rs with|some v=>k v h'|none=>fail)
  |.ret=>(match M_ env h' rs with|some v=>k v h'|none=>fail)
  |_=>fail
noncomputable def Fj (f:FuncId) (args:List Value) (h:CH) (k:Value→CH→A):A :=
 match T f with
 |some (.code vc rs nt)=>match Nat.ble (ET.of args nt).m 1000000 with
  |true=>ev R ys vc none (ET.of args nt) h (Q3r R.fail rs k)
  |false=>R.fail
 |some (.codeJ vc rs nt)=>match Nat.ble (ET.of args nt).m 1000000 with
  |true=>(match ev joinOps ys vc none (ET.of args nt) h (Q3r none rs fun v h'=>ED h h' v) with
   |some x=>if x.2.room=true∧Nat.ble h.n x.2.n=true then k x.1 x.2 else R.fail
   |none=>R.fail)
  |false=>R.fail
 |some (.codeM vc rs nt ms)=>match LB h args ms with
  |some p=>k p.1 p.2
  |none=>match Nat.ble (ET.of args nt).m 1000000 with
   |true=>ev R ys vc none (ET.of args nt) h (Q3r R.fail rs k)
   |false=>R.fail
 |some .same=>match args with
  |[v]=>k v h
  |_=>R.fail
 |none=>R.fail
noncomputable def Q0e (i:Nat) (k:Value→CH→A):Exit→ET→CH→A:=fun e _ h =>
 match h.get i with
 |some (.lp .busy none)=>match e with
  |.normal=>k (.bool true) (h.upd i (.lp .ready none))
  |.ret=>k (.bool false) (h.upd i (.lp .done (some .ret)))
  |.exit id=>k (.bool false) (h.upd i (.lp .done (some (.exit id))))
  |_=>R.fail
 |_=>R.fail
noncomputable def Q4z (c:RCtx) (i:Nat) (k:Value→CH→A):Exit→ET→CH→A:=fun e bt h1=>match e with
 |.normal=>(match h1.get i with
  |some (.lp .ready none)=>ev R ys c.b (some i) bt (h1.upd i (.lp .busy none)) (Q0e R i k)
  |_=>R.fail)
 |_=>R.fail
noncomputable def Q2w (i:Nat) (args:List Value) (h:CH) (k:Value→CH→A):A :=
 match ys.find i with
 |some c=>match h.get i with
  |some (.lp .ready none)=>if args.length=c.ps.length then ev R ys c.a (some i) (Q5q c.env c.ps args) h (Q4z ev R ys c i k) else R.fail
  |_=>R.fail
 |none=>R.fail
noncomputable def Gs (i m since clock:Nat) (seen:List Nat) (h:CH) (k:Value→CH→A):List JP→Option A
 |[]=>none
 |e::es=>if seen.contains e.2.2=true then Gs i m since clock seen h k es
  else match Gs i m since clock seen h k es with
   |none=>some (k (.tuple #[.bool true,e.1,e.2.1]) (h.upd i (.iter m since (seen++[e.2.2]) clock)))
   |some a=>some (R.both (k (.tuple #[.bool true,e.1,e.2.1]) (h.upd i (.iter m since (seen++[e.2.2]) clock))) a)
noncomputable def Q6d (x:Value) (h:CH) (k:Value→CH→A):A :=
 match x with
 |.pointer (some ⟨i,0,none⟩)=>match h.get i with
  |some (.iter m since seen last)=>match h.mapAt m with
   |some (es,clock,_) =>
    if (seen.isEmpty||es.isEmpty||es.any (fun e=>decide (e.2.2<last)))=true∧es.all (fun e=>VD e.1)=true then
     (match Gs R i m since clock seen h k es with
     |none=>if es.all (fun e=>seen.contains e.2.2||decide (since≤e.2.2))=true then k (.tuple #[.bool false]) h else R.fail
     |some a=>if es.all (fun e=>seen.contains e.2.2||decide (since≤e.2.2))=true then R.both (k (.tuple #[.bool false]) h) a else a)
    else R.fail
   |none=>R.fail
  |_=>R.fail
 |_=>R.fail
noncomputable def Q57 (f:Value) (args:List Value) (h:CH) (k:Value→CH→A):A:=match f with
  |.func (.func g) first cap=>Fj T ev R ys g (first.toList++args++cap.toList) h k
  |.func (.yield i) _ _=>Q2w ev R ys i args h k
  |_=>R.fail
noncomputable def Q24 (r:Option (Value×CH)) (k:Value→CH→A):A:=match r with
  |some p=>k p.1 p.2
  |none=>R.fail
noncomputable def Q6o (o:VOp) (env:ET) (h:CH) (k:Value→CH→A):A :=
 match o with
 |.callF f args=>Fj T ev R ys f (args.map (Dd env)) h k
 |.callV f args=>Q57 T ev R ys (Dd env f) (args.map (Dd env)) h k
 |.ext (.nextMap x)=>Q6d R (Dd env x) h k
 |o=>Q24 R (EU o (Dd env) h) k
noncomputable def Q1q (l:List VOper):ET→CH→(ET→CH→A)→A :=
 List.rec (motive:=fun _=>ET→CH→(ET→CH→A)→A) (fun env h k=>k env h)
  (fun o _ ih env h k=>match Q2j env o.guard with
   |none=>R.fail
   |some true=>Q6o T ev R ys o.op env h fun v h'=>ih (env.put o.dst v) h' k
   |some false=>ih (env.put o.dst undef) h k) l
noncomputable def IB (op:VOp) (ev:Operand→Value) (v:Value) (h:CH):Bool:=match EU op ev h with
 |some q=>FH 20 q.1 v
 |none=>false
def Q1a (r:Nat) (h:CH):List (Nat×(CH→Bool))→Bool
 |[]=>true
 |c::l=>(!(Nat.ble r c.1)||c.2 h)&&Q1a r h l
noncomputable def GZ:List DOper→ET→List CH→CH→List (Nat×(CH→Bool))→(ET→CH→A)→A
 |[],env,_,h,_,k=>k env h
 |o::rest,env,hs,h,pend,k=>match Q2j env o.guard with
  |none=>R.fail
  |some true=>if o.kind=2 then
    (match Q6o T ev FM ys o.op env h (fun v h'=>some (v,h')) with
    |some p=>if h.newOk p.2=true∧Q1a hs.length p.2 pend=true then GZ rest (env.put o.dst p.1) (hs++[p.2]) p.2 pend k else R.fail
    |none=>R.fail)
   else if o.kind=1 then
    (match EU o.op (Dd env) h with
    |some p=>if (hs.drop o.kmin).all (IB o.op (Dd env) p.1)=true then
      GZ rest (env.put o.dst p.1) hs h (if hs.length≤o.kmax then (o.kmax,IB o.op (Dd env) p.1)::pend else pend) k else R.fail
    |none=>R.fail)
   else match EU o.op (Dd env) h with
    |some p=>GZ rest (env.put o.dst p.1) hs h pend k
    |none=>R.fail
  |some false=>if o.kind=2 then
    (if Q1a hs.length h pend=true then GZ rest (env.put o.dst undef) (hs++[h]) h pend k else R.fail)
   else GZ rest (env.put o.dst undef) hs h pend k
noncomputable def Q6t (env:ET) (h:CH) (a:List DOper):Option (Value×CH):=GZ T ev joinOps ys a env [h] h [] fun env h'=>Q8i h h' env
noncomputable def Ig (env:ET) (h:CH):List (List DOper)→Option (Value×CH)
 |[]=>none
 |[a]=>Q6t T ev ys env h a
 |a::b::r=>joinOps.both (Q6t T ev ys env h a) (Ig env h (b::r))
noncomputable def Rs:List DSeg→ET→CH→(ET→CH→A)→A
 |[],env,h,k=>k env h
 |.one o::rest,env,h,k=>Q1q T ev R ys [o] env h fun env h=>Rs rest env h k
 |.alts [a]::rest,env,h,k=>GZ T ev R ys a env [h] h [] fun env h=>Rs rest env h k
 |.alts l::rest,env,h,k=>match Ig T ev ys env h l with
  |some x=>(match x.1 with
   |.tuple vs=>if x.2.room=true∧Nat.ble h.n x.2.n=true∧vs.toList.length=env.m then Rs rest (ET.of vs.toList 0) x.2 k else R.fail
   |_=>R.fail)
  |none=>R.fail
noncomputable def Q5l (h:CH):Option Nat→Bool
 |none=>true
 |some i=>match h.get i with
  |some (.lp _ _)=>true
  |_=>false
def Q6z:LoopState→Bool
 |.busy=>false
 |_=>true
noncomputable def Z0h (env:ET) (i:Nat) (k:Exit→ET→CH→A):Value→CH→A:=fun _ h =>
 match h.get i with
 |some (.lp st pend)=>if Q6z st=true then (match pend with
   |none=>k .normal env (h.kill i)
   |some .ret=>k .ret env (h.kill i)
   |some (.exit id)=>k (.exit id) env (h.kill i)
   |some _=>R.fail) else R.fail
 |_=>R.fail
noncomputable def Z04 (kb k:Exit→ET→CH→A):Exit→ET→CH→A:=fun e env h=>match e with
 |.normal=>kb .normal env h
 |e=>k e env h
noncomputable def Q2h (id:Nat) (k:Exit→ET→CH→A):Exit→ET→CH→A:=fun e env h=>match e with
 |.exit h_=>if h_=id then k .normal env h else k (.exit h_) env h
 |e=>k e env h
noncomputable def Q6x (v:Value) (a b:A):A:=match v with
 |.bool true=>a
 |.bool false=>b
 |_=>R.fail
noncomputable def Q0n (g:Value) (ps:List Nat) (a b:VCode) (ro:Option Nat) (env:ET) (h:CH) (k:Exit→ET→CH→A):A:=match g with
 |.func (.func f) first cap=>match T f with
  |some (.code _ _ _)=>if Q5l h ro=true∧h.room=true then
    Fj T ev R ((h.n,⟨ps,a,b,env⟩)::ys) f (first.toList++[.func (.yield h.n) #[] #[]]++cap.toList) (h.push (.lp .ready none)) (Z0h R env h.n k)
   else R.fail
  |_=>R.fail
 |_=>R.fail
noncomputable def Ax (c:VCode):Option Nat→ET→CH→(Exit→ET→CH→A)→A :=
 VCode.rec (motive:=fun _=>Option Nat→ET→CH→(Exit→ET→CH→A)→A)
  (fun _ env h k=>k .normal env h)
  (fun ops _ env h k=>Q1q T ev R ys ops env h (k .normal))
  (fun aQ _ env h k=>Rs T ev R ys aQ env h (k .normal))
  (fun g ps a b _ _ ro env h k=>Q0n T ev R ys (Dd env g) ps a b ro env h k)
  (fun _ _ eX ep ro env h k=>eX ro env h (Z04 (fun _ ae h'=>ep ro ae h' k) k))
  (fun c _ _ eX ep ro env h k=>Q6x R (Dd env c) (eX ro env h k) (ep ro env h k))
  (fun id _ ih ro env h k=>ih ro env h (Q2h id k))
  (fun b ih ro env h k=>ih ro env h (Z04 (fun _ ae h'=>ev R ys (.loop b) ro ae h' k) k))
  (fun id _ env h k=>k (.exit id) env h)
  (fun _ env h k=>k .ret env h)
  (fun _ _ _ _=>R.fail) c
end
noncomputable def RH (T:Tab) (n:Nat):Q7b :=
 Nat.rec (motive:=fun _=>Q7b) (fun R _ _ _ _ _ _=>R.fail) (fun _ ih {_} R ys c ro env h k=>Ax T ih R ys c ro env h k) n
end Go.V