/- A framework for walks, contracts of functions, and their proofs: part 2. -/
import Derived.RangeFuncLeaves
import Derived.RangeFuncCalls
import Derived.OrdersIn
import Derived.TacticsIn
import Derived.Sort.LoopGhostIn
import Derived.Deep.LoopGhost
import Derived.Test.YtdbeaoaplpddnaaGreatDoorS1
noncomputable section
namespace Go.V
open Go
section
variable {P:Program}{S:VSpecs}{B:Nat}
def FF:Option Nat→Fence
 |none=>Fence.wide
 |some l=>Fence.wide.inRound l
theorem Q0k (ro:Option Nat) (f:FuncId):(FF ro).fn f:=by cases ro<;>trivial
theorem Cd (ro:Option Nat):(FF ro).depth=none:=by cases ro<;>rfl
theorem Q5u (ro:Option Nat):(FF ro).round=ro:=by cases ro<;>rfl
theorem IG {ro:Option Nat}{n:Nat}{f:FuncId}{args:Array Value}{w:World}{R:Ending→World→Prop}(h:Calls P f args w R):CallsIn (FF ro) n P f args w R:=by
 cases ro with
 |none=>exact callsIn_wide.2 h
 |some l=>exact CallsIn.inRound l (callsIn_wide.2 h)
theorem I6 {ro:Option Nat}{n m:Nat}{l:Nat}{f:FuncId}{tmps:Array Value}{eC body:Code}{w:World}{R:Ending→World→Prop}(h:RoundIn Fence.wide m P l f tmps eC body w R):RoundIn (FF ro) n P l f tmps eC body w R:=by refine⟨Q0k _ _,fun c cs _=>?_⟩;obtain⟨e,w',r,s⟩:=h.2 c cs (room_wide _);refine⟨e,w',r,?_⟩;cases ro<;>exact s
def Got (ρ:Plc) (σ:Heap) (w:World) (R:Value→Heap→Prop) (c:Value) (w':World):Prop :=
 ∃ v ρ' σ',R v σ'∧VRel ρ' σ'.n v c∧HRel ρ' σ' w'∧Ext ρ σ w ρ' σ' w'
def VCallsTo (P:Program) (f:FuncId) (args:List Value) (σ:Heap) (R:Value→Heap→Prop):Prop :=
 ∀ ρ w (aw:Array Value),HRel ρ σ w→LRel ρ σ.n args aw.toList→Calls P f aw w fun e w'=>∃ c,e=.returned c∧Got ρ σ w R c w'
def VCalled (P:Program) (f:FuncId) (args:List Value) (σ:Heap) (R:Value→Heap→Prop):Prop :=
 ∀ ρ w (aw:Array Value),HRel ρ σ w→LRel ρ σ.n args aw.toList →
  ((∀ w,(callFunc f aw).run P w=.ok (.enter f aw) w)∧Calls P f aw w fun e w'=>∃ c,e=.returned c∧Got ρ σ w R c w') ∨
  (∃ c,Got ρ σ w R c w∧∀ w',Like ρ w w'→(callFunc f aw).run P w'=.ok (.value c) w')
def VYields (P:Program) (i:Nat) (args:List Value) (σ:Heap) (R:Value→Heap→Prop):Prop :=
 ∀ ρ w (aw:Array Value),HRel ρ σ w→LRel ρ σ.n args aw.toList →
  ∃ p,ρ i=some p∧∃ fn tmps eC body,(Instr.yield p.blk aw).run P w=.ok (.round p.blk fn tmps eC body) w ∧
   RoundIn Fence.wide 0 P p.blk fn tmps eC body w fun e w'=>∃ c,e=.returned c∧Got ρ σ w R c w'
def XR (P:Program) (f:FuncId):Prop:=∃ fn,P.funcs[f]?=some fn∧fn.body.isSome=true∧(fn.name=="runtime.NumGoroutine")=false
def Q93 (P:Program) (f:FuncId) (s:Rr):Prop:=∀ args σ K,s args σ K→VCalled P f args σ K
def Vl (P:Program) (i:Nat) (s:Rr):Prop:=∀ args σ K,s args σ K→VYields P i args σ K
def Z1n (P:Program) (f:FuncId) (T:Nat→Rr→Rr):Prop:=XR P f∧∀ i Y,Vl P i Y→∀ args σ K,T i Y args σ K→VCallsTo P f args σ K
structure OkSpecs (P:Program) (S:VSpecs):Prop where
 fn:∀ f s,S.fn f=some s→Q93 P f s
 yl:∀ i s,S.yl i=some s→Vl P i s
 it:∀ f T,S.it f=some T→Z1n P f T
theorem MW {f:FuncId}(h:XR P f) (args:Array Value) (w:World):(callFunc f args).run P w=.ok (.enter f args) w:=by
 obtain⟨fn,h1,h2,h3⟩:=h;have h4:¬ fn.body=none:=fun e=>by rw[e] at h2;cases h2
 have h5:¬ fn.name="runtime.NumGoroutine":=fun e=>by rw[e] at h3;simp at h3
 simp[callFunc,h1,h4,h5]
theorem VCallsTo.called {f:FuncId}{args:List Value}{σ:Heap}{R:Value→Heap→Prop}(he:XR P f) (h:VCallsTo P f args σ R):VCalled P f args σ R :=
 fun ρ w aw hH hL=>.inl ⟨fun w=>MW he aw w,h ρ w aw hH hL⟩
theorem Got.mono {ρ:Plc}{σ:Heap}{w:World}{R R':Value→Heap→Prop}{c:Value}{w':World}(h:Got ρ σ w R c w') (hr:∀ v σ',R v σ'→R' v σ'):Got ρ σ w R' c w' :=
 let ⟨v,ρ',σ',h1,h2⟩:=h;⟨v,ρ',σ',hr _ _ h1,h2⟩
theorem VCallsTo.mono {f:FuncId}{args:List Value}{σ:Heap}{R R':Value→Heap→Prop}(h:VCallsTo P f args σ R) (hr:∀ v σ',R v σ'→R' v σ'):VCallsTo P f args σ R' :=
 fun ρ w aw hH hL=>(h ρ w aw hH hL).mono fun _ _ ⟨c,he,hg⟩=>⟨c,he,hg.mono hr⟩
theorem KA {ρ:Plc}{n:Nat}{env:Env}{a:Act}(h:LRel ρ n env a.tmps.toList) {v c:Value}(hv:VRel ρ n v c) (d:Option Nat):LRel ρ n (Xv env d v) (a.put d c).tmps.toList:=by
 cases d with
 |none=>exact h
 |some d=>simp only[Xv,Act.put,Array.toList_setIfInBounds];exact h.set d hv
theorem ZE (env:Env) (d:Option Nat) (v:Value):List.length (Xv env d v)=List.length env:=by cases d<;>simp[Xv]
theorem Xx (a:Act) (d:Option Nat) (c:Value):(a.put d c).defers=a.defers:=by cases d<;>rfl
theorem BN {ρ:Plc}{n:Nat}{env:Env}{a:Act}{ops:Array Oper}{o:Oper}{vo:VOper}(hc:Jf P ops o=some vo) (hL:LRel ρ n env a.tmps.toList) {b:Bool}(h:Je env vo.guard=some b) :
  Region.wanted o (yielded ops a.tmps)=b∧vo.dst=o.dst∧K_ P o.op=vo.op:=by
 unfold Jf at hc;simp only[Option.bind_eq_bind] at hc;cases hg:o.guard with
 |none =>simp[hg] at hc;subst hc;simp[Je] at h;subst h;simp[Region.wanted,hg]
 |some jw =>
  obtain⟨j,want⟩:=jw;simp[hg] at hc;cases hj:ops[j]? with
  |none=>simp[hj] at hc
  |some oj =>
   cases hd:oj.dst with
   |none=>simp[hj,hd] at hc
   |some d =>
    simp[hj,hd] at hc;subst hc;refine⟨?_,rfl,rfl⟩;simp only[Je] at h;simp only[Region.wanted,hg,yielded,hj,Option.bind_some,hd];have hlen:List.length env=a.tmps.size:=by have:=hL.1;rw[Array.length_toList] at this;exact this
    rcases Nat.lt_or_ge d (List.length env) with ah|bh
    ·have bZ:d<a.tmps.size:=by rw[←hlen];exact ah
     have hr:=hL.2 d env[d] a.tmps[d] (List.getElem?_eq_getElem ah) (by simp[bZ]);have he:env.getD d undef=env[d]:=by simp[List.getD,ah]
     rw[he] at h;simp only[Array.getElem?_eq_getElem bZ];split at h
     ·rename_i b' heq;rw[heq] at hr;rw[hr.bool_inv];simp at h;simp[←h]
     ·rename_i vs heq;rw[heq] at hr;obtain⟨ds,hds,_⟩:=hr.tuple_inv;rw[hds];simp at h;subst h;simp
     ·cases h
    ·have he:env.getD d undef=undef:=by simp[List.getD,List.getElem?_eq_none bh]
     rw[he] at h;have:a.tmps[d]?=none:=Array.getElem?_eq_none (by rw[←hlen];exact bh);simp only[this];simp[undef] at h;subst h;simp
theorem Q4t {o:Oper}{vo:VOp}(hc:Uz P o.op=some vo) {ρ:Plc}{σ:Heap}{env:Env}{a:Act}(hL:LRel ρ σ.n env a.tmps.toList) {K:Value→Heap→Prop}
  (aB:(∃ f bP,vo=.callF f bP)∨(∃ f bP,vo=.callV f bP)) {σ0:Heap}(h:vop S vo env σ0 K) :
  (∃ f args aw,vcall S f args σ0 K∧LRel ρ σ.n args aw.toList∧∀ w,(execOp a.eval o).run P w=(callFunc f aw).run P w) ∨
  (∃ i r args aw,O9 S i args σ0 K∧VRel ρ σ.n (.func (.yield i) #[] #[]) (.func (.yield r) #[] #[])∧LRel ρ σ.n args aw.toList∧∀ w,(execOp a.eval o).run P w=(Instr.yield r aw).run P w):=by
 have bn:=hc;cases dk:Uz P o.op with
 |none=>rw[dk] at hc;cases hc
 |some tP =>
  clear dk hc tP;obtain⟨dst,op,ty,pos,after,guard⟩:=o;simp only at bn;unfold Uz at bn;split at bn
  ·cases bn
  rename_i ak;simp only[Bool.not_eq_true,Bool.not_eq_false'] at ak;cases op
  case call c =>
   simp only[Op.operands] at ak bn;split at bn
   ·rename_i f aL;simp at bn;subst bn;simp only[vop] at h;have av:(c.args.toList).all XI=true:=by
     simp only[Call.operands,aL,Array.toList_append,List.all_append,Bool.and_eq_true] at ak;exact ak.2
    refine .inl ⟨f,_,c.args.map a.eval,h,by have:=Ca (fun x hx=>WK hL hx) av;simpa using this,fun w=>?_⟩;simp[execOp,resolve,aL,Act.eval,Deferred.ofValue,invoke]
   ·rename_i fo aC aL;simp at bn;subst bn;simp only[vop] at h;simp only[Call.operands,aL,Array.toList_append,List.all_append,Bool.and_eq_true] at ak;have hf:=WK hL (x:=fo) (by simpa using ak.1);have has:=Ca (fun x hx=>WK hL hx) ak.2;split at h
    ·rename_i g first cap heq
     rw[heq] at hf;cases kf:a.eval fo with
     |func fn gs ds =>
      rw[kf] at hf;cases hf with
      |func _ _ _ _ _ h1 h2 h3 h4 =>
       refine .inl ⟨g,_,gs++c.args.map a.eval++ds,h,?_,fun w=>?_⟩
       ·have dH:=LRel.of_array h1 h3;have cz:=LRel.of_array h2 h4;have:=(dH.append has).append cz;simpa using this
       ·simp[execOp,resolve,aL,kf,Deferred.ofValue,invoke]
     |_=>rw[kf] at hf;cases hf
    ·rename_i i first cap heq
     rw[heq] at hf;have hinv:∀ c,VRel ρ σ.n (.func (.yield i) first cap) c→∃ r,c=.func (.yield r) #[] #[]∧VRel ρ σ.n (.func (.yield i) #[] #[]) (.func (.yield r) #[] #[]):=by
      intro c h;cases h with
      |yield _ r hi hr=>exact⟨r,rfl,.yield i r hi hr⟩
     obtain⟨r,kf,hv⟩:=hinv _ hf;refine .inr ⟨i,r,_,c.args.map a.eval,h,hv,by simpa using has,fun w=>?_⟩;simp[execOp,resolve,aL,kf,Deferred.ofValue,invoke]
    ·cases h
   all_goals
    repeat' first
     |(cases bn;done)
     |(simp at bn;subst bn;rcases aB with⟨f,bP,h⟩|⟨f,bP,h⟩<;>cases h;done)
     |split at bn
   all_goals
    simp only[Option.bind_eq_bind,Option.bind_eq_some_iff] at bn;obtain⟨_,_,_,_,bn⟩:=bn;split at bn<;>simp at bn;subst bn;rcases aB with⟨f,bP,h⟩|⟨f,bP,h⟩<;>cases h
  all_goals simp only[Op.operands] at ak bn
  all_goals
   repeat' first
    |(cases bn;done)
    |(simp at bn;subst bn;rcases aB with⟨f,bP,h⟩|⟨f,bP,h⟩<;>cases h;done)
    |split at bn
  all_goals simp only[Option.bind_eq_bind,Option.bind_eq_some_iff,reduceCtorEq,and_false,exists_false] at bn
  all_goals first
   |(obtain⟨_,_,bn⟩:=bn;simp at bn;subst bn;rcases aB with⟨f,bP,h⟩|⟨f,bP,h⟩<;>cases h;done)
   |(obtain⟨_,_,_,_,bn⟩:=bn;simp at bn;subst bn;rcases aB with⟨f,bP,h⟩|⟨f,bP,h⟩<;>cases h;done)
   |(obtain⟨_,_,_,_,_,_,bn⟩:=bn;simp at bn;subst bn;rcases aB with⟨f,bP,h⟩|⟨f,bP,h⟩<;>cases h;done)
   |(obtain⟨d,_,bn⟩:=bn;cases d<;>simp at bn<;>subst bn<;>rcases aB with⟨f,bP,h⟩|⟨f,bP,h⟩<;>cases h;done)
   |(obtain⟨_,_,_,_,bn⟩:=bn;split at bn<;>simp at bn;subst bn;rcases aB with⟨f,bP,h⟩|⟨f,bP,h⟩<;>cases h;done)
   |(obtain⟨_,_,bn⟩:=bn;split at bn<;>simp at bn;subst bn;rcases aB with⟨f,bP,h⟩|⟨f,bP,h⟩<;>cases h;done)
theorem Mo {o:Op}{vo:VOp}(h:K_ P o=vo) (hv:vo≠.bad):Uz P o=some vo∨∃ x,Sv P o=some x∧vo=.ext x:=by
 unfold K_ at h;split at h
 ·rename_i v gx;subst h;exact .inl gx
 ·split at h
  ·rename_i x hx;exact .inr ⟨x,hx,h.symm⟩
  ·exact absurd h.symm hv
theorem OG {o:Op}{x:XOp}(h:Uz P o=some (.ext x)):False:=by
 unfold Uz at h
 repeat' first
  |contradiction
  |(cases h;done)
  |(simp at h;done)
  |(rw[Option.bind_eq_bind,Option.bind_eq_some_iff] at h;obtain⟨_,_,h⟩:=h)
  |split at h
theorem CV {o:Op}{vo:VOp}(h:K_ P o=vo) (hv:vo≠.bad) (c:Call):o≠.defer c:=by
 rintro rfl;rcases Mo h hv with h|⟨x,h,_⟩
 ·unfold Uz at h;split at h<;>simp at h
 ·unfold Sv at h;split at h<;>simp at h
theorem Om {o:Oper}{x:Operand}(hc:Sv P o.op=some (.nextMap x)) {ρ:Plc}{σ:Heap}{w:World}{env:Env}{ev:Operand→Value}(hH:HRel ρ σ w) (hE:∀ x,XI x=true→VRel ρ σ.n (Q3 env x) (ev x))
  {K:Value→Heap→Prop}(h:I4 (Q3 env x) σ K):∃ c w',(execOp ev o).run P w=.ok (.value c) w'∧Got ρ σ w K c w':=by
 obtain⟨dst,op,ty,pos,after,guard⟩:=o;simp only at hc;unfold Sv at hc;split at hc
 ·cases hc
 rename_i ak;simp only[Bool.not_eq_true,Bool.not_eq_false'] at ak;have bK:op=.next x false:=by
  cases op
  case next y b=>cases b<;>simp at hc;subst hc;rfl
  all_goals
   simp only at hc
   repeat' first
    |contradiction
    |(obtain⟨_,h⟩:=Q00 hc;cases h;done)
    |(cases hc;done)
    |(simp at hc;done)
    |(rw[Option.bind_eq_bind,Option.bind_eq_some_iff] at hc;obtain⟨_,_,hc⟩:=hc)
    |split at hc
 subst bK;clear hc;simp[Op.operands] at ak;have hx:=hE x ak;unfold I4 at h;split at h
 ·rename_i i bF;rw[bF] at hx;split at h
  ·rename_i m since seen last hb;split at h
   ·rename_i es clock wr aG;obtain⟨h1,hall,h2,h3⟩:=h;obtain⟨p,hp,⟨_,dL⟩,O,hO,rm,rfl,oW⟩:=hH.live i _ hb;obtain⟨q,entries,iI,cL,aE,aF⟩:=XQ hH aG oW;simp at iI;subst iI;obtain⟨_,_,cK⟩:=hx.ptr_inv hp;rw[dL,Nat.zero_add] at cK;have hg1:(getObj p.blk).run P w=.ok (.mapIter (some q.blk) since seen.toArray last) w:=Qs hO (fun _ _ _ e=>by cases e);have cW:(getObj q.blk).run P w=.ok (.map entries clock) w:=Qs aE (fun _ _ _ e=>by cases e);let left:=entries.filter fun e=>!seen.toArray.contains e.born;let aY:=left.filter (·.born<since);let new:=left.filter (·.born≥since);let bL:Array (Option MapEntry):=(if aY.isEmpty then #[none] else #[])++(aY++new).map some;have dw:0<bL.size:=by
     by_cases ho:aY.isEmpty=true
     ·simp only[bL,ho,if_true,Array.size_append];show 0<1+_;omega
     ·have:aY.size≠0:=fun e=>ho (by simp[Array.isEmpty,e]);simp only[bL,Array.size_append,Array.size_map];omega
    obtain⟨k,w1,hk,eN,p9⟩:∃ k w1,k<bL.size∧(choose (.mapNext bL.size)).run P w=.ok k w1∧(w1=w∨w1=w.drew):=by
     rw[run_choose_drew];by_cases hf:(Question.mapNext bL.size).forced=true
     ·exact⟨0,w,dw,by rw[if_pos hf],.inl rfl⟩
     ·refine⟨_,w.drew,?_,by rw[if_neg hf],.inr rfl⟩;exact Nat.mod_lt _ dw
    have jm:HRel ρ σ w1:=by rcases p9 with rfl|rfl;exact hH;exact hH.drew
    have fD:Ext ρ σ w ρ σ w1:=by rcases p9 with rfl|rfl;exact Ext.refl _ _ _;exact Ext.drew _ _ _
    have tQ:w1.heap[p.blk]?=some (.mapIter (some q.blk) since seen.toArray last):=by rcases p9 with rfl|rfl<;>exact hO
    have ao:¬ ((!seen.toArray.isEmpty&&!entries.isEmpty&&entries.all (fun e=>decide (e.born≥last)))=true):=by
     intro hh;simp only[Bool.and_eq_true] at hh;obtain⟨⟨h4,h5⟩,h6⟩:=hh;simp only[Bool.or_eq_true] at h1;rcases h1 with (h1|h1)|h1
     ·rw[List.isEmpty_iff] at h1;subst h1;simp at h4
     ·rw[List.isEmpty_iff] at h1;subst h1;have:entries=#[]:=by have:=aF.1;simpa using this
      subst this;simp at h5
     ·obtain⟨kv,dm,ah⟩:=List.any_eq_true.1 h1;obtain⟨j,hj⟩:=List.mem_iff_getElem?.1 dm;have b6:j<entries.toList.length:=by rw[aF.1];exact(List.getElem?_eq_some_iff.1 hj).1
      have he:=aF.2 j entries.toList[j] kv (List.getElem?_eq_getElem b6) hj;have:=Array.all_eq_true'.1 h6 entries.toList[j] (by rw[←Array.mem_toList_iff];exact List.getElem_mem b6);have h7:=he.2.1;simp at this ah;simp at h7;omega
    have aZ:∀ r,(match bL[k]? with
      |some (some e)=>(do setObj p.blk (.mapIter (some q.blk) since (seen.toArray.push e.born) clock);pure (Value.tuple #[.bool true,e.key,e.val]):Sem Value)
      |some none=>pure (.tuple #[.bool false])
      |none=>stuck "Next: no such candidate").run P w1=r→(Instr.next (ev x) false ty).run P w=r:=by
     intro r hr;rw[←hr];simp only[Instr.next,cK,Sem.run_bind,hg1,cW,Result.andThen_ok];rw[if_neg ao];simp only[Sem.run_bind];change ((choose (Question.mapNext bL.size)).run P w).andThen _=_;rw[eN];rfl
    have hval:∀ c w',(Instr.next (ev x) false ty).run P w=.ok c w'→(execOp ev ⟨dst,.next x false,ty,pos,after,guard⟩).run P w=.ok (.value c) w':=fun c w' h=>by simp[execOp,h]
    have fa:bL[k]?=some bL[k]:=Array.getElem?_eq_getElem hk;cases hx:bL[k] with
    |none =>
     rw[hx] at fa;have aJ:none∈bL:=hx▸Array.getElem_mem hk;have hold:aY.isEmpty=true:=by
      cases ho:aY.isEmpty with
      |true=>rfl
      |false=>simp[bL,ho] at aJ
     refine⟨_,w1,hval _ _ (aZ _ (by rw[fa];rfl)),_,ρ,σ,h2 ?_,VRel.tuple_of (LRel.cons (.bool _) (LRel.nil _ _)),jm,fD⟩;refine List.all_eq_true.2 fun kv dm=>?_;obtain⟨j,hj⟩:=List.mem_iff_getElem?.1 dm;have b6:j<entries.toList.length:=by rw[aF.1];exact(List.getElem?_eq_some_iff.1 hj).1
     have he:=aF.2 j entries.toList[j] kv (List.getElem?_eq_getElem b6) hj;cases oZ:seen.contains kv.2.2 with
     |true=>rfl
     |false =>
      simp only[Bool.false_or,decide_eq_true_eq];rcases Nat.lt_or_ge kv.2.2 since with ah|bh
      ·exfalso;have:entries.toList[j]∈aY:=by
        simp only[aY,left,Array.mem_filter,decide_eq_true_eq];refine⟨⟨by rw[←Array.mem_toList_iff];exact List.getElem_mem b6,?_⟩,by rw[he.2.1];exact ah⟩;rw[he.2.1];simpa using oZ
       rw[Array.isEmpty_iff] at hold;rw[hold] at this;simp at this
      ·exact bh
    |some e =>
     rw[hx] at fa;have aJ:some e∈bL:=hx▸Array.getElem_mem hk;have dp:e∈left:=by
      have h4:e∈aY++new:=by
       simp only[bL,Array.mem_append,Array.mem_map] at aJ;rcases aJ with aJ|⟨a,ha,oT⟩
       ·split at aJ<;>simp at aJ
       ·simp at oT;subst oT;simpa using ha
      rcases Array.mem_append.1 h4 with h4|h4
      ·exact(Array.mem_filter.1 h4).1
      ·exact(Array.mem_filter.1 h4).1
     obtain⟨hel,mr⟩:=Array.mem_filter.1 dp;rw[←Array.mem_toList_iff] at hel;obtain⟨j,hj⟩:=List.mem_iff_getElem?.1 hel;have b6:j<es.length:=by rw[←aF.1];exact(List.getElem?_eq_some_iff.1 hj).1
     have he:=aF.2 j e es[j] hj (List.getElem?_eq_getElem b6);have jv:=h3 es[j] (List.getElem_mem b6) (by rw[←he.2.1];simpa using mr);obtain⟨k1,k2⟩:=jm.setObj (o':=.iter m since (seen++[es[j].2.2]) clock) (O':=.mapIter (some q.blk) since (seen.toArray.push e.born) clock) hp hb ⟨q.blk,by rw[he.2.1];simp,oW⟩;have aR:VRel ρ σ.n es[j].1 e.key:=by rw[he.1];exact Uo (List.all_eq_true.1 hall _ (List.getElem_mem b6))
     refine⟨_,_,hval _ _ (aZ _ (by
      rw[fa];simp only[Sem.run_bind,QG tQ (fun _ _ _ e=>by cases e),Result.andThen_ok,Sem.run_pure])),_,ρ,_,jv,VRel.tuple_of (LRel.cons (.bool _) (LRel.cons aR (LRel.cons he.2.2 (LRel.nil _ _)))),k1,fD.trans k2⟩
   ·exact h.elim
  ·exact h.elim
 ·exact h.elim
theorem Q1q (hS:OkSpecs P S) {f:FuncId}{args:List Value}{σ:Heap}{K:Value→Heap→Prop}(h:vcall S f args σ K):VCalled P f args σ K:=by
 unfold vcall at h;split at h
 ·rename_i s hs;exact hS.fn f s hs _ _ _ h
 ·exact h.elim
theorem Oq (hS:OkSpecs P S) {i:Nat}{args:List Value}{σ:Heap}{K:Value→Heap→Prop}(h:O9 S i args σ K):VYields P i args σ K:=by
 unfold O9 at h;split at h
 ·rename_i s hs;exact hS.yl i s hs _ _ _ h
 ·exact h.elim
theorem Q3q {o:Oper}{vo:VOp}(hc:K_ P o.op=vo) {ρ:Plc}{σ:Heap}{w:World}{env:Env}{a:Act}(hH:HRel ρ σ w) (hL:LRel ρ σ.n env a.tmps.toList) {v:Value}{σ':Heap}
  (h:Q4 vo (Q3 env) σ=some (v,σ')):CB P ρ σ w v σ' (execOp a.eval o):=by
 cases hq:vo.quiet with
 |false=>exact Q5q hc hq hH (fun x hx=>WK hL hx) h
 |true =>obtain⟨rfl,c,ew,hr⟩:=Q2k hc hq hH (fun x hx=>WK hL hx) h;exact⟨c,w,ρ,.inl (hr w (Like.refl ρ w)),ew,hH,Ext.refl _ _ _⟩
theorem UH (hS:OkSpecs P S) {ro:Option Nat}{n:Nat}{o:Oper}{vo:VOp}(bK:K_ P o.op=vo) {ρ:Plc}{σ:Heap}{w:World}{env:Env}{a:Act}(hH:HRel ρ σ w) (hL:LRel ρ σ.n env a.tmps.toList)
  {K:Value→Heap→Prop}(h:vop S vo env σ K) {next:Act→World→Prop}{Q':Exit→Act→World→Prop}(hn:∀ c w',Got ρ σ w K c w'→next (a.put o.dst c) w'):o.wpIn (FF ro) n P a w next Q':=by
 refine⟨fun f _=>Q0k _ _,?_⟩;have cD:vo≠.bad:=by rintro rfl;exact h.elim
 rw[Oper.semAt_eq _ _ _ (CV bK cD)];by_cases aB:(∃ f bP,vo=.callF f bP)∨(∃ f bP,vo=.callV f bP)
 ·have hc:Uz P o.op=some vo:=by
   rcases Mo bK cD with hc|⟨x,_,hx⟩
   ·exact hc
   ·subst hx;rcases aB with⟨f,bP,hh⟩|⟨f,bP,hh⟩<;>cases hh
  rcases Q4t (S:=S) hc hL aB h with⟨f,args,aw,hv,mV,hr⟩|⟨i,r,args,aw,hv,cn,mV,hr⟩
  ·rcases Q1q hS hv ρ w aw hH mV with⟨h1,h2⟩|⟨c,hg,h2⟩
   ·rw[hr,h1];exact⟨(fun hd=>by rw[Cd] at hd;cases hd),(IG h2).mono fun e w' ⟨c,he,hg⟩=>by subst he;exact hn c w' hg⟩
   ·rw[hr,h2 w (Like.refl ρ w)];exact hn c w hg
  ·obtain⟨p,hp,fn,tmps,eC,body,h1,h2⟩:=Oq hS hv ρ w aw hH mV;have tR:r=p.blk:=by
    cases cn with
    |yield _ _ _ hh=>exact hh p hp
   rw[hr,tR,h1];exact⟨(fun hd=>by rw[Cd] at hd;cases hd),(I6 h2).mono fun e w' ⟨c,he,hg⟩=>by subst he;exact hn c w' hg⟩
 ·by_cases eD:∃ x,vo=.ext (.nextMap x)
  ·obtain⟨x,rfl⟩:=eD;have hc:Sv P o.op=some (.nextMap x):=by
    rcases Mo bK cD with hc|⟨y,hy,hx⟩
    ·have:=OG hc;exact this.elim
    ·cases hx;exact hy
   obtain⟨c,w',hr,hg⟩:=Om hc hH (fun x hx=>WK hL hx) h;rw[hr];exact hn c w' hg
  ·have fU:∃ v σ',Q4 vo (Q3 env) σ=some (v,σ')∧K v σ':=by
    unfold vop at h;split at h
    ·exact absurd (.inl ⟨_,_,rfl⟩) aB
    ·exact absurd (.inr ⟨_,_,rfl⟩) aB
    ·exact absurd ⟨_,rfl⟩ eD
    ·cases dP:Q4 vo (Q3 env) σ with
     |none=>rw[dP] at h;exact h.elim
     |some p=>rw[dP] at h;exact⟨p.1,p.2,rfl,h⟩
   obtain⟨v,σ',dP,hK⟩:=fU;obtain⟨c,w',ρ',aZ,ew,gG,hE⟩:=Q3q bK hH hL dP;have hg:Got ρ σ w K c w':=⟨v,ρ',σ',hK,ew,gG,hE⟩;rcases aZ with aZ|⟨aZ,rfl⟩
   ·rw[aZ];exact hn c w' hg
   ·rw[aZ];exact hn undef w' hg
def Mks (B:Nat) (ds:List Deferred) (w:World):Prop:=B≤w.heap.size∧∃ Ds:List Nat,ds=Ds.map (fun D=>⟨.collected D,#[]⟩)∧Ds.Nodup∧∀ D∈Ds,B≤D∧w.heap[D]?=some (.deferred (some []))
theorem Mks.nil {w:World}(h:B≤w.heap.size):Mks B [] w:=⟨h,[],rfl,List.nodup_nil,fun _ h=>by cases h⟩
theorem Mks.ext {ds:List Deferred}{ρ ρ':Plc}{σ σ':Heap}{w w':World}(h:Mks B ds w) (hH:HRel ρ σ w) (hE:Ext ρ σ w ρ' σ' w'):Mks B ds w':=by
 obtain⟨h0,Ds,h1,h2,h3⟩:=h;refine⟨Nat.le_trans h0 hE.size,Ds,h1,h2,fun D hD=>⟨(h3 D hD).1,?_⟩⟩;have hb:=(h3 D hD).2;have ah:D<w.heap.size:=by
  rcases Nat.lt_or_ge D w.heap.size with h'|h'
  ·exact h'
  ·rw[Array.getElem?_eq_none h'] at hb;cases hb
 rw[hE.keep D ah (fun ⟨i,p,b,hp,_,_,tS⟩=>hH.not_deferred hb i p hp tS)];exact hb
def PM (B m:Nat) (ρ:Plc) (σ:Heap) (w:World) (K:Env→Heap→Prop) (a':Act) (w':World):Prop :=
 ∃ ae ρ' σ',K ae σ'∧List.length ae=m∧HRel ρ' σ' w'∧LRel ρ' σ'.n ae a'.tmps.toList∧Mks B a'.defers w'∧Ext ρ σ w ρ' σ' w'
theorem Q12 (hS:OkSpecs P S) {ro:Option Nat}{n:Nat}(ops:Array Oper) (Q:Exit→Act→World→Prop):∀ (l:List Oper) (lv:List VOper),l.mapM (Jf P ops)=some lv →
  ∀ (env:Env) (σ:Heap) (K:Env→Heap→Prop) (ρ:Plc) (w:World) (a:Act),Bw S lv env σ K→HRel ρ σ w→LRel ρ σ.n env a.tmps.toList→Mks B a.defers w →
  (∀ a' w',PM B (List.length env) ρ σ w K a' w'→Q .normal a' w')→wpListIn (FF ro) n P ops Q l a w:=by
 intro l;induction l with
 |nil =>intro lv b_ env σ K ρ w a h hH hL hd hQ;simp at b_;subst b_;exact hQ a w ⟨env,ρ,σ,h,rfl,hH,hL,hd,Ext.refl _ _ _⟩
 |cons o l ih =>
  intro lv b_ env σ K ρ w a h hH hL hd hQ;rw[List.mapM_cons] at b_;cases bn:Jf P ops o with
  |none=>simp[bn] at b_
  |some vo =>
   cases j_:l.mapM (Jf P ops) with
   |none=>simp[bn,j_] at b_
   |some sg =>
    simp[bn,j_] at b_;subst b_;simp only[Bw] at h;cases hw:Je env vo.guard with
    |none=>rw[hw] at h;exact h.elim
    |some b =>
     rw[hw] at h;obtain⟨dq,bD,bK⟩:=BN bn hL hw;obtain⟨ht,hf⟩:=h;simp only[wpListIn];rw[dq];cases b with
     |false =>rw[if_neg (by simp)];exact⟨fun f _=>Q0k _ _,ih sg j_ (Xv env vo.dst undef) σ K ρ w _ (hf rfl) hH (by rw[bD];exact KA hL JN o.dst) (by rw[Xx];exact hd) (fun a' w' hn=>hQ a' w' (by rw[ZE] at hn;exact hn))⟩
     |true =>
      rw[if_pos rfl];refine UH hS bK hH hL (ht rfl) fun c w' ⟨v,ρ',σ',hK,ew,gG,hE⟩=>?_
      exact ih sg j_ (Xv env vo.dst v) σ' K ρ' w' _ hK gG (by rw[bD];exact KA (hE.lrel hL) ew o.dst) (by rw[Xx];exact hd.ext hH hE)
       (fun a' oK ⟨ng,eI,aD,k1,k0,k2,k3,k4,k5⟩=>hQ a' oK ⟨ng,eI,aD,k1,by rw[k0,ZE],k2,k3,k4,hE.trans k5⟩)
theorem A7:∀ (l:List Nat) (vs:List Value) (env:Env),(XM l vs env).length=env.length:=by
 intro l;induction l with
 |nil=>intro vs env;cases vs<;>rfl
 |cons i l ih =>
  intro vs env;cases vs with
  |nil=>rfl
  |cons v vs=>simp only[XM];rw[ih];simp
theorem Q0q {ρ:Plc}{n:Nat}:∀ (l:List Nat) (env base:Env) (cs:List Value),LRel ρ n env cs→LRel ρ n base cs→LRel ρ n (XM l (Bm l env) base) cs:=by
 intro l;induction l with
 |nil=>intro env base cs _ hb;exact hb
 |cons i l ih =>
  intro env base cs he hb;simp only[Bm,List.map_cons,XM];refine ih env _ cs he ?_;refine⟨by simp[hb.1],fun j v c hv hc=>?_⟩;by_cases ck:i=j
  ·subst ck;rcases Nat.lt_or_ge i (List.length base) with ah|bh
   ·rw[List.getElem?_set_self ah] at hv;obtain rfl:=osj hv;have bZ:i<List.length env:=by rw[he.1,←hb.1];exact ah
    have:env.getD i poison=env[i]:=by simp[List.getD,bZ]
    rw[this];exact he.2 i _ c (List.getElem?_eq_getElem bZ) hc
   ·rw[List.getElem?_eq_none (by simp;exact bh)] at hv;cases hv
  ·rw[List.getElem?_set_ne ck] at hv;exact hb.2 j v c hv hc
theorem Q0b {ρ:Plc}{n:Nat}(cs:List Value) {m:Nat}(h:m=cs.length):LRel ρ n (List.replicate m poison) cs :=
 ⟨by simp[h],fun i v c hv _=>by
  have:=List.mem_of_getElem? hv;rw[List.mem_replicate] at this;rw[this.2];exact .poison c⟩
def RoRel (cR ro:Option Nat) (ρ:Plc) (n:Nat):Prop:=(cR=none∧ro=none)∨∃ i l,cR=some i∧ro=some l∧i<n∧∀ p,ρ i=some p→p.blk=l
theorem RoRel.ext {cR ro:Option Nat}{ρ ρ':Plc}{σ σ':Heap}{w w':World}(h:RoRel cR ro ρ σ.n) (hE:Ext ρ σ w ρ' σ' w'):RoRel cR ro ρ' σ'.n:=by
 rcases h with h|⟨i,l,h1,h2,h3,h4⟩
 ·exact .inl h
 ·exact .inr ⟨i,l,h1,h2,Nat.lt_of_lt_of_le h3 hE.n,fun p hp=>h4 p (hE.pl i h3 p hp)⟩
def Sound (P:Program) (S:VSpecs) (c:Code) (vc:VCode):Prop :=
 ∀ ⦃B:Nat⦄ (cR ro:Option Nat) (n:Nat) (Q:Exit→Env→Heap→Prop) (env:Env) (σ:Heap) (ρ:Plc) (w:World) (a:Act),vwp S vc cR Q env σ→HRel ρ σ w→LRel ρ σ.n env a.tmps.toList→Mks B a.defers w→RoRel cR ro ρ σ.n →
  ∀ (Q':Exit→Act→World→Prop),(∀ e a' w',PM B (List.length env) ρ σ w (Q e) a' w'→Q' e a' w')→c.wpIn (FF ro) n P Q' a w
theorem Q29 {ρ:Plc}{n:Nat}:∀ (ps:List Nat) (vs cs:List Value) (env:Env) (tmps:Array Value),LRel ρ n env tmps.toList→LRel ρ n vs cs →
  LRel ρ n (R4 env ps vs) ((ps.zip cs).foldl (fun (tmps:Array Value) (q:Nat×Value)=>tmps.setIfInBounds q.1 q.2) tmps).toList:=by
 intro ps;induction ps with
 |nil=>intro vs cs env tmps h _;cases vs<;>exact h
 |cons p ps ih =>
  intro vs cs env tmps h hv;cases vs with
  |nil =>
   cases cs with
   |nil=>exact h
   |cons _ _=>have:=hv.1;simp at this
  |cons v vs =>
   cases cs with
   |nil=>have:=hv.1;simp at this
   |cons c cs =>simp only[R4,List.zip_cons_cons,List.foldl_cons];refine ih vs cs _ _ ?_ ⟨by have:=hv.1;simpa using this,fun i a b ha hb=>hv.2 (i+1) a b (by simpa using ha) (by simpa using hb)⟩;rw[Array.toList_setIfInBounds];exact h.set p (hv.2 0 v c rfl rfl)
theorem W9 {w:World}{l:Nat}{r:Loop}(h:w.heap[l]?=some (.loop r)):(Instr.getLoop l).run P w=.ok r w:=by simp[Instr.getLoop,Qs h (fun _ _ _ e=>by cases e)]
theorem Gn {ρ:Plc}{σ:Heap}{w:World}(hH:HRel ρ σ w) {i:Nat}{env:Env}{r:Loop}{st:LoopState}{pend:Option Code}{wr:Bool}(h:σ.get i=some (.obj (.lp env r st pend) wr)) :
  ∃ p,ρ i=some p∧w.heap[p.blk]?=some (.loop {r with state:=st,pending:=pend})∧LRel ρ σ.n env r.tmps.toList:=by
 obtain⟨p,hp,_,O,h1,rfl,h2⟩:=hH.live i _ h;exact⟨p,hp,h1,h2⟩
theorem AV {ρ:Plc}{σ:Heap}{w:World}(hH:HRel ρ σ w) {i:Nat}{env:Env}{r:Loop}{st:LoopState}{pend:Option Code}{p:Pl}(hp:ρ i=some p) (h:σ.get i=some (.obj (.lp env r st pend) true)) (mu:LoopState) (bR:Option Code) :
  HRel ρ (σ.upd i (.obj (.lp env r mu bR) true)) (RQ w p.blk (.loop {r with state:=mu,pending:=bR})) ∧
  Ext ρ σ w ρ (σ.upd i (.obj (.lp env r mu bR) true)) (RQ w p.blk (.loop {r with state:=mu,pending:=bR})):=by
 obtain⟨p',bw,h1,h2⟩:=Gn hH h;exact hH.setObj hp h ⟨rfl,h2⟩
theorem Fy {eC body:Code}{va vb:VCode}(ha:Sound P S eC va) (hb:Sound P S body vb) (ps:List Nat) (env:Env) (r:Loop) (en:r.assign=eC) (dz:r.body=body) (jJ:r.params.toList=ps) (i:Nat) :
  Vl P i (Ip (vwp S va (some i)) (vwp S vb (some i)) ps env r i):=by
 intro args σ K h ρ w aw hH hL;obtain⟨h1,h2,h3⟩:=h;obtain⟨p,hp,aE,lx⟩:=Gn hH h1;refine⟨p,hp,r.fn,(r.params.zip aw).foldl (fun tmps (t,a)=>tmps.setIfInBounds t a) r.tmps,r.assign,r.body,?_,?_⟩
 ·have ax:aw.size=r.params.size:=by
   have h4:=hL.1;have:r.params.size=ps.length:=by rw[←jJ];simp
   simp at h4;omega
  simp[Instr.yield,W9 aE,ax]
 ·refine roundIn_of_wpIn (F:=Fence.wide) trivial ?_;rw[en,dz];refine ha (some i) (some p.blk) 0 _ _ σ ρ w _ h3 hH ?_ (Mks.nil (Nat.le_refl _)) (.inr ⟨i,p.blk,rfl,rfl,σ.lt h1,fun q hq=>by rw[hp] at hq;obtain rfl:=osj hq;rfl⟩) _ ?_
  ·have:=Q29 ps args aw.toList env r.tmps lx hL;rw[←jJ,←Array.toList_zip,Array.foldl_toList] at this;rw[jJ] at this;exact this
  ·intro e a1 w1 ⟨bz,ρ1,σ1,k1,k0,k2,k3,k4,k5⟩;cases e with
   |normal =>
    obtain⟨k6,k7⟩:=k1;obtain⟨p1,jK,kg,sh⟩:=Gn k2 k6;have mi:p1=p:=by have:=k5.pl i (σ.lt h1) p1 jK;rw[hp] at this;exact(osj this).symm
    subst mi;obtain⟨j1,j2⟩:=AV k2 jK k6 .busy none;refine⟨_,by simp[Instr.beginRound,W9 kg,QG kg (fun _ _ _ e=>by cases e)];rfl,?_⟩;refine hb (some i) (some p1.blk) 0 _ _ _ ρ1 _ a1 k7 j1 k3 (k4.ext k2 j2) (.inr ⟨i,p1.blk,rfl,rfl,σ1.lt k6,fun q hq=>by rw[jK] at hq;obtain rfl:=osj hq;rfl⟩) _ ?_;intro e2 a2 w2 ⟨aT,ρ2,σ2,m1,m0,m2,m3,m4,m5⟩;obtain⟨m6,m7⟩:=m1;obtain⟨p2,dO,eE,sj⟩:=Gn m2 m6;have mi:p2=p1:=by have h8:=m5.pl i (by rw[Heap.upd_n];exact σ1.lt k6) p2 dO;rw[jK] at h8;exact(osj h8).symm
    subst mi;cases e2 with
    |normal =>obtain⟨q1,q2⟩:=AV m2 dO m6 .ready none;refine⟨.bool true,_,?_,_,rfl,.bool true,ρ2,_,m7,.bool _,q1,k5.trans (j2.trans (m5.trans q2))⟩;simp[Instr.endRound,W9 eE,QG eE (fun _ _ _ e=>by cases e)]
    |ret =>obtain⟨q1,q2⟩:=AV m2 dO m6 .done (some .ret);refine⟨.bool false,_,?_,_,rfl,.bool false,ρ2,_,m7,.bool _,q1,k5.trans (j2.trans (m5.trans q2))⟩;simp[Instr.endRound,W9 eE,QG eE (fun _ _ _ e=>by cases e)]
    |exit id =>obtain⟨q1,q2⟩:=AV m2 dO m6 .done (some (.exit id));refine⟨.bool false,_,?_,_,rfl,.bool false,ρ2,_,m7,.bool _,q1,k5.trans (j2.trans (m5.trans q2))⟩;simp[Instr.endRound,W9 eE,QG eE (fun _ _ _ e=>by cases e)]
    |goto l=>exact m7.elim
    |panic ch=>exact m7.elim
    |outgrown=>exact m7.elim
   |exit id=>exact k1.elim
   |goto l=>exact k1.elim
   |ret=>exact k1.elim
   |panic ch=>exact k1.elim
   |outgrown=>exact k1.elim
theorem Heap.ext' {σ σ':Heap}(h:∀ j,σ.get j=σ'.get j) (hn:σ.n=σ'.n):σ=σ':=by obtain⟨g,n,wf⟩:=σ;obtain⟨g',n',wF⟩:=σ';have hg:g=g':=funext h;have mw:n=n':=hn;subst hg;subst mw;rfl
theorem Mks.push {ds:List Deferred}{w:World}(h:Mks B ds w):Mks B ({target:=.collected w.heap.size,args:=#[]}::ds) (w.alloc (.deferred (some []))):=by
 obtain⟨h0,Ds,h1,h2,h3⟩:=h;have ah:∀ D∈Ds,D<w.heap.size:=fun D hD=>by
  rcases Nat.lt_or_ge D w.heap.size with h'|h'
  ·exact h'
  ·have:=(h3 D hD).2;rw[Array.getElem?_eq_none h'] at this;cases this
 refine⟨by rw[World.size_alloc];omega,w.heap.size::Ds,by rw[h1];rfl,List.nodup_cons.2 ⟨fun hh=>Nat.lt_irrefl _ (ah _ hh),h2⟩,fun D hD=>?_⟩;rcases List.mem_cons.1 hD with rfl|hD
 ·refine⟨h0,?_⟩;show (w.heap.push _)[w.heap.size]?=_;simp
 ·refine⟨(h3 D hD).1,?_⟩;show (w.heap.push _)[D]?=_;rw[Array.getElem?_push,if_neg (by have:=ah D hD;omega)];exact(h3 D hD).2
theorem Ext.alloc_other {ρ:Plc}{σ:Heap}(w:World) (O:Obj):Ext ρ σ w ρ σ (w.alloc O) :=
 ⟨rfl,rfl,rfl,by have:=World.size_alloc w O;omega,fun B hB _=>by show (w.heap.push _)[B]?=_;rw[Array.getElem?_push,if_neg (by omega)],fun _ _ h=>h,Nat.le_refl _,fun _ _ _ h=>h⟩
theorem HRel.alloc_other {ρ:Plc}{σ:Heap}{w:World}(h:HRel ρ σ w) (O:Obj):HRel ρ σ (w.alloc O) :=
 h.world (by have:=World.size_alloc w O;omega) (fun i p hp=>by show (w.heap.push _)[p.blk]?=_;rw[Array.getElem?_push,if_neg (by have:=h.lt i p hp;omega)]) fun g cs hg=>by show (w.heap.push _)[g]?=_;rw[Array.getElem?_push,if_neg (by have:=h.tab.lt hg;omega)]
theorem I1 {cR ro:Option Nat}{ρ:Plc}{σ:Heap}{w:World}{a:Act}{env:Env}(hH:HRel ρ σ w) (hL:LRel ρ σ.n env a.tmps.toList) (hd:Mks B a.defers w) (hR:RoRel cR ro ρ σ.n) (aM:Z64 σ cR) (fn:FuncId) (ps:Array Nat) (eC body:Code) :
  ∃ (r:Loop) (mark:List Deferred) (w1:World) (ρ1:Plc),(Instr.enterLoop fn a.tmps ps eC body ro).run P w=.ok (w1.heap.size-1,mark) w1∧r.assign=eC∧r.body=body∧r.params=ps ∧
   HRel ρ1 (σ.push (.obj (.lp env r .ready none) true)) w1∧Ext ρ σ w ρ1 (σ.push (.obj (.lp env r .ready none) true)) w1∧Mks B (mark++a.defers) w1 ∧
   (∀ p,ρ1 σ.n=some p→p.blk=w1.heap.size-1):=by
 rcases hR with⟨rfl,rfl⟩|⟨i,l,rfl,rfl,hi,iK⟩
 ·let w0:=w.alloc (.deferred (some []));have fW:HRel ρ σ w0:=hH.alloc_other _;have p_:Ext ρ σ w ρ σ w0:=Ext.alloc_other _ _;let r:Loop:={state:=.ready,pending:=none,fn,tmps:=a.tmps,params:=ps,assign:=eC,body:=body,defers:=w.heap.size};obtain⟨ρ1,h1,h2,h3⟩:=fW.newObj (.lp env r .ready none) (.loop r) ⟨rfl,hL⟩;have ax:(w0.alloc (.loop r)).heap.size-1=w0.heap.size:=by have:=World.size_alloc w0 (.loop r);omega
  refine⟨r,[{target:=.collected w.heap.size,args:=#[]}],w0.alloc (.loop r),ρ1,?_,rfl,rfl,rfl,h2,p_.trans h3,?_,fun p hp=>?_⟩
  ·rw[ax];simp[Instr.enterLoop];exact⟨(World.size_alloc w _).symm,rfl⟩
  ·exact(hd.push).ext fW h3
  ·rw[h1] at hp;obtain rfl:=osj hp;rw[ax]
 ·obtain⟨tT,r0,st,pend,hb⟩:=aM;obtain⟨p,hp,aE,_⟩:=Gn hH hb;have aW:=iK p hp;subst aW;let r:Loop:={state:=.ready,pending:=none,fn,tmps:=a.tmps,params:=ps,assign:=eC,body:=body,defers:=r0.defers};obtain⟨ρ1,h1,h2,h3⟩:=hH.newObj (.lp env r .ready none) (.loop r) ⟨rfl,hL⟩;have ax:(w.alloc (.loop r)).heap.size-1=w.heap.size:=by have:=World.size_alloc w (.loop r);omega
  refine⟨r,[],w.alloc (.loop r),ρ1,?_,rfl,rfl,rfl,h2,h3,?_,fun p hp=>?_⟩
  ·rw[ax];simp[Instr.enterLoop,W9 aE];rfl
  ·exact hd.ext hH h3
  ·rw[h1] at hp;obtain rfl:=osj hp;rw[ax]
theorem F_ (hS:OkSpecs P S) {eC body:Code}{va vb:VCode}(ha:Sound P S eC va) (hb:Sound P S body vb) (g:Operand) (hg:XI g=true) (ps:Array Nat):Sound P S (.rangeFunc g ps eC body) (.rangeF g ps.toList va vb):=by
 intro B cR ro n Q env σ ρ w a h hH hL hd hR Q' hQ;simp only[vwp,Av] at h;have gV:=WK hL hg;split at h
 ·rename_i f first cap bh
  rw[bh] at gV;split at h
  ·rename_i T hT;obtain⟨aM,h⟩:=h;refine wpIn_rangeFunc fun fn _=>?_;obtain⟨r,mark,w1,ρ1,he,en,dz,jJ,jm,fD,hd1,dH⟩:=I1 (P:=P) hH hL hd hR aM fn ps eC body;obtain⟨iL,gH⟩:=hS.it f T hT;obtain⟨gs,ds,o3,kZ,j7⟩:∃ gs ds,a.eval g=.func (.func f) gs ds∧LRel ρ σ.n first.toList gs.toList∧LRel ρ σ.n cap.toList ds.toList:=by
    cases o3:a.eval g with
    |func wG gs ds =>
     rw[o3] at gV;cases gV with
     |func _ _ _ _ _ k1 k2 k3 k4=>exact⟨gs,ds,rfl,LRel.of_array k1 k3,LRel.of_array k2 k4⟩
    |_=>rw[o3] at gV;cases gV
   have hY:Vl P σ.n (Ip (vwp S va (some σ.n)) (vwp S vb (some σ.n)) ps.toList env r σ.n):=Fy ha hb ps.toList env r en dz (by rw[jJ]) σ.n;have ly:=gH σ.n _ hY _ _ _ (h r) ρ1 w1 (gs++#[.func (.yield (w1.heap.size-1)) #[] #[]]++ds) jm (by
    have k1:=fD.lrel kZ;have k2:=fD.lrel j7;have k3:LRel ρ1 (σ.push (.obj (.lp env r .ready none) true)).n [.func (.yield σ.n) #[] #[]] [.func (.yield (w1.heap.size-1)) #[] #[]] :=
     LRel.cons (.yield _ _ (by simp) (fun p hp=>(dH p hp).symm)) (LRel.nil _ _)
    have:=(k1.append k3).append k2;simpa using this)
   refine⟨w1.heap.size-1,mark,w1,{target:=.fn (.func f) ds,args:=gs++#[.func (.yield (w1.heap.size-1)) #[] #[]]},w1,f,gs++#[.func (.yield (w1.heap.size-1)) #[] #[]]++ds,w1,?_,?_,fun _ _=>Q0k _ _,?_,(fun hh=>by rw[Cd] at hh;cases hh),?_⟩
   ·rw[Q5u];exact he
   ·simp[resolve,o3,Deferred.ofValue];rfl
   ·simp only[invoke];exact MW iL _ _
   ·refine (IG ly).mono fun e w3 ⟨c,tU,v,ρ3,σ3,k1,k2,k3,k4⟩=>?_;subst tU;unfold Q62 at k1;split at k1
    ·rename_i ae r' st pend mS;obtain⟨bG,k1⟩:=k1;obtain⟨p3,sk,iM,sq⟩:=Gn k3 mS;have aW:p3.blk=w1.heap.size-1:=dH p3 (k4.pl σ.n (by simp) p3 sk);obtain⟨q1,q2⟩:=AV k3 sk mS .exhausted pend;rw[aW] at iM q1 q2;obtain⟨q3,q4⟩:=q1.kill σ.n;have fF:(σ3.upd σ.n (.obj (.lp ae r' .exhausted pend) true)).kill σ.n=σ3.kill σ.n:=by
      apply Heap.ext'
      ·intro j;by_cases hj:j=σ.n
       ·subst hj;rw[Heap.get_kill_self,Heap.get_kill_self]
       ·rw[Heap.get_kill_ne _ hj,Heap.get_kill_ne _ hj,Heap.get_upd_ne _ _ hj]
      ·rfl
     rw[fF] at q3 q4;have ki:=fD.trans (k4.trans (q2.trans q4));have cq:=hd1.ext jm (k4.trans (q2.trans q4));refine⟨pend,_,by simp[Instr.endLoop,W9 iM,QG iM (fun _ _ _ e=>by cases e),bG];rfl,?_⟩;have eD:∀ K:Env→Heap→Prop,K env (σ3.kill σ.n)→PM B (List.length env) ρ σ w K {a with defers:=mark++a.defers} (RQ w3 (w1.heap.size-1) (.loop {r' with state:=.exhausted,pending:=pend})):=fun K hK =>
      ⟨env,_,_,hK,rfl,q3,ki.lrel hL,cq,ki⟩
     cases pend with
     |none=>exact hQ _ _ _ (eD _ k1)
     |some c =>
      cases c with
      |ret=>exact wpIn_ret (hQ _ _ _ (eD _ k1))
      |exit id=>exact wpIn_exit (hQ _ _ _ (eD _ k1))
      |_=>exact k1.elim
    ·exact k1.elim
  ·exact h.elim
 ·exact h.elim
end
end Go.V
namespace Go.V
open Go
theorem YY {ev fH:Operand→Value}(x:Option Operand) (d:Nat) (h:∀ y∈x.toList,ev y=fH y):Jv ev x d=Jv fH x d:=by
 cases x with
 |none=>rfl
 |some y=>simp only[Jv];rw[h y (by simp)]
theorem Q0r {o:XOp}{ev fH:Operand→Value}{σ:Heap}(h:∀ x∈o.opds,ev x=fH x):Zl o ev σ=Zl o fH σ:=by cases o<;>simp only[XOp.opds,List.mem_cons,List.not_mem_nil,or_false,forall_eq_or_imp,forall_eq] at h<;>simp only[Zl]<;>(try simp only[h])
theorem H7 {o:VOp}{ev fH:Operand→Value}{σ:Heap}(h:∀ x∈o.opds,ev x=fH x):Q4 o ev σ=Q4 o fH σ:=by
 cases o
 case build z ps =>
  have:(ps.map fun p=>(p.1,p.2.1,ev p.2.2))=ps.map fun p=>(p.1,p.2.1,fH p.2.2):=List.map_congr_left fun p hp=>by rw[h p.2.2 (List.mem_map.2 ⟨p,hp,rfl⟩)]
  simp only[Q4,this]
 case buildSlice e z n ps =>
  have:(ps.map fun p=>(p.1*e.sz,e.sz,ev p.2))=ps.map fun p=>(p.1*e.sz,e.sz,fH p.2):=List.map_congr_left fun p hp=>by rw[h p.2 (List.mem_map.2 ⟨p,hp,rfl⟩)]
  simp only[Q4,this]
 case makeFunc fn a b =>
  have h1:a.map ev=a.map fH:=List.map_congr_left fun x hx=>h x (List.mem_append_left _ hx);have h2:b.map ev=b.map fH:=List.map_congr_left fun x hx=>h x (List.mem_append_right _ hx);simp only[Q4,h1,h2]
 case slice size x lo hi mx =>
  have h1:=YY lo 0 (fun y hy=>h y (by simp[VOp.opds] at *;exact .inr (.inl hy)));have h2:∀ n,Jv ev hi n=Jv fH hi n:=fun n=>YY hi n (fun y hy=>h y (by simp[VOp.opds] at *;exact .inr (.inr (.inl hy))));have h3:=YY mx 0 (fun y hy=>h y (by simp[VOp.opds] at *;exact .inr (.inr (.inr hy))));have h4:=h x (by simp[VOp.opds]);simp only[Q4,h4];cases fH x<;>simp only[h1,h2,h3]
 case sliceStr x lo hi =>
  have h1:=YY lo 0 (fun y hy=>h y (by simp[VOp.opds] at *;exact .inr (.inl hy)));have h2:∀ n,Jv ev hi n=Jv fH hi n:=fun n=>YY hi n (fun y hy=>h y (by simp[VOp.opds] at *;exact .inr (.inr hy)));have h4:=h x (by simp[VOp.opds]);simp only[Q4,h4];cases fH x<;>simp only[h1,h2]
 case ext o=>exact Q0r h
 all_goals
  simp only[VOp.opds,List.mem_cons,List.not_mem_nil,or_false,forall_eq_or_imp,forall_eq] at h;simp only[Q4];try simp only[h]
theorem EH {S:VSpecs}{o:VOp}{env ae:Env}{σ:Heap}{K:Value→Heap→Prop}(h:∀ x∈o.opds,Q3 env x=Q3 ae x):vop S o env σ K=vop S o ae σ K:=by
 cases o
 case callF f bP =>
  have:bP.map (Q3 env)=bP.map (Q3 ae):=List.map_congr_left h;simp only[vop,this]
 case callV f bP =>
  have h1:Q3 env f=Q3 ae f:=h f (by simp[VOp.opds]);have h2:bP.map (Q3 env)=bP.map (Q3 ae):=List.map_congr_left fun x hx=>h x (by simp[VOp.opds,hx]);simp only[vop,h1,h2]
 case ext o =>
  by_cases hx:∃ x,o=.nextMap x
  ·obtain⟨x,rfl⟩:=hx;have h1:Q3 env x=Q3 ae x:=h x (by simp[VOp.opds,XOp.opds]);simp only[vop,h1]
  ·have e1:=H7 (σ:=σ) h;cases o<;>first|exact absurd ⟨_,rfl⟩ hx|(simp only[vop];rw[e1])
 all_goals
  have e1:=H7 (σ:=σ) h;simp only[vop];rw[e1]
theorem Heap.Le.refl (σ:Heap):σ.Le σ:=⟨Nat.le_refl _,fun _ _ h=>h⟩
theorem Heap.Le.trans {σ σ' aD:Heap}(h:σ.Le σ') (k:σ'.Le aD):σ.Le aD:=⟨Nat.le_trans h.1 k.1,fun i b hb=>k.2 i b (h.2 i b hb)⟩
theorem Z3g {σ σ':Heap}(h:σ.Le σ') {esz:Nat}{v:Value}{xs:List Value}(hx:σ.sl esz v=some xs):σ'.sl esz v=some xs:=by
 unfold Heap.sl at hx ⊢;split at hx
 ·exact hx
 ·rename_i i o n c;split at hx
  ·rename_i cs e wr t hb;simp only[h.2 i _ hb];exact hx
  ·cases hx
 ·cases hx
theorem Cr {σ σ':Heap}(h:σ.Le σ') {m:Nat}{x:List JV×Nat×Bool}(hx:σ.mapAt m=some x):σ'.mapAt m=some x:=by
 unfold Heap.mapAt at hx ⊢;split at hx
 ·rename_i es clock wr hb;simp only[h.2 m _ hb];exact hx
 ·cases hx
theorem OI {σ σ':Heap}(h:σ.Le σ') {kd:Nat}{a b:Value}{r:Bool}(hx:Ji kd a b σ=some r):Ji kd a b σ'=some r:=by
 unfold Ji at hx ⊢
 split at hx<;>first
  |exact hx
  |(cases hx;done)
  |skip
 rename_i i o j q;split at hx
 ·rename_i hc;obtain⟨h1,h2,h3⟩:=hc;obtain⟨b,hb⟩:=Option.isSome_iff_exists.1 h3;rw[if_pos ⟨h1,h2,by rw[h.2 _ _ hb];rfl⟩];exact hx
 ·cases hx
theorem Ez {neg:Bool}{s:List MK}{x y:Operand}{ev:Operand→Value}{σ σ' σ1:Heap}{v:Value}(h:Zl (.eqAgg neg s x y) ev σ=some (v,σ1)):Zl (.eqAgg neg s x y) ev σ'=some (v,σ'):=by
 simp only[Zl] at h ⊢;split at h
 ·split at h
  ·rename_i hc;rw[if_pos hc];simp at h;obtain⟨rfl,_⟩:=h;rfl
  ·cases h
 ·cases h
theorem Q18 {o:XOp}{ev:Operand→Value}{σ σ' σ1:Heap}{v:Value}(hk:(VOp.ext o).kind≠2) (h:Zl o ev σ=some (v,σ1)) (hl:σ.Le σ'):Zl o ev σ'=some (v,σ'):=by
 cases o<;>simp only[VOp.kind,VOp.quiet,XOp.quiet] at hk<;>try (exact absurd rfl hk)
 case eqAgg neg s x y=>exact Ez h
 case eqNil kd neg x y =>
  simp only[Zl] at h ⊢;split at h
  ·rename_i r hr;rw[OI hl hr];simp at h;obtain⟨rfl,_⟩:=h;rfl
  ·cases h
 case lookup mk z ok x i =>
  simp only[Zl] at h ⊢;split at h
  ·rename_i bQ;rw[if_pos bQ];split at h
   ·simp at h;obtain⟨rfl,_⟩:=h;rfl
   ·rename_i m jL;split at h
    ·rename_i es clock wr hm;simp only[Cr hl hm];split at h
     ·rename_i hall;rw[if_pos hall];split at h<;>(rename_i hf;simp at h;obtain⟨rfl,_⟩:=h;rfl)
     ·cases h
    ·cases h
   ·cases h
  ·cases h
 case lenMap x =>
  simp only[Zl] at h ⊢;split at h
  ·simp at h;obtain⟨rfl,_⟩:=h;rfl
  ·split at h
   ·rename_i es clock wr hm;simp only[Cr hl hm];simp at h;obtain⟨rfl,_⟩:=h;rfl
   ·cases h
  ·cases h
 case entry x =>
  simp only[Zl] at h ⊢;split at h
  ·rename_i i hx;split at h
   ·rename_i m since seen last wr hb;simp only[hl.2 i _ hb];split at h
    ·rename_i es clock ka b hm dK;simp only[Cr hl hm,dK];split at h
     ·rename_i cy;rw[if_pos cy];split at h
      ·rename_i e hf;split at h
       ·rename_i hp;rw[if_pos hp];simp at h;obtain⟨rfl,_⟩:=h;rfl
       ·cases h
      ·cases h
     ·cases h
    ·cases h
   ·cases h
  ·cases h
 case toUnsafe x =>
  simp only[Zl] at h ⊢;split at h
  ·simp at h;obtain⟨rfl,_⟩:=h;rfl
  ·rename_i i o hx;split at h
   ·rename_i c e wr t hb;simp only[hl.2 i _ hb];split at h
    ·rename_i hc;rw[if_pos hc];simp at h;obtain⟨rfl,_⟩:=h;rfl
    ·cases h
   ·cases h
  ·cases h
 case fromUnsafe u sz x =>
  simp only[Zl] at h ⊢;split at h
  ·simp at h;obtain⟨rfl,_⟩:=h;rfl
  ·rename_i i o hx;split at h
   ·rename_i c e hb;simp only[hl.2 i _ hb];split at h
    ·rename_i hc;rw[if_pos hc];simp at h;obtain⟨rfl,_⟩:=h;rfl
    ·cases h
   ·cases h
  ·cases h
 case sliceData x =>
  simp only[Zl] at h ⊢;split at h
  ·simp at h;obtain⟨rfl,_⟩:=h;rfl
  ·rename_i i o n cap hx;split at h
   ·rename_i hc;obtain⟨h1,h2⟩:=hc;obtain⟨b,hb⟩:=Option.isSome_iff_exists.1 h2;rw[if_pos ⟨h1,by rw[hl.2 _ _ hb];rfl⟩];simp at h;obtain⟨rfl,_⟩:=h;rfl
   ·cases h
  ·cases h
 case bytesStr x =>
  simp only[Zl] at h ⊢;split at h
  ·rename_i a n c hx;split at h
   ·rename_i xs bH;simp only[Z3g hl bH];split at h
    ·rename_i s hs;simp at h;obtain⟨rfl,_⟩:=h;rfl
    ·cases h
   ·cases h
  ·cases h
theorem R8 {o:VOp}{ev:Operand → Value}{σ σ' σ1:Heap}{v:Value}(hk:o.kind = 0) (h:Q4 o ev σ = some (v, σ1)):Q4 o ev σ' = some (v, σ'):=by
  cases o
  case ext o =>
    cases o <;> first | (simp [VOp.kind, VOp.quiet, XOp.quiet] at hk; done) | skip
    case eqAgg neg s x y => exact Ez h
  case slice size x lo hi mx => cases mx <;> simp [VOp.kind, VOp.quiet] at hk
  case build z ps =>
    simp only [Q4] at h ⊢;split at h
    · simp at h; obtain ⟨rfl, _⟩:=h; rfl
    · cases h
  all_goals first
    | (simp [VOp.kind, VOp.quiet] at hk; done)
    | skip
  all_goals
    simp only [Q4] at h ⊢
    (repeat' split at h) <;> first
      | (cases h; done)
      | (rename_i qa; obtain ⟨rfl, rfl, rfl⟩:=qa; simp_all; done)
      | (simp_all; done)
      | (simp_all
         obtain ⟨rfl, _⟩:=h
         first
          | rw [if_neg (by omega)]
          | rw [if_pos (by omega)])
theorem Rs {o:VOp}{ev:Operand→Value}{σ σ' σ1:Heap}{v:Value}(hk:o.kind≠2) (h:Q4 o ev σ=some (v,σ1)) (hl:σ.Le σ'):Q4 o ev σ'=some (v,σ'):=by
 cases o
 case ext o=>exact Q18 hk h hl
 case load agg size a =>
  simp only[Q4] at h ⊢;split at h
  ·split at h
   ·split at h
    ·rename_i hall;rw[if_pos hall];split at h
     ·simp at h;obtain⟨rfl,_⟩:=h;rfl
     ·cases h
    ·cases h
   ·cases h
  ·rename_i i o hx;split at h
   ·rename_i c e wr t hb;simp only[hl.2 i _ hb];split at h
    ·rename_i u hu;simp at h;obtain⟨rfl,_⟩:=h;rfl
    ·cases h
   ·cases h
  ·cases h
 case slice size x lo hi mx =>
  cases mx with
  |some m=>simp[VOp.kind,VOp.quiet] at hk
  |none =>
   simp only[Q4] at h ⊢;split at h
   ·rename_i a n cap hx;split at h
    ·rename_i l k dH cz;unfold Kc at h ⊢;split at h
     ·rename_i heq;split at h
      ·rename_i hc;rw[if_pos hc];simp at h;obtain⟨rfl,_⟩:=h;rfl
      ·cases h
     ·rename_i i o n' aq heq;split at h
      ·rename_i c e wr t hb;simp only[hl.2 i _ hb];simp only at h;split at h
       ·rename_i hc;rw[if_pos hc];simp at h;obtain⟨rfl,_⟩:=h;rfl
       ·cases h
      ·cases h
     ·cases h
    ·rename_i hm;cases hm
    ·cases h
   ·cases h
 all_goals first
  |(exact absurd rfl hk)
  |(exact R8 rfl h)
section
variable {P:Program}{S:VSpecs}{B:Nat}
def EL (lv:List VOper) (env:Env) (tr:Nat→Value) (A:Nat→Bool):Nat→Env
 |0=>env
 |i+1=>if A i then Xv (EL lv env tr A i) ((lv[i]?).bind (·.dst)) (tr i) else EL lv env tr A i
theorem Vr (lv:List VOper) (env:Env) (tr:Nat→Value) (A:Nat→Bool):∀ i,List.length (EL lv env tr A i)=List.length env
 |0=>rfl
 |i+1=>by
  simp only[EL];split
  ·rw[ZE];exact Vr lv env tr A i
  ·exact Vr lv env tr A i
theorem VW (lv:List VOper) (env:Env) {tr tr':Nat→Value}{A B:Nat→Bool}:∀ i,(∀ l,l<i→tr l=tr' l)→(∀ l,l<i→A l=B l)→EL lv env tr A i=EL lv env tr' B i
 |0,_,_=>rfl
 |i+1,h,h'=>by simp only[EL];rw[VW lv env i (fun l hl=>h l (by omega)) (fun l hl=>h' l (by omega)),h i (by omega),h' i (by omega)]
theorem Vx (env:Env) (d:Option Nat) (v:Value) {x:Nat}(h:d≠some x):(Xv env d v)[x]?=env[x]?:=by
 cases d with
 |none=>rfl
 |some d=>simp only[Xv];rw[List.getElem?_set_ne (by rintro rfl;exact h rfl)]
theorem Z1t (lv:List VOper) (env:Env) {tr tr':Nat→Value}{A:Nat→Bool}:∀ i,(∀ l,l<i→A l=true→tr l=tr' l)→EL lv env tr A i=EL lv env tr' A i
 |0,_=>rfl
 |i+1,h=>by
  simp only[EL];rw[Z1t lv env i fun l hl hA=>h l (by omega) hA];split
  ·rename_i hA;rw[h i (by omega) hA]
  ·rfl
theorem Dt (lv:List VOper) (env:Env) (tr:Nat→Value) {A B:Nat→Bool}(x:Nat):∀ i,(∀ l,l<i→(lv[l]?).bind (·.dst)=some x→A l=B l)→(EL lv env tr A i)[x]?=(EL lv env tr B i)[x]?
 |0,_=>rfl
 |i+1,h=>by
  have ih:=Dt lv env tr x i (fun l hl hd=>h l (by omega) hd);by_cases hd:(lv[i]?).bind (·.dst)=some x
  ·have lz:=h i (by omega) hd;simp only[EL];rw[lz];split
   ·rw[hd];simp only[Xv,List.getElem?_set];rw[Vr,Vr];rfl
   ·exact ih
  ·simp only[EL]
   split<;>split<;>first
    |exact ih
    |(rw[Vx _ _ _ hd];exact ih)
    |(rw[Vx _ _ _ hd,Vx _ _ _ hd];exact ih)
theorem BZ (lv:List VOper) (env:Env) (tr:Nat→Value) (j:Nat):∀ i,j≤i→EL lv env tr (fun l=>decide (l<j)) i=EL lv env tr (fun _=>true) j
 |0,h=>by
  obtain rfl:j=0:=by omega
  rfl
 |i+1,h=>by
  by_cases hj:j=i+1
  ·subst hj;exact VW lv env _ (fun _ _=>rfl) (fun l hl=>by simp[hl])
  ·simp only[EL];rw[if_neg (by simp;omega)];exact BZ lv env tr j i (by omega)
def DFact (S:VSpecs) (d:DInfo) (lv:List VOper) (env:Env) (tr:Nat→Value) (hp:Nat→Heap) (u:Nat) (i:Nat):Prop :=
 ∀ v,lv[i]?=some v→∃ b,Je (EL lv env tr (fun _=>true) i) v.guard=some b ∧
  (b=true→v.op.kind=2→vop S v.op (EL lv env tr (fun _=>true) i) (hp (d.rank i)) (fun v' σ'=>v'=tr i∧σ'=hp (d.rank i+1))) ∧
  (b=true→v.op.kind=1→∀ r,d.kmin i≤r→r≤d.kmax i→r≤u→∃ σ',Q4 v.op (Q3 (EL lv env tr (fun _=>true) i)) (hp r)=some (tr i,σ')) ∧
  (b=true→v.op.kind≠1→v.op.kind≠2→∃ σ',Q4 v.op (Q3 (EL lv env tr (fun _=>true) i)) (hp (d.rank i))=some (tr i,σ')) ∧
  (b=false→tr i=undef∧(v.op.kind=2→hp (d.rank i+1)=hp (d.rank i)))
def Q95 (d:DInfo) (lv:List VOper) (env:Env) (tr:Nat→Value) (i:Nat) (pend:List (Nat×(Heap→Prop))):Prop :=
 ∀ l,l<i→∀ v,lv[l]?=some v→Je (EL lv env tr (fun _=>true) l) v.guard=some true→v.op.kind=1→d.rank i+1≤d.kmax l→(d.kmax l,Xq v.op (Q3 (EL lv env tr (fun _=>true) l)) (tr l))∈pend
inductive Know (S:VSpecs) (d:DInfo) (lv:List VOper) (env:Env) (K:Env→Heap→Prop):List Nat→Nat→(Nat→Value)→(Nat→Heap)→Prop
 |full {nd:List Nat}{tr:Nat→Value}{hp:Nat→Heap}(hF:∀ l,l<lv.length→l∉nd→DFact S d lv env tr hp (d.rank lv.length) l) (hK:K (EL lv env tr (fun _=>true) lv.length) (hp (d.rank lv.length))):Know S d lv env K nd lv.length tr hp
 |part {nd:List Nat}{i:Nat}{tr:Nat→Value}{hp:Nat→Heap}{v:VOper}(hv:lv[i]?=some v) (hk:v.op.kind=2) (hw:Je (EL lv env tr (fun _=>true) i) v.guard=some true)
   (hF:∀ l,l<i→l∉nd→DFact S d lv env tr hp (d.rank i) l) (kj:∀ j,i<j→j<lv.length→∃ e u,i≤e∧e<j∧lv[e]?=some u∧((∃ x,u.dst=some x∧∀ v,lv[j]?=some v→x∈VL v)∨(u.op.kind=2∧∀ v,lv[j]?=some v→v.op.kind=2)))
   (R:Value→Heap→Prop) (fX:vop S v.op (EL lv env tr (fun _=>true) i) (hp (d.rank i)) R)
   (I:∀ u σ',R u σ'→Nat) (T:∀ u σ',R u σ'→Nat→Value) (H:∀ u σ',R u σ'→Nat→Heap)
   (hT:∀ u σ' h,i<I u σ' h∧(∀ l,l<i→T u σ' h l=tr l)∧T u σ' h i=u∧(∀ r,r≤d.rank i→H u σ' h r=hp r)∧H u σ' h (d.rank i+1)=σ')
   (next:∀ u σ' h,Know S d lv env K (i::nd) (I u σ' h) (T u σ' h) (H u σ' h)):Know S d lv env K nd i tr hp
theorem Ek {r:Nat}{σ:Heap}:∀ {l:List (Nat×(Heap→Prop))},Xm r σ l→∀ c∈l,r≤c.1→c.2 σ
 |[],_,_,h=>by cases h
 |x::l,h,c,hc=>by
  rcases List.mem_cons.1 hc with rfl|hc
  ·exact h.1
  ·exact Ek h.2 c hc
theorem RL {op:VOp}{ev:Operand→Value}{v:Value}{τ:Heap}(h:Xq op ev v τ):∃ σ',Q4 op ev τ=some (v,σ'):=by
 unfold Xq at h;cases hv:Q4 op ev τ with
 |none=>rw[hv] at h;exact h.elim
 |some q =>rw[hv] at h;have h:q.1=v:=h;exact⟨q.2,by rw[←h]⟩
theorem DFact.congr {d:DInfo}{lv:List VOper}{env:Env}{tr tr':Nat→Value}{hp bw:Nat→Heap}{u u' l:Nat}(h:DFact S d lv env tr hp u l) (ht:∀ k,k≤l→tr' k=tr k) (hh:∀ r,r≤u→bw r=hp r) (hr:d.rank l≤u) (h2:∀ v,lv[l]?=some v→v.op.kind=2→d.rank l+1≤u)
  (hu:∀ v,lv[l]?=some v→Je (EL lv env tr (fun _=>true) l) v.guard=some true→v.op.kind=1→∀ r,u<r→r≤u'→r≤d.kmax l→∃ σ',Q4 v.op (Q3 (EL lv env tr (fun _=>true) l)) (bw r)=some (tr l,σ')):DFact S d lv env tr' bw u' l:=by
 intro v hv;obtain⟨b,f1,f2,f3,f4,f5⟩:=h v hv;have e:=VW lv env (tr:=tr') (tr':=tr) (A:=fun _=>true) (B:=fun _=>true) l (fun k hk=>ht k (by omega)) (fun _ _=>rfl);rw[e,ht l (Nat.le_refl _),hh _ hr];refine⟨b,f1,fun hb hk=>?_,fun hb hk r r1 r2 r3=>?_,f4,fun hb=>⟨(f5 hb).1,fun hk=>?_⟩⟩
 ·rw[hh _ (h2 v hv hk)];exact f2 hb hk
 ·rcases Nat.lt_or_ge u r with ah|bh
  ·subst hb;exact hu v hv f1 hk r ah r3 r2
  ·rw[hh r bh];exact f3 hb hk r r1 r2 bh
 ·rw[hh _ (h2 v hv hk)];exact(f5 hb).2 hk
theorem LQ:∀ (d:DInfo) (rest:List VOper) (i:Nat) (xs:List Nat),waits xs (d.opers rest i)=true→∀ (k:Nat) (v:VOper),rest[k]?=some v→v.op.kind=2∨(∃ x∈xs,x∈VL v)∨∃ (e:Nat) (u:VOper) (x:Nat),e<k∧rest[e]?=some u∧u.dst=some x∧x∈VL v
 |d,[],i,xs,_,k,v,hv=>by simp at hv
 |d,o::rest,i,xs,h,k,v,hv=>by
  simp only[DInfo.opers,waits,Bool.and_eq_true,Bool.or_eq_true,List.any_eq_true,beq_iff_eq] at h;obtain⟨h1,h2⟩:=h;cases k with
  |zero =>
   obtain rfl:o=v:=by simpa using hv
   rcases h1 with h1|⟨x,hx,bH⟩
   ·exact .inl h1
   refine .inr (.inl ⟨x,by simpa using bH,?_⟩);simp only[VL,List.mem_append] at hx ⊢;rcases hx with hx|hx
   ·exact .inl (.inr hx)
   ·exact .inr hx
  |succ k =>
   rcases LQ d rest (i+1) _ h2 k v (by simpa using hv) with h3|⟨y,hy,su⟩|⟨e,u,y,he,hu,hd,hn⟩
   ·exact .inl h3
   ·rcases List.mem_append.1 hy with hy|hy
    ·exact .inr (.inr ⟨0,o,y,by omega,rfl,by simpa using hy,su⟩)
    ·exact .inr (.inl ⟨y,hy,su⟩)
   ·exact .inr (.inr ⟨e+1,u,y,by omega,by simpa using hu,hd,hn⟩)
theorem EV (d:DInfo) {i j:Nat}(h:i≤j):d.rank i≤d.rank j:=by
 induction j with
 |zero =>
  obtain rfl:i=0:=by omega
  exact Nat.le_refl _
 |succ j ih =>
  by_cases ck:i=j+1
  ·subst ck;exact Nat.le_refl _
  ·have:=ih (by omega);simp only[DInfo.rank];split<;>omega
theorem Z28 (d:DInfo) (lv:List VOper) (kn:∀ i v,lv[i]?=some v→d.k i=v.op.kind) (env:Env) (K:Env→Heap→Prop):∀ (rest:List VOper) (i:Nat),i≤lv.length→lv.drop i=rest→∀ (nd:List Nat) (tp:Nat→Value) (hq:Nat→Heap) (pend:List (Nat×(Heap→Prop))),
  (∀ l,l<i→l∉nd→DFact S d lv env tp hq (d.rank i) l)→Q95 d lv env tp i pend →
  ZA S (d.opers rest i) (EL lv env tp (fun _=>true) i) ((List.range (d.rank i+1)).map hq) (hq (d.rank i)) pend K →
  ∃ k tr hp,i≤k∧(∀ l,l<i→tr l=tp l)∧(∀ r,r≤d.rank i→hp r=hq r)∧Know S d lv env K nd k tr hp:=by
 intro rest;induction rest with
 |nil =>
  intro i iK hi nd tp hq pend hF hP h;have hl:lv.length≤i:=by simpa using hi
  obtain rfl:i=lv.length:=by omega
  simp only[DInfo.opers,ZA] at h;exact⟨_,tp,hq,Nat.le_refl _,fun _ _=>rfl,fun _ _=>rfl,.full hF h⟩
 |cons v rest ih =>
  intro i iK hi nd tp hq pend hF hP h;have ah:i<lv.length:=by
   rcases Nat.lt_or_ge i lv.length with h'|h'
   ·exact h'
   ·rw[List.drop_eq_nil_of_le h'] at hi;cases hi
  have hv:lv[i]?=some v:=by have:=congrArg List.head? hi;rw[List.head?_drop] at this;simpa using this
  have dQ:lv.drop (i+1)=rest:=by have:=congrArg List.tail hi;simpa using this
  have hk:=kn i v hv;have en:v.op.kind=2→d.rank (i+1)=d.rank i+1:=fun e=>by simp only[DInfo.rank,hk,e,if_true]
  have j9:v.op.kind≠2→d.rank (i+1)=d.rank i:=fun e=>by simp only[DInfo.rank,hk,e,if_false]
  have cF:∀ l,l<i→d.rank l≤d.rank i∧∀ w,lv[l]?=some w→w.op.kind=2→d.rank l+1≤d.rank i:=fun l hl=>by have h1:=EV d (show l+1≤i by omega);refine⟨by simp only[DInfo.rank] at h1;split at h1<;>omega,fun w hw h2=>?_⟩;simp only[DInfo.rank,kn l w hw,h2,if_true] at h1;exact h1
  simp only[DInfo.opers,ZA] at h;have hlen:((List.range (d.rank i+1)).map hq).length=d.rank i+1:=by simp
  cases hw:Je (EL lv env tp (fun _=>true) i) v.guard with
  |none=>rw[hw] at h;exact h.elim
  |some b =>
   rw[hw] at h;obtain⟨ht,hf⟩:=h
   have go:∀ (jq:List Nat) (u:Value) (σ':Heap) (bR:List (Nat×(Heap→Prop))),(∀ l,l∈nd→l∈jq) →
     ZA S (d.opers rest (i+1)) (Xv (EL lv env tp (fun _=>true) i) v.dst u) (if v.op.kind=2 then (List.range (d.rank i+1)).map hq++[σ'] else (List.range (d.rank i+1)).map hq) (if v.op.kind=2 then σ' else hq (d.rank i)) bR K →
     (v.op.kind=2→Xm (d.rank i+1) σ' pend)→(∀ c∈pend,c∈bR) →
     (b=true→v.op.kind=1→d.rank i+1≤d.kmax i→(d.kmax i,Xq v.op (Q3 (EL lv env tp (fun _=>true) i)) u)∈bR) →
     (i∉jq→∀ tr hp,(∀ l,l<i→tr l=tp l)→tr i=u→(∀ r,r≤d.rank i→hp r=hq r)→(v.op.kind=2→hp (d.rank i+1)=σ')→DFact S d lv env tr hp (d.rank (i+1)) i) →
     ∃ k tr hp,i<k∧(∀ l,l<i→tr l=tp l)∧tr i=u∧(∀ r,r≤d.rank i→hp r=hq r)∧(v.op.kind=2→hp (d.rank i+1)=σ')∧Know S d lv env K jq k tr hp:=by
    intro jq u σ' bR eO h kp fl jr nh;let iq:Nat→Value:=fun l=>if l=i then u else tp l
    let cL:Nat→Heap:=fun r=>if v.op.kind=2∧r=d.rank i+1 then σ' else hq r
    have et:∀ l,l<i→iq l=tp l:=fun l hl=>by simp[iq];intro e;omega
    have ei:iq i=u:=by simp[iq]
    have eh:∀ r,r≤d.rank i→cL r=hq r:=fun r hr=>by simp only[cL];rw[if_neg (by omega)]
    have qb:v.op.kind=2→cL (d.rank i+1)=σ':=fun au=>by simp[cL,au]
    have e1:EL lv env iq (fun _=>true) (i+1)=Xv (EL lv env tp (fun _=>true) i) v.dst u:=by simp only[EL,if_true];rw[VW lv env (tr:=iq) (tr':=tp) i et (fun _ _=>rfl),hv,ei];rfl
    have e2:(List.range (d.rank (i+1)+1)).map cL=if v.op.kind=2 then (List.range (d.rank i+1)).map hq++[σ'] else (List.range (d.rank i+1)).map hq:=by
     simp only[DInfo.rank,hk];split
     ·rename_i au;rw[List.range_succ,List.map_append];congr 1
      ·exact List.map_congr_left fun r hr=>eh r (by have:=List.mem_range.1 hr;omega)
      ·simp[cL,au]
     ·rename_i au;exact List.map_congr_left fun r hr=>by simp[cL,au]
    have e3:cL (d.rank (i+1))=if v.op.kind=2 then σ' else hq (d.rank i):=by simp only[DInfo.rank,hk];split<;>rename_i au<;>simp[cL,au]
    have tV:∀ l,l<i+1→l∉jq→DFact S d lv env iq cL (d.rank (i+1)) l:=fun l hl fm=>by
     by_cases iN:l=i
     ·subst iN;exact nh fm iq cL et ei eh qb
     ·have iN:l<i:=by omega
      refine (hF l iN fun h=>fm (eO l h)).congr (fun k hk=>et k (by omega)) eh (cF l iN).1 (cF l iN).2 fun w cX lA a9 r r1 r2 r3=>?_;by_cases au:v.op.kind=2
      ·rw[en au] at r2;obtain rfl:r=d.rank i+1:=by omega
       rw[qb au];exact RL (Ek (kp au) _ (hP l iN w cX lA a9 (by omega)) (by simpa using r3))
      ·rw[j9 au] at r2;omega
    have tX:Q95 d lv env iq (i+1) bR:=fun l hl w cX lA a9 oY=>by
     by_cases iN:l=i
     ·subst iN;rw[hv] at cX;obtain rfl:=osj cX;have e:=VW lv env (tr:=iq) (tr':=tp) (A:=fun _=>true) (B:=fun _=>true) l et (fun _ _=>rfl);rw[e] at lA ⊢;rw[hw] at lA;obtain rfl:b=true:=by simpa using lA
      rw[ei];exact jr rfl a9 (by rw[j9 (by omega)] at oY;exact oY)
     ·have iN:l<i:=by omega
      have e:=VW lv env (tr:=iq) (tr':=tp) (A:=fun _=>true) (B:=fun _=>true) l (fun k hk=>et k (by omega)) (fun _ _=>rfl);rw[e] at lA ⊢;rw[et l iN];have hle:d.rank i≤d.rank (i+1):=by simp only[DInfo.rank];split<;>omega
      exact fl _ (hP l iN w cX lA a9 (by omega))
    obtain⟨k,tr,hp,k0,k1,k2,k3⟩:=ih (i+1) (by omega) dQ jq iq cL bR tV tX (by rw[e1,e2,e3];exact h);have hle:d.rank i≤d.rank (i+1):=by simp only[DInfo.rank];split<;>omega
    exact⟨k,tr,hp,by omega,fun l hl=>by rw[k1 l (by omega),et l hl],by rw[k1 i (by omega),ei],fun r hr=>by rw[k2 r (by omega),eh r hr],fun au=>by rw[k2 _ (by rw[en au];exact Nat.le_refl _),qb au],k3⟩
   have weak:∀ {jq:List Nat}{u:Value}{σ':Heap},(∃ k tr hp,i<k∧(∀ l,l<i→tr l=tp l)∧tr i=u∧(∀ r,r≤d.rank i→hp r=hq r)∧(v.op.kind=2→hp (d.rank i+1)=σ')∧Know S d lv env K jq k tr hp)→∃ k tr hp,i≤k∧(∀ l,l<i→tr l=tp l)∧(∀ r,r≤d.rank i→hp r=hq r)∧Know S d lv env K jq k tr hp:=by rintro jq u σ' ⟨k,tr,hp,h0,h1,_,h2,_,h3⟩;exact⟨k,tr,hp,by omega,h1,h2,h3⟩
   have fact:∀ {u:Value}{σ':Heap},(b=true→v.op.kind=1→∀ r,d.kmin i≤r→r≤d.rank i→Xq v.op (Q3 (EL lv env tp (fun _=>true) i)) u (hq r))→(b=true→v.op.kind≠1→v.op.kind≠2→∃ aD,Q4 v.op (Q3 (EL lv env tp (fun _=>true) i)) (hq (d.rank i))=some (u,aD))→(b=false→u=undef∧(v.op.kind=2→σ'=hq (d.rank i)))→(b=true→v.op.kind=2→vop S v.op (EL lv env tp (fun _=>true) i) (hq (d.rank i)) (fun v' aD=>v'=u∧aD=σ')) →
     ∀ tr hp,(∀ l,l<i→tr l=tp l)→tr i=u→(∀ r,r≤d.rank i→hp r=hq r)→(v.op.kind=2→hp (d.rank i+1)=σ')→DFact S d lv env tr hp (d.rank (i+1)) i:=by
    intro u σ' g1 g2 g3 k5 tr hp k1 k2 k3 k4 v' gx;rw[hv] at gx;obtain rfl:=osj gx;have e:=VW lv env (tr:=tr) (tr':=tp) (A:=fun _=>true) (B:=fun _=>true) i k1 (fun _ _=>rfl);rw[e,k2,k3 _ (Nat.le_refl _)];refine⟨b,hw,fun hb au=>by rw[k4 au];exact k5 hb au,fun hb a9 r r1 r2 r3=>?_,g2,fun hb=>⟨(g3 hb).1,fun au=>by rw[k4 au];exact(g3 hb).2 au⟩⟩;rw[j9 (by omega)] at r3;rw[k3 r r3];exact RL (g1 hb a9 r r1 r3)
   cases b with
   |false =>
    have hf:=hf rfl;by_cases au:v.op.kind=2
    ·rw[if_pos au] at hf;obtain⟨jK,hf⟩:=hf;exact weak (go nd undef (hq (d.rank i)) pend (fun _ h=>h) (by rw[if_pos au,ite_self];exact hf) (fun _=>by rw[hlen] at jK;exact jK) (fun _ h=>h) (fun h=>by cases h) (fun _=>fact (fun h=>by cases h) (fun h=>by cases h) (fun _=>⟨rfl,fun _=>rfl⟩) (fun h=>by cases h)))
    ·rw[if_neg au] at hf;exact weak (go nd undef (hq (d.rank i)) pend (fun _ h=>h) (by rw[if_neg au,ite_self];exact hf) (fun h=>absurd h au) (fun _ h=>h) (fun h=>by cases h) (fun _=>fact (fun h=>by cases h) (fun h=>by cases h) (fun _=>⟨rfl,fun _=>rfl⟩) (fun h=>by cases h)))
   |true =>
    have ht:=ht rfl;by_cases au:v.op.kind=2
    ·rw[if_pos au] at ht;rw[hlen] at ht;rcases ht with⟨u,σ',h1,h2,h3⟩|⟨gW,fX⟩
     ·exact weak (go nd u σ' pend (fun _ h=>h) (by rw[if_pos au,if_pos au];exact h3) (fun _=>h2) (fun _ h=>h) (fun _ hk=>by omega) (fun _=>fact (fun _ hk=>by omega) (fun _ _ hk=>absurd au hk) (fun h=>by cases h) (fun _ _=>h1)))
     ·have nx:∀ u σ',(Xm (d.rank i+1) σ' pend∧ZA S (d.opers rest (i+1)) (Xv (EL lv env tp (fun _=>true) i) v.dst u) ((List.range (d.rank i+1)).map hq++[σ']) σ' pend K) →
        ∃ k tr hp,i<k∧(∀ l,l<i→tr l=tp l)∧tr i=u∧(∀ r,r≤d.rank i→hp r=hq r)∧(v.op.kind=2→hp (d.rank i+1)=σ')∧Know S d lv env K (i::nd) k tr hp:=fun u σ' ⟨h2,h3⟩ =>
       go (i::nd) u σ' pend (fun _ h=>List.mem_cons_of_mem _ h) (by rw[if_pos au,if_pos au];exact h3) (fun _=>h2) (fun _ h=>h) (fun _ hk=>by omega) (fun h=>absurd List.mem_cons_self h)
      refine⟨i,tp,hq,Nat.le_refl _,fun _ _=>rfl,fun _ _=>rfl,.part hv au hw hF (fun j hj a_=>?_) _ fX (fun u σ' h=>(nx u σ' h).choose) (fun u σ' h=>(nx u σ' h).choose_spec.choose) (fun u σ' h=>(nx u σ' h).choose_spec.choose_spec.choose) (fun u σ' h=>?_) (fun u σ' h=>?_)⟩
      ·obtain⟨n,hn⟩:∃ n,j=i+1+n:=⟨j-(i+1),by omega⟩;subst hn;have tY:∀ k w,lv[i+1+k]?=some w→rest[k]?=some w:=fun k w cX=>by
        rw[←dQ,List.getElem?_drop];exact cX
       have qc:∀ k w,rest[k]?=some w→lv[i+1+k]?=some w:=fun k w cX=>by rw[←dQ,List.getElem?_drop] at cX;exact cX
       have o4:=List.getElem?_eq_getElem a_;rcases LQ d rest (i+1) _ gW n _ (tY n _ o4) with o5|⟨x,hx,jM⟩|⟨e,u,x,he,hu,hd,jM⟩
       ·exact⟨i,v,Nat.le_refl _,by omega,hv,.inr ⟨au,fun w cX=>by rw[o4] at cX;obtain rfl:=osj cX;exact o5⟩⟩
       ·exact⟨i,v,Nat.le_refl _,by omega,hv,.inl ⟨x,by simpa using hx,fun w cX=>by rw[o4] at cX;obtain rfl:=osj cX;exact jM⟩⟩
       ·exact⟨i+1+e,u,by omega,by omega,qc e u hu,.inl ⟨x,hd,fun w cX=>by rw[o4] at cX;obtain rfl:=osj cX;exact jM⟩⟩
      ·obtain⟨q1,q2,q3,q4,q5,_⟩:=(nx u σ' h).choose_spec.choose_spec.choose_spec;exact⟨q1,q2,q3,q4,q5 au⟩
      ·exact(nx u σ' h).choose_spec.choose_spec.choose_spec.2.2.2.2.2
    ·rw[if_neg au] at ht;by_cases a9:v.op.kind=1
     ·rw[if_pos a9] at ht;cases dP:Q4 v.op (Q3 (EL lv env tp (fun _=>true) i)) (hq (d.rank i)) with
      |none=>rw[dP] at ht;exact ht.elim
      |some p =>
       rw[dP] at ht;obtain⟨g1,g2⟩:=ht;refine weak (go nd p.1 (hq (d.rank i)) _ (fun _ h=>h) (by rw[if_neg au,ite_self];exact g2) (fun h=>absurd h au) (fun c hc=>?_) (fun _ _ hr=>?_) (fun _=>fact (fun _ _ r tZ t_=>?_) (fun _ hk=>absurd a9 hk) (fun h=>by cases h) (fun _ hk=>absurd hk au)))
       ·split
        ·exact List.mem_cons_of_mem _ hc
        ·exact hc
       ·rw[if_pos (by rw[hlen];exact hr)];simp
       ·refine g1 _ ?_;rw[List.mem_iff_getElem?];refine⟨r-d.kmin i,?_⟩;rw[List.getElem?_drop,List.getElem?_map,List.getElem?_range (by omega)];simp;congr 1;omega
     ·rw[if_neg a9] at ht;cases dP:Q4 v.op (Q3 (EL lv env tp (fun _=>true) i)) (hq (d.rank i)) with
      |none=>rw[dP] at ht;exact ht.elim
      |some p =>rw[dP] at ht;exact weak (go nd p.1 (hq (d.rank i)) pend (fun _ h=>h) (by rw[if_neg au,ite_self];exact ht) (fun h=>absurd h au) (fun _ h=>h) (fun _ hk=>absurd hk a9) (fun _=>fact (fun _ hk=>absurd hk a9) (fun _ _ _=>⟨p.2,dP⟩) (fun h=>by cases h) (fun _ hk=>absurd hk au)))
structure DOk (d:DInfo) (n:Nat):Prop where
 edge:∀ j,j<n→∀ e∈d.ed.getD j [],e<j
 path:∀ j,j<n→∀ i,i<j→d.lt i j=true→∃ e∈d.ed.getD j [],e=i∨(i<e∧d.lt i e=true)
 free:∀ j,j<n→∀ i,i<j→d.lt i j=false→d.touch i j=false∧¬(d.k i=2∧d.k j=2)
 kmin:∀ j,j<n→d.k j=1→(d.kmin j≤d.rank j∧d.rank j≤d.kmax j)∧d.kmax j≤d.rank n∧∀ l,l<n→d.k l=2→((d.lt l j=true↔d.rank l<d.kmin j)∧(d.lt j l=true↔d.kmax j≤d.rank l))
theorem DOk.of {d:DInfo}(h:d.ok=true):DOk d d.ks.length:=by
 have h0:∀ j,j<d.ks.length→d.okE j=true∧d.okP j=true∧d.okK j=true:=fun j hj=>by have:=List.all_eq_true.1 h j (List.mem_range.2 hj);simpa [Bool.and_eq_true] using this
 refine⟨fun j hj e he=>?_,fun j hj i hi ah=>?_,fun j hj i hi ah=>?_,fun j hj hk=>?_⟩
 ·have:=List.all_eq_true.1 (h0 j hj).1 e he;simpa using this
 ·have:=List.all_eq_true.1 (h0 j hj).2.1 i (List.mem_range.2 hi);simp only[ah,if_true,List.any_eq_true,Bool.or_eq_true,Bool.and_eq_true,decide_eq_true_eq,beq_iff_eq] at this;exact this
 ·have:=List.all_eq_true.1 (h0 j hj).2.1 i (List.mem_range.2 hi);simp[ah] at this;exact⟨this.1,fun hk=>this.2.elim (fun h=>h hk.1) (fun h=>h hk.2)⟩
 ·have:=(h0 j hj).2.2;simp only[DInfo.okK,hk,BEq.rfl,Bool.not_true,Bool.false_or,Bool.and_eq_true,decide_eq_true_eq] at this;refine⟨this.1,this.2.1,fun l hl au=>?_⟩;have h1:=List.all_eq_true.1 this.2.2 l (List.mem_range.2 hl);simp only[au,BEq.rfl,Bool.not_true,Bool.false_or,Bool.and_eq_true,beq_iff_eq] at h1;rw[h1.1,h1.2];simp
theorem DA (d:DInfo) {i j:Nat}(h:i<j) (hk:d.k i=2):d.rank i<d.rank j:=by have:=EV d (show i+1≤j from h);simp only[DInfo.rank,hk,if_true] at this;omega
theorem N4 (d:DInfo):∀ j r,r<d.rank j→∃ l,l<j∧d.k l=2∧d.rank l=r
 |0,r,h=>by simp[DInfo.rank] at h
 |j+1,r,h=>by
  simp only[DInfo.rank] at h;split at h
  ·rename_i hk;rcases Nat.lt_or_ge r (d.rank j) with h'|h'
   ·obtain⟨l,h1,h2⟩:=N4 d j r h';exact⟨l,by omega,h2⟩
   ·exact⟨j,by omega,hk,by omega⟩
  ·obtain⟨l,h1,h2⟩:=N4 d j r h;exact⟨l,by omega,h2⟩
theorem Mv {d:DInfo}{n:Nat}(hd:DOk d n) {A:Nat→Bool}(hc:∀ j,j<n→A j=true→∀ e∈d.ed.getD j [],A e=true):∀ j,j<n→A j=true→∀ i,i<j→d.lt i j=true→A i=true:=by
 intro j;induction j using Nat.strongRecOn with
 |ind j ih =>
  intro hj hA i hi ah;obtain⟨e,he,h⟩:=hd.path j hj i hi ah;have ni:=hd.edge j hj e he;have gI:=hc j hj hA e he;rcases h with rfl|⟨h1,h2⟩
  ·exact gI
  ·exact ih e ni (by omega) gI i h1 h2
def cnt (A:Nat→Bool):Nat→Nat
 |0=>0
 |i+1=>cnt A i+if A i then 0 else 1
theorem IY {A:Nat→Bool}:∀ {n},cnt A n=0→∀ i,i<n→A i=true
 |0,_,i,h=>by omega
 |n+1,hc,i,h=>by
  simp only[cnt] at hc;by_cases hi:i=n
  ·subst hi;split at hc
   ·assumption
   ·omega
  ·exact IY (n:=n) (by omega) i (by omega)
theorem Q36 {A B:Nat→Bool}{j:Nat}(hA:A j=false) (hB:B j=true) (h:∀ i,i≠j→A i=B i):∀ n,j<n→cnt A n=cnt B n+1
 |0,hj=>by omega
 |n+1,hj=>by
  simp only[cnt];by_cases a_:j=n
  ·subst a_;have:cnt A j=cnt B j:=by
    have key:∀ m,m≤j→cnt A m=cnt B m:=by
     intro m;induction m with
     |zero=>intro _;rfl
     |succ m ih=>intro hm;simp only[cnt];rw[ih (by omega),h m (by omega)]
    exact key j (Nat.le_refl _)
   simp[hA,hB,this]
  ·have:=Q36 hA hB h n (by omega);rw[h n (by omega)];omega
theorem Q84 (o:VOp):o.kind≤2:=by
 unfold VOp.kind;split<;>try omega
 split<;>omega
theorem Q7j {o:VOp}{env:Env}{σ:Heap}{p:Value×Heap}{K:Value→Heap→Prop}(hk:o.kind≠2) (h:Q4 o (Q3 env) σ=some p) (hK:K p.1 p.2):vop S o env σ K:=by
 cases o
 case callF=>exact absurd rfl hk
 case callV=>exact absurd rfl hk
 case ext x =>
  cases x
  case nextMap=>exact absurd rfl hk
  all_goals (simp only[vop];rw[h];exact hK)
 all_goals (simp only[vop];rw[h];exact hK)
theorem BM {o:VOp}{ev:Operand→Value}{σ σ':Heap}{v:Value}(hk:o.kind≠2) (h:Q4 o ev σ=some (v,σ')):σ'=σ:=by have:=Rs hk h (Heap.Le.refl σ);rw[h] at this;simp at this;exact this
theorem Lq {env ae:Env}{g:Option (Nat×Bool)}(h:∀ x b,g=some (x,b)→env[x]?=ae[x]?):Je env g=Je ae g:=by
 cases g with
 |none=>rfl
 |some p =>obtain⟨x,b⟩:=p;simp only[Je,List.getD_eq_getElem?_getD];rw[h x b rfl]
theorem LD {env ae:Env}{x:Operand}(h:∀ t,x=.tmp t→env[t]?=ae[t]?):Q3 env x=Q3 ae x:=by
 cases x<;>try rfl
 rename_i t;simp only[Q3,List.getD_eq_getElem?_getD];rw[h t rfl]
structure DInv (B:Nat) (d:DInfo) (lv:List VOper) (env:Env) (tr:Nat→Value) (hp:Nat→Heap) (ρ0:Plc) (σ0:Heap) (w0:World) (A:Nat→Bool) (a:Act) (w:World):Prop where
 closed:∀ j,j<lv.length→A j=true→∀ e∈d.ed.getD j [],A e=true
 run:∃ m ρ,(∀ l,l<lv.length→d.k l=2→(A l=true↔d.rank l<m))∧m≤d.rank lv.length∧HRel ρ (hp m) w∧LRel ρ (hp m).n (EL lv env tr A lv.length) a.tmps.toList∧Mks B a.defers w∧Ext ρ0 σ0 w0 ρ (hp m) w
structure DLink (P:Program) (ops:Array Oper) (pm:List Nat) (d:DInfo) (lv:List VOper):Prop where
 comp:∀ (p:Nat) (v:VOper),lv[p]?=some v→∃ o,ops[pm.getD p 0]?=some o∧Jf P ops o=some v∧d.k p=v.op.kind
 touch:∀ (i j:Nat) (u v:VOper),lv[i]?=some u→lv[j]?=some v→d.touch i j=false→(∀ x,u.dst=some x→x∉VL v)∧(∀ x,v.dst=some x→x∉VL u)
 size:pm.length=lv.length
theorem DLink.of {ops:Array Oper}{vs:List VOper}(h:ops.toList.mapM (Jf P ops)=some vs) {d0:DInfo}{pm:List Nat}(j6:∀ i∈pm,i<vs.length):DLink P ops pm (FO d0 vs pm) (UI vs pm):=by
 obtain⟨h1,h2⟩:=WY _ _ _ h;refine⟨fun p v hv=>?_,fun i j u v hu hv ht=>?_,by simp[UI]⟩
 ·simp only[UI,List.getElem?_map,Option.map_eq_some_iff] at hv;obtain⟨i,hi,rfl⟩:=hv;have aM:=j6 i (List.mem_of_getElem? hi);have jN:i<ops.toList.length:=by omega
  obtain⟨v,hv,hc⟩:=h2 i _ (List.getElem?_eq_getElem jN);have hg:vs.getD i default=v:=by simp[List.getD_eq_getElem?_getD,hv]
  have hp:pm.getD p 0=i:=by simp[List.getD_eq_getElem?_getD,hi]
  refine⟨ops.toList[i],?_,by rw[hg];exact hc,?_⟩
  ·rw[hp];simp
  ·simp[DInfo.k,FO,UI,List.getD_eq_getElem?_getD,hi]
 ·simp only[DInfo.touch,FO,Q78,List.getD_eq_getElem?_getD,List.getElem?_map,hu,hv,Option.map_some,Option.getD_some,Bool.or_eq_false_iff] at ht;refine⟨fun x hx hm=>?_,fun x hx hm=>?_⟩
  ·have:=ht.1;rw[hx] at this;simp at this;exact this hm
  ·have:=ht.2;rw[hx] at this;simp at this;exact this hm
theorem IL {v:VOper}{x:Nat}(h:v.dst=some x):x∈VL v:=by simp[VL,h]
theorem IJ {v:VOper}{x:Nat}(h:Operand.tmp x∈v.op.opds):x∈VL v:=by refine List.mem_append_left _ (List.mem_append_right _ ?_);exact List.mem_filterMap.2 ⟨_,h,rfl⟩
theorem Lm {v:VOper}{x:Nat}{b:Bool}(h:v.guard=some (x,b)):x∈VL v:=by refine List.mem_append_right _ ?_;simp[h]
theorem Tk (hS:OkSpecs P S) {ro:Option Nat}{n:Nat}{ops:Array Oper}{pm:List Nat}{d:DInfo}{lv:List VOper}(hl:DLink P ops pm d lv) (hd:DOk d lv.length) {env:Env}{tr:Nat→Value}{hp:Nat→Heap}
  {bd j:Nat}(hF:DFact S d lv env tr hp bd j)
  {Q:Exit→Act→World→Prop}{ρ0:Plc}{σ0:Heap}{w0:World}{A:Nat→Bool}{a:Act}{w:World}(ua:∀ m,(∀ l,l<lv.length→d.k l=2→(A l=true↔d.rank l<m))→m≤d.rank lv.length→m≤bd) (hI:DInv B d lv env tr hp ρ0 σ0 w0 A a w)
  (a_:j<lv.length) (dR:A j=false) (dS:∀ e∈d.ed.getD j [],A e=true) {A':Nat→Bool}(aU:∀ i,A' i=if i=j then true else A i) {K:Act→World→Prop}(hK:∀ a' w',DInv B d lv env tr hp ρ0 σ0 w0 A' a' w'→K a' w'):wpOpIn (FF ro) n P ops Q (pm.getD j 0) K a w:=by
 obtain⟨v,hv⟩:∃ v,lv[j]?=some v:=⟨_,List.getElem?_eq_getElem a_⟩;obtain⟨o,ho,hc,hk⟩:=hl.comp j v hv;obtain⟨bO,m,ρ,hm,my,hH,hL,cY,hE⟩:=hI;have dt:∀ i,i<j→d.lt i j=true→A i=true:=by
  intro i hi ah;obtain⟨e,he,h⟩:=hd.path j a_ i hi ah;have ni:=hd.edge j a_ e he;have gI:A e=true:=dS e he;rcases h with rfl|⟨h1,h2⟩
  ·exact gI
  ·exact Mv hd bO e (by omega) gI i h1 h2
 have eF:∀ i,i<lv.length→j<i→d.lt j i=true→A i=false:=by
  intro i hi aK ah;cases hA:A i with
  |false=>rfl
  |true=>rw[Mv hd bO i hi hA j aK ah] at dR;cases dR
 have fp:∀ x,x∈VL v→(EL lv env tr A lv.length)[x]?=(EL lv env tr (fun _=>true) j)[x]?:=by
  intro x hx;rw[←BZ lv env tr j lv.length (by omega)];refine Dt lv env tr x lv.length fun l aV bD=>?_;cases b_:lv[l]? with
  |none=>rw[b_] at bD;cases bD
  |some u =>
   rw[b_] at bD;rcases Nat.lt_trichotomy l j with h|h|h
   ·have ah:d.lt l j=true:=by
     cases ah:d.lt l j with
     |true=>rfl
     |false=>exact absurd hx ((hl.touch l j u v b_ hv (hd.free j a_ l h ah).1).1 x bD)
    simp only[h,decide_true];exact dt l h ah
   ·subst h;simp only[Nat.lt_irrefl,decide_false];exact dR
   ·have ah:d.lt j l=true:=by
     cases ah:d.lt j l with
     |true=>rfl
     |false=>exact absurd hx ((hl.touch j l v u hv b_ (hd.free l aV j h ah).1).2 x bD)
    have:¬ l<j:=by omega
    simp only[this,decide_false];exact eF l aV h ah
 obtain⟨b,f1,f2,f3,ub,f4⟩:=hF v hv;have hw:Je (EL lv env tr A lv.length) v.guard=some b:=by rw[Lq (fun x b' hg=>fp x (Lm hg))];exact f1
 have jO:∀ x∈v.op.opds,Q3 (EL lv env tr A lv.length) x=Q3 (EL lv env tr (fun _=>true) j) x:=fun x hx=>LD fun t ht=>fp t (IJ (ht▸hx));obtain⟨dq,bD,bK⟩:=BN hc hL hw;have cZ:EL lv env tr A' lv.length=Xv (EL lv env tr A lv.length) v.dst (tr j):=by
  apply List.ext_getElem?;intro x;by_cases hx:v.dst=some x
  ·have h1:(EL lv env tr A' lv.length)[x]?=(EL lv env tr (fun l=>decide (l<j+1)) lv.length)[x]?:=by
    refine Dt lv env tr x lv.length fun l aV bt=>?_;rw[aU];by_cases iO:l=j
    ·subst iO;simp
    ·rw[if_neg iO];cases b_:lv[l]? with
     |none=>rw[b_] at bt;cases bt
     |some u =>
      rw[b_] at bt;have jP:=IL hx;rcases Nat.lt_or_ge l j with h|h
      ·have ah:d.lt l j=true:=by
        cases ah:d.lt l j with
        |true=>rfl
        |false=>exact absurd jP ((hl.touch l j u v b_ hv (hd.free j a_ l h ah).1).1 x bt)
       have:l<j+1:=by omega
       simp only[this,decide_true];exact dt l h ah
      ·have h':j<l:=by omega
       have ah:d.lt j l=true:=by
        cases ah:d.lt j l with
        |true=>rfl
        |false=>exact absurd jP ((hl.touch j l v u hv b_ (hd.free l aV j h' ah).1).2 x bt)
       have:¬ l<j+1:=by omega
       simp only[this,decide_false];exact eF l aV h' ah
   rw[h1,BZ lv env tr (j+1) lv.length (by omega)];simp only[EL,if_true,hv,Option.bind_some,hx,Xv];rw[List.getElem?_set,List.getElem?_set];simp only[if_true,Vr]
  ·rw[Vx _ _ _ hx];refine Dt lv env tr x lv.length fun l aV bt=>?_;rw[aU];split
   ·rename_i h;subst h;rw[hv] at bt;exact absurd bt hx
   ·rfl
 have ct:∀ i,i<lv.length→A' i=true→∀ e∈d.ed.getD i [],A' e=true:=by
  intro i hi hA e he;rw[aU] at hA ⊢;split
  ·rfl
  ·by_cases ck:i=j
   ·subst ck;exact dS e he
   ·rw[if_neg ck] at hA;exact bO i hi hA e he
 have ku:d.k j=2→d.rank j=m:=by
  intro au;have h1:¬ d.rank j<m:=fun h=>by rw[(hm j a_ au).2 h] at dR;cases dR
  by_cases h2:d.rank j=m
  ·exact h2
  ·obtain⟨l,iO,aP,cF⟩:=N4 d j m (by omega);have ah:d.lt l j=true:=by
    cases ah:d.lt l j with
    |true=>rfl
    |false=>exact absurd ⟨aP,au⟩ (hd.free j a_ l iO ah).2
   have:=(hm l (by omega) aP).1 (dt l iO ah);omega
 have iu:d.k j=2→∀ l,l<lv.length→d.k l=2→(A' l=true↔d.rank l<m+1):=by
  intro au l aV aP;rw[aU];have dT:=ku au;split
  ·rename_i h;subst h;simp;omega
  ·rename_i h;rw[hm l aV aP];have:d.rank l≠m:=by
    rcases Nat.lt_or_ge l j with h'|h'
    ·have:=DA d h' aP;omega
    ·have:=DA d (show j<l by omega) au;omega
   omega
 have ky:d.k j≠2→∀ l,l<lv.length→d.k l=2→(A' l=true↔d.rank l<m):=by intro au l aV aP;rw[aU,if_neg (by rintro rfl;exact au aP)];exact hm l aV aP
 have jQ:d.k j=2→m+1≤d.rank lv.length:=fun au=>by have:=DA d a_ au;have:=ku au;omega
 unfold wpOpIn;simp only[ho];cases b with
 |false =>
  rw[dq,if_neg (by simp)];obtain⟨g1,g2⟩:=f4 rfl;refine⟨fun f _=>Q0k _ _,hK _ _ ⟨ct,?_⟩⟩;by_cases au:d.k j=2
  ·have dT:=ku au;have hh:hp (m+1)=hp m:=by rw[←dT];exact g2 (hk▸au)
   refine⟨m+1,ρ,iu au,jQ au,by rw[hh];exact hH,?_,by rw[Xx];exact cY,by rw[hh];exact hE⟩;rw[hh,cZ,g1,bD];exact KA hL JN o.dst
  ·refine⟨m,ρ,ky au,my,hH,?_,by rw[Xx];exact cY,hE⟩;rw[cZ,g1,bD];exact KA hL JN o.dst
 |true =>
  rw[dq,if_pos rfl];by_cases au:d.k j=2
  ·have dT:=ku au;have g1:=f2 rfl (hk▸au);rw[dT] at g1;rw[←EH jO] at g1;refine UH hS bK hH hL g1 fun c w' ⟨u,ρ',σ',⟨hu,hσ⟩,ew,gG,bX⟩=>hK _ _ ⟨ct,?_⟩;subst hu;subst hσ;refine⟨m+1,ρ',iu au,jQ au,gG,?_,by rw[Xx];exact cY.ext hH bX,hE.trans bX⟩;rw[cZ,bD];exact KA (bX.lrel hL) ew o.dst
  ·have g2:∃ σ1,Q4 v.op (Q3 (EL lv env tr A lv.length)) (hp m)=some (tr j,σ1):=by
    rw[H7 jO];by_cases a9:d.k j=1
    ·obtain⟨⟨k1,k4⟩,k3,k2⟩:=hd.kmin j a_ a9;refine f3 rfl (hk▸a9) m ?_ ?_ (ua m hm my)
     ·rcases Nat.lt_or_ge m (d.kmin j) with h|h
      ·obtain⟨l,aV,aP,cF⟩:=N4 d j m (by omega);have ah:=(k2 l (by omega) aP).1.2 (by omega);have:=(hm l (by omega) aP).1 (dt l aV ah);omega
      ·exact h
     ·rcases Nat.lt_or_ge (d.kmax j) m with h|h
      ·obtain⟨l,aV,aP,cF⟩:=N4 d lv.length (d.kmax j) (by omega);have ah:=(k2 l aV aP).2.2 (by omega);have kz:=(hm l aV aP).2 (by omega);rcases Nat.lt_trichotomy j l with h'|h'|h'
       ·rw[eF l aV h' ah] at kz;cases kz
       ·subst h';omega
       ·exfalso;have en:d.rank l<d.rank j:=DA d h' aP;omega
      ·exact h
    ·have il:v.op.kind=0:=by
      have h2:v.op.kind≤2:=Q84 v.op;omega
     obtain⟨σ1,g1⟩:=ub rfl (by omega) (by omega);exact⟨hp m,R8 il g1⟩
   obtain⟨σ1,g2⟩:=g2;have hq:=BM (hk▸au) g2;subst hq;refine UH hS (K:=fun v' σ'=>v'=tr j∧σ'=hp m) bK hH hL (Q7j (hk▸au) g2 ⟨rfl,rfl⟩) fun c w' ⟨u,ρ',σ',⟨hu,hσ⟩,ew,gG,bX⟩=>hK _ _ ⟨ct,?_⟩;subst hu;subst hσ;refine⟨m,ρ',ky au,my,gG,?_,by rw[Xx];exact cY.ext hH bX,hE.trans bX⟩;rw[cZ,bD];exact KA (bX.lrel hL) ew o.dst
theorem Fu (hS:OkSpecs P S) {ro:Option Nat}{n:Nat}{ops:Array Oper}{pm:List Nat}{d:DInfo}{lv:List VOper}(hl:DLink P ops pm d lv) (hd:DOk d lv.length) {env:Env}{tr:Nat→Value}{hp:Nat→Heap}
  {j:Nat}{v:VOper}(hv:lv[j]?=some v) (qd:v.op.kind=2) (uc:Je (EL lv env tr (fun _=>true) j) v.guard=some true) {R:Value→Heap→Prop}(fX:vop S v.op (EL lv env tr (fun _=>true) j) (hp (d.rank j)) R)
  {Q:Exit→Act→World→Prop}{ρ0:Plc}{σ0:Heap}{w0:World}{A:Nat→Bool}{a:Act}{w:World}(hI:DInv B d lv env tr hp ρ0 σ0 w0 A a w) (nj:∀ l,j≤l→l<lv.length→A l=false)
  (a_:j<lv.length) (dR:A j=false) (dS:∀ e∈d.ed.getD j [],A e=true) {A':Nat→Bool}(aU:∀ i,A' i=if i=j then true else A i) {K:Act→World→Prop}
  (hK:∀ u σ' a' w',R u σ'→(∀ tr' bw,(∀ l,l<j→tr' l=tr l)→tr' j=u→(∀ r,r≤d.rank j→bw r=hp r)→bw (d.rank j+1)=σ'→DInv B d lv env tr' bw ρ0 σ0 w0 A' a' w')→K a' w'):wpOpIn (FF ro) n P ops Q (pm.getD j 0) K a w:=by
 obtain⟨o,ho,hc,hk⟩:=hl.comp j v hv;obtain⟨bO,m,ρ,hm,my,hH,hL,cY,hE⟩:=hI;have dt:∀ i,i<j→d.lt i j=true→A i=true:=by
  intro i hi ah;obtain⟨e,he,h⟩:=hd.path j a_ i hi ah;have ni:=hd.edge j a_ e he;have gI:A e=true:=dS e he;rcases h with rfl|⟨h1,h2⟩
  ·exact gI
  ·exact Mv hd bO e (by omega) gI i h1 h2
 have eF:∀ i,i<lv.length→j<i→d.lt j i=true→A i=false:=by
  intro i hi aK ah;cases hA:A i with
  |false=>rfl
  |true=>rw[Mv hd bO i hi hA j aK ah] at dR;cases dR
 have fp:∀ x,x∈VL v→(EL lv env tr A lv.length)[x]?=(EL lv env tr (fun _=>true) j)[x]?:=by
  intro x hx;rw[←BZ lv env tr j lv.length (by omega)];refine Dt lv env tr x lv.length fun l aV bD=>?_;cases b_:lv[l]? with
  |none=>rw[b_] at bD;cases bD
  |some u =>
   rw[b_] at bD;rcases Nat.lt_trichotomy l j with h|h|h
   ·have ah:d.lt l j=true:=by
     cases ah:d.lt l j with
     |true=>rfl
     |false=>exact absurd hx ((hl.touch l j u v b_ hv (hd.free j a_ l h ah).1).1 x bD)
    simp only[h,decide_true];exact dt l h ah
   ·subst h;simp only[Nat.lt_irrefl,decide_false];exact dR
   ·have ah:d.lt j l=true:=by
     cases ah:d.lt j l with
     |true=>rfl
     |false=>exact absurd hx ((hl.touch j l v u hv b_ (hd.free l aV j h ah).1).2 x bD)
    have:¬ l<j:=by omega
    simp only[this,decide_false];exact eF l aV h ah
 have hw:Je (EL lv env tr A lv.length) v.guard=some true:=by rw[Lq (fun x b' hg=>fp x (Lm hg))];exact uc
 have jO:∀ x∈v.op.opds,Q3 (EL lv env tr A lv.length) x=Q3 (EL lv env tr (fun _=>true) j) x:=fun x hx=>LD fun t ht=>fp t (IJ (ht▸hx));obtain⟨dq,bD,bK⟩:=BN hc hL hw;have cZ:∀ tr:Nat→Value,EL lv env tr A' lv.length=Xv (EL lv env tr A lv.length) v.dst (tr j):=fun tr=>by
  apply List.ext_getElem?;intro x;by_cases hx:v.dst=some x
  ·have h1:(EL lv env tr A' lv.length)[x]?=(EL lv env tr (fun l=>decide (l<j+1)) lv.length)[x]?:=by
    refine Dt lv env tr x lv.length fun l aV bt=>?_;rw[aU];by_cases iO:l=j
    ·subst iO;simp
    ·rw[if_neg iO];cases b_:lv[l]? with
     |none=>rw[b_] at bt;cases bt
     |some u =>
      rw[b_] at bt;have jP:=IL hx;rcases Nat.lt_or_ge l j with h|h
      ·have ah:d.lt l j=true:=by
        cases ah:d.lt l j with
        |true=>rfl
        |false=>exact absurd jP ((hl.touch l j u v b_ hv (hd.free j a_ l h ah).1).1 x bt)
       have:l<j+1:=by omega
       simp only[this,decide_true];exact dt l h ah
      ·have h':j<l:=by omega
       have ah:d.lt j l=true:=by
        cases ah:d.lt j l with
        |true=>rfl
        |false=>exact absurd jP ((hl.touch j l v u hv b_ (hd.free l aV j h' ah).1).2 x bt)
       have:¬ l<j+1:=by omega
       simp only[this,decide_false];exact eF l aV h' ah
   rw[h1,BZ lv env tr (j+1) lv.length (by omega)];simp only[EL,if_true,hv,Option.bind_some,hx,Xv];rw[List.getElem?_set,List.getElem?_set];simp only[if_true,Vr]
  ·rw[Vx _ _ _ hx];refine Dt lv env tr x lv.length fun l aV bt=>?_;rw[aU];split
   ·rename_i h;subst h;rw[hv] at bt;exact absurd bt hx
   ·rfl
 have ct:∀ i,i<lv.length→A' i=true→∀ e∈d.ed.getD i [],A' e=true:=by
  intro i hi hA e he;rw[aU] at hA ⊢;split
  ·rfl
  ·by_cases ck:i=j
   ·subst ck;exact dS e he
   ·rw[if_neg ck] at hA;exact bO i hi hA e he
 have ku:d.k j=2→d.rank j=m:=by
  intro au;have h1:¬ d.rank j<m:=fun h=>by rw[(hm j a_ au).2 h] at dR;cases dR
  by_cases h2:d.rank j=m
  ·exact h2
  ·obtain⟨l,iO,aP,cF⟩:=N4 d j m (by omega);have ah:d.lt l j=true:=by
    cases ah:d.lt l j with
    |true=>rfl
    |false=>exact absurd ⟨aP,au⟩ (hd.free j a_ l iO ah).2
   have:=(hm l (by omega) aP).1 (dt l iO ah);omega
 have iu:d.k j=2→∀ l,l<lv.length→d.k l=2→(A' l=true↔d.rank l<m+1):=by
  intro au l aV aP;rw[aU];have dT:=ku au;split
  ·rename_i h;subst h;simp;omega
  ·rename_i h;rw[hm l aV aP];have:d.rank l≠m:=by
    rcases Nat.lt_or_ge l j with h'|h'
    ·have:=DA d h' aP;omega
    ·have:=DA d (show j<l by omega) au;omega
   omega
 have ky:d.k j≠2→∀ l,l<lv.length→d.k l=2→(A' l=true↔d.rank l<m):=by intro au l aV aP;rw[aU,if_neg (by rintro rfl;exact au aP)];exact hm l aV aP
 have jQ:d.k j=2→m+1≤d.rank lv.length:=fun au=>by have:=DA d a_ au;have:=ku au;omega
 unfold wpOpIn;simp only[ho];rw[dq,if_pos rfl];have au:d.k j=2:=hk.trans qd;have dT:=ku au;rw[dT,←EH jO] at fX;refine UH hS bK hH hL fX fun c w' ⟨u,ρ',σ',hR,ew,gG,bX⟩=>hK u σ' _ _ hR fun tr' bw t1 t2 t3 t4=>⟨ct,m+1,ρ',iu au,jQ au,?_,?_,?_,?_⟩
 ·rw[←dT,t4];exact gG
 ·have e0:EL lv env tr' A lv.length=EL lv env tr A lv.length:=Z1t lv env lv.length fun l aV hA=>t1 l (by
   rcases Nat.lt_or_ge l j with h|h
   ·exact h
   ·rw[nj l h aV] at hA;cases hA)
  rw[←dT,t4,cZ tr',e0,bD,t2];exact KA (bX.lrel hL) ew o.dst
 ·rw[Xx];exact cY.ext hH bX
 ·rw[←dT,t4];exact hE.trans bX
theorem Z88 {ops:Array Oper}{pm:List Nat}{d:DInfo}{lv:List VOper}(_hl:DLink P ops pm d lv) {env:Env}{tr:Nat→Value}{hp:Nat→Heap}{ρ0:Plc}{σ0:Heap}{w0:World}{A:Nat→Bool}{a:Act}{w:World}
  (hI:DInv B d lv env tr hp ρ0 σ0 w0 A a w) (hall:∀ j,j<lv.length→A j=true):PM B (List.length env) ρ0 σ0 w0 (fun ae σ'=>ae=EL lv env tr (fun _=>true) lv.length∧σ'=hp (d.rank lv.length)) a w:=by
 obtain⟨bO,m,ρ,hm,my,hH,hL,cY,hE⟩:=hI;have jR:m=d.rank lv.length:=by
  rcases Nat.lt_or_ge m (d.rank lv.length) with h|h
  ·obtain⟨l,h1,h2,h3⟩:=N4 d _ _ h;have:=(hm l h1 h2).1 (hall l h1);omega
  ·omega
 subst jR;have e:=VW lv env (tr:=tr) (tr':=tr) (A:=A) (B:=fun _=>true) lv.length (fun _ _=>rfl) (fun l hl=>hall l hl);exact⟨_,ρ,_,⟨rfl,rfl⟩,Vr _ _ _ _ _,hH,by rw[←e];exact hL,cY,hE⟩
def Q1t (pm:List Nat) (d:DInfo) (n:Nat):(Nat→Bool)→List Nat→Prop
 |A,[]=>∀ p,p<n→A p=true
 |A,j::rest=>∃ p,p<n∧pm.getD p 0=j∧A p=false∧(∀ e∈d.ed.getD p [],A e=true)∧Q1t pm d n (fun q=>if q=p then true else A q) rest
theorem Q0o (hS:OkSpecs P S) {ro:Option Nat}{n:Nat}{ops:Array Oper}{pm:List Nat}{d:DInfo}{lv:List VOper}(hl:DLink P ops pm d lv) (hd:DOk d lv.length) {env:Env}{K:Env→Heap→Prop}
  {Q:Exit→Act→World→Prop}{ρ0:Plc}{σ0:Heap}{w0:World}{l2:List Nat}(hQ:∀ a w,PM B (List.length env) ρ0 σ0 w0 K a w→wpOpsIn (FF ro) n P ops Q l2 a w) {nd:List Nat}{i:Nat}{tr:Nat→Value}{hp:Nat→Heap}(ud:Know S d lv env K nd i tr hp) :
  ∀ (l:List Nat) (A:Nat→Bool) (a:Act) (w:World),Q1t pm d lv.length A l→DInv B d lv env tr hp ρ0 σ0 w0 A a w→(∀ j,i≤j→j<lv.length→A j=false)→(∀ j,j∈nd→j<lv.length→A j=true)→wpOpsIn (FF ro) n P ops Q (l++l2) a w:=by
 induction ud with
 |full hF hK =>
  intro l;induction l with
  |nil =>intro A a w hs hI _ _;obtain⟨ae,ρ',σ',⟨e1,e2⟩,n1⟩:=Z88 hl hI hs;exact hQ a w ⟨ae,ρ',σ',by rw[e1,e2];exact hK,n1⟩
  |cons j rest ih =>
   intro A a w hs hI hA hN;obtain⟨p,bw,rfl,kA,he,bj⟩:=hs;rw[List.cons_append,wpOpsIn_cons];refine Tk hS hl hd (hF p bw fun h=>?_) (fun m _ h=>h) hI bw kA he (fun _=>rfl) fun a' w' nk=>ih _ a' w' bj nk (fun j h1 h2=>by omega) (fun j hj ef=>?_)
   ·rw[hN p h bw] at kA;cases kA
   ·split
    ·rfl
    ·exact hN j hj ef
 |part hv hk hw hF kj R fX I T H hT next o6 =>
  rename_i nd i tr hp v;have aM:i<lv.length:=by
   rcases Nat.lt_or_ge i lv.length with h|h
   ·exact h
   ·rw[List.getElem?_eq_none h] at hv;cases hv
  intro l;induction l with
  |nil =>intro A a w hs hI hA _;have:=hs i aM;rw[hA i (Nat.le_refl _) aM] at this;cases this
  |cons j rest ih =>
   intro A a w hs hI hA hN;obtain⟨p,bw,rfl,kA,he,bj⟩:=hs;rw[List.cons_append,wpOpsIn_cons];have jZ:d.k i=2:=by obtain⟨_,_,_,h⟩:=hl.comp i v hv;exact h.trans hk
   rcases Nat.lt_trichotomy p i with gJ|rfl|gJ
   ·refine Tk hS hl hd (hF p gJ fun h=>?_) (fun m hm _=>?_) hI bw kA he (fun _=>rfl) fun a' w' nk=>ih _ a' w' bj nk (fun j h1 h2=>?_) (fun j hj ef=>?_)
    ·rw[hN p h bw] at kA;cases kA
    ·have h1:¬ d.rank i<m:=fun h=>by
      have:=(hm i aM jZ).2 h;rw[hA i (Nat.le_refl _) aM] at this;cases this
     omega
    ·rw[if_neg (by omega)];exact hA j h1 h2
    ·split
     ·rfl
     ·exact hN j hj ef
   ·refine Fu hS hl hd hv hk hw fX hI hA bw kA he (fun _=>rfl) fun u σ' a' w' hR nk=>?_;obtain⟨q1,q2,q3,q4,q5⟩:=hT u σ' hR;refine o6 u σ' hR _ _ a' w' bj (nk _ _ q2 q3 q4 q5) (fun j h1 h2=>?_) (fun j hj ef=>?_)
    ·rw[if_neg (by omega)];exact hA j (by omega) h2
    ·split
     ·rfl
     ·rename_i aC;rcases List.mem_cons.1 hj with h|h
      ·exact absurd h aC
      ·exact hN j h ef
   ·exfalso;obtain⟨e,u,h1,h2,hu,hn⟩:=kj p gJ bw;have kp:=List.getElem?_eq_getElem bw;have ah:d.lt e p=true:=by
     cases h:d.lt e p with
     |true=>rfl
     |false =>
      rcases hn with⟨x,hx,hn⟩|⟨fE,eP⟩
      ·exact absurd (hn _ kp) ((hl.touch e p u _ hu kp (hd.free p bw e h2 h).1).1 x hx)
      ·obtain⟨_,_,_,q1⟩:=hl.comp e u hu;obtain⟨_,_,_,q2⟩:=hl.comp p _ kp;exact absurd ⟨q1.trans fE,q2.trans (eP _ kp)⟩ (hd.free p bw e h2 h).2
    have gI:A e=true:=by
     obtain⟨e',sw,h3⟩:=hd.path p bw e h2 ah;have nq:=he e' sw;rcases h3 with rfl|⟨h3,h4⟩
     ·exact nq
     ·exact Mv hd hI.closed e' (by have:=hd.edge p bw e' sw;omega) nq e h3 h4
    rw[hA e h1 (by omega)] at gI;cases gI
def VU (ops:Array Oper):Array Bool→List Nat→Prop
 |L,[]=>∀ j,j<ops.size→L.getD j false=true
 |L,j::rest=>j∈Region.ready .any ops L∧VU ops (L.setIfInBounds j true) rest
theorem VO (L:Array Bool) (j i:Nat) (hj:j<L.size):(L.setIfInBounds j true).getD i false=if i=j then true else L.getD i false:=by
 by_cases h:i=j
 ·subst h;simp[hj]
 ·simp[h,Array.getElem?_setIfInBounds_ne (Ne.symm h)]
theorem Q1a {ops:Array Oper}(iP:∀ (j:Nat) (o:Oper),ops[j]?=some o→∀ e∈HM o,e<j) {L:Array Bool}(hs:L.size=ops.size) (h:Region.ready .any ops L=[]):∀ j,j<ops.size→L.getD j false=true:=by
 intro j;induction j using Nat.strongRecOn with
 |ind j ih =>
  intro hj;cases hA:L.getD j false with
  |true=>rfl
  |false =>
   exfalso;have:j∈Region.ready .any ops L:=by
    refine mem_ready.2 ⟨?_,ops[j],Array.getElem?_eq_getElem hj,fun e he hb=>?_⟩
    ·have h1:L.getD j true=L[j]:=by simp[hs,hj]
     have h2:L.getD j false=L[j]:=by simp[hs,hj]
     rw[h1,←h2];exact hA
    ·have:=iP j ops[j] (Array.getElem?_eq_getElem hj) e.on (List.mem_map.2 ⟨e,List.mem_filter.2 ⟨by simpa using he,hb⟩,rfl⟩);exact ih _ this (by omega)
   rw[h] at this;cases this
theorem PW {ops:Array Oper}{L:Array Bool}(hs:L.size=ops.size) {j:Nat}(h:j∈Region.ready .any ops L):j<ops.size∧L.getD j false=false∧∃ o,ops[j]?=some o∧∀ e∈HM o,L.getD e false=true:=by obtain⟨h1,o,ho,h2⟩:=mem_ready.1 h;have a_:j<ops.size:=(Array.getElem?_eq_some_iff.1 ho).1;refine⟨a_,by simp[hs,a_] at h1 ⊢;exact h1,o,ho,fun e he=>?_⟩;obtain⟨x,hx,rfl⟩:=List.mem_map.1 he;obtain⟨o7,uf⟩:=List.mem_filter.1 hx;exact h2 x (by simpa using o7) uf
theorem Q6f {ops:Array Oper}(iP:∀ (j:Nat) (o:Oper),ops[j]?=some o→∀ e∈HM o,e<j):∀ (fuel t:Nat) (L:Array Bool),L.size=ops.size→cnt (fun i=>L.getD i false) ops.size≤fuel →
  VU ops L (Region.linearise.go .any ops fuel t L []):=by
 intro fuel;induction fuel with
 |zero =>intro t L hs hc;simp only[Region.linearise.go,List.reverse_nil,VU];exact IY (by omega)
 |succ fuel ih =>
  intro t L hs hc;simp only[Region.linearise.go]
  change VU ops L (match (Region.ready .any ops L)[t % (Region.ready .any ops L).length]? with
   |some i=>Region.linearise.go .any ops fuel (t / (Region.ready .any ops L).length) (L.setIfInBounds i true) [i]
   |none=>[].reverse)
  cases hi:(Region.ready .any ops L)[t % (Region.ready .any ops L).length]? with
  |none =>
   have fY:Region.ready .any ops L=[]:=by
    cases hr:Region.ready .any ops L with
    |nil=>rfl
    |cons x xs =>rw[hr] at hi;have ah:t % (x::xs).length<(x::xs).length:=Nat.mod_lt _ (by simp);simp at hi;simp at ah;omega
   simp only[List.reverse_nil,VU];exact Q1a iP hs fY
  |some i =>
   simp only[];rw[linearise_go_acc,List.reverse_singleton,List.singleton_append];have kB:=List.mem_of_getElem? hi;obtain⟨aM,nr,_⟩:=PW hs kB;refine⟨kB,ih _ _ (by simp[hs]) ?_⟩;have iQ:i<L.size:=by rw[hs];exact aM
   have:=Q36 (A:=fun i=>L.getD i false) (B:=fun k=>(L.setIfInBounds i true).getD k false) (j:=i) nr (by simp only[VO L i i iQ,if_true]) (fun k hk=>by simp only[VO L i k iQ,if_neg hk]) ops.size aM;omega
theorem Fk {ops:Array Oper}:∀ (l:List Nat) (L:Array Bool),L.size=ops.size→VU ops L l→l.Nodup∧∀ j,j∈l↔(j<ops.size∧L.getD j false=false):=by
 intro l;induction l with
 |nil=>intro L hs h;exact⟨List.nodup_nil,fun j=>⟨fun h=>(by cases h),fun ⟨h1,h2⟩=>by rw[h j h1] at h2;cases h2⟩⟩
 |cons i l ih =>
  intro L hs h;obtain⟨kB,h'⟩:=h;obtain⟨aM,nr,_⟩:=PW hs kB;have iQ:i<L.size:=by rw[hs];exact aM
  obtain⟨k1,k2⟩:=ih _ (by simp[hs]) h';refine⟨List.nodup_cons.2 ⟨fun hm=>?_,k1⟩,fun j=>?_⟩
  ·have:=((k2 i).1 hm).2;rw[VO L i i iQ,if_pos rfl] at this;cases this
  ·rw[List.mem_cons,k2 j,VO L i j iQ];by_cases aK:j=i
   ·subst aK;simp[aM,nr]
   ·simp[aK]
structure DBase (ops:Array Oper) (d:DInfo):Prop where
 ed:∀ (j:Nat) (o:Oper),ops[j]?=some o→d.ed.getD j []=HM o
 edge:∀ j,j<ops.size→∀ e∈d.ed.getD j [],e<j
 path:∀ j,j<ops.size→∀ i,i<j→d.lt i j=true→∃ e∈d.ed.getD j [],e=i∨(i<e∧d.lt i e=true)
 up:∀ i j,d.lt i j=true→i<j
 size:d.ks.length=ops.size
theorem FT {ops:Array Oper}{d:DInfo}(hb:DBase ops d) {A:Nat→Bool}(hc:∀ j,j<ops.size→A j=true→∀ e∈d.ed.getD j [],A e=true):∀ j,j<ops.size→A j=true→∀ i,i<j→d.lt i j=true→A i=true:=by
 intro j;induction j using Nat.strongRecOn with
 |ind j ih =>
  intro hj hA i hi ah;obtain⟨e,he,h⟩:=hb.path j hj i hi ah;have ni:=hb.edge j hj e he;have gI:=hc j hj hA e he;rcases h with rfl|⟨h1,h2⟩
  ·exact gI
  ·exact ih e ni (by omega) gI i h1 h2
theorem Z0t {ops:Array Oper}{d:DInfo}(hb:DBase ops d):∀ (l:List Nat) (L:Array Bool),L.size=ops.size→(∀ j,j<ops.size→L.getD j false=true→∀ e∈d.ed.getD j [],L.getD e false=true)→VU ops L l →
  l.Pairwise fun j i=>d.lt i j=false:=by
 intro l;induction l with
 |nil=>intro L _ _ _;exact List.Pairwise.nil
 |cons j l ih =>
  intro L hs hc h;obtain⟨kB,h'⟩:=h;obtain⟨aM,nr,o,ho,iP⟩:=PW hs kB;have iQ:j<L.size:=by rw[hs];exact aM
  have cA:∀ k,k<ops.size→(L.setIfInBounds j true).getD k false=true→∀ e∈d.ed.getD k [],(L.setIfInBounds j true).getD e false=true:=by
   intro k hk hA e he;rw[VO L j e iQ];split
   ·rfl
   ·rw[VO L j k iQ] at hA;split at hA
    ·rename_i ug;subst ug;rw[hb.ed _ o ho] at he;exact iP e he
    ·exact hc k hk hA e he
  obtain⟨k1,k2⟩:=Fk l _ (by simp[hs]) h';refine List.Pairwise.cons (fun i hi=>?_) (ih _ (by simp[hs]) cA h');cases ah:d.lt i j with
  |false=>rfl
  |true =>
   exfalso;have ck:=hb.up i j ah;have hA:(L.setIfInBounds j true).getD j false=true:=by rw[VO L j j iQ,if_pos rfl]
   have:=FT hb cA j aM hA i ck ah;rw[((k2 i).1 hi).2] at this;cases this
theorem CI (lt:Nat→Nat→Bool):∀ (s l:List Nat) (n:Nat),s.Perm l→l.length≤n→s.Pairwise (fun j i=>lt i j=false)→s∈exts lt n l:=by
 intro s;induction s with
 |nil =>intro l n hp hn _;have:l=[]:=hp.symm.eq_nil;subst this;cases n<;>simp[exts]
 |cons k s ih =>
  intro l n hp hn hs;have hk:k∈l:=hp.mem_iff.1 (by simp);cases l with
  |nil=>cases hk
  |cons x xs =>
   cases n with
   |zero=>simp at hn
   |succ n =>
    simp only[exts];refine List.mem_flatMap.2 ⟨k,hk,?_⟩;obtain⟨h1,h2⟩:=List.pairwise_cons.1 hs;have hall:((x::xs).all fun i=>i==k||!lt i k)=true:=by
     refine List.all_eq_true.2 fun i hi=>?_;have:i∈k::s:=hp.mem_iff.2 hi;rcases List.mem_cons.1 this with rfl|h
     ·simp
     ·simp[h1 i h]
    rw[if_pos hall];refine List.mem_map.2 ⟨s,ih _ n ?_ ?_ h2,rfl⟩
    ·exact(List.cons_perm_iff_perm_erase.1 hp).2
    ·rw[List.length_erase_of_mem hk];simp at hn ⊢;omega
theorem Q45 {j:Nat}:∀ (a a' b b':List Nat),j∉a→j∉a'→a++j::b=a'++j::b'→a=a':=by
 intro a;induction a with
 |nil =>
  intro a' b b' _ h' h;cases a' with
  |nil=>rfl
  |cons x a'=>simp at h;exact absurd h.1 (by rintro rfl;exact h' (by simp))
 |cons x a ih =>
  intro a' b b' h1 h2 h;cases a' with
  |nil=>simp at h;exact absurd h.1 (by rintro rfl;exact h1 (by simp))
  |cons y a' =>simp at h;obtain⟨rfl,h⟩:=h;rw[ih a' b b' (fun hm=>h1 (by simp[hm])) (fun hm=>h2 (by simp[hm])) h]
theorem ID {ops:Array Oper}{d:DInfo}(hb:DBase ops d):∀ (l:List Nat) (L:Array Bool),L.size=ops.size→VU ops L l→∀ pre j post,l=pre++j::post→∀ e∈d.ed.getD j [],L.getD e false=true∨e∈pre:=by
 intro l;induction l with
 |nil=>intro L _ _ pre j post h;simp at h
 |cons i l ih =>
  intro L hs h pre j post he e fZ;obtain⟨kB,h'⟩:=h;obtain⟨aM,nr,o,ho,iP⟩:=PW hs kB;have iQ:i<L.size:=by rw[hs];exact aM
  cases pre with
  |nil =>simp at he;obtain⟨rfl,_⟩:=he;rw[hb.ed _ o ho] at fZ;exact .inl (iP e fZ)
  |cons x pre =>
   simp at he;obtain⟨rfl,he⟩:=he;rcases ih _ (by simp[hs]) h' pre j post he e fZ with h1|h1
   ·rw[VO L i e iQ] at h1;split at h1
    ·rename_i cI;subst cI;exact .inr (by simp)
    ·exact .inl h1
   ·exact .inr (by simp[h1])
theorem EP {d0 d:DInfo}{pm l:List Nat}(N:Nat) (hN:∀ i∈l,i<N) (jr:pm.Nodup) (fm:l.Nodup) (aJ:∀ i,i∈pm↔i∈l) (bS:∀ pre j post,l=pre++j::post→∀ e∈d0.ed.getD j [],e∈l→e∈pre)
  (iP:∀ p,p<pm.length→d.ed.getD p []=Q7z d0 pm p) (hf:pm.filter (fun i=>d0.k i==2)=l.filter (fun i=>d0.k i==2)) :
  ∀ (post pre:List Nat),l=pre++post→Q1t pm d pm.length (fun q=>pre.contains (pm.getD q N)) post:=by
 intro post;induction post with
 |nil =>
  intro pre hl p hp;have hm:pm.getD p N∈pm:=by simp[List.getD_eq_getElem?_getD,hp]
  have:=(aJ _).1 hm;rw[hl,List.append_nil] at this;simpa using this
 |cons j post ih =>
  intro pre hl;have b6:j∈l:=by rw[hl];simp
  have dT:=(aJ j).2 b6;have hp:pm.idxOf j<pm.length:=List.idxOf_lt_length_of_mem dT;have sy:pm[pm.idxOf j]'hp=j:=List.getElem_idxOf hp;have hg:∀ z,pm.getD (pm.idxOf j) z=j:=fun z=>by simp[List.getD_eq_getElem?_getD,hp]
  have kC:j∉pre:=fun hm=>by rw[hl] at fm;exact(List.nodup_append.1 fm).2.2 j hm j (by simp) rfl
  refine⟨pm.idxOf j,hp,hg 0,by simp only[hg];simpa using kC,fun e he=>?_,?_⟩
  ·rw[iP _ hp] at he;rcases List.mem_append.1 he with he|he
   ·obtain⟨e0,lq,rfl⟩:=List.mem_map.1 he;rw[hg] at lq;obtain⟨gU,ij⟩:=List.mem_filter.1 lq;have ij:e0∈pm:=by simpa using ij
    have uh:pm.idxOf e0<pm.length:=List.idxOf_lt_length_of_mem ij;have:pm.getD (pm.idxOf e0) N=e0:=by simp[List.getD_eq_getElem?_getD,uh]
    simp only[this];have:=bS pre j post hl e0 gU ((aJ e0).1 ij);simpa using this
   ·split at he
    ·rename_i au;rw[hg] at au;obtain⟨hq,hk⟩:=List.mem_filter.1 (List.mem_of_getLast? (Option.mem_toList.1 he));have cL:e<pm.idxOf j:=List.mem_range.1 hq;have hel:e<pm.length:=by omega
     have heq:pm.getD e N=pm[e]'hel:=by simp[List.getD_eq_getElem?_getD,hel]
     have qe:pm.getD e 0=pm[e]'hel:=by simp[List.getD_eq_getElem?_getD,hel]
     rw[qe] at hk;simp only[heq];have c_:pm=pm.take (pm.idxOf j)++j::pm.drop (pm.idxOf j+1):=by conv=>lhs;rw[←List.take_append_drop (pm.idxOf j) pm,List.drop_eq_getElem_cons hp,sy]
     have qf:j∉pm.take (pm.idxOf j):=by intro hm;have hn:=jr;rw[c_] at hn;exact(List.nodup_append.1 hn).2.2 j hm j (by simp) rfl
     have ui:(pm.take (pm.idxOf j)).filter (fun i=>d0.k i==2)++j::(pm.drop (pm.idxOf j+1)).filter (fun i=>d0.k i==2)=pre.filter (fun i=>d0.k i==2)++j::post.filter (fun i=>d0.k i==2):=by have h1:=hf;rw[c_,hl] at h1;simp only[List.filter_append,List.filter_cons,au,if_true] at h1;exact h1
     have:=Q45 _ _ _ _ (fun hm=>qf (List.mem_filter.1 hm).1) (fun hm=>kC (List.mem_filter.1 hm).1) ui;have aM:pm[e]∈(pm.take (pm.idxOf j)).filter (fun i=>d0.k i==2):=List.mem_filter.2 ⟨List.mem_take_iff_getElem.2 ⟨e,by omega,rfl⟩,hk⟩;rw[this] at aM;have:=(List.mem_filter.1 aM).1;simpa using this
    ·cases he
  ·have qg:(fun q=>if q=pm.idxOf j then true else pre.contains (pm.getD q N))=fun q=>(pre++[j]).contains (pm.getD q N):=by
    funext q
    by_cases hq:q=pm.idxOf j
    ·subst hq;simp only[if_true,hg];simp
    ·rw[if_neg hq];have aC:pm.getD q N≠j:=by
      intro he;rcases Nat.lt_or_ge q pm.length with mz|mz
      ·have h1:pm[q]=j:=by simpa [List.getD_eq_getElem?_getD,mz] using he
       exact hq ((List.getElem_inj (h₀:=mz) (h₁:=hp) jr).1 (h1.trans sy.symm))
      ·simp[List.getD_eq_getElem?_getD,List.getElem?_eq_none mz] at he;have:=hN j b6;omega
     rw[Bool.eq_iff_iff];simp only[List.contains_iff_mem,List.mem_append,List.mem_singleton,aC,or_false]
   rw[qg];exact ih (pre++[j]) (by rw[hl];simp)
theorem Q20 {ops:Array Oper}{vs:List VOper}(h:ops.toList.mapM (Jf P ops)=some vs) (ak:(V5 ops.toList vs).okB=true):DBase ops (V5 ops.toList vs):=by
 have hlen:vs.length=ops.size:=by have:=(WY _ _ _ h).1;simpa using this
 have kn:(V5 ops.toList vs).ks.length=ops.size:=by simp[V5,hlen]
 have dy:=ak;unfold DInfo.okB at dy;rw[Bool.and_eq_true,decide_eq_true_eq] at dy;obtain⟨uj,lj⟩:=dy;have h0:∀ j,j<ops.size→(V5 ops.toList vs).okE j=true∧(V5 ops.toList vs).an.getD j 0<2 ^ j∧((List.range j).all fun i=>!((V5 ops.toList vs).lt i j)||((V5 ops.toList vs).ed.getD j []).any (fun e=>e==i||decide (i<e)&&(V5 ops.toList vs).lt i e))=true:=fun j hj=>by have:=List.all_eq_true.1 lj j (List.mem_range.2 (by rw[kn];exact hj));rw[Bool.and_eq_true,Bool.and_eq_true,decide_eq_true_eq] at this;exact this
 have nu:∀ j,j<ops.size→∀ e∈(V5 ops.toList vs).ed.getD j [],e<j:=fun j hj e he=>by have:=List.all_eq_true.1 (h0 j hj).1 e he;simpa using this
 refine⟨fun j o ho=>by simp[V5,List.getD_eq_getElem?_getD,ho],nu,fun j hj i hi ah=>?_,fun i j ah=>?_,kn⟩
 ·have:=List.all_eq_true.1 (h0 j hj).2.2 i (List.mem_range.2 hi);simp only[ah,Bool.not_true,Bool.false_or,List.any_eq_true,Bool.or_eq_true,Bool.and_eq_true,decide_eq_true_eq,beq_iff_eq] at this;exact this
 ·rcases Nat.lt_or_ge i j with h|h
  ·exact h
  ·exfalso;unfold DInfo.lt at ah;rcases Nat.lt_or_ge j ops.size with hj|hj
   ·have h1:=(h0 j hj).2.1;have h2:(V5 ops.toList vs).an.getD j 0<2 ^ i:=Nat.lt_of_lt_of_le h1 (Nat.pow_le_pow_right (by omega) h);rw[Nat.testBit_lt_two_pow h2] at ah;cases ah
   ·have:(V5 ops.toList vs).an.getD j 0=0:=by
     rw[List.getD_eq_getElem?_getD,List.getElem?_eq_none (by rw[uj,kn];exact hj)];rfl
    rw[this,Nat.zero_testBit] at ah;cases ah
theorem O5 {t:Nat}:∀ (l:List Nat),l.Pairwise (fun j i=>¬ (i<t∧t≤j))→l=l.filter (fun i=>decide (i<t))++l.filter (fun i=>decide (t≤i))
 |[],_=>rfl
 |x::l,h=>by
  obtain⟨h1,h2⟩:=List.pairwise_cons.1 h;have ih:=O5 l h2;by_cases hx:x<t
  ·have mG:¬ t≤x:=by omega
   simp only[List.filter_cons,hx,decide_true,if_true,mG,decide_false,List.cons_append,Bool.false_eq_true,if_false];rw[←ih]
  ·have mG:t≤x:=by omega
   have fY:l.filter (fun i=>decide (i<t))=[]:=List.filter_eq_nil_iff.2 fun i hi=>by have:=h1 i hi;simp;omega
   have hall:l.filter (fun i=>decide (t≤i))=l:=List.filter_eq_self.2 fun i hi=>by have:=h1 i hi;simp;omega
   simp only[List.filter_cons,hx,decide_false,mG,decide_true,if_true,fY,hall];simp
theorem Rc (hS:OkSpecs P S) {ro:Option Nat}{n:Nat}{ops:Array Oper}{vs:List VOper}(cC:ops.toList.mapM (Jf P ops)=some vs) {d0:DInfo}(_hb:DBase ops d0) {l l2 idx pm:List Nat}(fm:l.Nodup) (ah:∀ i∈l,i<ops.size) (qh:∀ i,i∈l↔i∈idx)
  (bS:∀ pre j post,l=pre++j::post→∀ e∈d0.ed.getD j [],e∈l→e∈pre) (jR:Z2z d0 vs idx (l.filter fun i=>d0.k i==2) pm=true)
  {env:Env}{σ:Heap}{K:Env→Heap→Prop}{ρ:Plc}{w:World}{a:Act}(nw:ZA S ((FO d0 vs pm).opers (UI vs pm) 0) env [σ] σ [] K) (hH:HRel ρ σ w) (hL:LRel ρ σ.n env a.tmps.toList) (cY:Mks B a.defers w)
  {Q:Exit→Act→World→Prop}(hQ:∀ a' w',PM B (List.length env) ρ σ w K a' w'→wpOpsIn (FF ro) n P ops Q l2 a' w'):wpOpsIn (FF ro) n P ops Q (l++l2) a w:=by
 have pP:vs.length=ops.size:=by have:=(WY _ _ _ cC).1;simpa using this
 simp only[Z2z,Bool.and_eq_true,decide_eq_true_eq,List.all_eq_true,List.contains_iff_mem] at jR;obtain⟨m1,m2,m3,m4,m5⟩:=jR;have kD:∀ i,i∈pm↔i∈l:=fun i=>by rw[qh i];exact⟨fun hi=>m2 i hi,fun hi=>m1 i hi⟩
 have gJ:∀ i∈pm,i<vs.length:=fun i hi=>by have:=ah i ((kD i).1 hi);omega
 have hl:DLink P ops pm (FO d0 vs pm) (UI vs pm):=DLink.of cC gJ;have qi:(UI vs pm).length=pm.length:=by simp[UI]
 have kn:(FO d0 vs pm).ks.length=(UI vs pm).length:=by simp[FO]
 have hd:=DOk.of m5;rw[kn] at hd;have iP:∀ p,p<pm.length→(FO d0 vs pm).ed.getD p []=Q7z d0 pm p:=fun p hp=>by simp[FO,List.getD_eq_getElem?_getD,hp]
 have iR:=EP (d:=FO d0 vs pm) ops.size ah m3 fm kD bS iP m4 l [] (by simp);have fF:∀ i v,(UI vs pm)[i]?=some v→(FO d0 vs pm).k i=v.op.kind:=fun i v hv=>(hl.comp i v hv).choose_spec.2.2;obtain⟨k,tr,hp,_,_,k2,k3⟩:=Z28 (FO d0 vs pm) (UI vs pm) fF env K (UI vs pm) 0 (by omega) rfl [] (fun _=>undef) (fun _=>σ) [] (fun l hl=>by omega) (fun l hl=>by omega) (by simpa [DInfo.rank,EL] using nw);have qj:hp 0=σ:=k2 0 (by omega);have ny:(fun q=>([]:List Nat).contains (pm.getD q ops.size))=fun _=>false:=by funext q;rfl
 rw[ny] at iR;refine Q0o (B:=B) (pm:=pm) hS hl hd hQ k3 l (fun _=>false) a w (by rw[qi];exact iR) ?_ (fun _ _ _=>rfl) (fun j hj=>by cases hj) (ρ0:=ρ) (σ0:=σ) (w0:=w)
 ·refine⟨fun j hj hA=>(by cases hA),0,ρ,fun l aV hk=>by simp,by omega,by rw[qj];exact hH,?_,cY,by rw[qj];exact Ext.refl _ _ _⟩;have e:EL (UI vs pm) env tr (fun _=>false) (UI vs pm).length=env:=by
   have:∀ m,EL (UI vs pm) env tr (fun _=>false) m=env:=by
    intro m;induction m with
    |zero=>rfl
    |succ m ih=>simp only[EL,Bool.false_eq_true,if_false];exact ih
   exact this _
  rw[e,qj];exact hL
theorem Ac (d:DInfo):∀ (lv:List VOper) (i:Nat),(∀ v∈lv,v.op.kind≠2)→∀ (env:Env) (σ:Heap) (pend:List (Nat×(Heap→Prop))) (K:Env→Heap→Prop),Bw S lv env σ K→ZA S (d.opers lv i) env [σ] σ pend K:=by
 intro lv;induction lv with
 |nil=>intro i _ env σ pend K h;exact h
 |cons v rest ih =>
  intro i hk env σ pend K h;have au:v.op.kind≠2:=hk v (by simp);have dQ:∀ u∈rest,u.op.kind≠2:=fun u hu=>hk u (by simp[hu]);simp only[Bw] at h;simp only[DInfo.opers,ZA];cases hw:Je env v.guard with
  |none=>rw[hw] at h;exact h.elim
  |some b =>
   rw[hw] at h;obtain⟨ht,hf⟩:=h;refine⟨fun e=>?_,fun e=>?_⟩
   ·have ht:=ht e;have fU:∃ p,Q4 v.op (Q3 env) σ=some p∧Bw S rest (Xv env v.dst p.1) p.2 K:=by
     have cD:∀ x:XOp,v.op=.ext x→(∀ y,x≠.nextMap y):=fun x hx y hy=>by rw[hx,hy] at au;exact au rfl
     have:=ht;unfold vop at this;split at this
     ·rename_i f bP heq;rw[heq] at au;exact absurd rfl au
     ·rename_i f bP heq;rw[heq] at au;exact absurd rfl au
     ·rename_i x heq;rw[heq] at au;exact absurd rfl au
     ·cases dP:Q4 v.op (Q3 env) σ with
      |none=>rw[dP] at this;exact this.elim
      |some p=>rw[dP] at this;exact⟨p,rfl,this⟩
    obtain⟨p,hp,hr⟩:=fU;have hq:p.2=σ:=BM au (v:=p.1) (σ':=p.2) hp;rw[hq] at hr;rw[if_neg au];split
    ·rw[hp];refine⟨fun τ hτ=>?_,ih (i+1) dQ _ _ _ _ hr⟩;have:τ=σ:=by
      have:=List.mem_of_mem_drop hτ;simpa using this
     subst this;show QJ (Q4 v.op (Q3 env) τ) _;rw[hp];rfl
    ·rw[hp];exact ih (i+1) dQ _ _ _ _ hr
   ·rw[if_neg au];exact ih (i+1) dQ _ _ _ _ (hf e)
theorem Q3e (hS:OkSpecs P S) {ro:Option Nat}{n:Nat}{ops:Array Oper}{vs:List VOper}(cC:ops.toList.mapM (Jf P ops)=some vs) {d0:DInfo}(hb:DBase ops d0) (_hk0:∀ i v,vs[i]?=some v→d0.k i=v.op.kind) {s len:Nat}(hlen:0<len) (iH:s+len≤ops.size) {x:DSeg}(hx:Z52 d0 vs s len=some x)
  {l l2:List Nat}(fm:l.Nodup) (aJ:∀ i,i∈l↔(s≤i∧i<s+len)) (bS:∀ pre j post,l=pre++j::post→∀ e∈d0.ed.getD j [],e∈l→e∈pre) (jt:l.Pairwise fun j i=>d0.lt i j=false)
  {rest:List DSeg}{env:Env}{σ:Heap}{K:Env→Heap→Prop}{ρ:Plc}{w:World}{a:Act}(h:GD S (x::rest) env σ K) (hH:HRel ρ σ w) (hL:LRel ρ σ.n env a.tmps.toList) (cY:Mks B a.defers w)
  {Q:Exit→Act→World→Prop}(hQ:∀ a' w',PM B (List.length env) ρ σ w (fun env σ=>GD S rest env σ K) a' w'→wpOpsIn (FF ro) n P ops Q l2 a' w'):wpOpsIn (FF ro) n P ops Q (l++l2) a w:=by
 have pP:vs.length=ops.size:=by have:=(WY _ _ _ cC).1;simpa using this
 unfold Z52 at hx;split at hx
 ·rename_i h1;subst h1;obtain rfl:=osj hx;have hs:s<ops.size:=by omega
  have dH:l=[s]:=by
   have hm:∀ i,i∈l↔i=s:=fun i=>by rw[aJ i];omega
   have hp:l.Perm [s]:=(List.perm_ext_iff_of_nodup fm (by simp)).2 fun i=>by rw[hm i];simp
   exact List.perm_singleton.1 hp
  subst dH;obtain⟨v,hv,hc⟩:=(WY _ _ _ cC).2 s ops[s] (by simp[hs]);have hg:vs.getD s default=v:=by simp[List.getD_eq_getElem?_getD,hv]
  simp only[GD,hg] at h;simp only[Bw] at h;rw[List.singleton_append,wpOpsIn_cons];unfold wpOpIn;rw[Array.getElem?_eq_getElem hs];simp only;cases hw:Je env v.guard with
  |none=>rw[hw] at h;exact h.elim
  |some b =>
   rw[hw] at h;obtain⟨ht,hf⟩:=h;obtain⟨dq,bD,bK⟩:=BN hc hL hw;rw[dq];cases b with
   |false =>rw[if_neg (by simp)];refine⟨fun f _=>Q0k _ _,hQ _ _ ⟨_,ρ,σ,hf rfl,ZE _ _ _,hH,by rw[bD];exact KA hL JN _,by rw[Xx];exact cY,Ext.refl _ _ _⟩⟩
   |true =>rw[if_pos rfl];refine UH hS bK hH hL (ht rfl) fun c w' ⟨u,ρ',σ',hK,ew,gG,hE⟩=>?_;exact hQ _ _ ⟨_,ρ',σ',hK,ZE _ _ _,gG,by rw[bD];exact KA (hE.lrel hL) ew _,by rw[Xx];exact cY.ext hH hE,hE⟩
 ·rename_i fE;simp only at hx;split at hx
  ·rename_i hP;obtain rfl:=osj hx;simp only[GD] at h;have nz:(l.filter fun i=>d0.k i==2).Perm ((List.range' s len).filter fun i=>d0.k i==2):=by
    refine (List.Perm.filter _ ?_);refine (List.perm_ext_iff_of_nodup fm List.nodup_range').2 fun j=>?_;rw[aJ j,List.mem_range'_1]
   have hs:=CI d0.lt _ _ len nz (by
    refine Nat.le_trans (List.length_filter_le _ _) (by simp)) (jt.filter _)
   have jR:=List.all_eq_true.1 hP _ (List.mem_map.2 ⟨_,hs,rfl⟩);have nw:=h _ (List.mem_map.2 ⟨_,List.mem_map.2 ⟨_,hs,rfl⟩,rfl⟩);exact Rc hS cC hb fm (fun i hi=>by have:=(aJ i).1 hi;omega) (fun i=>by rw[aJ i,List.mem_range'_1]) bS jR nw hH hL cY (fun a' w' hn=>by
    obtain⟨ae,ρ',σ',⟨aT,σ2,hD,hR⟩,n1,n2,n3,n4,n5⟩:=hn;obtain⟨ρ2,d1,d2,d3⟩:=hD ρ w ρ' w' a'.tmps.toList hH n5 n2 n3;exact hQ a' w' ⟨aT,ρ2,σ2,hR,(d1.1.trans n3.1.symm).trans n1,d2,d1,n4,d3⟩)
  ·cases hx
theorem Q05 (hS:OkSpecs P S) {ro:Option Nat}{n:Nat}{ops:Array Oper}{vs:List VOper}(cC:ops.toList.mapM (Jf P ops)=some vs) {d0:DInfo}(hb:DBase ops d0) (il:∀ i v,vs[i]?=some v→d0.k i=v.op.kind)
  {Q:Exit→Act→World→Prop}{K:Env→Heap→Prop}:∀ (f s:Nat) (aQ:List DSeg),Q31 d0 vs f s=some aQ→s≤ops.size→∀ (l:List Nat),l.Nodup→(∀ i,i∈l↔(s≤i∧i<ops.size)) →
   (∀ pre j post,l=pre++j::post→∀ e∈d0.ed.getD j [],e∈l→e∈pre)→(l.Pairwise fun j i=>d0.lt i j=false) →
   ∀ (env:Env) (σ:Heap) (ρ:Plc) (w:World) (a:Act),GD S aQ env σ K→HRel ρ σ w→LRel ρ σ.n env a.tmps.toList→Mks B a.defers w→(∀ a' w',PM B (List.length env) ρ σ w K a' w'→Q .normal a' w') →
   wpOpsIn (FF ro) n P ops Q l a w:=by
 intro f
 have fin:∀ (s:Nat) (aQ:List DSeg),s=d0.ks.length→[]=aQ→∀ (l:List Nat),(∀ i,i∈l↔(s≤i∧i<ops.size))→∀ (env:Env) (σ:Heap) (ρ:Plc) (w:World) (a:Act),GD S aQ env σ K→HRel ρ σ w→LRel ρ σ.n env a.tmps.toList→Mks B a.defers w→(∀ a' w',PM B (List.length env) ρ σ w K a' w'→Q .normal a' w') →
   wpOpsIn (FF ro) n P ops Q l a w:=by
  intro s aQ hs eQ l aJ env σ ρ w a h hH hL cY hQ;subst eQ;have:l=[]:=by
   cases l with
   |nil=>rfl
   |cons x l =>have:=(aJ x).1 (by simp);rw[hs,hb.size] at this;omega
  subst this;exact hQ a w ⟨env,ρ,σ,h,rfl,hH,hL,cY,Ext.refl _ _ _⟩
 induction f with
 |zero =>
  intro s aQ eQ hs l fm aJ bS jt env σ ρ w a h hH hL cY hQ;simp only[Q31] at eQ;split at eQ
  ·rename_i he;exact fin s aQ he (osj eQ) l aJ env σ ρ w a h hH hL cY hQ
  ·cases eQ
 |succ f ih =>
  intro s aQ eQ hs l fm aJ bS jt env σ ρ w a h hH hL cY hQ;simp only[Q31] at eQ;split at eQ
  ·rename_i he;exact fin s aQ he (osj eQ) l aJ env σ ρ w a h hH hL cY hQ
  ·rename_i aC;split at eQ
   ·cases eQ
   ·rename_i t ht;have qk:=List.find?_some ht;have nB:=List.mem_range'_1.1 (List.mem_of_find?_eq_some ht);rw[hb.size] at nB;split at eQ
    ·rename_i x r hx hr;obtain rfl:=osj eQ;have ah:∀ i p,i<t→t≤p→p<ops.size→d0.lt i p=true:=fun i p hi hp jr=>by
      have h1:=List.all_eq_true.1 qk p (List.mem_range'_1.2 ⟨hp,by rw[hb.size];omega⟩);exact List.all_eq_true.1 h1 i (List.mem_range.2 hi)
     have ql:l.Pairwise (fun j i=>¬ (i<t∧t≤j)):=by refine (List.pairwise_iff_forall_sublist.2 fun {j i} fl=>?_);rintro⟨h1,h2⟩;have hj:j∈l:=fl.subset (by simp);have h3:=(List.pairwise_iff_forall_sublist.1 jt) fl;rw[ah i j h1 h2 ((aJ j).1 hj).2] at h3;cases h3
     have c_:=O5 l ql;have ky:∀ i,i∈l.filter (fun i=>decide (i<t))↔(s≤i∧i<s+(t-s)):=fun i=>by rw[List.mem_filter,aJ i,decide_eq_true_eq];omega
     have iu:∀ i,i∈l.filter (fun i=>decide (t≤i))↔(t≤i∧i<ops.size):=fun i=>by rw[List.mem_filter,aJ i,decide_eq_true_eq];omega
     rw[c_];refine Q3e hS cC hb il (by omega) (by omega) hx (fm.filter _) ky ?_ (jt.filter _) h hH hL cY ?_
     ·intro pre j post he e fZ hel;refine bS pre j (post++l.filter (fun i=>decide (t≤i))) ?_ e fZ (List.mem_filter.1 hel).1;exact c_.trans (by rw[he,List.append_assoc];rfl)
     ·intro a' w' ⟨ae,ρ',σ',k1,k0,k2,k3,k4,k5⟩;refine ih t r hr (by omega) _ (fm.filter _) iu ?_ (jt.filter _) ae σ' ρ' w' a' k1 k2 k3 k4 ?_
      ·intro pre j post he e fZ hel;have:=bS (l.filter (fun i=>decide (i<t))++pre) j post (c_.trans (by rw[he,List.append_assoc])) e fZ (List.mem_filter.1 hel).1;rcases List.mem_append.1 this with h1|h1
       ·have h2:=(List.mem_filter.1 h1).2;have h3:=(List.mem_filter.1 hel).2;simp at h2 h3;omega
       ·exact h1
      ·intro a2 w2 ⟨aT,ρ2,σ2,m1,m0,m2,m3,m4,m5⟩;exact hQ a2 w2 ⟨aT,ρ2,σ2,m1,m0.trans k0,m2,m3,m4,k5.trans m5⟩
    ·cases eQ
theorem OX (hm:P.follows .mixedOrders=true) (hS:OkSpecs P S) {ro:Option Nat}{n:Nat}{id:Nat}{ops:Array Oper}{vs:List VOper}(cC:ops.toList.mapM (Jf P ops)=some vs) {aQ:List DSeg}(ak:Q8g (V5 ops.toList vs) vs=some aQ)
  {env:Env}{σ:Heap}{K:Env→Heap→Prop}{ρ:Plc}{w:World}{a:Act}(h:GD S aQ env σ K) (hH:HRel ρ σ w) (hL:LRel ρ σ.n env a.tmps.toList) (cY:Mks B a.defers w)
  {Q:Exit→Act→World→Prop}(hQ:∀ a' w',PM B (List.length env) ρ σ w K a' w'→Q .normal a' w'):(Code.region id ops true).wpIn (FF ro) n P Q a w:=by
 unfold Q8g at ak;split at ak
 ·rename_i hB;have hb:=Q20 cC hB;have fF:∀ i v,vs[i]?=some v→(V5 ops.toList vs).k i=v.op.kind:=fun i v hv=>by
   simp[DInfo.k,V5,List.getD_eq_getElem?_getD,hv]
  generalize p6:V5 ops.toList vs=d0 at *
  refine wpIn_region_draw fun t=>?_;simp only[Region.schedule,hm,Bool.true_or,if_true];have f_:∀ (j:Nat) (o:Oper),ops[j]?=some o→∀ e∈HM o,e<j:=fun j o ho e he=>hb.edge j (Array.getElem?_eq_some_iff.1 ho).1 e (by rw[hb.ed j o ho];exact he);have hall:∀ i,(Array.replicate ops.size false).getD i false=false:=fun i=>by rw[Array.getD_eq_getD_getElem?,Array.getElem?_replicate];split<;>rfl
  have gX:=Q6f f_ ops.size t (Array.replicate ops.size false) (by simp) (by
   have:∀ m,cnt (fun i=>(Array.replicate ops.size false).getD i false) m≤m:=by
    intro m;induction m with
    |zero=>exact Nat.le_refl _
    |succ m ih=>simp only[cnt];split<;>omega
   exact this _)
  change wpOpsIn _ _ _ _ _ (Region.linearise.go .any ops ops.size t (Array.replicate ops.size false) []) _ _;generalize Region.linearise.go .any ops ops.size t (Array.replicate ops.size false) []=l at *
  obtain⟨eO,aJ⟩:=Fk l _ (by simp) gX;have jt:=Z0t hb l _ (by simp) (fun j _ hA=>by rw[hall] at hA;cases hA) gX;have bS:=ID hb l _ (by simp) gX;refine Q05 hS cC hb fF _ 0 aQ ak (by omega) l eO (fun i=>by rw[aJ i,hall];simp) (fun pre j post he e fZ _=>?_) jt env σ ρ _ a h hH.drew hL (cY.ext hH (Ext.drew _ _ _)) (fun a' w' hn=>?_)
  ·rcases bS pre j post he e fZ with h1|h1
   ·rw[hall] at h1;cases h1
   ·exact h1
  ·obtain⟨ae,ρ',σ',n0,n1,n2,n3,n4,n5⟩:=hn;exact hQ a' w' ⟨ae,ρ',σ',n0,n1,n2,n3,n4,(Ext.drew _ _ _).trans n5⟩
 ·cases ak
theorem Er (hm:P.follows .mixedOrders=true) (hS:OkSpecs P S) {ro:Option Nat}{n:Nat}{id:Nat}{ops:Array Oper}{vs:List VOper}(cC:ops.toList.mapM (Jf P ops)=some vs) (ak:Dw (V5 ops.toList vs) vs=true)
  {env:Env}{σ:Heap}{K:Env→Heap→Prop}{ρ:Plc}{w:World}{a:Act}(h:Bw S vs env σ K) (hH:HRel ρ σ w) (hL:LRel ρ σ.n env a.tmps.toList) (cY:Mks B a.defers w)
  {Q:Exit→Act→World→Prop}(hQ:∀ a' w',PM B (List.length env) ρ σ w K a' w'→Q .normal a' w'):(Code.region id ops true).wpIn (FF ro) n P Q a w:=by
 simp only[Dw,Bool.and_eq_true] at ak;obtain⟨hB,lB,j6⟩:=ak;have hb:=Q20 cC hB;have pP:vs.length=ops.size:=by have:=(WY _ _ _ cC).1;simpa using this
 have au:∀ v∈vs,v.op.kind≠2:=fun v hv=>by have:=List.all_eq_true.1 lB v hv;simpa using this
 have fF:∀ i v,vs[i]?=some v→(V5 ops.toList vs).k i=v.op.kind:=fun i v hv=>by simp[DInfo.k,V5,List.getD_eq_getElem?_getD,hv]
 generalize p6:V5 ops.toList vs=d0 at *
 refine wpIn_region_draw fun t=>?_;simp only[Region.schedule,hm,Bool.true_or,if_true];have f_:∀ (j:Nat) (o:Oper),ops[j]?=some o→∀ e∈HM o,e<j:=fun j o ho e he=>hb.edge j (Array.getElem?_eq_some_iff.1 ho).1 e (by rw[hb.ed j o ho];exact he);have hall:∀ i,(Array.replicate ops.size false).getD i false=false:=fun i=>by rw[Array.getD_eq_getD_getElem?,Array.getElem?_replicate];split<;>rfl
 have gX:=Q6f f_ ops.size t (Array.replicate ops.size false) (by simp) (by
  have:∀ m,cnt (fun i=>(Array.replicate ops.size false).getD i false) m≤m:=by
   intro m;induction m with
   |zero=>exact Nat.le_refl _
   |succ m ih=>simp only[cnt];split<;>omega
  exact this _)
 change wpOpsIn _ _ _ _ _ (Region.linearise.go .any ops ops.size t (Array.replicate ops.size false) []) _ _;generalize Region.linearise.go .any ops ops.size t (Array.replicate ops.size false) []=l at *
 obtain⟨eO,aJ⟩:=Fk l _ (by simp) gX;have bS:=ID hb l _ (by simp) gX;have ah:∀ i∈l,i<ops.size:=fun i hi=>((aJ i).1 hi).1;have fY:l.filter (fun i=>d0.k i==2)=[]:=List.filter_eq_nil_iff.2 fun i hi=>by have aM:=ah i hi;have sA:vs[i]?=some vs[i]:=List.getElem?_eq_getElem (by omega);rw[fF i _ sA];simpa using au _ (List.mem_of_getElem? sA)
 have qm:UI vs (List.range' 0 d0.ks.length)=vs:=by
  apply List.ext_getElem?;intro i;unfold UI;rw[List.getElem?_map];rcases Nat.lt_or_ge i vs.length with hi|hi
  ·rw[List.getElem?_range' (by rw[hb.size];omega),List.getElem?_eq_getElem hi];simp[List.getD_eq_getElem?_getD,hi]
  ·rw[List.getElem?_eq_none (by simp[hb.size];omega),List.getElem?_eq_none hi];rfl
 have hd:=Ac (S:=S) (FO d0 vs (List.range' 0 d0.ks.length)) vs 0 au env σ [] K h;rw[←List.append_nil l];refine Rc hS cC hb eO ah (fun i=>by rw[aJ i,hall,List.mem_range'_1,hb.size];simp) (fun pre j post he e fZ _=>?_) (idx:=List.range' 0 d0.ks.length) (pm:=List.range' 0 d0.ks.length) (by rw[fY];exact j6) (by rw[qm];exact hd) hH.drew hL (cY.ext hH (Ext.drew _ _ _)) (fun a' w' hn=>?_)
 ·rcases bS pre j post he e fZ with h1|h1
  ·rw[hall] at h1;cases h1
  ·exact h1
 ·obtain⟨ae,ρ',σ',n0,n1,n2,n3,n4,n5⟩:=hn;exact hQ a' w' ⟨ae,ρ',σ',n0,n1,n2,n3,n4,(Ext.drew _ _ _).trans n5⟩
theorem EX (hS:OkSpecs P S) {id:Nat}{ops:Array Oper}{lv:List VOper}(b_:ops.toList.mapM (Jf P ops)=some lv):Sound P S (.region id ops false) (.region lv):=by intro B cR ro n Q env σ ρ w a h hH hL hd hR Q' hQ;simp only[vwp] at h;refine wpIn_region ?_;rw[List.range_eq_range',←Array.length_toList,wpOpsIn_eq_wpListIn ops.toList 0 (by simp)];exact Q12 hS ops Q' ops.toList lv b_ env σ _ ρ w a h hH hL hd (fun a' w' hn=>hQ .normal a' w' hn)
theorem cond_true {v:Value}{A B:Prop}(h:Ei v A B):∃ t,v=.bool t∧(t=true→A)∧(t=false→B):=by
 unfold Ei at h;split at h
 ·exact⟨_,rfl,h⟩
 ·exact h.elim
theorem OH {c:Code}{vc:VCode}(ih:Sound P S c vc):Sound P S (.loop c) (.loop vc):=by
 intro B cR ro n Q env σ ρ w a h hH hL hd hR Q' hQ;simp only[vwp] at h;obtain⟨live,I,n0,h0,dU⟩:=h;refine wpIn_loop_ghost (fun k a' w'=>PM B (List.length env) ρ σ w (fun ae σ'=>I k (Bm live ae) σ') a' w') n0 ⟨env,ρ,σ,h0,rfl,hH,hL,hd,Ext.refl _ _ _⟩ ?_;rintro k a1 w1 ⟨bz,ρ1,σ1,k1,k0,k2,k3,k4,k5⟩;have hlen:List.length (XM live (Bm live bz) (List.replicate env.length poison))=List.length env:=by rw[A7];simp
 refine ih cR ro n _ _ σ1 ρ1 w1 a1 (dU k (Bm live bz) σ1 k1) k2 (Q0q live bz _ _ k3 (Q0b _ (by rw[←k3.1,k0]))) k4 (hR.ext k5) _ ?_;rintro e a2 w2 ⟨aT,ρ2,σ2,m1,m0,m2,m3,m4,m5⟩;rw[hlen] at m0;cases e with
 |normal =>obtain⟨n',mw,hI⟩:=m1;exact⟨n',mw,aT,ρ2,σ2,hI,m0,m2,m3,m4,k5.trans m5⟩
 |_=>exact hQ _ a2 w2 ⟨aT,ρ2,σ2,m1,m0,m2,m3,m4,k5.trans m5⟩
theorem BS (c:Code):Sound P S c .bad:=by intro B cR ro n Q env σ ρ w a h;exact h.elim
theorem OL (hm:P.follows .mixedOrders=true) (hS:OkSpecs P S):∀ (c:Code) (vc:VCode),comp P c=some vc→Sound P S c vc:=by
 intro c;induction c with
 |skip =>intro vc hc;simp[comp] at hc;subst hc;intro B cR ro n Q env σ ρ w a h hH hL hd hR Q' hQ;exact wpIn_skip (hQ _ _ _ ⟨env,ρ,σ,h,rfl,hH,hL,hd,Ext.refl _ _ _⟩)
 |region id ops dr =>
  intro vc hc;cases dr with
  |false =>simp only[comp,Option.bind_eq_bind,Option.bind_eq_some_iff] at hc;obtain⟨lv,b_,hc⟩:=hc;simp at hc;subst hc;exact EX hS b_
  |true =>
   simp only[comp,Option.bind_eq_bind,Option.bind_eq_some_iff] at hc;obtain⟨lv,b_,hc⟩:=hc;split at hc
   ·rename_i ak;simp at hc;subst hc;intro B cR ro n Q env σ ρ w a h hH hL hd hR Q' hQ;exact Er hm hS b_ ak h hH hL hd (fun a' w' hn=>hQ .normal a' w' hn)
   split at hc
   ·rename_i aQ ak;simp at hc;subst hc;intro B cR ro n Q env σ ρ w a h hH hL hd hR Q' hQ;exact OX hm hS b_ ak h hH hL hd (fun a' w' hn=>hQ .normal a' w' hn)
   ·simp at hc;subst hc;exact BS _
 |seq x y jS nC =>
  intro vc hc;simp only[comp,Option.bind_eq_bind,Option.bind_eq_some_iff] at hc;obtain⟨vx,hx,vy,hy,hc⟩:=hc;simp at hc;subst hc;intro B cR ro n Q env σ ρ w a h hH hL hd hR Q' hQ;simp only[vwp] at h;refine wpIn_seq (jS vx hx cR ro n _ env σ ρ w a h hH hL hd hR _ ?_);rintro e a1 w1 ⟨bz,ρ1,σ1,k1,k0,k2,k3,k4,k5⟩;cases e with
  |normal =>refine nC vy hy cR ro n _ bz σ1 ρ1 w1 a1 k1 k2 k3 k4 (hR.ext k5) _ ?_;rintro e2 a2 w2 ⟨aT,ρ2,σ2,m1,m0,m2,m3,m4,m5⟩;exact hQ e2 a2 w2 ⟨aT,ρ2,σ2,m1,m0.trans k0,m2,m3,m4,k5.trans m5⟩
  |_=>exact hQ _ a1 w1 ⟨bz,ρ1,σ1,k1,k0,k2,k3,k4,k5⟩
 |cond c x y jS nC =>
  intro vc hc;simp only[comp] at hc;split at hc
  ·rename_i ak;simp only[Option.bind_eq_bind,Option.bind_eq_some_iff] at hc;obtain⟨vx,hx,vy,hy,hc⟩:=hc;simp at hc;subst hc;intro B cR ro n Q env σ ρ w a h hH hL hd hR Q' hQ;simp only[vwp] at h;obtain⟨t,ht,h1,h2⟩:=cond_true h;have hv:=WK hL ak;rw[ht] at hv;refine wpIn_cond_split hv.bool_inv (fun e=>?_) (fun e=>?_)
   ·exact jS vx hx cR ro n Q env σ ρ w a (h1 e) hH hL hd hR Q' hQ
   ·exact nC vy hy cR ro n Q env σ ρ w a (h2 e) hH hL hd hR Q' hQ
  ·simp at hc;subst hc;exact BS _
 |block id x jS =>
  intro vc hc;simp only[comp,Option.bind_eq_bind,Option.bind_eq_some_iff] at hc;obtain⟨vx,hx,hc⟩:=hc;simp at hc;subst hc;intro B cR ro n Q env σ ρ w a h hH hL hd hR Q' hQ;simp only[vwp] at h;refine wpIn_block (jS vx hx cR ro n _ env σ ρ w a h hH hL hd hR _ ?_);rintro e a1 w1 ⟨bz,ρ1,σ1,k1,k0,k2,k3,k4,k5⟩;cases e with
  |exit iF =>
   simp only[E_] at k1;simp only[Exit.inBlock];split at k1
   ·rename_i he;rw[if_pos he];exact hQ _ a1 w1 ⟨bz,ρ1,σ1,k1,k0,k2,k3,k4,k5⟩
   ·rename_i he;rw[if_neg he];exact hQ _ a1 w1 ⟨bz,ρ1,σ1,k1,k0,k2,k3,k4,k5⟩
  |_=>exact hQ _ a1 w1 ⟨bz,ρ1,σ1,k1,k0,k2,k3,k4,k5⟩
 |loop x jS =>intro vc hc;simp only[comp,Option.bind_eq_bind,Option.bind_eq_some_iff] at hc;obtain⟨vx,hx,hc⟩:=hc;simp at hc;subst hc;exact OH (jS vx hx)
 |rangeFunc g ps x y jS nC =>
  intro vc hc;simp only[comp] at hc;split at hc
  ·rename_i ak;simp only[Option.bind_eq_bind,Option.bind_eq_some_iff] at hc;obtain⟨vx,hx,vy,hy,hc⟩:=hc;simp at hc;subst hc;exact F_ hS (jS vx hx) (nC vy hy) g ak ps
  ·simp at hc;subst hc;exact BS _
 |exit id =>intro vc hc;simp[comp] at hc;subst hc;intro B cR ro n Q env σ ρ w a h hH hL hd hR Q' hQ;exact wpIn_exit (hQ _ _ _ ⟨env,ρ,σ,h,rfl,hH,hL,hd,Ext.refl _ _ _⟩)
 |ret =>intro vc hc;simp[comp] at hc;subst hc;intro B cR ro n Q env σ ρ w a h hH hL hd hR Q' hQ;exact wpIn_ret (hQ _ _ _ ⟨env,ρ,σ,h,rfl,hH,hL,hd,Ext.refl _ _ _⟩)
 |_ =>intro vc hc;simp[comp] at hc;subst hc;exact BS _
end
end Go.V
namespace Go.V
open Go
inductive Ren (n:Nat) (π:Nat→Nat):Value→Value→Prop
 |plain (v:Value) (h:QD v=true):Ren n π v v
 |poison (c:Value):Ren n π poison c
 |glob (g o s:Nat):Ren n π (.pointer (some ⟨g,o,some s⟩)) (.pointer (some ⟨g,o,some s⟩))
 |ptr (i o:Nat) (hi:i<n):Ren n π (.pointer (some ⟨i,o,none⟩)) (.pointer (some ⟨π i,o,none⟩))
 |sl (i o len cap:Nat) (hi:i<n):Ren n π (.slice (some ⟨i,o,none⟩) len cap) (.slice (some ⟨π i,o,none⟩) len cap)
 |map (i:Nat) (hi:i<n):Ren n π (.map (some i)) (.map (some (π i)))
 |iface (t:TypeId) (v c:Value) (h:Ren n π v c):Ren n π (.iface t v) (.iface t c)
 |yield (i:Nat) (hi:i<n):Ren n π (.func (.yield i) #[] #[]) (.func (.yield (π i)) #[] #[])
 |func (fn:FuncId) (fs gs cs ds:Array Value) (hf:fs.size=gs.size) (hc:cs.size=ds.size)
   (h1:∀ i (h1:i<fs.size) (h2:i<gs.size),Ren n π fs[i] gs[i]) (h2:∀ i (h1:i<cs.size) (h2:i<ds.size),Ren n π cs[i] ds[i]):Ren n π (.func (.func fn) fs cs) (.func (.func fn) gs ds)
 |agg (cs ds:Array Value) (hc:cs.size=ds.size) (h:∀ i (h1:i<cs.size) (h2:i<ds.size),Ren n π cs[i] ds[i]):Ren n π (.agg cs) (.agg ds)
 |tuple (cs ds:Array Value) (hc:cs.size=ds.size) (h:∀ i (h1:i<cs.size) (h2:i<ds.size),Ren n π cs[i] ds[i]):Ren n π (.tuple cs) (.tuple ds)
def LRen (n:Nat) (π:Nat→Nat) (vs cs:List Value):Prop:=vs.length=cs.length∧∀ (i:Nat) (v c:Value),vs[i]?=some v→cs[i]?=some c→Ren n π v c
theorem Ren.rel {ρ:Plc}{nf n':Nat}{π:Nat→Nat}{v' v:Value}(h:Ren n' π v' v):∀ {c:Value},VRel ρ nf v c→VRel (fun i=>if i<n' then ρ (π i) else none) n' v' c:=by
 induction h with
 |plain v h =>intro c hv;have:c=v:=U3 h hv;subst this;exact WW h
 |poison c=>intro c _;exact .poison _
 |glob g o s=>intro c hv;cases hv;exact .glob _ _ _
 |ptr i o hi =>intro c hv;obtain⟨a,rfl,_,h⟩:=hv.ptr_inv';exact .ptr _ _ _ hi fun p hp=>h p (by simpa [hi] using hp)
 |sl i o len cap hi =>intro c hv;obtain⟨a,aq,rfl,_,h⟩:=hv.sl_inv;exact .sl _ _ _ _ _ _ hi fun p hp=>h p (by simpa [hi] using hp)
 |map i hi =>
  intro c hv;cases hv with
  |map _ r _ h=>exact .map _ _ hi fun p hp=>h p (by simpa [hi] using hp)
 |yield i hi =>
  intro c hv;cases hv with
  |yield _ r _ h=>exact .yield _ _ hi fun p hp=>h p (by simpa [hi] using hp)
 |iface t v c h ih =>
  intro c hv;cases hv with
  |iface _ _ _ h=>exact .iface _ _ _ (ih h)
 |func fn fs gs cs ds hf hc h1 h2 kV kW =>
  intro c hv;cases hv with
  |func _ _ wH _ ds' lC cA ga kE =>exact .func _ _ _ _ _ (hf.trans lC) (hc.trans cA) (fun i k1 k2=>kV i k1 (by omega) (ga i (by omega) k2)) (fun i k1 k2=>kW i k1 (by omega) (kE i (by omega) k2))
 |agg cs ds hc h ih =>
  intro c hv;cases hv with
  |agg _ ds' cA h'=>exact .agg _ _ (hc.trans cA) fun i k1 k2=>ih i k1 (by omega) (h' i (by omega) k2)
 |tuple cs ds hc h ih =>
  intro c hv;cases hv with
  |tuple _ ds' cA h'=>exact .tuple _ _ (hc.trans cA) fun i k1 k2=>ih i k1 (by omega) (h' i (by omega) k2)
theorem VRel.ren {ρ:Plc}{n n':Nat}{π:Nat→Nat}(hn:n≤n') (hπ:∀ i,i<n→π i=i) {v c:Value}(h:VRel ρ n v c):Ren n' π v v:=by
 induction h with
 |poison c=>exact .poison _
 |bool b=>exact .plain _ rfl
 |int k x=>exact .plain _ rfl
 |string s=>exact .plain _ rfl
 |nilPtr=>exact .plain _ rfl
 |nilSl=>exact .plain _ rfl
 |nilMap=>exact .plain _ rfl
 |nilFunc=>exact .plain _ rfl
 |nilIface=>exact .plain _ rfl
 |glob g o s=>exact .glob _ _ _
 |ptr i o a hi h=>have:=Ren.ptr (n:=n') (π:=π) i o (by omega);rwa [hπ i hi] at this
 |sl i o len cap a aq hi h=>have:=Ren.sl (n:=n') (π:=π) i o len cap (by omega);rwa [hπ i hi] at this
 |map i r hi h=>have:=Ren.map (n:=n') (π:=π) i (by omega);rwa [hπ i hi] at this
 |yield i r hi h=>have:=Ren.yield (n:=n') (π:=π) i (by omega);rwa [hπ i hi] at this
 |iface t v c _ ih=>exact .iface _ _ _ ih
 |func fn fs gs cs ds hf hc _ _ kV kW=>exact .func _ _ _ _ _ rfl rfl (fun i k1 _=>kV i k1 (by omega)) (fun i k1 _=>kW i k1 (by omega))
 |agg cs ds hc _ ih=>exact .agg _ _ rfl fun i k1 _=>ih i k1 (by omega)
 |tuple cs ds hc _ ih=>exact .tuple _ _ rfl fun i k1 _=>ih i k1 (by omega)
theorem LRen.rel {ρ:Plc}{nf n':Nat}{π:Nat→Nat}{cM vs:List Value}(h:LRen n' π cM vs) {cs:List Value}(hL:LRel ρ nf vs cs):LRel (fun i=>if i<n' then ρ (π i) else none) n' cM cs:=by
 refine⟨h.1.trans hL.1,fun i v c hv hc=>?_⟩;have ah:i<vs.length:=by rw[←h.1];exact(List.getElem?_eq_some_iff.1 hv).1
 exact(h.2 i v _ hv (List.getElem?_eq_getElem ah)).rel (hL.2 i _ c (List.getElem?_eq_getElem ah) hc)
theorem LRel.ren {ρ:Plc}{n n':Nat}{π:Nat→Nat}(hn:n≤n') (hπ:∀ i,i<n→π i=i) {vs cs:List Value}(h:LRel ρ n vs cs):LRen n' π vs vs :=
 ⟨rfl,fun i v u hv hu=>by
  obtain rfl:v=u:=osj (hv.symm.trans hu);obtain⟨c,_,hc⟩:=h.get hv;exact hc.ren hn hπ⟩
def ORen (n:Nat) (π:Nat→Nat):VObj→VObj→Prop
 |.map es clock,.map fs lD=>clock=lD∧es.length=fs.length∧∀ (k:Nat) (a b:JV),es[k]?=some a→fs[k]?=some b→a.1=b.1∧a.2.2=b.2.2∧Ren n π a.2.1 b.2.1
 |.iter m since seen last,.iter m' lF nD nE=>m'=π m∧m<n∧since=lF∧seen=nD∧last=nE
 |.lp env r st pend,.lp ae r' mu bR=>LRen n π env ae∧r=r'∧st=mu∧pend=bR
 |_,_=>False
theorem ORen.rel {ρ:Plc}{nf n':Nat}{π:Nat→Nat}{o' o:VObj}(h:ORen n' π o' o) {O:Obj}(hO:ORel ρ nf o O):ORel (fun i=>if i<n' then ρ (π i) else none) n' o' O:=by
 cases o'<;>cases o<;>try exact h.elim
 ·obtain⟨rfl,hl,hk⟩:=h;obtain⟨entries,h1,h2,h3⟩:=hO;refine⟨entries,h1,by rw[hl];exact h2,fun k a ha=>?_⟩;have aP:=(List.getElem?_eq_some_iff.1 ha).1;rw[hl] at aP;obtain⟨e,he,h4,h5,h6⟩:=h3 k _ (List.getElem?_eq_getElem aP);obtain⟨k1,k2,k3⟩:=hk k a _ ha (List.getElem?_eq_getElem aP);exact⟨e,he,h4.trans k1.symm,h5.trans k2.symm,k3.rel h6⟩
 ·obtain⟨rfl,hm,rfl,rfl,rfl⟩:=h;obtain⟨rm,h1,h2⟩:=hO;exact⟨rm,h1,(Ren.map _ hm).rel h2⟩
 ·obtain⟨hl,rfl,rfl,rfl⟩:=h;exact⟨hO.1,hl.rel hO.2⟩
theorem ORel.ren {ρ:Plc}{n n':Nat}{π:Nat→Nat}(hn:n≤n') (hπ:∀ i,i<n→π i=i) {o:VObj}{O:Obj}(h:ORel ρ n o O):ORen n' π o o:=by
 cases o with
 |map es clock =>obtain⟨entries,h1,h2,h3⟩:=h;refine⟨rfl,rfl,fun k a b ha hb=>?_⟩;obtain rfl:a=b:=osj (ha.symm.trans hb);obtain⟨e,_,_,_,hv⟩:=h3 k a ha;exact⟨rfl,rfl,hv.ren hn hπ⟩
 |iter m since seen last =>
  obtain⟨rm,h1,h2⟩:=h;cases h2 with
  |map _ _ hi _=>exact⟨(hπ m hi).symm,by omega,rfl,rfl,rfl⟩
 |lp env r st pend=>exact⟨h.2.ren hn hπ,rfl,rfl,rfl⟩
def BRen (n:Nat) (π:Nat→Nat):Blk→Blk→Prop
 |.cells c esz wr tight,.cells d nF ka iS=>esz=nF∧wr=ka∧tight=iS∧LRen n π c d
 |.obj o wr,.obj o' ka=>wr=ka∧ORen n π o o'
 |_,_=>False
theorem BRen.wr {n:Nat}{π:Nat→Nat}{b c:Blk}(h:BRen n π b c):b.wr=c.wr:=by cases b<;>cases c<;>first|(exact h.elim)|exact h.2.1|exact h.1
theorem BRen.rel {ρ:Plc}{nf n':Nat}{π:Nat→Nat}{p:Pl}{w:World}{b' b:Blk}(h:BRen n' π b' b) (hB:BRel ρ nf p w b):BRel (fun i=>if i<n' then ρ (π i) else none) n' p w b':=by
 cases b' with
 |cells c esz wr tight =>
  cases b with
  |cells d nF ka iS =>
   obtain⟨rfl,rfl,rfl,hl⟩:=h;obtain⟨h1,h2,h3,h4,h5,h6⟩:=hB;refine⟨h1,h2,by rw[hl.1];exact h3,h4,fun k v hk=>?_,h6⟩;have aP:k<d.length:=by rw[←hl.1];exact(List.getElem?_eq_some_iff.1 hk).1
   obtain⟨u,hu,hv⟩:=h5 k _ (List.getElem?_eq_getElem aP);exact⟨u,hu,(hl.2 k v _ hk (List.getElem?_eq_getElem aP)).rel hv⟩
  |obj _ _=>exact h.elim
 |obj o wr =>
  cases b with
  |cells _ _ _ _=>exact h.elim
  |obj o' ka =>obtain⟨rfl,ho⟩:=h;obtain⟨h0,O,h1,h2⟩:=hB;exact⟨h0,O,h1,ho.rel h2⟩
def VObj.plain:VObj→Bool
 |.map es _=>es.all fun kv=>QD kv.2.1
 |_=>false
def Blk.plain:Blk→Bool
 |.cells c _ _ _=>c.all QD
 |.obj o _=>o.plain
theorem LRen.plain {n:Nat}{π:Nat→Nat}{c:List Value}(h:c.all QD=true):LRen n π c c :=
 ⟨rfl,fun i v u hv hu=>by
  obtain rfl:v=u:=osj (hv.symm.trans hu);exact .plain _ (List.all_eq_true.1 h v (List.mem_of_getElem? hv))⟩
theorem BRen.plain {n:Nat}{π:Nat→Nat}{b:Blk}(h:b.plain=true):BRen n π b b:=by
 cases b with
 |cells c esz wr tight=>exact⟨rfl,rfl,rfl,LRen.plain h⟩
 |obj o wr =>
  cases o with
  |map es clock =>refine⟨rfl,rfl,rfl,fun k a b ha hb=>?_⟩;obtain rfl:a=b:=osj (ha.symm.trans hb);exact⟨rfl,rfl,.plain _ (List.all_eq_true.1 h a (List.mem_of_getElem? ha))⟩
  |_=>cases h
theorem BRel.ren {ρ:Plc}{n n':Nat}{π:Nat→Nat}(hn:n≤n') (hπ:∀ i,i<n→π i=i) {p:Pl}{w:World}{b:Blk}(h:BRel ρ n p w b):BRen n' π b b:=by
 cases b with
 |cells c esz wr tight =>refine⟨rfl,rfl,rfl,rfl,fun i v u hv hu=>?_⟩;obtain rfl:v=u:=osj (hv.symm.trans hu);obtain⟨_,_,uk⟩:=h.2.2.2.2.1 i v hv;exact uk.ren hn hπ
 |obj o wr =>obtain⟨_,O,_,ho⟩:=h;exact⟨rfl,ho.ren hn hπ⟩
def DropTo (σ0:Heap) (v:Value) (σf:Heap) (v':Value) (σ':Heap):Prop :=
 ∀ ρ0 w0 ρ w c,HRel ρ0 σ0 w0→Ext ρ0 σ0 w0 ρ σf w→HRel ρ σf w→VRel ρ σf.n v c→∃ ρ',VRel ρ' σ'.n v' c∧HRel ρ' σ' w∧Ext ρ0 σ0 w0 ρ' σ' w
theorem DropTo.refl (σ0:Heap) (v:Value) (σf:Heap):DropTo σ0 v σf v σf:=fun _ _ ρ _ _ _ hE hH hv=>⟨ρ,hv,hH,hE⟩
theorem DropTo.rename {σ0 σf σ':Heap}{v v':Value}(π:Nat→Nat) (h1:σ0.n≤σ'.n)
  (h2:∀ i,i<σ0.n→π i=i∧σ'.get i=σf.get i∧(σf.get i=σ0.get i∨∃ b,σf.get i=some b∧b.plain=true))
  (h3:∀ i,σ0.n≤i→i<σ'.n→σ0.n≤π i∧∃ b' b,σ'.get i=some b'∧σf.get (π i)=some b∧BRen σ'.n π b' b)
  (h4:∀ i j,σ0.n≤i→i<σ'.n→σ0.n≤j→j<σ'.n→π i=π j→i=j) (h5:Ren σ'.n π v' v):DropTo σ0 v σf v' σ':=by
 intro ρ0 w0 ρ w c fW hE hH hv;have hπ:∀ i,i<σ0.n→π i=i:=fun i hi=>(h2 i hi).1;have aE:∀ i b',σ'.get i=some b'→∃ b,σf.get (π i)=some b∧BRen σ'.n π b' b:=fun i b' hb=>by
  have hi:=σ'.lt hb;rcases Nat.lt_or_ge i σ0.n with ah|bh
  ·obtain⟨k1,k2,k3⟩:=h2 i ah;rw[k1];rw[k2] at hb;refine⟨b',hb,?_⟩;rcases k3 with k3|⟨b,k3,k4⟩
   ·rw[k3] at hb;obtain⟨p,_,hB⟩:=fW.live i b' hb;exact hB.ren h1 hπ
   ·rw[k3] at hb;obtain rfl:=osj hb;exact BRen.plain k4
  ·obtain⟨_,b1,b,k1,k2,k3⟩:=h3 i bh hi;rw[k1] at hb;obtain rfl:=osj hb;exact⟨b,k2,k3⟩
 have dV:∀ i j,i<σ'.n→j<σ'.n→π i=π j→i=j:=fun i j hi hj he=>by
  rcases Nat.lt_or_ge i σ0.n with ah|bh<;>rcases Nat.lt_or_ge j σ0.n with bZ|iT
  ·rw[hπ i ah,hπ j bZ] at he;exact he
  ·have:=(h3 j iT hj).1;rw[hπ i ah] at he;omega
  ·have:=(h3 i bh hi).1;rw[hπ j bZ] at he;omega
  ·exact h4 i j bh hi iT hj he
 have hX:Ext ρ0 σ0 w0 (fun i=>if i<σ'.n then ρ (π i) else none) σ' w:=by
  refine⟨hE.os,hE.tape,hE.output,hE.size,hE.keep,?_,h1,fun i hi p hp=>?_⟩
  ·rintro B hB ⟨i,p,b,hp,hb,hw,rfl⟩;change (if i<σ'.n then ρ (π i) else none)=some p at hp;split at hp
   ·obtain⟨b0,bp,bW⟩:=aE i b hb;exact hE.wr _ hB ⟨π i,p,b0,hp,bp,by rw[←bW.wr];exact hw,rfl⟩
   ·cases hp
  ·change (if i<σ'.n then ρ (π i) else none)=some p at hp;split at hp
   ·rw[hπ i hi] at hp;exact hE.pl i hi p hp
   ·cases hp
 refine⟨fun i=>if i<σ'.n then ρ (π i) else none,h5.rel hv,fW.ext ⟨fun i b' hb=>?_,fun i hi=>?_,fun i p hp=>?_,fun i j p q b ck hp hq hb hw hx=>?_⟩ hX,hX⟩
 ·obtain⟨b,bp,bW⟩:=aE i b' hb;obtain⟨p,hp,hB⟩:=hH.live _ b bp;exact⟨p,by simp[σ'.lt hb,hp],bW.rel hB⟩
 ·show (if i<σ'.n then ρ (π i) else none)=none;split
  ·rename_i ah;rcases Nat.lt_or_ge i σ0.n with bZ|bh
   ·obtain⟨k1,k2,_⟩:=h2 i bZ;rw[k1];exact hH.dead i (by rw[←k2];exact hi)
   ·obtain⟨_,b1,b,k1,_⟩:=h3 i bh ah;rw[k1] at hi;cases hi
  ·rfl
 ·change (if i<σ'.n then ρ (π i) else none)=some p at hp;split at hp
  ·exact hH.lt _ p hp
  ·cases hp
 ·change (if i<σ'.n then ρ (π i) else none)=some p at hp;change (if j<σ'.n then ρ (π j) else none)=some q at hq;split at hp
  ·rename_i hi;split at hq
   ·rename_i hj;obtain⟨b0,bp,bW⟩:=aE i b hb;exact hH.sep (π i) (π j) p q b0 (fun e=>ck (dV i j hi hj e)) hp hq bp (by rw[←bW.wr];exact hw) hx
   ·cases hq
  ·cases hp
def Agree (σ0 σf:Heap):Prop:=∀ i,i<σ0.n→σf.get i=σ0.get i
theorem Agree.refl (σ:Heap):Agree σ σ:=fun _ _=>rfl
theorem Agree.push {σ0 σ:Heap}(h:Agree σ0 σ) (hn:σ0.n≤σ.n) (b:Blk):Agree σ0 (σ.push b):=fun i hi=>(Heap.get_push_lt σ b (by omega)).trans (h i hi)
theorem Agree.trans {σ0 σ1 σ2:Heap}(h:Agree σ0 σ1) (k:Agree σ1 σ2) (hn:σ0.n≤σ1.n):Agree σ0 σ2:=fun i hi=>(k i (by omega)).trans (h i hi)
section
variable {P:Program}{S:VSpecs}
def UC (tmps:Array Value):ResultVar→Sem Value
 |.tmp t=>pure (tmps.getD t undef)
 |.cell a t=>do loadVar t (←asAddr (tmps.getD a undef))
theorem Lz (fn:Func) (tmps:Array Value):results fn tmps=(do
  let vs ←fn.results.mapM (UC tmps)
  pure (if h:vs.size=1 then vs[0] else .tuple vs)):=by
 unfold results;congr 1
theorem C5 {ρ:Plc}{σ:Heap}{w:World}{env:Env}{tmps:Array Value}(hH:HRel ρ σ w) (hL:LRel ρ σ.n env tmps.toList) {r:ResultVar}{vr:VResult}
  (hc:JT P r=some vr) {v:Value}(h:JF env σ vr=some v):∃ c,VRel ρ σ.n v c∧(UC tmps r).run P w=.ok c w:=by
 have ai:∀ t,VRel ρ σ.n (env.getD t undef) (tmps.getD t undef):=fun t=>WK (a:=⟨tmps,[]⟩) hL (x:=.tmp t) rfl;cases r with
 |tmp t =>simp[JT] at hc;subst hc;simp only[JF,Option.some.injEq] at h;subst h;exact⟨_,ai t,rfl⟩
 |cell a t =>
  simp only[JT] at hc;split at hc
  ·rename_i i d hi hu;simp at hc;subst hc;simp only[JF,Option.map_eq_some_iff] at h;obtain⟨p,hp,rfl⟩:=h;simp only[Q4,Q3] at hp;have ha:=ai a;split at hp
   ·rename_i g o s h1;rw[h1] at ha;split at hp
    ·rename_i c hb;split at hp
     ·rename_i hall;split at hp
      ·rename_i v0 hv;simp at hp;subst hp;obtain⟨u,cB,hr⟩:=AI hH hi hu hb hall hv ha;refine⟨u,cB,?_⟩;have:=hr w (Like.refl ρ w);have nG:tmps.getD a undef=.pointer (some ⟨g,o,none⟩):=by
        generalize tmps.getD a undef=c at ha;cases ha;rfl
       rw[nG] at this;simp only[Instr.loadAt,Instr.sureAddr,Sem.run_bind,Sem.run_pure,Result.andThen_ok] at this;simp only[UC,nG,asAddr,Sem.run_bind,Sem.run_pure,Result.andThen_ok];exact this
      ·cases hp
     ·cases hp
    ·cases hp
   ·rename_i i' o h1;rw[h1] at ha;split at hp
    ·rename_i c esz wr tight hb;split at hp
     ·rename_i v0 hv;simp at hp;subst hp;obtain⟨u,cB,hr⟩:=IF hH hi hu hb hv ha;refine⟨u,cB,?_⟩;have:=hr w (Like.refl ρ w);obtain⟨ad,nG,_⟩:=ha.ptr_inv';rw[nG] at this;simp only[Instr.loadAt,Instr.sureAddr,Sem.run_bind,Sem.run_pure,Result.andThen_ok] at this;simp only[UC,nG,asAddr,Sem.run_bind,Sem.run_pure,Result.andThen_ok];exact this
     ·cases hp
    ·cases hp
   ·cases hp
  ·cases hc
theorem I5 {α:Type}{ρ:Plc}{n:Nat}(g:α→Sem Value) (w:World) (f:α→Option Value):∀ (l:List α) (vs:List Value),l.mapM f=some vs →
  (∀ a∈l,∀ v,f a=some v→∃ c,VRel ρ n v c∧(g a).run P w=.ok c w)→∃ cs,LRel ρ n vs cs∧(l.mapM g).run P w=.ok cs w:=by
 intro l;induction l with
 |nil=>intro vs h _;simp at h;subst h;exact⟨[],LRel.nil _ _,rfl⟩
 |cons a l ih =>
  intro vs h hg;rw[List.mapM_cons] at h;cases hf:f a with
  |none=>simp[hf] at h
  |some v =>
   cases hm:l.mapM f with
   |none=>simp[hf,hm] at h
   |some cM =>simp[hf,hm] at h;subst h;obtain⟨c,eL,iv⟩:=hg a (by simp) v hf;obtain⟨cs,qn,de⟩:=ih cM hm (fun b hb=>hg b (by simp[hb]));refine⟨c::cs,LRel.cons eL qn,?_⟩;rw[List.mapM_cons];simp[iv,de]
theorem S7 {ρ:Plc}{σ:Heap}{w:World}{env:Env}{tmps:Array Value}(hH:HRel ρ σ w) (hL:LRel ρ σ.n env tmps.toList) {fn:Func}{rs:List VResult}
  (hc:N7 P fn.results.toList=some rs) {v:Value}(h:JJ env σ rs=some v):∃ c,VRel ρ σ.n v c∧(results fn tmps).run P w=.ok c w:=by
 unfold N7 at hc;have hall:∀ vs,rs.mapM (JF env σ)=some vs→∃ cs,LRel ρ σ.n vs cs∧(fn.results.mapM (UC tmps)).run P w=.ok cs.toArray w:=by
  intro vs cC;have nH:fn.results.toList.mapM (fun r=>(JT P r).bind (JF env σ))=some vs:=by
   have:∀ (l:List ResultVar) (rs:List VResult) (vs:List Value),l.mapM (JT P)=some rs→rs.mapM (JF env σ)=some vs→l.mapM (fun r=>(JT P r).bind (JF env σ))=some vs:=by
    intro l;induction l with
    |nil=>intro rs vs h1 h2;simp at h1;subst h1;simpa using h2
    |cons r l ih =>
     intro rs vs h1 h2;rw[List.mapM_cons] at h1;cases hg:JT P r with
     |none=>simp[hg] at h1
     |some x =>
      cases hm:l.mapM (JT P) with
      |none=>simp[hg,hm] at h1
      |some bB =>
       simp[hg,hm] at h1;subst h1;rw[List.mapM_cons] at h2;cases hx:JF env σ x with
       |none=>simp[hx] at h2
       |some y =>
        cases iu:bB.mapM (JF env σ) with
        |none=>simp[hx,iu] at h2
        |some cM =>simp[hx,iu] at h2;subst h2;rw[List.mapM_cons];simp[hg,hx,ih bB cM hm iu]
   exact this _ _ _ hc cC
  obtain⟨cs,k1,k2⟩:=I5 (P:=P) (ρ:=ρ) (n:=σ.n) (UC tmps) w _ _ _ nH (fun r _ v hv=>by
   cases hr:JT P r with
   |none=>rw[hr] at hv;cases hv
   |some vr=>rw[hr] at hv;exact C5 hH hL hr hv)
  refine⟨cs,k1,?_⟩;rw[Array.mapM_eq_mapM_toList];simp[k2]
 unfold JJ at h;split at h
 ·rename_i r;obtain⟨cs,k1,k2⟩:=hall [v] (by simp[h]);have cy:cs.length=1:=by rw[←k1.1];rfl
  obtain⟨c,rfl⟩:=List.length_eq_one_iff.1 cy;refine⟨c,k1.2 0 v c rfl rfl,?_⟩;rw[Lz];simp only[Sem.run_bind];rw[k2];simp
 ·rename_i aC;simp only[Option.map_eq_some_iff] at h;obtain⟨vs,cC,rfl⟩:=h;obtain⟨cs,k1,k2⟩:=hall vs cC;refine⟨.tuple cs.toArray,VRel.tuple_of k1,?_⟩;have hl:cs.length≠1:=by
   rw[←k1.1,(WY _ _ _ cC).1];intro e;obtain⟨r,hr⟩:=List.length_eq_one_iff.1 e;exact aC r hr
  rw[Lz];simp only[Sem.run_bind];rw[k2];simp[hl]
theorem AY {ρ:Plc}{n:Nat}(k:Nat):LRel ρ n (List.replicate k undef) (List.replicate k undef) :=
 ⟨rfl,fun i v c hv hc=>by
  obtain rfl:v=c:=osj (hv.symm.trans hc);have:=List.mem_of_getElem? hv;rw[List.mem_replicate] at this;rw[this.2];exact JN⟩
theorem Pr {w:World}{D:Nat}{ds:List Deferred}(h:w.heap[D]?=some (.deferred (some ds))):(Instr.takeDeferred D).run P w=.ok ds (RQ w D (.deferred none)):=by simp[Instr.takeDeferred,Qs h (fun _ _ _ e=>by cases e),QG h (fun _ _ _ e=>by cases e)]
theorem Ext.mark {ρ0 ρ:Plc}{σ0 σ:Heap}{w0 w:World}(hE:Ext ρ0 σ0 w0 ρ σ w) {D:Nat}(hD:w0.heap.size≤D) (O:Obj):Ext ρ0 σ0 w0 ρ σ (RQ w D O) :=
 ⟨hE.os,hE.tape,hE.output,by rw[BD];exact hE.size,fun B hB hW=>(KM w D O B (by omega)).trans (hE.keep B hB hW),hE.wr,hE.n,hE.pl⟩
theorem HRel.mark {ρ:Plc}{σ:Heap}{w:World}(hH:HRel ρ σ w) {D:Nat}{d:Option (List Deferred)}(hD:w.heap[D]?=some (.deferred d)) (O:Obj):HRel ρ σ (RQ w D O) :=
 hH.world (by rw[BD];exact Nat.le_refl _) (fun i p hp=>KM w D O p.blk (hH.not_deferred hD i p hp)) fun g cs hg=>KM w D O g fun e=>by obtain⟨⟨e',f,h1⟩,_⟩:=hH.tab g cs hg;rw[e,hD] at h1;cases h1
theorem EK {fn:Func}{tmps:Array Value}{R:Ending→World→Prop}{ρ0:Plc}{σ0:Heap}{w0:World}{ρ:Plc}{σ:Heap}
  (qo:∀ w,HRel ρ σ w→Ext ρ0 σ0 w0 ρ σ w→∃ v,(results fn tmps).run P w=.ok v w∧R (.returned v) w) :
  ∀ (Ds:List Nat) (w:World),Ds.Nodup→(∀ D∈Ds,w0.heap.size≤D∧w.heap[D]?=some (.deferred (some [])))→HRel ρ σ w→Ext ρ0 σ0 w0 ρ σ w →
   LeavesInM Fence.wide 0 P fn tmps R (Ds.map fun D=>⟨.collected D,#[]⟩) .returning w:=by
 intro Ds;induction Ds with
 |nil=>intro w _ _ hH hE;exact qo w hH hE
 |cons D Ds ih =>intro w eO hall hH hE;obtain⟨h1,h2⟩:=List.nodup_cons.1 eO;obtain⟨h3,h4⟩:=hall D (by simp);refine⟨by simp,.inl ⟨D,_,rfl,Pr h4,ih _ h2 (fun E bX=>?_) (hH.mark h4 _) (hE.mark h3 _)⟩⟩;obtain⟨k1,k2⟩:=hall E (by simp[bX]);exact⟨k1,by rw[KM _ _ _ _ (by rintro rfl;exact h1 bX)];exact k2⟩
theorem HK (hm:P.follows .mixedOrders=true) (hS:OkSpecs P S) {f:FuncId}{fn:Func}{c:Code}{vc:VCode}{rs:List VResult}(hf:P.funcs[f]?=some fn) (hb:fn.body=some c) (hc:comp P c=some vc) (hr:N7 P fn.results.toList=some rs)
  {args:List Value}{σ:Heap}{R:Value→Heap→Prop}(h:vwp S vc none (Z17 rs fun v σf=>∃ v' σ',DropTo σ v σf v' σ'∧R v' σ') (args++List.replicate (fn.ntmps-args.length) undef) σ):VCallsTo P f args σ R:=by
 intro ρ w aw hH hL;refine callsIn_wide.1 (callsIn_of_wp_marks (n:=0) hf hb trivial (OL hm hS c vc hc (B:=w.heap.size) none none 0 _ _ σ ρ w _ h hH ?_ (Mks.nil (Nat.le_refl _)) (.inl ⟨rfl,rfl⟩) _ ?_) rfl)
 ·have hl:args.length=aw.size:=by have:=hL.1;simpa using this
  have:=hL.append (AY (ρ:=ρ) (n:=σ.n) (fn.ntmps-args.length));simpa [hl] using this
 ·intro e a' w' ⟨ae,ρ',σ',k1,_,k2,k3,⟨_,Ds,k4,k6,k7⟩,k5⟩;have fin:(QJ (JJ ae σ' rs) fun v=>∃ v' aD,DropTo σ v σ' v' aD∧R v' aD)→LeavesInM Fence.wide 0 P fn a'.tmps (fun e w'=>∃ c,e=.returned c∧Got ρ σ w R c w') a'.defers .returning w':=by
   intro hk;rw[k4];refine EK (fun w1 jm fD=>?_) Ds w' k6 k7 k2 k5;cases hv:JJ ae σ' rs with
   |none=>rw[hv] at hk;exact hk.elim
   |some v =>rw[hv] at hk;obtain⟨v',aD,hd,hR⟩:=hk;obtain⟨c,eL,iv⟩:=S7 jm k3 hr hv;obtain⟨eI,j1,j2,j3⟩:=hd ρ w ρ' w1 c hH fD jm eL;exact⟨c,iv,c,rfl,v',eI,aD,hR,j1,j2,j3⟩
  cases e with
  |normal=>exact fin k1
  |ret=>exact fin k1
  |_=>exact k1.elim
end
end Go.V
namespace Go.V
open Go
def Fun (P:Program) (f:FuncId) (vc:VCode) (rs:List VResult) (nt:Nat):Prop :=
 ∃ fn,P.funcs[f]?=some fn∧fn.body.bind (comp P)=some vc∧N7 P fn.results.toList=some rs∧fn.ntmps=nt∧(fn.name=="runtime.NumGoroutine")=false
def Z31 (σ:Heap) (rs:List VResult) (R:Value→Heap→Prop):Exit→Env→Heap→Prop:=Z17 rs fun v σf=>∃ v' σ',DropTo σ v σf v' σ'∧R v' σ'
section
variable {P:Program}{S:VSpecs}{f:FuncId}{vc:VCode}{rs:List VResult}{nt:Nat}
theorem Fun.calls (h:Fun P f vc rs nt) (hm:P.follows .mixedOrders=true) (hS:OkSpecs P S) {args:List Value}{σ:Heap}{R:Value→Heap→Prop}
  (hw:vwp S vc none (Z31 σ rs R) (args++List.replicate (nt-args.length) undef) σ):VCalled P f args σ R:=by
 obtain⟨fn,h1,h2,h3,h4,h5⟩:=h;cases hb:fn.body with
 |none=>rw[hb] at h2;cases h2
 |some c =>rw[hb] at h2;exact VCallsTo.called ⟨fn,h1,by rw[hb];rfl,h5⟩ (HK hm hS h1 hb h2 h3 (by rw[h4];exact hw))
theorem Fun.enterable (h:Fun P f vc rs nt):XR P f:=by
 obtain⟨fn,h1,h2,h3,h4,h5⟩:=h;refine⟨fn,h1,?_,h5⟩;cases hb:fn.body with
 |none=>rw[hb] at h2;cases h2
 |some c=>rfl
theorem Fun.callsTo (h:Fun P f vc rs nt) (hm:P.follows .mixedOrders=true) (hS:OkSpecs P S) {args:List Value}{σ:Heap}{R:Value→Heap→Prop}
  (hw:vwp S vc none (Z31 σ rs R) (args++List.replicate (nt-args.length) undef) σ):VCallsTo P f args σ R:=by
 obtain⟨fn,h1,h2,h3,h4,h5⟩:=h;cases hb:fn.body with
 |none=>rw[hb] at h2;cases h2
 |some c =>rw[hb] at h2;exact HK hm hS h1 hb h2 h3 (by rw[h4];exact hw)
def Q2 (P:Program):VSpecs where
 fn f:=some fun args σ K=>VCalled P f args σ K
 yl i:=some fun args σ K=>VYields P i args σ K
 it f:=@ite _ (XR P f) (Classical.propDecidable _) (some fun i Y args σ K=>Vl P i Y→VCallsTo P f args σ K) none
theorem Po:OkSpecs P (Q2 P) :=
  ⟨fun f s h => by obtain rfl:=osj h; exact fun args σ K h => h,
   fun f s h => by obtain rfl:=osj h; exact fun args σ K h => h,
   fun f T h => by
    simp only [Q2] at h;split at h
    · rename_i he; obtain rfl:=osj h; exact ⟨he, fun i Y hY args σ K h => h hY⟩
    · cases h⟩
end
theorem F8 {x:Int}(h:-9223372036854775808≤x∧x≤9223372036854775807):IntKind.i64.wrap x=x:=IntWalk.i64_in x (by omega)
end Go.V
namespace Go.V
open Go
inductive EB where
 |cells (c:List Value) (esz:El) (wr tight:Bool)
 |map (es:List JV) (clock:Nat) (wr:Bool)
 |iter (m since:Nat) (seen:List Nat) (last:Nat)
 |lp (st:LoopState) (pend:Option Code)
inductive GT (α:Type) where
 |nil
 |node (v:α) (l r:GT α)
def GT.get {α:Type}(d:α) (t:GT α):Nat→α :=
 GT.rec (motive:=fun _=>Nat→α) (fun _=>d)
  (fun v _ _ gl gr i=>Bool.rec (motive:=fun _=>α) (Bool.rec (motive:=fun _=>α) (gr (i / 2-1)) (gl (i / 2)) (Nat.beq (i % 2) 1)) v (Nat.beq i 0)) t
def GT.set {α:Type}(d:α) (f:Nat):GT α→Nat→α→GT α :=
 Nat.rec (motive:=fun _=>GT α→Nat→α→GT α) (fun t _ _=>t)
  (fun _ ih t i b=>GT.rec (motive:=fun _=>GT α)
   (Bool.rec (motive:=fun _=>GT α) (Bool.rec (motive:=fun _=>GT α) (.node d .nil (ih .nil (i / 2-1) b)) (.node d (ih .nil (i / 2) b) .nil) (Nat.beq (i % 2) 1)) (.node b .nil .nil) (Nat.beq i 0))
   (fun v l r _ _=>Bool.rec (motive:=fun _=>GT α) (Bool.rec (motive:=fun _=>GT α) (.node v l (ih r (i / 2-1) b)) (.node v (ih l (i / 2) b) r) (Nat.beq (i % 2) 1)) (.node b l r) (Nat.beq i 0)) t) f
theorem GT.get_node {α:Type}(d v:α) (l r:GT α) (k:Nat):(GT.node v l r).get d k=if k=0 then v else if k % 2=1 then l.get d (k / 2) else r.get d (k / 2-1):=by
 show (Bool.rec (motive:=fun _=>α) (Bool.rec (motive:=fun _=>α) (r.get d (k / 2-1)) (l.get d (k / 2)) (Nat.beq (k % 2) 1)) v (Nat.beq k 0))=_;by_cases h0:k=0
 ·subst h0;rfl
 ·have:Nat.beq k 0=false:=by
   cases h:Nat.beq k 0 with
   |false=>rfl
   |true=>exact absurd (Nat.eq_of_beq_eq_true h) h0
  rw[this,if_neg h0];by_cases h1:k % 2=1
  ·rw[if_pos h1,h1];rfl
  ·have:Nat.beq (k % 2) 1=false:=by
    cases h:Nat.beq (k % 2) 1 with
    |false=>rfl
    |true=>exact absurd (Nat.eq_of_beq_eq_true h) h1
   rw[this,if_neg h1]
theorem GT.set_node {α:Type}(d v:α) (f:Nat) (l r:GT α) (i:Nat) (b:α):(GT.node v l r).set d (f+1) i b=if i=0 then .node b l r else if i % 2=1 then .node v (l.set d f (i / 2) b) r else .node v l (r.set d f (i / 2-1) b):=by
 show (Bool.rec (motive:=fun _=>GT α) (Bool.rec (motive:=fun _=>GT α) (.node v l (r.set d f (i / 2-1) b)) (.node v (l.set d f (i / 2) b) r) (Nat.beq (i % 2) 1)) (.node b l r) (Nat.beq i 0))=_;by_cases h0:i=0
 ·subst h0;rfl
 ·have:Nat.beq i 0=false:=by
   cases h:Nat.beq i 0 with
   |false=>rfl
   |true=>exact absurd (Nat.eq_of_beq_eq_true h) h0
  rw[this,if_neg h0];by_cases h1:i % 2=1
  ·rw[if_pos h1,h1];rfl
  ·have:Nat.beq (i % 2) 1=false:=by
    cases h:Nat.beq (i % 2) 1 with
    |false=>rfl
    |true=>exact absurd (Nat.eq_of_beq_eq_true h) h1
   rw[this,if_neg h1]
theorem GT.set_nil {α:Type}(d:α) (f i:Nat) (b:α):(GT.nil:GT α).set d (f+1) i b=(GT.node d .nil .nil).set d (f+1) i b:=rfl
theorem GT.get_set {α:Type}(d:α):∀ (f:Nat) (t:GT α) (i:Nat) (b:α) (j:Nat),i+1<2 ^ f→(t.set d f i b).get d j=if j=i then b else t.get d j:=by
 intro f;induction f with
 |zero=>intro t i b j h;simp at h
 |succ f ih =>
  intro t i b j h;have hp:2 ^ (f+1)=2*2 ^ f:=by rw[Nat.pow_succ];omega
  have gK:∀ v l r,((GT.node v l r).set d (f+1) i b).get d j=if j=i then b else (GT.node v l r).get d j:=by
   intro v l r;rw[GT.set_node];by_cases hi:i=0
   ·subst hi;rw[if_pos rfl,GT.get_node,GT.get_node];split<;>rfl
   ·rw[if_neg hi];by_cases ho:i % 2=1
    ·rw[if_pos ho,GT.get_node,GT.get_node,ih _ _ _ _ (by omega)];by_cases ia:j=0
     ·subst ia;rw[if_pos rfl,if_neg (Ne.symm hi),if_pos rfl]
     ·rw[if_neg ia,if_neg ia];by_cases du:j % 2=1
      ·rw[if_pos du,if_pos du];by_cases aK:j=i
       ·subst aK;simp
       ·rw[if_neg aK,if_neg (by omega)]
      ·rw[if_neg du,if_neg du,if_neg (by rintro rfl;exact du ho)]
    ·rw[if_neg ho,GT.get_node,GT.get_node,ih _ _ _ _ (by omega)];by_cases ia:j=0
     ·subst ia;rw[if_pos rfl,if_neg (Ne.symm hi),if_pos rfl]
     ·rw[if_neg ia,if_neg ia];by_cases du:j % 2=1
      ·rw[if_pos du,if_pos du,if_neg (by rintro rfl;exact ho du)]
      ·rw[if_neg du,if_neg du];by_cases aK:j=i
       ·subst aK;simp
       ·rw[if_neg aK,if_neg (by omega)]
  cases t with
  |node v l r=>exact gK v l r
  |nil =>
   rw[GT.set_nil,gK d .nil .nil,GT.get_node];split
   ·rfl
   ·split
    ·rfl
    ·split<;>rfl
structure CH where
 t:GT (Option EB)
 n:Nat
def CH.get (h:CH) (i:Nat):Option EB:=Bool.rec (motive:=fun _=>Option EB) none (h.t.get none i) (Nat.blt i h.n)
def CH.upd (h:CH) (i:Nat) (b:EB):CH:=⟨h.t.set none 32 i (some b),h.n⟩
def CH.kill (h:CH) (i:Nat):CH:=⟨h.t.set none 32 i none,h.n⟩
def CH.push (h:CH) (b:EB):CH:=⟨h.t.set none 32 h.n (some b),h.n+1⟩
def CH.room (h:CH):Bool:=Nat.ble h.n 1000000000
def CH.empty:CH:=⟨.nil,0⟩
theorem CH.get_lt {h:CH}{i:Nat}(hi:i<h.n):h.get i=h.t.get none i:=by unfold CH.get;rw[show Nat.blt i h.n=true from Nat.ble_eq_true_of_le hi]
theorem CH.get_ge {h:CH}{i:Nat}(hi:h.n≤i):h.get i=none:=by
 unfold CH.get;cases hb:Nat.blt i h.n with
 |false=>rfl
 |true=>have:=Nat.le_of_ble_eq_true hb;omega
theorem CH.get_upd {h:CH}{i:Nat}{b:EB}(hi:i<h.n) (hs:h.n≤1000000001) (j:Nat):(h.upd i b).get j=if j=i then some b else h.get j:=by
 rcases Nat.lt_or_ge j h.n with hj|hj
 ·rw[CH.get_lt (h:=h.upd i b) hj,CH.get_lt hj];exact GT.get_set none 32 _ _ _ _ (by omega)
 ·rw[CH.get_ge (h:=h.upd i b) hj,CH.get_ge hj,if_neg (by omega)]
theorem CH.get_kill {h:CH}{i:Nat}(hi:i<h.n) (hs:h.n≤1000000001) (j:Nat):(h.kill i).get j=if j=i then none else h.get j:=by
 rcases Nat.lt_or_ge j h.n with hj|hj
 ·rw[CH.get_lt (h:=h.kill i) hj,CH.get_lt hj];exact GT.get_set none 32 _ _ _ _ (by omega)
 ·rw[CH.get_ge (h:=h.kill i) hj,CH.get_ge hj];simp
theorem CH.get_push {h:CH}{b:EB}(hs:h.n≤1000000001) (j:Nat):(h.push b).get j=if j=h.n then some b else h.get j:=by
 rcases Nat.lt_or_ge j (h.n+1) with hj|hj
 ·rw[CH.get_lt (h:=h.push b) hj];show (h.t.set none 32 h.n (some b)).get none j=_;rw[GT.get_set none 32 _ _ _ _ (by omega)];split
  ·rfl
  ·rw[CH.get_lt (by omega)]
 ·rw[CH.get_ge (h:=h.push b) hj,CH.get_ge (by omega),if_neg (by omega)]
def EB.to (q:Env×Loop):EB→Blk
 |.cells c e w t=>.cells c e w t
 |.map es cl w=>.obj (.map es cl) w
 |.iter m s sn l=>.obj (.iter m s sn l) true
 |.lp st pend=>.obj (.lp q.1 q.2 st pend) true
structure CSim (rs:Nat→Env×Loop) (h:CH) (σ:Heap):Prop where
 n:h.n=σ.n
 sm:h.n≤1000000001
 get:∀ i,σ.get i=(h.get i).map (EB.to (rs i))
theorem CSim.cells {rs:Nat→Env×Loop}{h:CH}{σ:Heap}(hs:CSim rs h σ) {i:Nat}{c:List Value}{e:El}{w t:Bool}(hg:h.get i=some (.cells c e w t)):σ.get i=some (.cells c e w t):=by rw[hs.get,hg];rfl
theorem CSim.map {rs:Nat→Env×Loop}{h:CH}{σ:Heap}(hs:CSim rs h σ) {i:Nat}{es:List JV}{cl:Nat}{w:Bool}(hg:h.get i=some (.map es cl w)):σ.get i=some (.obj (.map es cl) w):=by rw[hs.get,hg];rfl
theorem CSim.iter {rs:Nat→Env×Loop}{h:CH}{σ:Heap}(hs:CSim rs h σ) {i m s:Nat}{sn:List Nat}{l:Nat}(hg:h.get i=some (.iter m s sn l)):σ.get i=some (.obj (.iter m s sn l) true):=by rw[hs.get,hg];rfl
theorem CSim.lp {rs:Nat→Env×Loop}{h:CH}{σ:Heap}(hs:CSim rs h σ) {i:Nat}{st:LoopState}{pend:Option Code}(hg:h.get i=some (.lp st pend)):σ.get i=some (.obj (.lp (rs i).1 (rs i).2 st pend) true):=by rw[hs.get,hg];rfl
theorem CSim.lt {rs:Nat→Env×Loop}{h:CH}{σ:Heap}(hs:CSim rs h σ) {i:Nat}{b:EB}(hg:h.get i=some b):i<h.n:=by
 have:σ.get i=some (b.to (rs i)):=by rw[hs.get,hg];rfl
 rw[hs.n];exact σ.lt this
theorem CSim.upd {rs:Nat→Env×Loop}{h:CH}{σ:Heap}(hs:CSim rs h σ) {i:Nat}(hi:i<h.n) {b:EB}{b':Blk}(hb:b.to (rs i)=b'):CSim rs (h.upd i b) (σ.upd i b'):=by
 refine⟨hs.n,hs.sm,fun j=>?_⟩;rw[CH.get_upd hi hs.sm];show (if j=i∧i<σ.n then some b' else σ.get j)=_;by_cases hj:j=i
 ·subst hj;rw[if_pos ⟨rfl,by rw[←hs.n];exact hi⟩,if_pos rfl,←hb];rfl
 ·rw[if_neg (fun e=>hj e.1),if_neg hj];exact hs.get j
theorem CSim.kill {rs:Nat→Env×Loop}{h:CH}{σ:Heap}(hs:CSim rs h σ) {i:Nat}(hi:i<h.n):CSim rs (h.kill i) (σ.kill i):=by
 refine⟨hs.n,hs.sm,fun j=>?_⟩;rw[CH.get_kill hi hs.sm];show (if j=i then none else σ.get j)=_;by_cases hj:j=i
 ·rw[if_pos hj,if_pos hj];rfl
 ·rw[if_neg hj,if_neg hj];exact hs.get j
theorem CSim.push {rs:Nat→Env×Loop}{h:CH}{σ:Heap}(hs:CSim rs h σ) (hr:h.room=true) {b:EB}{b':Blk}(hb:b.to (rs h.n)=b'):CSim rs (h.push b) (σ.push b'):=by
 have hr:h.n≤1000000000:=Nat.le_of_ble_eq_true hr;refine⟨by show h.n+1=σ.n+1;rw[hs.n],by show h.n+1≤_;omega,fun j=>?_⟩;rw[CH.get_push hs.sm];show (if j=σ.n then some b' else σ.get j)=_;rw[←hs.n];by_cases hj:j=h.n
 ·subst hj;rw[if_pos rfl,if_pos rfl,←hb];rfl
 ·rw[if_neg hj,if_neg hj];exact hs.get j
theorem CSim.rs {rs bB:Nat→Env×Loop}{h:CH}{σ:Heap}(hs:CSim rs h σ) (hr:∀ i,i<h.n→bB i=rs i):CSim bB h σ :=
 ⟨hs.n,hs.sm,fun i=>by
  rw[hs.get];cases hg:h.get i with
  |none=>rfl
  |some b=>rw[hr i (hs.lt hg)]⟩
def CH.sl (σ:CH) (esz:Nat):Value→Option (List Value)
 |.slice none 0 0=>some []
 |.slice (some ⟨i,o,none⟩) n _ =>
  match σ.get i with
  |some (.cells c e _ _)=>if e.sz=esz∧o+n*esz≤c.length then some ((c.drop o).take (n*esz)) else none
  |_=>none
 |_=>none
def CH.mapAt (σ:CH) (m:Nat):Option (List JV×Nat×Bool):=match σ.get m with
 |some (.map es clock wr)=>some (es,clock,wr)
 |_=>none
def G5 (σ:CH) (b:EB) (v:Value):Option (Value×CH):=if σ.room=true then some (v,σ.push b) else none
def Ad (esz:El) (bytes:Nat) (σ:CH) (s:Value) (m:Nat) (xs:List Value):Option (Value×CH) :=
 match s with
 |.slice none 0 0 =>
  if m=0 then some (s,σ) else
  if m*bytes≤2 ^ 46 then G5 σ (.cells xs esz true false) (.slice (some ⟨σ.n,0,none⟩) m m) else none
 |.slice (some ⟨i,o,none⟩) n cap =>
  match σ.get i with
  |some (.cells c e wr tight) =>
   if e=esz∧n≤cap∧o+n*esz.sz≤c.length then
    if m=0 then some (s,σ) else
    if n+m≤cap then
     (if wr=true∧o+(n+m)*esz.sz≤c.length then some (.slice (some ⟨i,o,none⟩) (n+m) cap,σ.upd i (.cells (Qw c (o+n*esz.sz) xs) e wr tight)) else none)
    else if (n+m)*bytes≤2 ^ 46 then
     (if tight then G5 σ (.cells ((c.drop o).take (n*esz.sz)++xs) esz true false) (.slice (some ⟨σ.n,0,none⟩) (n+m) (n+m))
     else if wr then G5 (σ.kill i) (.cells ((c.drop o).take (n*esz.sz)++xs) esz true false) (.slice (some ⟨σ.n,0,none⟩) (n+m) (n+m))
     else none)
    else none
   else none
  |_=>none
 |_=>none
def Iu (size:Nat) (σ:CH) (s:Value) (l h:Nat) (m:Option Nat):Option (Value×CH) :=
 match s with
 |.slice none 0 0=>if l=0∧h=0∧(m.getD 0)=0 then some (.slice none 0 0,σ) else none
 |.slice (some ⟨i,o,none⟩) _ cap =>
  match σ.get i with
  |some (.cells _ e _ _) =>
   match m with
   |none=>if e.sz=size∧l≤h∧h≤cap then some (.slice (some ⟨i,o+l*size,none⟩) (h-l) (cap-l),σ) else none
   |some m =>
    if e.sz=size∧l≤h∧h≤m∧m≤cap then
     if m=l then G5 σ (.cells [] e false true) (.slice (some ⟨σ.n,0,none⟩) 0 0)
     else some (.slice (some ⟨i,o+l*size,none⟩) (h-l) (m-l),σ)
    else none
  |_=>none
 |_=>none
def Q7u:Nat→Value→Value→CH→Option Bool
 |0,.pointer none,.pointer none,_=>some true
 |0,.pointer none,.pointer (some _),_=>some false
 |0,.pointer (some _),.pointer none,_=>some false
 |0,.pointer (some ⟨i,o,none⟩),.pointer (some ⟨j,q,none⟩),σ=>if i=j∧o=q∧(σ.get i).isSome=true then some true else none
 |1,.slice none _ _,.slice none _ _,_=>some true
 |1,.slice none _ _,.slice (some _) _ _,_=>some false
 |1,.slice (some _) _ _,.slice none _ _,_=>some false
 |2,.map none,.map none,_=>some true
 |2,.map none,.map (some _),_=>some false
 |2,.map (some _),.map none,_=>some false
 |3,.nilFunc,.nilFunc,_=>some true
 |3,.nilFunc,.func _ _ _,_=>some false
 |3,.func _ _ _,.nilFunc,_=>some false
 |_,_,_,_=>none
def Wx (o:XOp) (ev:Operand→Value) (σ:CH):Option (Value×CH) :=
 match o with
 |.eqAgg neg s x y=>match ev x,ev y with
  |.agg a,.agg b=>if fits s a.toList=true∧fits s b.toList=true then some (.bool (if neg then !(Qi a.toList b.toList) else Qi a.toList b.toList),σ) else none
  |_,_=>none
 |.eqNil kd neg x y=>match Q7u kd (ev x) (ev y) σ with|some b=>some (.bool (if neg then !b else b),σ)|none=>none
 |.makeMap=>G5 σ (.map [] 0 true) (.map (some σ.n))
 |.lookup mk z ok x i =>
  let k:=ev i
  if Zw mk k then
   match ev x with
   |.map none=>some (if ok then .tuple #[z,.bool false] else z,σ)
   |.map (some m)=>match σ.mapAt m with
    |some (es,_,_)=>if es.all (fun e=>Zw mk e.1) then
      (match Qd k es with
      |some e=>some (if ok then .tuple #[e.2.1,.bool true] else e.2.1,σ)
      |none=>some (if ok then .tuple #[z,.bool false] else z,σ)) else none
    |none=>none
   |_=>none
  else none
 |.mapUpdate mk m k v=>match ev m with
  |.map (some i)=>match σ.mapAt i with
   |some (es,clock,true)=>if Zw mk (ev k)&&es.all (fun e=>Zw mk e.1) then some (undef,σ.upd i (.map (Qo (ev k) (ev v) clock es).1 (Qo (ev k) (ev v) clock es).2 true)) else none
   |_=>none
  |_=>none
 |.delete mk m k=>match ev m with
  |.map (some i)=>match σ.mapAt i with
   |some (es,clock,true)=>if Zw mk (ev k)&&es.all (fun e=>Zw mk e.1) then some (.tuple #[],σ.upd i (.map (HC (ev k) es) clock true)) else none
   |_=>none
  |_=>none
 |.lenMap x=>match ev x with
  |.map none=>some (.int .i64 0,σ)
  |.map (some m)=>match σ.mapAt m with
   |some (es,_,_)=>some (.int .i64 es.length,σ)
   |none=>none
  |_=>none
 |.rangeMap x=>match ev x with
  |.map (some m)=>match σ.mapAt m with
   |some (_,clock,_)=>G5 σ (.iter m clock [] clock) (.pointer (some ⟨σ.n,0,none⟩))
   |none=>none
  |_=>none
 |.entry x=>match ev x with
  |.pointer (some ⟨i,0,none⟩)=>match σ.get i with
   |some (.iter m _ seen last)=>match σ.mapAt m,seen.getLast? with
    |some (es,clock,_),some b=>if clock=last then (match es.find? (fun e=>e.2.2==b) with|some e=>if U5 e.1 then some (.tuple #[e.1,e.2.1],σ) else none|none=>none) else none
    |_,_=>none
   |_=>none
  |_=>none
 |.copy size d s=>match ev d,ev s with
  |.slice db dn _,.slice sb sn sc =>
   if min sn dn=0 then some (.int .i64 0,σ) else
   match db,σ.sl size (.slice sb (min sn dn) sc) with
   |some ⟨i,o,none⟩,some xs=>match σ.get i with
    |some (.cells c e wr tight)=>if wr=true∧e.sz=size∧o+xs.length≤c.length∧xs.all cellOk=true then some (.int .i64 (min sn dn:Nat),σ.upd i (.cells (Qw c o xs) e wr tight)) else none
    |_=>none
   |_,_=>none
  |_,_=>none
 |.toUnsafe x=>match ev x with
  |.pointer none=>some (.pointer none,σ)
  |.pointer (some ⟨i,o,none⟩)=>match σ.get i with
   |some (.cells c _ _ _)=>if o<c.length then some (.pointer (some ⟨i,o,none⟩),σ) else none
   |_=>none
  |_=>none
 |.fromUnsafe u size x=>match ev x with
  |.pointer none=>some (.pointer none,σ)
  |.pointer (some ⟨i,o,none⟩)=>match σ.get i with
   |some (.cells c e true true)=>if o=0∧e.ty=u∧size≤c.length then some (.pointer (some ⟨i,o,none⟩),σ) else none
   |_=>none
  |_=>none
 |.sliceData x=>match ev x with
  |.slice none _ _=>some (.pointer none,σ)
  |.slice (some ⟨i,o,none⟩) _ cap=>if cap≠0∧(σ.get i).isSome=true then some (.pointer (some ⟨i,o,none⟩),σ) else none
  |_=>none
 |.unsafeStr e x n=>match ev x,ev n with
  |.pointer p,.int .i64 k =>
   if k=0 then some (.string ⟨#[]⟩,σ) else
   match p with
   |some ⟨i,o,none⟩=>match σ.get i with
    |some (.cells c el true tight) =>
     if 0<k∧k≤2 ^ 62∧el.ty=e∧o+k.toNat≤c.length then
      (match HJ ((c.drop o).take k.toNat) with
      |some s=>some (.string s,σ.upd i (.cells c el false tight))
      |none=>none) else none
    |_=>none
   |_=>none
  |_,_=>none
 |.bytesStr x=>match ev x with
  |.slice a n c=>match σ.sl 1 (.slice a n c) with
   |some xs=>match HJ xs with|some s=>some (.string s,σ)|none=>none
   |none=>none
  |_=>none
 |.strBytes e x=>match ev x with
  |.string s=>if s.size≤2 ^ 62 then G5 σ (.cells (s.data.toList.map fun b=>.int .u8 b.toNat) ⟨1,e⟩ true false) (.slice (some ⟨σ.n,0,none⟩) s.size s.size) else none
  |_=>none
 |_=>none
def Heap.empty:Heap:=⟨fun _=>none,0,fun _ _=>rfl⟩
def Q42 (o:VOp) (ev:Operand→Value) (σ:CH):Option (Value×CH) :=
 match o with
 |.alloc t z=>G5 σ (.cells z ⟨z.length,t⟩ true true) (.pointer (some ⟨σ.n,0,none⟩))
 |.box t x=>match Vn (ev x) with
  |some vs=>G5 σ (.cells vs ⟨vs.length,t⟩ true true) (.pointer (some ⟨σ.n,0,none⟩))
  |none=>none
 |.buildSlice esz z len parts=>match NS (Lc len z) (parts.map fun p=>(p.1*esz.sz,esz.sz,ev p.2)) with
  |some cs=>G5 σ (.cells cs esz true true) (.slice (some ⟨σ.n,0,none⟩) len len)
  |none=>none
 |.load agg size a=>match ev a with
  |.pointer (some ⟨g,o,some _⟩)=>(match Q40 g with
   |some c=>if c.all QD then (match Xs agg size c o with|some v=>some (v,σ)|none=>none) else none
   |none=>none)
  |.pointer (some ⟨i,o,none⟩)=>match σ.get i with
   |some (.cells c _ _ _)=>match Xs agg size c o with|some v=>some (v,σ)|none=>none
   |_=>none
  |_=>none
 |.store size a v=>match ev a,Vn (ev v) with
  |.pointer (some ⟨i,o,none⟩),some vs=>match σ.get i with
   |some (.cells c e wr tight)=>if wr=true∧vs.length=size∧o+size≤c.length∧vs.all cellOk=true then some (undef,σ.upd i (.cells (Qw c o vs) e wr tight)) else none
   |_=>none
  |_,_=>none
 |.slice size x lo hi mx =>
  match ev x with
  |.slice a n cap =>
   match Jv ev lo 0,Jv ev hi n,mx with
   |some l,some h,none=>Iu size σ (.slice a n cap) l h none
   |some l,some h,some _=>match Jv ev mx 0,hi with
    |some m,some _=>Iu size σ (.slice a n cap) l h (some m)
    |_,_=>none
   |_,_,_=>none
  |_=>none
 |.makeSlice esz bytes z l c =>
  match ev l,ev c with
  |.int _ a,.int _ b=>if 0≤a∧a≤b∧b*bytes≤2 ^ 46∧b≤2 ^ 46 then G5 σ (.cells (Lc b.toNat z) esz true true) (.slice (some ⟨σ.n,0,none⟩) a.toNat b.toNat) else none
  |_,_=>none
 |.append esz bytes s x =>
  match σ.sl esz.sz (ev x),ev x with
  |some xs,.slice _ m _=>if xs.all cellOk then Ad esz bytes σ (ev s) m xs else none
  |_,_=>none
 |.ext o=>Wx o ev σ
 |o=>if o.kind=0 then (match Q4 o ev Heap.empty with|some p=>some (p.1,σ)|none=>none) else none
def ESnd (rs:Nat→Env×Loop) (h:CH) (_σ:Heap) (r:Option (Value×Heap)) (p:Value×CH):Prop:=h.n≤p.2.n∧∃ σ',r=some (p.1,σ')∧CSim rs p.2 σ'
theorem ESnd.same {rs:Nat→Env×Loop}{h:CH}{σ:Heap}(hs:CSim rs h σ) {r:Option (Value×Heap)}{v:Value}(hr:r=some (v,σ)):ESnd rs h σ r (v,h):=⟨Nat.le_refl _,σ,hr,hs⟩
theorem ESnd.upd {rs:Nat→Env×Loop}{h:CH}{σ:Heap}(hs:CSim rs h σ) {r:Option (Value×Heap)}{v:Value}{i:Nat}{b:EB}{b0:EB}(hg:h.get i=some b0) {b':Blk}(hb:b.to (rs i)=b') (hr:r=some (v,σ.upd i b')):ESnd rs h σ r (v,h.upd i b):=by have hi:=hs.lt hg;have o8:=hs.sm;exact⟨Nat.le_refl _,_,hr,hs.upd hi hb⟩
theorem ESnd.push {rs:Nat→Env×Loop}{h:CH}{σ:Heap}(hs:CSim rs h σ) {r:Option (Value×Heap)}{v:Value}{p:Value×CH}{b:EB}(hp:G5 h b v=some p) {b':Blk}(hb:b.to (rs h.n)=b') (hr:r=some (v,σ.push b')):ESnd rs h σ r p:=by
 unfold G5 at hp;split at hp
 ·rename_i aH;obtain rfl:=osj hp;have o8:=hs.sm;exact⟨Nat.le_succ _,_,hr,hs.push aH hb⟩
 ·cases hp
theorem CSim.sl {rs:Nat→Env×Loop}{h:CH}{σ:Heap}(hs:CSim rs h σ) {esz:Nat}{v:Value}{xs:List Value}(hx:h.sl esz v=some xs):σ.sl esz v=some xs:=by
 unfold CH.sl at hx;unfold Heap.sl;split at hx
 ·exact hx
 ·rename_i i o n c;split at hx
  ·rename_i cs e wr t hb;simp only[hs.cells hb];exact hx
  ·cases hx
 ·cases hx
theorem CSim.mapAt {rs:Nat→Env×Loop}{h:CH}{σ:Heap}(hs:CSim rs h σ) {m:Nat}{x:List JV×Nat×Bool}(hx:h.mapAt m=some x):σ.mapAt m=some x∧h.get m=some (.map x.1 x.2.1 x.2.2):=by
 unfold CH.mapAt at hx;unfold Heap.mapAt;split at hx
 ·rename_i es clock wr hb;obtain rfl:=osj hx;exact⟨by simp only[hs.map hb],hb⟩
 ·cases hx
theorem FV {rs:Nat→Env×Loop}{h:CH}{σ:Heap}(hs:CSim rs h σ) {kd:Nat}{a b:Value}{r:Bool}(hx:Q7u kd a b h=some r):Ji kd a b σ=some r:=by
 unfold Q7u at hx;unfold Ji
 split at hx<;>first
  |exact hx
  |(cases hx;done)
  |skip
 rename_i i o j q;split at hx
 ·rename_i hc;obtain⟨h1,h2,h3⟩:=hc;have cA:i=j∧o=q∧(σ.get i).isSome=true:=⟨h1,h2,by rw[hs.get];simpa using h3⟩;simp only[if_pos cA];exact hx
 ·cases hx
theorem Cn {rs:Nat→Env×Loop}{h:CH}{σ:Heap}(hs:CSim rs h σ) {esz:El}{bytes:Nat}{s:Value}{m:Nat}{xs:List Value}{p:Value×CH}(hx:Ad esz bytes h s m xs=some p):ESnd rs h σ (Jr esz bytes σ s m xs) p:=by
 unfold Ad at hx;unfold Jr;split at hx
 ·split at hx
  ·rename_i hm;simp only[if_pos hm];obtain rfl:=osj hx;exact .same hs rfl
  ·rename_i hm;simp only[if_neg hm];split at hx
   ·rename_i hb;simp only[if_pos hb];rw[hs.n] at hx;exact .push hs hx rfl rfl
   ·cases hx
 ·rename_i i o n cap;split at hx
  ·rename_i c e wr tight hg;have o8:=hs.sm;have hi:=hs.lt hg;simp only[hs.cells hg];split at hx
   ·rename_i h1;simp only[if_pos h1];split at hx
    ·rename_i h2;simp only[if_pos h2];obtain rfl:=osj hx;exact .same hs rfl
    ·rename_i h2;simp only[if_neg h2];split at hx
     ·rename_i h3;simp only[if_pos h3];split at hx
      ·rename_i h4;simp only[if_pos h4];obtain rfl:=osj hx;exact .upd hs hg rfl rfl
      ·cases hx
     ·rename_i h3;simp only[if_neg h3];split at hx
      ·rename_i h4;simp only[if_pos h4];split at hx
       ·rename_i h5;simp only[if_pos h5];rw[hs.n] at hx;exact .push hs hx rfl rfl
       ·rename_i h5;simp only[if_neg h5];split at hx
        ·rename_i h6;simp only[if_pos h6];rw[hs.n] at hx;have hk:=hs.kill hi;obtain⟨k1,σ',k2,k3⟩:=ESnd.push (r:=some (.slice (some ⟨σ.n,0,none⟩) (n+m) (n+m),(σ.kill i).push (.cells ((c.drop o).take (n*esz.sz)++xs) esz true false))) hk hx rfl rfl;exact⟨k1,σ',k2,k3⟩
        ·cases hx
      ·cases hx
   ·cases hx
  ·cases hx
 ·cases hx
theorem HD {rs:Nat→Env×Loop}{h:CH}{σ:Heap}(hs:CSim rs h σ) {size:Nat}{s:Value}{l k:Nat}{m:Option Nat}{p:Value×CH}(hx:Iu size h s l k m=some p):ESnd rs h σ (Kc size σ s l k m) p:=by
 unfold Iu at hx;unfold Kc;split at hx
 ·split at hx
  ·rename_i hm;simp only[if_pos hm];obtain rfl:=osj hx;exact .same hs rfl
  ·cases hx
 ·rename_i i o n cap;split at hx
  ·rename_i c e wr tight hg;simp only[hs.cells hg];split at hx
   ·split at hx
    ·rename_i h1;simp only[if_pos h1];obtain rfl:=osj hx;exact .same hs rfl
    ·cases hx
   ·split at hx
    ·rename_i h1;simp only[if_pos h1];split at hx
     ·rename_i h2;simp only[if_pos h2];rw[hs.n] at hx;exact .push hs hx rfl rfl
     ·rename_i h2;simp only[if_neg h2];obtain rfl:=osj hx;exact .same hs rfl
    ·cases hx
  ·cases hx
 ·cases hx
theorem Tv {rs:Nat→Env×Loop}{h:CH}{σ:Heap}(hs:CSim rs h σ) {o:XOp}{ev:Operand→Value}{p:Value×CH}(hx:Wx o ev h=some p):ESnd rs h σ (Zl o ev σ) p:=by
 cases o
 case eqAgg neg s x y =>
  simp only[Wx] at hx;simp only[Zl];split at hx
  ·rename_i a b ha hb;split at hx
   ·rename_i hc;rw[ha,hb];simp only;rw[if_pos hc];obtain rfl:=osj hx;exact .same hs rfl
   ·cases hx
  ·cases hx
 case eqNil kd neg x y =>
  simp only[Wx] at hx;simp only[Zl];split at hx
  ·rename_i b hb;rw[FV hs hb];obtain rfl:=osj hx;exact .same hs rfl
  ·cases hx
 case makeMap =>
  simp only[Wx] at hx;simp only[Zl];rw[hs.n] at hx;exact .push hs hx rfl rfl
 case lookup mk z ok x i =>
  simp only[Wx] at hx;simp only[Zl];generalize ev x=q0 at hx ⊢;generalize ev i=q1 at hx ⊢;split at hx
  ·rename_i hk;simp only[if_pos hk];split at hx
   ·obtain rfl:=osj hx;exact .same hs rfl
   ·rename_i m hm;split at hx
    ·rename_i es cl wr gY;obtain⟨k1,k2⟩:=hs.mapAt gY;simp only[k1];split at hx
     ·rename_i hall;simp only[if_pos hall];split at hx
      ·rename_i e hf;simp only[hf];obtain rfl:=osj hx;exact .same hs rfl
      ·rename_i hf;simp only[hf];obtain rfl:=osj hx;exact .same hs rfl
     ·cases hx
    ·cases hx
   ·cases hx
  ·cases hx
 case mapUpdate mk m k v =>
  simp only[Wx] at hx;simp only[Zl];generalize ev m=q0 at hx ⊢;split at hx
  ·rename_i i hi;split at hx
   ·rename_i es cl gY;obtain⟨k1,k2⟩:=hs.mapAt gY;simp only[k1];split at hx
    ·rename_i hc;simp only[if_pos hc];obtain rfl:=osj hx;exact .upd hs k2 rfl rfl
    ·cases hx
   ·cases hx
  ·cases hx
 case delete mk m k =>
  simp only[Wx] at hx;simp only[Zl];generalize ev m=q0 at hx ⊢;split at hx
  ·rename_i i hi;split at hx
   ·rename_i es cl gY;obtain⟨k1,k2⟩:=hs.mapAt gY;simp only[k1];split at hx
    ·rename_i hc;simp only[if_pos hc];obtain rfl:=osj hx;exact .upd hs k2 rfl rfl
    ·cases hx
   ·cases hx
  ·cases hx
 case mapEntry=>cases hx
 case entryStore=>cases hx
 case lenMap x =>
  simp only[Wx] at hx;simp only[Zl];generalize ev x=q0 at hx ⊢;split at hx
  ·obtain rfl:=osj hx;exact .same hs rfl
  ·split at hx
   ·rename_i es cl wr gY;obtain⟨k1,k2⟩:=hs.mapAt gY;simp only[k1];obtain rfl:=osj hx;exact .same hs rfl
   ·cases hx
  ·cases hx
 case rangeMap x =>
  simp only[Wx] at hx;simp only[Zl];generalize ev x=q0 at hx ⊢;split at hx
  ·split at hx
   ·rename_i es cl wr gY;obtain⟨k1,k2⟩:=hs.mapAt gY;simp only[k1];rw[hs.n] at hx;exact .push hs hx rfl rfl
   ·cases hx
  ·cases hx
 case nextMap=>cases hx
 case entry x =>
  simp only[Wx] at hx;simp only[Zl];generalize ev x=q0 at hx ⊢;split at hx
  ·split at hx
   ·rename_i m since seen last hg;simp only[hs.iter hg];split at hx
    ·rename_i es clock wr b gY dK;obtain⟨k1,_⟩:=hs.mapAt gY;simp only[k1,dK];split at hx
     ·rename_i hc;rw[if_pos hc];split at hx
      ·rename_i e hf;split at hx
       ·rename_i hp;rw[hf];simp only[hp,if_true];obtain rfl:=osj hx;exact .same hs rfl
       ·cases hx
      ·cases hx
     ·cases hx
    ·cases hx
   ·cases hx
  ·cases hx
 case copy size d s =>
  simp only[Wx] at hx;simp only[Zl];generalize ev d=q0 at hx ⊢;generalize ev s=q1 at hx ⊢;split at hx
  ·rename_i db dn dc sb sn sc h1 h2;split at hx
   ·rename_i hm;simp only[if_pos hm];obtain rfl:=osj hx;exact .same hs rfl
   ·rename_i hm;simp only[if_neg hm];split at hx
    ·rename_i i o xs bH;simp only[hs.sl bH];split at hx
     ·rename_i c e wr tight hg;simp only[hs.cells hg];split at hx
      ·rename_i hc;simp only[if_pos hc];obtain rfl:=osj hx;exact .upd hs hg rfl rfl
      ·cases hx
     ·cases hx
    ·cases hx
  ·cases hx
 case toUnsafe x =>
  simp only[Wx] at hx;simp only[Zl];generalize ev x=q0 at hx ⊢;split at hx
  ·obtain rfl:=osj hx;exact .same hs rfl
  ·split at hx
   ·rename_i c e wr tight hg;simp only[hs.cells hg];split at hx
    ·rename_i hc;simp only[if_pos hc];obtain rfl:=osj hx;exact .same hs rfl
    ·cases hx
   ·cases hx
  ·cases hx
 case fromUnsafe u size x =>
  simp only[Wx] at hx;simp only[Zl];generalize ev x=q0 at hx ⊢;split at hx
  ·obtain rfl:=osj hx;exact .same hs rfl
  ·split at hx
   ·rename_i c e hg;simp only[hs.cells hg];split at hx
    ·rename_i hc;simp only[if_pos hc];obtain rfl:=osj hx;exact .same hs rfl
    ·cases hx
   ·cases hx
  ·cases hx
 case sliceData x =>
  simp only[Wx] at hx;simp only[Zl];generalize ev x=q0 at hx ⊢;split at hx
  ·obtain rfl:=osj hx;exact .same hs rfl
  ·rename_i i o n cap;split at hx
   ·rename_i hc;simp only[if_pos (show cap≠0∧(σ.get i).isSome=true from ⟨hc.1,by rw[hs.get];simpa using hc.2⟩)];obtain rfl:=osj hx;exact .same hs rfl
   ·cases hx
  ·cases hx
 case unsafeStr e x n =>
  simp only[Wx] at hx;simp only[Zl];generalize ev x=q0 at hx ⊢;generalize ev n=q1 at hx ⊢;split at hx
  ·rename_i q k h1 h2;split at hx
   ·rename_i hk;simp only[if_pos hk];obtain rfl:=osj hx;exact .same hs rfl
   ·rename_i hk;simp only[if_neg hk];split at hx
    ·rename_i i o;split at hx
     ·rename_i c el tight hg;simp only[hs.cells hg];split at hx
      ·rename_i hc;simp only[if_pos hc];split at hx
       ·rename_i u hu;simp only[hu];obtain rfl:=osj hx;exact .upd hs hg rfl rfl
       ·cases hx
      ·cases hx
     ·cases hx
    ·cases hx
  ·cases hx
 case bytesStr x =>
  simp only[Wx] at hx;simp only[Zl];generalize ev x=q0 at hx ⊢;split at hx
  ·split at hx
   ·rename_i xs bH;simp only[hs.sl bH];split at hx
    ·rename_i u hu;simp only[hu];obtain rfl:=osj hx;exact .same hs rfl
    ·cases hx
   ·cases hx
  ·cases hx
 case strBytes e x =>
  simp only[Wx] at hx;simp only[Zl];generalize ev x=q0 at hx ⊢;split at hx
  ·split at hx
   ·rename_i h1;simp only[if_pos h1];rw[hs.n] at hx;exact .push hs hx rfl rfl
   ·cases hx
  ·cases hx
theorem Q17 {rs:Nat→Env×Loop}{h:CH}{σ:Heap}(hs:CSim rs h σ) {o:VOp}{ev:Operand→Value}{p:Value×CH}
  (hx:(if o.kind=0 then (match Q4 o ev Heap.empty with|some p=>some (p.1,h)|none=>none) else none)=some p):ESnd rs h σ (Q4 o ev σ) p:=by
 split at hx
 ·rename_i hk;split at hx
  ·rename_i q hq;obtain rfl:=osj hx;exact .same hs (R8 hk (v:=q.1) (σ1:=q.2) hq)
  ·cases hx
 ·cases hx
theorem Yt {rs:Nat→Env×Loop}{h:CH}{σ:Heap}(hs:CSim rs h σ) {o:VOp}{ev:Operand→Value}{p:Value×CH}(hx:Q42 o ev h=some p):ESnd rs h σ (Q4 o ev σ) p:=by
 cases o
 case alloc t z =>
  simp only[Q42] at hx;simp only[Q4];rw[hs.n] at hx;exact .push hs hx rfl rfl
 case box t x =>
  simp only[Q42] at hx;simp only[Q4];generalize Vn (ev x)=q0 at hx ⊢;split at hx
  ·rw[hs.n] at hx;exact .push hs hx rfl rfl
  ·cases hx
 case buildSlice esz z len parts =>
  simp only[Q42] at hx;simp only[Q4];generalize NS (Lc len z) (parts.map fun p=>(p.1*esz.sz,esz.sz,ev p.2))=q0 at hx ⊢;split at hx
  ·rw[hs.n] at hx;exact .push hs hx rfl rfl
  ·cases hx
 case load agg size a =>
  simp only[Q42] at hx;simp only[Q4];generalize ev a=q0 at hx ⊢;split at hx
  ·split at hx
   ·rename_i c hg;split at hx
    ·rename_i hall;simp only[hg,if_pos hall];split at hx
     ·rename_i u hu;simp only[hu];obtain rfl:=osj hx;exact .same hs rfl
     ·cases hx
    ·cases hx
   ·cases hx
  ·split at hx
   ·rename_i c e wr tight hg;simp only[hs.cells hg];split at hx
    ·rename_i u hu;simp only[hu];obtain rfl:=osj hx;exact .same hs rfl
    ·cases hx
   ·cases hx
  ·cases hx
 case store size a v =>
  simp only[Q42] at hx;simp only[Q4];generalize Vn (ev v)=q0 at hx ⊢;generalize ev a=q1 at hx ⊢;split at hx
  ·rename_i i o vs h1 h2;split at hx
   ·rename_i c e wr tight hg;simp only[hs.cells hg];split at hx
    ·rename_i hc;simp only[if_pos hc];obtain rfl:=osj hx;exact .upd hs hg rfl rfl
    ·cases hx
   ·cases hx
  ·cases hx
 case slice size x lo hi mx =>
  simp only[Q42] at hx;simp only[Q4];generalize ev x=q0 at hx ⊢;split at hx
  ·rename_i a n cap;dsimp only;generalize Jv ev lo 0=q1 at hx ⊢;generalize Jv ev hi n=q2 at hx ⊢;split at hx
   ·exact HD hs hx
   ·rename_i l k m;dsimp only;generalize Jv ev (some m) 0=q3 at hx ⊢;split at hx
    ·exact HD hs hx
    ·cases hx
   ·cases hx
  ·cases hx
 case makeSlice esz bytes z l c =>
  simp only[Q42] at hx;simp only[Q4];generalize ev l=q0 at hx ⊢;generalize ev c=q1 at hx ⊢;split at hx
  ·split at hx
   ·rename_i hc;simp only[if_pos hc];rw[hs.n] at hx;exact .push hs hx rfl rfl
   ·cases hx
  ·cases hx
 case append esz bytes s x =>
  simp only[Q42] at hx;simp only[Q4];generalize ev x=q0 at hx ⊢;split at hx
  ·rename_i bH;simp only[hs.sl bH];split at hx
   ·rename_i hc;simp only[if_pos hc];exact Cn hs hx
   ·cases hx
  ·cases hx
 case ext o=>exact Tv hs hx
 all_goals exact Q17 hs hx
def OO (k:IntKind) (n:Int):Int:=match n with
 |.ofNat x=>match Nat.ble x 127 with
  |true=>.ofNat x
  |false=>k.wrap (.ofNat x)
 |.negSucc x=>k.wrap (.negSucc x)
theorem Ia (k:IntKind) (n:Int):OO k n=k.wrap n:=by
 cases n with
 |negSucc x=>rfl
 |ofNat x =>
  simp only[OO];split
  ·rename_i h;have hx:x≤127:=Nat.le_of_ble_eq_true h;show (x:Int)=k.wrap (x:Int);cases k<;>simp[IntKind.wrap,IntKind.bits,IntKind.signed]<;>omega
  ·rfl
def Z0q (c a b:Value):Option Value:=match c with|.bool t=>some (if t then a else b)|_=>none
def Q66 (op:BinOp) (x y:Value):Option Value:=match x,y with|.int k a,.int k' b=>if k=k' then some (.int k (match op with|.add=>OO k (a+b)|.sub=>OO k (a-b)|_=>OO k (a*b))) else none|_,_=>none
def Z7t (op:BinOp) (x y:Value):Option Value:=match x,y with|.int k a,.int k' b=>if k=k'∧b≠0 then some (.int k (Q90 op k a b)) else none|_,_=>none
def Z2o (op:BinOp) (x y:Value):Option Value:=match x,y with|.int k a,.int k' b=>if k=k' then some (.int k (NX op k a b)) else none|_,_=>none
def Q6d (op:BinOp) (x y:Value):Option Value:=match x,y with|.int k a,.int _ b=>if 0≤b then some (.int k (HS op k a b)) else none|_,_=>none
def Z6j (op:BinOp) (x y:Value):Option Value:=match x,y with|.int k a,.int k' b=>if k=k' then some (.bool (Z0k op a b)) else none|_,_=>none
def Z6s (op:BinOp) (x y:Value):Option Value:=match x,y with
  |.string a,.string b=>match op with
   |.add=>if a.size+b.size≤2 ^ 62 then some (.string (a++b)) else none
   |.eql=>some (.bool (a.data.toList==b.data.toList))
   |.neq=>some (.bool (!(a.data.toList==b.data.toList)))
   |.lss=>some (.bool (Op.bytesLess a.data.toList b.data.toList))
   |_=>none
  |_,_=>none
def Z6w (neg:Bool) (x y:Value):Option Value:=match x,y with|.bool a,.bool b=>some (.bool (if neg then !(a==b) else (a==b)))|_,_=>none
def pUn (op:UnOp) (x:Value):Option Value:=match op,x with
  |.not,.bool b=>some (.bool (!b))
  |.neg,.int k n=>some (.int k (k.wrap (0-n)))
  |.xor,.int k n=>some (.int k (NX .xor k (if k.signed then -1 else k.max) n))
  |_,_=>none
def Q6x (k:IntKind) (x:Value):Option Value:=match x with|.int _ n=>some (.int k (OO k n))|_=>none
def Q68 (x:Value):Option Value:=match x with|.string s=>some (.string s)|_=>none
def Q7c (z:List Value) (l:List (Nat×Nat×Value)):Option Value:=match NS z l with|some cs=>some (.agg cs.toArray)|none=>none
def LN (off:Nat) (a:Value):Option Value:=match a with
  |.pointer (some ⟨i,o,none⟩)=>some (.pointer (some ⟨i,o+off,none⟩))
  |_=>none
def Q75 (agg:Bool) (off size:Nat) (x:Value):Option Value:=match x with
  |.agg cs=>Xs agg size cs.toList off
  |_=>none
def LK (size:Nat) (x i:Value):Option Value:=match x,i with
  |.slice (some ⟨b,o,none⟩) n _,.int _ k=>if 0≤k∧k<n then some (.pointer (some ⟨b,o+k.toNat*size,none⟩)) else none
  |_,_=>none
def B2 (len size:Nat) (x i:Value):Option Value:=match x,i with
  |.pointer (some ⟨g,o,some s⟩),.int _ k=>if 0≤k∧k<len then some (.pointer (some ⟨g,o+k.toNat*size,some s⟩)) else none
  |.pointer (some ⟨b,o,none⟩),.int _ k=>if 0≤k∧k<len then some (.pointer (some ⟨b,o+k.toNat*size,none⟩)) else none
  |_,_=>none
def AE (x i:Value):Option Value:=match x,i with
  |.string s,.int _ k=>if 0≤k then (match s.data.toList[k.toNat]? with|some b=>some (.int .u8 b.toNat)|none=>none) else none
  |_,_=>none
def Ew (len:Nat) (agg:Bool) (size:Nat) (x i:Value):Option Value:=match x,i with
  |.agg cs,.int _ k=>if 0≤k∧k<len then Xs agg size cs.toList (k.toNat*size) else none
  |_,_=>none
def Ay (ev:Operand→Value) (x:Value) (lo hi:Option Operand):Option Value:=match x with
  |.string s =>
   match Jv ev lo 0,Jv ev hi s.size with
   |some l,some h=>if l≤h∧h≤s.size then some (.string (s.extract l h)) else none
   |_,_=>none
  |_=>none
def Z7u (x:Value):Option Value:=match x with|.slice _ n _=>some (.int .i64 n)|_=>none
def Q2n (x:Value):Option Value:=match x with|.string s=>some (.int .i64 s.size)|_=>none
def Z1r (x y z w:Value):Option Value:=match x,y,z,w with|.int k a,.int k2 b,.int k3 c,.int k4 d=>if k=k2∧k=k3∧k=k4 then some (.int k (Q15 (Q15 (Q15 a b) c) d)) else none|_,_,_,_=>none
def Z6r (x y:Value):Option Value:=match x,y with|.int k a,.int k' b=>if k=k' then some (.int k (if b > a then b else a)) else none|_,_=>none
def Z85 (x y:Value):Option Value:=match x,y with|.int k a,.int k' b=>if k=k' then some (.int k (if b<a then b else a)) else none|_,_=>none
def Q7b (t:TypeId) (x:Value):Option Value:=match x with|.chan _=>none|v=>some (.iface t v)
def O6 (i:Nat) (x:Value):Option Value:=match x with
  |.tuple vs=>vs.toList[i]?
  |_=>none
def EW (x:Value):Option Value:=match x with
  |.pointer (some a)=>some (.pointer (some a))
  |.func (.func f) first cap=>some (.func (.func f) first cap)
  |_=>none
def ppp (r:Option Value) (σ:CH):Option (Value×CH):=match r with|some v=>some (v,σ)|none=>none
def Z8f (t:Nat) (x:Value) (σ:CH):Option (Value×CH):=match Vn x with
  |some vs=>G5 σ (.cells vs ⟨vs.length,t⟩ true true) (.pointer (some ⟨σ.n,0,none⟩))
  |none=>none
def FD (esz:El) (z:List Value) (len:Nat) (l:List (Nat×Nat×Value)) (σ:CH):Option (Value×CH):=match NS (Lc len z) l with
  |some cs=>G5 σ (.cells cs esz true true) (.slice (some ⟨σ.n,0,none⟩) len len)
  |none=>none
def Q9x (agg:Bool) (size:Nat) (a:Value) (σ:CH):Option (Value×CH):=match a with
  |.pointer (some ⟨g,o,some _⟩)=>(match Q40 g with
   |some c=>if c.all QD then (match Xs agg size c o with|some v=>some (v,σ)|none=>none) else none
   |none=>none)
  |.pointer (some ⟨i,o,none⟩)=>match σ.get i with
   |some (.cells c _ _ _)=>match Xs agg size c o with|some v=>some (v,σ)|none=>none
   |_=>none
  |_=>none
def stL (c:List Value) (o:Nat) (vs:List Value):List Value:=match vs with
 |[v]=>c.set o v
 |vs=>c.take o++(vs++c.drop (o+vs.length))
theorem Oc:∀ (vs a b c:List Value),vs.length=b.length→Qw (a++(b++c)) a.length vs=a++(vs++c)
 |[],a,b,c,h=>by have:b=[]:=List.eq_nil_of_length_eq_zero (by simpa using h.symm);subst this;rfl
 |v::vs,a,[],c,h=>by simp at h
 |v::vs,a,x::b,c,h=>by
  simp only[Qw];have e:(a++(x::b++c)).set a.length v=(a++[v])++(b++c):=by simp
  rw[e];have:=Oc vs (a++[v]) b c (by simpa using h);rw[List.length_append,List.length_singleton] at this;rw[this];simp
theorem Z29 {c:List Value}{o:Nat}{vs:List Value}(h:o+vs.length≤c.length):stL c o vs=Qw c o vs:=by
 unfold stL;split
 ·rfl
 ·have h1:c=c.take o++((c.drop o).take vs.length++c.drop (o+vs.length)):=by
   rw[←List.drop_drop,List.take_append_drop,List.take_append_drop]
  have h2:(c.take o).length=o:=by simp;omega
  have:=Oc vs (c.take o) ((c.drop o).take vs.length) (c.drop (o+vs.length)) (by simp;omega);rw[h2,←h1] at this;exact this.symm
def Q6z (size:Nat) (a v:Value) (σ:CH):Option (Value×CH):=match a,Vn v with
  |.pointer (some ⟨i,o,none⟩),some vs=>match σ.get i with
   |some (.cells c e wr tight)=>if wr=true∧vs.length=size∧o+size≤c.length∧vs.all cellOk=true then some (undef,σ.upd i (.cells (stL c o vs) e wr tight)) else none
   |_=>none
  |_,_=>none
def OT (esz:El) (bytes:Nat) (z:List Value) (l c:Value) (σ:CH):Option (Value×CH) :=
  match l,c with
  |.int _ a,.int _ b=>if 0≤a∧a≤b∧b*bytes≤2 ^ 46∧b≤2 ^ 46 then G5 σ (.cells (Lc b.toNat z) esz true true) (.slice (some ⟨σ.n,0,none⟩) a.toNat b.toNat) else none
  |_,_=>none
def Z8e (esz:El) (bytes:Nat) (s x:Value) (σ:CH):Option (Value×CH) :=
  match σ.sl esz.sz x,x with
  |some xs,.slice _ m _=>if xs.all cellOk then Ad esz bytes σ s m xs else none
  |_,_=>none
def FY (o:VOp) (ev:Operand→Value) (σ:CH):Option (Value×CH) :=
 match o with
 |.move x=>some (ev x,σ)
 |.pick c a b=>ppp (Z0q (ev c) (ev a) (ev b)) σ
 |.arith op x y=>ppp (Q66 op (ev x) (ev y)) σ
 |.div op x y=>ppp (Z7t op (ev x) (ev y)) σ
 |.bits op x y=>ppp (Z2o op (ev x) (ev y)) σ
 |.shift op x y=>ppp (Q6d op (ev x) (ev y)) σ
 |.cmp op x y=>ppp (Z6j op (ev x) (ev y)) σ
 |.str op x y=>ppp (Z6s op (ev x) (ev y)) σ
 |.eqB n x y=>ppp (Z6w n (ev x) (ev y)) σ
 |.un op x=>ppp (pUn op (ev x)) σ
 |.convI k x=>ppp (Q6x k (ev x)) σ
 |.convS x=>ppp (Q68 (ev x)) σ
 |.build z parts=>ppp (Q7c z (parts.map fun p=>(p.1,p.2.1,ev p.2.2))) σ
 |.fieldAddr off a=>ppp (LN off (ev a)) σ
 |.field agg off size x=>ppp (Q75 agg off size (ev x)) σ
 |.indexAddr size x i=>ppp (LK size (ev x) (ev i)) σ
 |.indexAddrArr len size x i=>ppp (B2 len size (ev x) (ev i)) σ
 |.indexStr x i=>ppp (AE (ev x) (ev i)) σ
 |.indexArr len agg size x i=>ppp (Ew len agg size (ev x) (ev i)) σ
 |.sliceStr x lo hi=>ppp (Ay ev (ev x) lo hi) σ
 |.len x=>ppp (Z7u (ev x)) σ
 |.lenStr x=>ppp (Q2n (ev x)) σ
 |.max x y=>ppp (Z6r (ev x) (ev y)) σ
 |.max4 x y z w=>ppp (Z1r (ev x) (ev y) (ev z) (ev w)) σ
 |.min x y=>ppp (Z85 (ev x) (ev y)) σ
 |.makeFunc fn first cap=>some (.func fn (first.map ev).toArray (cap.map ev).toArray,σ)
 |.iface t x=>ppp (Q7b t (ev x)) σ
 |.extract x i=>ppp (O6 i (ev x)) σ
 |.nilCheck x=>ppp (EW (ev x)) σ
 |.alloc t z=>G5 σ (.cells z ⟨z.length,t⟩ true true) (.pointer (some ⟨σ.n,0,none⟩))
 |.box t x=>Z8f t (ev x) σ
 |.buildSlice esz z len parts=>FD esz z len (parts.map fun p=>(p.1*esz.sz,esz.sz,ev p.2)) σ
 |.load agg size a=>Q9x agg size (ev a) σ
 |.store size a v=>Q6z size (ev a) (ev v) σ
 |.slice size x lo hi mx=>Q42 (.slice size x lo hi mx) ev σ
 |.makeSlice esz bytes z l c=>OT esz bytes z (ev l) (ev c) σ
 |.append esz bytes s x=>Z8e esz bytes (ev s) (ev x) σ
 |.ext o=>Wx o ev σ
 |_=>none
theorem Q21 {rs:Nat→Env×Loop}{h:CH}{σ:Heap}(hs:CSim rs h σ) {r:Option Value}{r':Option (Value×Heap)}{p:Value×CH}(hr:∀ v,r=some v→r'=some (v,σ)) (hx:ppp r h=some p):ESnd rs h σ r' p:=by
 unfold ppp at hx;split at hx
 ·rename_i v;obtain rfl:=osj hx;exact .same hs (hr v rfl)
 ·cases hx
theorem Vj {rs:Nat→Env×Loop}{h:CH}{σ:Heap}(hs:CSim rs h σ) {o:VOp}{ev:Operand→Value}{p:Value×CH}(hx:FY o ev h=some p):ESnd rs h σ (Q4 o ev σ) p:=by
 cases o
 case move x=>exact .same hs (by obtain rfl:=osj hx;rfl) |> fun (h:ESnd rs _ σ (Q4 (.move x) ev σ) (ev x,_))=>by obtain rfl:=osj hx;exact h
 case makeFunc fn a b=>obtain rfl:=osj hx;exact .same hs rfl
 case alloc t z=>exact Yt (o:=.alloc t z) hs hx
 case box t x=>exact Yt (o:=.box t x) hs hx
 case buildSlice a b c d=>exact Yt (o:=.buildSlice a b c d) hs hx
 case load a b c=>exact Yt (o:=.load a b c) hs hx
 case store size a v =>
  simp only[FY] at hx;simp only[Q4];unfold Q6z at hx;generalize Vn (ev v)=q0 at hx ⊢;generalize ev a=q1 at hx ⊢;split at hx
  ·rename_i i o vs;split at hx
   ·rename_i c e wr tight hg;simp only[hs.cells hg];split at hx
    ·rename_i hc;simp only[if_pos hc];rw[Z29 (by omega)] at hx;obtain rfl:=osj hx;exact .upd hs hg rfl rfl
    ·cases hx
   ·cases hx
  ·cases hx
 case slice a b c d e=>exact Yt (o:=.slice a b c d e) hs hx
 case makeSlice a b c d e=>exact Yt (o:=.makeSlice a b c d e) hs hx
 case append a b c d=>exact Yt (o:=.append a b c d) hs hx
 case ext o=>exact Tv hs hx
 case callF=>cases hx
 case callV=>cases hx
 case bad=>cases hx
 all_goals refine Q21 hs (fun v hv=>?_) hx
 case arith op x y =>
  simp only[Q4];generalize ev x=a at hv ⊢;generalize ev y=b at hv ⊢;unfold Q66 at hv;split at hv
  ·split at hv
   ·rename_i hk;simp only[if_pos hk];obtain rfl:=osj hv;cases op<;>simp only[HW,Ia]
   ·cases hv
  ·cases hv
 case convI k x =>
  simp only[Q4];generalize ev x=a at hv ⊢;unfold Q6x at hv;split at hv
  ·obtain rfl:=osj hv;simp only[Ia]
  ·cases hv
 case pick c a b =>
  simp only[Q4];generalize ev c=q0 at hv ⊢;generalize ev a=q1 at hv ⊢;generalize ev b=q2 at hv ⊢;unfold Z0q at hv
  (repeat' split at hv)<;>first|(cases hv;done)|(obtain rfl:=osj hv;first|rfl|(simp_all;done)|(simp_all;intros;omega))
 case div op x y =>
  simp only[Q4];generalize ev x=q0 at hv ⊢;generalize ev y=q1 at hv ⊢;unfold Z7t at hv
  (repeat' split at hv)<;>first|(cases hv;done)|(obtain rfl:=osj hv;first|rfl|(simp_all;done)|(simp_all;intros;omega))
 case bits op x y =>
  simp only[Q4];generalize ev x=q0 at hv ⊢;generalize ev y=q1 at hv ⊢;unfold Z2o at hv
  (repeat' split at hv)<;>first|(cases hv;done)|(obtain rfl:=osj hv;first|rfl|(simp_all;done)|(simp_all;intros;omega))
 case shift op x y =>
  simp only[Q4];generalize ev x=q0 at hv ⊢;generalize ev y=q1 at hv ⊢;unfold Q6d at hv
  (repeat' split at hv)<;>first|(cases hv;done)|(obtain rfl:=osj hv;first|rfl|(simp_all;done)|(simp_all;intros;omega))
 case cmp op x y =>
  simp only[Q4];generalize ev x=q0 at hv ⊢;generalize ev y=q1 at hv ⊢;unfold Z6j at hv
  (repeat' split at hv)<;>first|(cases hv;done)|(obtain rfl:=osj hv;first|rfl|(simp_all;done)|(simp_all;intros;omega))
 case eqB n x y =>
  simp only[Q4];generalize ev x=q0 at hv ⊢;generalize ev y=q1 at hv ⊢;unfold Z6w at hv
  (repeat' split at hv)<;>first|(cases hv;done)|(obtain rfl:=osj hv;first|rfl|(simp_all;done)|(simp_all;intros;omega))
 case un op x =>
  simp only[Q4];generalize ev x=q0 at hv ⊢;unfold pUn at hv
  (repeat' split at hv)<;>first|(cases hv;done)|(obtain rfl:=osj hv;first|rfl|(simp_all;done)|(simp_all;intros;omega))
 case convS x =>
  simp only[Q4];generalize ev x=q0 at hv ⊢;unfold Q68 at hv
  (repeat' split at hv)<;>first|(cases hv;done)|(obtain rfl:=osj hv;first|rfl|(simp_all;done)|(simp_all;intros;omega))
 case fieldAddr off a =>
  simp only[Q4];generalize ev a=q0 at hv ⊢;unfold LN at hv
  (repeat' split at hv)<;>first|(cases hv;done)|(obtain rfl:=osj hv;first|rfl|(simp_all;done)|(simp_all;intros;omega))
 case indexAddr size x i =>
  simp only[Q4];generalize ev x=q0 at hv ⊢;generalize ev i=q1 at hv ⊢;unfold LK at hv
  (repeat' split at hv)<;>first|(cases hv;done)|(obtain rfl:=osj hv;first|rfl|(simp_all;done)|(simp_all;intros;omega))
 case indexAddrArr len size x i =>
  simp only[Q4];generalize ev x=q0 at hv ⊢;generalize ev i=q1 at hv ⊢;unfold B2 at hv
  (repeat' split at hv)<;>first|(cases hv;done)|(obtain rfl:=osj hv;first|rfl|(simp_all;done)|(simp_all;intros;omega))
 case len x =>
  simp only[Q4];generalize ev x=q0 at hv ⊢;unfold Z7u at hv
  (repeat' split at hv)<;>first|(cases hv;done)|(obtain rfl:=osj hv;first|rfl|(simp_all;done)|(simp_all;intros;omega))
 case lenStr x =>
  simp only[Q4];generalize ev x=q0 at hv ⊢;unfold Q2n at hv
  (repeat' split at hv)<;>first|(cases hv;done)|(obtain rfl:=osj hv;first|rfl|(simp_all;done)|(simp_all;intros;omega))
 case max4 x y z w =>
  simp only[Q4];generalize ev x=q0 at hv ⊢;generalize ev y=q1 at hv ⊢;generalize ev z=q2 at hv ⊢;generalize ev w=q3 at hv ⊢;unfold Z1r at hv
  (repeat' split at hv)<;>first|(cases hv;done)|(rename_i qa;obtain⟨rfl,rfl,rfl⟩:=qa;obtain rfl:=osj hv;simp_all;done)
 case max x y =>
  simp only[Q4];generalize ev x=q0 at hv ⊢;generalize ev y=q1 at hv ⊢;unfold Z6r at hv
  (repeat' split at hv)<;>first|(cases hv;done)|(obtain rfl:=osj hv;first|rfl|(simp_all;done)|(simp_all;intros;omega))
 case min x y =>
  simp only[Q4];generalize ev x=q0 at hv ⊢;generalize ev y=q1 at hv ⊢;unfold Z85 at hv
  (repeat' split at hv)<;>first|(cases hv;done)|(obtain rfl:=osj hv;first|rfl|(simp_all;done)|(simp_all;intros;omega))
 case nilCheck x =>
  simp only[Q4];generalize ev x=q0 at hv ⊢;unfold EW at hv
  (repeat' split at hv)<;>first|(cases hv;done)|(obtain rfl:=osj hv;first|rfl|(simp_all;done)|(simp_all;intros;omega))
 case str op x y =>
  simp only[Q4];generalize ev x=q0 at hv ⊢;generalize ev y=q1 at hv ⊢;unfold Z6s at hv
  (repeat' split at hv)<;>first|(cases hv;done)|(obtain rfl:=osj hv;first|rfl|(simp_all;done)|(simp_all;intros;omega))
 case build z parts =>
  simp only[Q4];unfold Q7c at hv;split at hv
  ·rename_i cs hc;rw[hc];obtain rfl:=osj hv;rfl
  ·cases hv
 case field agg off size x =>
  simp only[Q4];generalize ev x=q0 at hv ⊢;unfold Q75 at hv;split at hv
  ·dsimp only;rw[hv]
  ·cases hv
 case indexStr x i =>
  simp only[Q4];generalize ev x=q0 at hv ⊢;generalize ev i=q1 at hv ⊢;unfold AE at hv;split at hv
  ·split at hv
   ·rename_i hc;simp only[if_pos hc];split at hv
    ·rename_i b hb;simp only[hb];obtain rfl:=osj hv;rfl
    ·cases hv
   ·cases hv
  ·cases hv
 case indexArr len agg size x i =>
  simp only[Q4];generalize ev x=q0 at hv ⊢;generalize ev i=q1 at hv ⊢;unfold Ew at hv;split at hv
  ·split at hv
   ·rename_i hc;simp only[if_pos hc,hv]
   ·cases hv
  ·cases hv
 case sliceStr x lo hi =>
  simp only[Q4];generalize ev x=q0 at hv ⊢;unfold Ay at hv;split at hv
  ·rename_i s;split at hv
   ·rename_i l h h1 h2;split at hv
    ·rename_i hc;simp only[h1,h2,if_pos hc];obtain rfl:=osj hv;rfl
    ·cases hv
   ·cases hv
  ·cases hv
 case iface t x =>
  simp only[Q4];generalize ev x=q0 at hv ⊢;unfold Q7b at hv;split at hv
  ·cases hv
  ·rename_i aC;obtain rfl:=osj hv;split
   ·exact absurd rfl (aC _)
   ·rfl
 case extract x i =>
  simp only[Q4];generalize ev x=q0 at hv ⊢;unfold O6 at hv;split at hv
  ·dsimp only;rw[hv]
  ·cases hv
inductive Sh (a m d:Nat):Value→Value→Prop
 |plain (v:Value) (h:QD v=true):Sh a m d v v
 |ptr (i o:Nat) (h:a≤i) (hi:i<m):Sh a m d (.pointer (some ⟨i,o,none⟩)) (.pointer (some ⟨d+(i-a),o,none⟩))
 |sl (i o len cap:Nat) (h:a≤i) (hi:i<m):Sh a m d (.slice (some ⟨i,o,none⟩) len cap) (.slice (some ⟨d+(i-a),o,none⟩) len cap)
 |agg (cs ds:Array Value) (hc:cs.size=ds.size) (h:∀ i (h1:i<cs.size) (h2:i<ds.size),Sh a m d cs[i] ds[i]):Sh a m d (.agg cs) (.agg ds)
 |tuple (cs ds:Array Value) (hc:cs.size=ds.size) (h:∀ i (h1:i<cs.size) (h2:i<ds.size),Sh a m d cs[i] ds[i]):Sh a m d (.tuple cs) (.tuple ds)
theorem Sh.rel {ρ ρ':Plc}{a m d n':Nat}(hn:d+(m-a)≤n') (hρ:∀ i,a≤i→i<m→ρ' (d+(i-a))=ρ i) {v v':Value}(h:Sh a m d v v') :
  ∀ {c:Value},VRel ρ m v c→VRel ρ' n' v' c:=by
 induction h with
 |plain v h =>intro c hv;have:c=v:=U3 h hv;subst this;exact WW h
 |ptr i o h hi =>intro c hv;obtain⟨a',rfl,_,bw⟩:=hv.ptr_inv';exact .ptr _ _ _ (by omega) fun p hp=>bw p (by rw[←hρ i h hi];exact hp)
 |sl i o len cap h hi =>intro c hv;obtain⟨a',aq,rfl,_,bw⟩:=hv.sl_inv;exact .sl _ _ _ _ _ _ (by omega) fun p hp=>bw p (by rw[←hρ i h hi];exact hp)
 |agg cs ds hc h ih =>
  intro c hv;cases hv with
  |agg _ ds' cA h'=>exact .agg _ _ (hc.symm.trans cA) fun i k1 k2=>ih i (by omega) k1 (h' i (by omega) k2)
 |tuple cs ds hc h ih =>
  intro c hv;cases hv with
  |tuple _ ds' cA h'=>exact .tuple _ _ (hc.symm.trans cA) fun i k1 k2=>ih i (by omega) k1 (h' i (by omega) k2)
theorem BRel.any {ρ ρ':Plc}{n n':Nat}{p:Pl}{w:World}{c:List Value}{esz:El}{wr tight:Bool}(hp:c.all QD=true) (h:BRel ρ n p w (.cells c esz wr tight)) :
  BRel ρ' n' p w (.cells c esz wr tight):=by
 obtain⟨h1,h2,h3,h4,h5,h6⟩:=h;refine⟨h1,h2,h3,h4,fun k v hk=>?_,h6⟩;obtain⟨u,hu,hv⟩:=h5 k v hk;have aW:QD v=true:=List.all_eq_true.1 hp v (List.mem_of_getElem? hk);obtain rfl:u=v:=U3 aW hv;exact⟨u,hu,WW aW⟩
theorem BRel.asRo {ρ ρ':Plc}{n n':Nat}{p:Pl}{w:World}{c:List Value}{esz:El}{wr tight:Bool}(hp:c.all QD=true) (h:BRel ρ n p w (.cells c esz wr tight)) :
  BRel ρ' n' p w (.cells c esz false tight):=by
 obtain⟨h1,h2,h3,h4,h5,h6⟩:=BRel.any (ρ':=ρ') (n':=n') hp h;exact⟨h1,h2,h3,h4,h5,fun h=>by cases h⟩
structure PB where
 c:List Value
 esz:El
 tight:Bool
def PB.blk (wr:Bool) (b:PB):Blk:=.cells b.c b.esz wr b.tight
def WB (bl fr:List PB):Heap where
 get i:=if i<bl.length then (bl[i]?).map (PB.blk false) else (fr[i-bl.length]?).map (PB.blk true)
 n:=bl.length+fr.length
 wf i h:=by rw[if_neg (by omega),List.getElem?_eq_none (by omega)];rfl
def Y8 (σ:Heap) (fr:List PB):Heap where
 get i:=if i<σ.n then σ.get i else (fr[i-σ.n]?).map (PB.blk true)
 n:=σ.n+fr.length
 wf i h:=by rw[if_neg (by omega),List.getElem?_eq_none (by omega)];rfl
theorem VCalled.localize {P:Program}{f:FuncId}{iU args:List Value}{bl fr:List PB}{vm v:Value}{σ:Heap}{π:Nat→Nat}{K:Value→Heap→Prop}
  (hm:VCalled P f iU (WB bl []) fun u τ=>u=vm∧τ=WB bl fr)
  (gB:∀ b∈bl,b.c.all QD=true) (cu:∀ b∈fr,b.c.all QD=true)
  (hπ:∀ i b,bl[i]?=some b→∃ wr,σ.get (π i)=some (b.blk wr))
  (av:LRen bl.length π iU args) (hv:Sh bl.length (bl.length+fr.length) σ.n vm v) (hK:K v (Y8 σ fr)):VCalled P f args σ K:=by
 intro ρ w aw hH hL;have bT:∀ B,¬ Wr (fun i=>if i<bl.length then ρ (π i) else none) (WB bl []) B:=by
  rintro B ⟨i,p,b,_,hb,hw,_⟩;have hi:i<bl.length:=by have:=(WB bl []).lt hb;simpa [WB] using this
  simp only[WB,if_pos hi] at hb;cases eG:bl[i]? with
  |none=>rw[eG] at hb;cases hb
  |some b0=>rw[eG] at hb;obtain rfl:=osj hb;cases hw
 have um:HRel (fun i=>if i<bl.length then ρ (π i) else none) (WB bl []) w:=by
  refine⟨⟨fun i b hb=>?_,fun i hi=>?_,fun i p hp=>?_,fun i j p q b _ hp _ hb hw _=>(bT _ ⟨i,p,b,hp,hb,hw,rfl⟩).elim⟩,fun g cs hg=>⟨(hH.tab g cs hg).1,bT g⟩⟩
  ·have hi:i<bl.length:=by have:=(WB bl []).lt hb;simpa [WB] using this
   simp only[WB,if_pos hi] at hb;cases eG:bl[i]? with
   |none=>rw[eG] at hb;cases hb
   |some b0 =>rw[eG] at hb;obtain rfl:=osj hb;obtain⟨wr,hg⟩:=hπ i b0 eG;obtain⟨p,hp,hB⟩:=hH.live _ _ hg;exact⟨p,by simp[hi,hp],BRel.asRo (gB b0 (List.mem_of_getElem? eG)) hB⟩
  ·by_cases h:i<bl.length
   ·simp only[WB,if_pos h,List.getElem?_eq_getElem h] at hi;cases hi
   ·simp[h]
  ·skip
   split at hp
   ·exact hH.lt _ p hp
   ·cases hp
 have uo:LRel (fun i=>if i<bl.length then ρ (π i) else none) (WB bl []).n iU aw.toList:=by have:=av.rel hL;simpa [WB] using this
 have lift:∀ c w',Got (fun i=>if i<bl.length then ρ (π i) else none) (WB bl []) w (fun u τ=>u=vm∧τ=WB bl fr) c w'→Got ρ σ w K c w':=by
  rintro c w' ⟨_,ρm,_,⟨rfl,rfl⟩,cn,iV,hE⟩;have dW:∀ B,B<w.heap.size→w'.heap[B]?=w.heap[B]?:=fun B hB=>hE.keep B hB (bT B);have gb:∀ i p,bl.length≤i→ρm i=some p→w.heap.size≤p.blk:=fun i p hi hp=>by
   rcases Nat.lt_or_ge p.blk w.heap.size with h|h
   ·refine (bT _ (hE.wr p.blk h ?_)).elim;have iK:=iV.idlt hp;cases hb:(WB bl fr).get i with
    |none=>rw[iV.dead i hb] at hp;cases hp
    |some b =>
     refine⟨i,p,b,hp,hb,?_,rfl⟩;simp only[WB,if_neg (Nat.not_lt.2 hi)] at hb;cases eG:fr[i-bl.length]? with
     |none=>rw[eG] at hb;cases hb
     |some b0=>rw[eG] at hb;obtain rfl:=osj hb;rfl
   ·exact h
  have hρ:∀ i,σ.n≤i→(if i<σ.n then ρ i else if i<σ.n+fr.length then ρm (bl.length+(i-σ.n)) else none)=if i<σ.n+fr.length then ρm (bl.length+(i-σ.n)) else none:=fun i hi=>if_neg (by omega)
  have hX:Ext ρ σ w (fun i=>if i<σ.n then ρ i else if i<σ.n+fr.length then ρm (bl.length+(i-σ.n)) else none) (Y8 σ fr) w':=by
   refine⟨hE.os,hE.tape,hE.output,hE.size,fun B hB _=>dW B hB,?_,by simp[Y8],fun i hi p hp=>?_⟩
   ·rintro B hB ⟨i,p,b,hp,hb,hw,rfl⟩
    replace hp:(if i<σ.n then ρ i else if i<σ.n+fr.length then ρm (bl.length+(i-σ.n)) else none)=some p:=hp
    by_cases hi:i<σ.n
    ·rw[if_pos hi] at hp;simp only[Y8,if_pos hi] at hb;exact⟨i,p,b,hp,hb,hw,rfl⟩
    ·rw[if_neg hi] at hp;split at hp
     ·have:=gb _ p (by omega) hp;omega
     ·cases hp
   ·skip
    rwa [if_pos hi] at hp
  refine⟨v,fun i=>if i<σ.n then ρ i else if i<σ.n+fr.length then ρm (bl.length+(i-σ.n)) else none,Y8 σ fr,hK,?_,hH.ext ⟨fun i b hb=>?_,fun i hi=>?_,fun i p hp=>?_,fun i j p q b ck hp hq hb hw hx=>?_⟩ hX,hX⟩
  ·refine hv.rel (by simp[Y8]) (fun i h1 h2=>?_) cn;rw[if_neg (by omega),if_pos (by omega)];congr 1;omega
  ·by_cases hi:i<σ.n
   ·simp only[Y8,if_pos hi] at hb;obtain⟨p,hp,hB⟩:=hH.live i b hb;exact⟨p,by simp[hi,hp],hB.mono (by simp[Y8]) (fun j hj q hq=>by simpa [hj] using hq) (dW _ (hH.lt i p hp))⟩
   ·simp only[Y8,if_neg hi] at hb;cases eG:fr[i-σ.n]? with
    |none=>rw[eG] at hb;cases hb
    |some b0 =>
     rw[eG] at hb;obtain rfl:=osj hb;have ah:i-σ.n<fr.length:=(List.getElem?_eq_some_iff.1 eG).1;obtain⟨p,hp,hB⟩:=iV.live (bl.length+(i-σ.n)) (b0.blk true) (by
      show (if _ then _ else _)=_;rw[if_neg (by omega),show bl.length+(i-σ.n)-bl.length=i-σ.n by omega,eG];rfl)
     exact⟨p,by rw[if_neg hi,if_pos (by omega)];exact hp,BRel.any (cu b0 (List.mem_of_getElem? eG)) hB⟩
  ·by_cases h:i<σ.n
   ·simp only[Y8,if_pos h] at hi;rw[if_pos h];exact hH.dead i hi
   ·simp only[Y8,if_neg h] at hi;rw[if_neg h];split
    ·rename_i h2;have ah:i-σ.n<fr.length:=by omega
     rw[List.getElem?_eq_getElem ah] at hi;cases hi
    ·rfl
  ·skip
   split at hp
   ·exact Nat.lt_of_lt_of_le (hH.lt i p hp) hE.size
   ·split at hp
    ·exact iV.lt _ p hp
    ·cases hp
  ·skip
   by_cases hi:i<σ.n<;>by_cases hj:j<σ.n
   ·rw[if_pos hi] at hp;rw[if_pos hj] at hq;simp only[Y8,if_pos hi] at hb;exact hH.sep i j p q b ck hp hq hb hw hx
   ·rw[if_pos hi] at hp;rw[if_neg hj] at hq;split at hq
    ·have h1:=hH.lt i p hp;have h2:=gb _ q (by omega) hq;omega
    ·cases hq
   ·rw[if_neg hi] at hp;rw[if_pos hj] at hq;split at hp
    ·have h1:=hH.lt j q hq;have h2:=gb _ p (by omega) hp;omega
    ·cases hp
   ·rw[if_neg hi] at hp;rw[if_neg hj] at hq;split at hp
    ·split at hq
     ·simp only[Y8,if_neg hi] at hb;refine iV.sep (bl.length+(i-σ.n)) (bl.length+(j-σ.n)) p q b (by omega) hp hq ?_ hw hx;show (if _ then _ else _)=_;rw[if_neg (by omega),show bl.length+(i-σ.n)-bl.length=i-σ.n by omega];exact hb
     ·cases hq
    ·cases hp
 rcases hm _ w aw um uo with⟨h1,h2⟩|⟨c,h1,h2⟩
 ·refine .inl ⟨h1,?_⟩;exact h2.mono fun e w' he=>by
   obtain⟨c,rfl,hc⟩:=he;exact⟨c,rfl,lift c w' hc⟩
 ·refine .inr ⟨c,lift c w h1,fun w' cX=>h2 w' ⟨cX.1,fun i p hp=>?_,cX.tab⟩⟩
  replace hp:(if i<bl.length then ρ (π i) else none)=some p:=hp
  split at hp
  ·exact cX.2 _ p hp
  ·cases hp
def Q2g {α:Type}(p:α→α→Bool):List α→List α→Bool
 |[],[]=>true
 |a::l,b::m=>p a b&&Q2g p l m
 |_,_=>false
theorem Nc {α:Type}{p:α→α→Bool}(hp:∀ a b,p a b=true→a=b):∀ l m,Q2g p l m=true→l=m
 |[],[],_=>rfl
 |a::l,b::m,h=>by simp only[Q2g,Bool.and_eq_true] at h;rw[hp a b h.1,Nc hp l m h.2]
 |[],_::_,h=>by cases h
 |_::_,[],h=>by cases h
def Ie:Nat→Value→Value→Bool
 |0,_,_=>false
 |f+1,a,b=>match a,b with
  |.bool x,.bool y=>x==y
  |.int k x,.int k' y=>decide (k=k')&&decide (x=y)
  |.string s,.string t=>decide (s.data.toList=t.data.toList)
  |.pointer none,.pointer none=>true
  |.pointer (some ⟨i,o,none⟩),.pointer (some ⟨j,q,none⟩)=>Nat.beq i j&&Nat.beq o q
  |.slice none l c,.slice none l' c'=>Nat.beq l l'&&Nat.beq c c'
  |.slice (some ⟨i,o,none⟩) l c,.slice (some ⟨j,q,none⟩) l' c'=>Nat.beq i j&&(Nat.beq o q&&(Nat.beq l l'&&Nat.beq c c'))
  |.map x,.map y=>decide (x=y)
  |.chan none,.chan none=>true
  |.nilFunc,.nilFunc=>true
  |.nilIface,.nilIface=>true
  |.func (.func g) fs cs,.func (.func g') sB cs'=>decide (g=g')&&(Q2g (Ie f) fs.toList sB.toList&&Q2g (Ie f) cs.toList cs'.toList)
  |.iface t v,.iface t' v'=>decide (t=t')&&Ie f v v'
  |.agg cs,.agg ds=>Q2g (Ie f) cs.toList ds.toList
  |.tuple cs,.tuple ds=>Q2g (Ie f) cs.toList ds.toList
  |_,_=>false
theorem LA {α:Type}{a b:Array α}(h:a.toList=b.toList):a=b:=by cases a;cases b;simp at h;rw[h]
theorem Dq:∀ (f:Nat) (a b:Value),Ie f a b=true→a=b:=by
 intro f;induction f with
 |zero=>intro a b h;cases h
 |succ f ih =>
  intro a b h;unfold Ie at h
  split at h<;>first
   |(cases h;done)
   |rfl
   |(simp at h;subst h;rfl)
   |(simp at h;obtain⟨rfl,rfl⟩:=h;rfl)
   |(simp at h;obtain⟨rfl,rfl,rfl,rfl⟩:=h;rfl)
   |skip
  ·rename_i s t;have h:=of_decide_eq_true h;have:=LA h;cases s;cases t;simp at this;rw[this]
  ·rename_i g fs cs g' sB cs';simp only[Bool.and_eq_true,decide_eq_true_eq] at h;obtain⟨rfl,h1,h2⟩:=h;rw[LA (Nc ih _ _ h1),LA (Nc ih _ _ h2)]
  ·rename_i t v t' v';simp only[Bool.and_eq_true,decide_eq_true_eq] at h;obtain⟨rfl,h1⟩:=h;rw[ih _ _ h1]
  ·rw[LA (Nc ih _ _ h)]
  ·rw[LA (Nc ih _ _ h)]
def EB.beq:EB→EB→Bool
 |.cells c e w t,.cells c' e' w' t'=>decide (e=e')&&(w==w'&&(t==t'&&Q2g (Ie 20) c c'))
 |.map es cl w,.map bU uq w'=>Nat.beq cl uq&&(w==w'&&Q2g (fun a b=>Ie 20 a.1 b.1&&(Ie 20 a.2.1 b.2.1&&Nat.beq a.2.2 b.2.2)) es bU)
 |.iter m s sn l,.iter m' s' ur l'=>Nat.beq m m'&&(Nat.beq s s'&&(Nat.beq l l'&&decide (sn=ur)))
 |.lp .ready none,.lp .ready none=>true
 |.lp .busy none,.lp .busy none=>true
 |_,_=>false
theorem EB.beq_eq {a b:EB}(h:a.beq b=true):a=b:=by
 unfold EB.beq at h
 split at h<;>first
  |(cases h;done)
  |rfl
  |skip
 ·simp only[Bool.and_eq_true,decide_eq_true_eq,beq_iff_eq] at h;obtain⟨rfl,rfl,rfl,h⟩:=h;rw[Nc (Dq 20) _ _ h]
 ·simp only[Bool.and_eq_true,beq_iff_eq,Nat.beq_eq] at h;obtain⟨rfl,rfl,h⟩:=h;rw[Nc (fun a b h=>by
   simp only[Bool.and_eq_true,Nat.beq_eq] at h;obtain⟨a1,a2,a3⟩:=a;obtain⟨b1,b2,b3⟩:=b;obtain⟨h1,h2,h3⟩:=h;simp at h1 h2 h3;rw[Dq _ _ _ h1,Dq _ _ _ h2,h3]) _ _ h]
 ·simp only[Bool.and_eq_true,decide_eq_true_eq,Nat.beq_eq] at h;obtain⟨rfl,rfl,rfl,rfl⟩:=h;rfl
def CH.newOk (h h':CH):Bool:=Nat.ble h.n h'.n&&(h'.room&&(List.range' h.n (h'.n-h.n)).all fun i=>match h'.get i with
 |some (.lp _ _)=>false
 |_=>true)
structure AnsOps (A:Type) where
 fail:A
 both:A→A→A
structure Good {A:Type}(R:AnsOps A) (G:A→Prop):Prop where
 fail:¬ G R.fail
 both:∀ a b,G (R.both a b)→G a∧G b
def N5:AnsOps Bool:=⟨false,and⟩
theorem IE:Good N5 (·=true):=⟨by simp[N5],fun a b h=>by simpa [N5] using h⟩
def Ij:AnsOps (Option (Value×CH)):=⟨none,fun _ _=>none⟩
theorem Q7q (x:Value×CH):Good Ij (·=some x):=⟨by simp[Ij],fun a b h=>by simp[Ij] at h⟩
def CH.same (h h':CH):Bool:=Nat.beq h.n h'.n&&(List.range h.n).all fun i=>match h.get i,h'.get i with
 |none,none=>true
 |some a,some b=>a.beq b
 |_,_=>false
def EB.plainE:EB→Bool
 |.cells c _ _ _=>c.all QD
 |.map es _ _=>es.all fun kv=>QD kv.2.1
 |_=>false
def CH.keepOk (h h':CH):Bool:=Nat.ble h.n h'.n&&(List.range h.n).all fun i=>match h.get i,h'.get i with
 |none,none=>true
 |some a,some b=>b.plainE||a.beq b
 |_,_=>false
def gcI (n0:Nat) (refs:List Nat) (i:Nat):Nat×List Nat :=
 if i<n0 then (i,refs) else if refs.contains i=true then (n0+refs.idxOf i,refs) else (n0+refs.length,refs++[i])
def Q5o (g:List Nat→Value→Option (Value×List Nat)):List Value→List Nat→Option (List Value×List Nat)
 |[],refs=>some ([],refs)
 |v::vs,refs=>match g refs v with
  |none=>none
  |some p=>match Q5o g vs p.2 with
   |none=>none
   |some q=>some (p.1::q.1,q.2)
def gcX (n0:Nat):Nat→List Nat→Value→Option (Value×List Nat)
 |0,_,_=>none
 |f+1,refs,v=>match v with
  |.pointer (some ⟨i,o,none⟩)=>some (.pointer (some ⟨(gcI n0 refs i).1,o,none⟩),(gcI n0 refs i).2)
  |.slice (some ⟨i,o,none⟩) l c=>some (.slice (some ⟨(gcI n0 refs i).1,o,none⟩) l c,(gcI n0 refs i).2)
  |.map (some i)=>some (.map (some (gcI n0 refs i).1),(gcI n0 refs i).2)
  |.chan none=>some (.chan none,refs)
  |.iface t u=>match gcX n0 f refs u with
   |some p=>some (.iface t p.1,p.2)
   |none=>none
  |.agg cs=>match Q5o (gcX n0 f) cs.toList refs with
   |some p=>some (.agg p.1.toArray,p.2)
   |none=>none
  |.tuple cs=>match Q5o (gcX n0 f) cs.toList refs with
   |some p=>some (.tuple p.1.toArray,p.2)
   |none=>none
  |.func (.func g) fs cs=>match Q5o (gcX n0 f) fs.toList refs with
   |some p=>match Q5o (gcX n0 f) cs.toList p.2 with
    |some q=>some (.func (.func g) p.1.toArray q.1.toArray,q.2)
    |none=>none
   |none=>none
  |v=>if QD v=true then some (v,refs) else none
def Z2w (n0:Nat):List JV→List Nat→Option (List JV×List Nat)
 |[],refs=>some ([],refs)
 |e::es,refs=>match gcX n0 8 refs e.2.1 with
  |none=>none
  |some p=>match Z2w n0 es p.2 with
   |none=>none
   |some q=>some ((e.1,p.1,e.2.2)::q.1,q.2)
def gcB (n0:Nat) (refs:List Nat):EB→Option (EB×List Nat)
 |.cells c e w t=>match Q5o (gcX n0 8) c refs with
  |some p=>some (.cells p.1 e w t,p.2)
  |none=>none
 |.map es cl w=>match Z2w n0 es refs with
  |some p=>some (.map p.1 cl w,p.2)
  |none=>none
 |_=>none
def Q5d (h':CH) (n0:Nat):Nat→Nat→List Nat→CH→Option (CH×List Nat)
 |0,_,_,_=>none
 |f+1,k,refs,acc=>if refs.length≤k then (if k=refs.length then some (acc,refs) else none) else match h'.get (refs.getD k 0) with
  |none=>none
  |some b=>match gcB n0 refs b with
   |none=>none
   |some p=>if acc.room=true then Q5d h' n0 f (k+1) p.2 (acc.push p.1) else none
def Q74 (h h':CH) (refs:List Nat):Option (CH×List Nat) :=
 if h.keepOk h'=true then Q5d h' h.n 100000 0 refs ⟨h'.t,h.n⟩ else none
def A_ (h h':CH) (v:Value):Option (Value×CH):=match gcX h.n 8 [] v with
 |none=>none
 |some p=>match Q74 h h' p.2 with
  |none=>none
  |some q=>some (p.1,q.1)
def joinOps:AnsOps (Option (Value×CH)):=⟨none,fun a b=>match a with
 |some x=>match b with
  |some y=>if Ie 20 x.1 y.1=true∧x.2.same y.2=true then some x else none
  |none=>none
 |none=>none⟩
structure ET where
 t:GT Value
 m:Nat
def ET.get (e:ET) (i:Nat):Value:=Bool.rec (motive:=fun _=>Value) undef (e.t.get undef i) (Nat.blt i e.m)
def ET.set (e:ET) (i:Nat) (v:Value):ET:=Bool.rec (motive:=fun _=>ET) e ⟨e.t.set undef 32 i v,e.m⟩ (Nat.blt i e.m)
def ET.put (e:ET) (d:Option Nat) (v:Value):ET:=Option.rec (motive:=fun _=>ET) e (fun d=>e.set d v) d
def etL (l:List Value):Nat→GT Value→GT Value:=List.rec (motive:=fun _=>Nat→GT Value→GT Value) (fun _ t=>t) (fun v _ ih i t=>ih (i+1) (t.set undef 32 i v)) l
def ET.of (args:List Value) (nt:Nat):ET:=⟨etL args 0 .nil,args.length+(nt-args.length)⟩
def Dm (e:ET) (x:Operand):Value:=Operand.rec (motive:=fun _=>Value) (fun t=>e.get t) (fun v=>v) (fun g=>.pointer (some ⟨g,0,some 0⟩)) (fun f=>.func (.func f) #[] #[]) x
def Q7g (e:ET) (ps:List Nat):List Value→ET:=List.rec (motive:=fun _=>ET→List Value→ET) (fun e _=>e) (fun p _ ih e vs=>List.rec (motive:=fun _=>ET) e (fun v vs _=>ih (e.set p v) vs) vs) ps e
def Q3h (e:ET) (g:Option (Nat×Bool)):Option Bool:=match g with
 |none=>some true
 |some (d,want)=>match e.get d with
  |.bool b=>some (b==want)
  |.tuple _=>some false
  |_=>none
def ET.list (e:ET):List Value:=(List.range e.m).map e.get
def Z2a (h h':CH) (e:ET):Option (Value×CH):=A_ h h' (.tuple e.list.toArray)
structure RCtx where
 ps:List Nat
 a:VCode
 b:VCode
 env:ET
abbrev Ys:=List (Nat×RCtx)
def Ys.find:Ys→Nat→Option RCtx
 |[],_=>none
 |(j,c)::l,i=>if Nat.beq i j=true then some c else Ys.find l i
structure Memo where
 args:List Value
 bl:List PB
 v:Value
 fr:List PB
def Z2f (g:Value→Option Value):List Value→Option (List Value)
 |[]=>some []
 |v::vs=>match g v with
  |none=>none
  |some u=>match Z2f g vs with
   |none=>none
   |some us=>some (u::us)
def shX (a m d:Nat):Nat→Value→Option Value
 |0,_=>none
 |f+1,v=>match v with
  |.pointer (some ⟨i,o,none⟩)=>if a≤i∧i<m then some (.pointer (some ⟨d+(i-a),o,none⟩)) else none
  |.slice (some ⟨i,o,none⟩) l c=>if a≤i∧i<m then some (.slice (some ⟨d+(i-a),o,none⟩) l c) else none
  |.agg cs=>match Z2f (shX a m d f) cs.toList with
   |some p=>some (.agg p.toArray)
   |none=>none
  |.tuple cs=>match Z2f (shX a m d f) cs.toList with
   |some p=>some (.tuple p.toArray)
   |none=>none
  |v=>if QD v=true then some v else none
def Z4f (h:CH) (i:Nat) (b:PB):Bool:=match h.get i with
 |some (.cells c e _ t)=>decide (e=b.esz)&&(t==b.tight&&Q2g (Ie 20) c b.c)
 |_=>false
def Q3w (h:CH):List Nat→List PB→Bool
 |[],[]=>true
 |i::l,b::m=>Z4f h i b&&Q3w h l m
 |_,_=>false
def Gw:List PB→CH→CH
 |[],h=>h
 |b::l,h=>Gw l (h.push (.cells b.c b.esz true b.tight))
def Io (h:CH) (args:List Value) (refs:List Nat):List Memo→Option Memo
 |[]=>none
 |m::ms=>if (Q2g (Ie 20) args m.args&&Q3w h refs m.bl)=true then some m else Io h args refs ms
def A3 (h:CH) (args:List Value) (ms:List Memo):Option (Value×CH) :=
 match Q5o (gcX 0 8) args [] with
 |none=>none
 |some p=>match Io h p.1 p.2 ms with
  |none=>none
  |some m=>match Nat.ble (h.n+m.fr.length) 1000000000 with
   |false=>none
   |true=>match shX m.bl.length (m.bl.length+m.fr.length) h.n 8 m.v with
    |some v=>some (v,Gw m.fr h)
    |none=>none
inductive FEnt where
 |code (vc:VCode) (rs:List VResult) (nt:Nat)
 |codeJ (vc:VCode) (rs:List VResult) (nt:Nat)
 |codeM (vc:VCode) (rs:List VResult) (nt:Nat) (ms:List Memo)
 |same
abbrev Tab:=FuncId→Option FEnt
abbrev Q8v:=∀ {A:Type},AnsOps A→Ys→VCode→Option Nat→ET→CH→(Exit→ET→CH→A)→A
def Rb (env:ET) (σ:CH):VResult→Option Value
 |.tmp t=>some (env.get t)
 |.cell a agg size=>match Q9x agg size (env.get a) σ with|some p=>some p.1|none=>none
def BF (env:ET) (σ:CH):List VResult→Option (List Value)
 |[]=>some []
 |r::rs=>match Rb env σ r with
  |none=>none
  |some v=>match BF env σ rs with
   |none=>none
   |some vs=>some (v::vs)
def Gh (env:ET) (σ:CH) (rs:List VResult):Option Value :=
 match rs with
 |[r]=>Rb env σ r
 |rs=>match BF env σ rs with|some vs=>some (.tuple vs.toArray)|none=>none
section
variable (T:Tab) (ev:Q8v) {A:Type}(R:AnsOps A) (ys:Ys)
def Q6s (fail:A) (rs:List VResult) (k:Value→CH→A):Exit→ET→CH→A:=fun e env h'=>match e with
  |.normal=>(match Gh env h' rs with|some v=>k v h'|none=>fail)
  |.ret=>(match Gh env h' rs with|some v=>k v h'|none=>fail)
  |_=>fail
def I7 (f:FuncId) (args:List Value) (h:CH) (k:Value→CH→A):A :=
 match T f with
 |some (.code vc rs nt)=>match Nat.ble (ET.of args nt).m 1000000 with
  |true=>ev R ys vc none (ET.of args nt) h (Q6s R.fail rs k)
  |false=>R.fail
 |some (.codeJ vc rs nt)=>match Nat.ble (ET.of args nt).m 1000000 with
  |true=>(match ev joinOps ys vc none (ET.of args nt) h (Q6s none rs fun v h'=>A_ h h' v) with
   |some x=>if x.2.room=true∧Nat.ble h.n x.2.n=true then k x.1 x.2 else R.fail
   |none=>R.fail)
  |false=>R.fail
 |some (.codeM vc rs nt ms)=>match A3 h args ms with
  |some p=>k p.1 p.2
  |none=>match Nat.ble (ET.of args nt).m 1000000 with
   |true=>ev R ys vc none (ET.of args nt) h (Q6s R.fail rs k)
   |false=>R.fail
 |some .same=>match args with
  |[v]=>k v h
  |_=>R.fail
 |none=>R.fail
def Q1i (i:Nat) (k:Value→CH→A):Exit→ET→CH→A:=fun e _ h =>
 match h.get i with
 |some (.lp .busy none)=>match e with
  |.normal=>k (.bool true) (h.upd i (.lp .ready none))
  |.ret=>k (.bool false) (h.upd i (.lp .done (some .ret)))
  |.exit id=>k (.bool false) (h.upd i (.lp .done (some (.exit id))))
  |_=>R.fail
 |_=>R.fail
def Q77 (c:RCtx) (i:Nat) (k:Value→CH→A):Exit→ET→CH→A:=fun e bz h1=>match e with
 |.normal=>(match h1.get i with
  |some (.lp .ready none)=>ev R ys c.b (some i) bz (h1.upd i (.lp .busy none)) (Q1i R i k)
  |_=>R.fail)
 |_=>R.fail
def Q2s (i:Nat) (args:List Value) (h:CH) (k:Value→CH→A):A :=
 match ys.find i with
 |some c=>match h.get i with
  |some (.lp .ready none)=>if args.length=c.ps.length then ev R ys c.a (some i) (Q7g c.env c.ps args) h (Q77 ev R ys c i k) else R.fail
  |_=>R.fail
 |none=>R.fail
def Dh (i m since clock:Nat) (seen:List Nat) (h:CH) (k:Value→CH→A):List JV→Option A
 |[]=>none
 |e::es=>if seen.contains e.2.2=true then Dh i m since clock seen h k es
  else match Dh i m since clock seen h k es with
   |none=>some (k (.tuple #[.bool true,e.1,e.2.1]) (h.upd i (.iter m since (seen++[e.2.2]) clock)))
   |some a=>some (R.both (k (.tuple #[.bool true,e.1,e.2.1]) (h.upd i (.iter m since (seen++[e.2.2]) clock))) a)
def Q8h (x:Value) (h:CH) (k:Value→CH→A):A :=
 match x with
 |.pointer (some ⟨i,0,none⟩)=>match h.get i with
  |some (.iter m since seen last)=>match h.mapAt m with
   |some (es,clock,_) =>
    if (seen.isEmpty||es.isEmpty||es.any (fun e=>decide (e.2.2<last)))=true∧es.all (fun e=>U5 e.1)=true then
     (match Dh R i m since clock seen h k es with
     |none=>if es.all (fun e=>seen.contains e.2.2||decide (since≤e.2.2))=true then k (.tuple #[.bool false]) h else R.fail
     |some a=>if es.all (fun e=>seen.contains e.2.2||decide (since≤e.2.2))=true then R.both (k (.tuple #[.bool false]) h) a else a)
    else R.fail
   |none=>R.fail
  |_=>R.fail
 |_=>R.fail
def Q7a (f:Value) (args:List Value) (h:CH) (k:Value→CH→A):A:=match f with
  |.func (.func g) first cap=>I7 T ev R ys g (first.toList++args++cap.toList) h k
  |.func (.yield i) _ _=>Q2s ev R ys i args h k
  |_=>R.fail
def Q3a (r:Option (Value×CH)) (k:Value→CH→A):A:=match r with
  |some p=>k p.1 p.2
  |none=>R.fail
def Q7o (o:VOp) (env:ET) (h:CH) (k:Value→CH→A):A :=
 match o with
 |.callF f args=>I7 T ev R ys f (args.map (Dm env)) h k
 |.callV f args=>Q7a T ev R ys (Dm env f) (args.map (Dm env)) h k
 |.ext (.nextMap x)=>Q8h R (Dm env x) h k
 |o=>Q3a R (FY o (Dm env) h) k
def Q28 (l:List VOper):ET→CH→(ET→CH→A)→A :=
 List.rec (motive:=fun _=>ET→CH→(ET→CH→A)→A) (fun env h k=>k env h)
  (fun o _ ih env h k=>match Q3h env o.guard with
   |none=>R.fail
   |some true=>Q7o T ev R ys o.op env h fun v h'=>ih (env.put o.dst v) h' k
   |some false=>ih (env.put o.dst undef) h k) l
def O4 (op:VOp) (ev:Operand→Value) (v:Value) (h:CH):Bool:=match FY op ev h with
 |some q=>Ie 20 q.1 v
 |none=>false
def Q1c (r:Nat) (h:CH):List (Nat×(CH→Bool))→Bool
 |[]=>true
 |c::l=>(!(Nat.ble r c.1)||c.2 h)&&Q1c r h l
def GR:List DOper→ET→List CH→CH→List (Nat×(CH→Bool))→(ET→CH→A)→A
 |[],env,_,h,_,k=>k env h
 |o::rest,env,hs,h,pend,k=>match Q3h env o.guard with
  |none=>R.fail
  |some true=>if o.kind=2 then
    (match Q7o T ev Ij ys o.op env h (fun v h'=>some (v,h')) with
    |some p=>if h.newOk p.2=true∧Q1c hs.length p.2 pend=true then GR rest (env.put o.dst p.1) (hs++[p.2]) p.2 pend k else R.fail
    |none=>R.fail)
   else if o.kind=1 then
    (match FY o.op (Dm env) h with
    |some p=>if (hs.drop o.kmin).all (O4 o.op (Dm env) p.1)=true then
      GR rest (env.put o.dst p.1) hs h (if hs.length≤o.kmax then (o.kmax,O4 o.op (Dm env) p.1)::pend else pend) k else R.fail
    |none=>R.fail)
   else match FY o.op (Dm env) h with
    |some p=>GR rest (env.put o.dst p.1) hs h pend k
    |none=>R.fail
  |some false=>if o.kind=2 then
    (if Q1c hs.length h pend=true then GR rest (env.put o.dst undef) (hs++[h]) h pend k else R.fail)
   else GR rest (env.put o.dst undef) hs h pend k
def Q81 (env:ET) (h:CH) (a:List DOper):Option (Value×CH):=GR T ev joinOps ys a env [h] h [] fun env h'=>Z2a h h' env
def O3 (env:ET) (h:CH):List (List DOper)→Option (Value×CH)
 |[]=>none
 |[a]=>Q81 T ev ys env h a
 |a::b::r=>joinOps.both (Q81 T ev ys env h a) (O3 env h (b::r))
def Tg:List DSeg→ET→CH→(ET→CH→A)→A
 |[],env,h,k=>k env h
 |.one o::rest,env,h,k=>Q28 T ev R ys [o] env h fun env h=>Tg rest env h k
 |.alts [a]::rest,env,h,k=>GR T ev R ys a env [h] h [] fun env h=>Tg rest env h k
 |.alts l::rest,env,h,k=>match O3 T ev ys env h l with
  |some x=>(match x.1 with
   |.tuple vs=>if x.2.room=true∧Nat.ble h.n x.2.n=true∧vs.toList.length=env.m then Tg rest (ET.of vs.toList 0) x.2 k else R.fail
   |_=>R.fail)
  |none=>R.fail
def Q69 (h:CH):Option Nat→Bool
 |none=>true
 |some i=>match h.get i with
  |some (.lp _ _)=>true
  |_=>false
def Q8l:LoopState→Bool
 |.busy=>false
 |_=>true
def Z1y (env:ET) (i:Nat) (k:Exit→ET→CH→A):Value→CH→A:=fun _ h =>
 match h.get i with
 |some (.lp st pend)=>if Q8l st=true then (match pend with
   |none=>k .normal env (h.kill i)
   |some .ret=>k .ret env (h.kill i)
   |some (.exit id)=>k (.exit id) env (h.kill i)
   |some _=>R.fail) else R.fail
 |_=>R.fail
def Z1j (kb k:Exit→ET→CH→A):Exit→ET→CH→A:=fun e env h=>match e with
 |.normal=>kb .normal env h
 |e=>k e env h
def Q1v (id:Nat) (k:Exit→ET→CH→A):Exit→ET→CH→A:=fun e env h=>match e with
 |.exit iF=>if iF=id then k .normal env h else k (.exit iF) env h
 |e=>k e env h
def Q83 (v:Value) (a b:A):A:=match v with
 |.bool true=>a
 |.bool false=>b
 |_=>R.fail
def Q3r (g:Value) (ps:List Nat) (a b:VCode) (ro:Option Nat) (env:ET) (h:CH) (k:Exit→ET→CH→A):A:=match g with
 |.func (.func f) first cap=>match T f with
  |some (.code _ _ _)=>if Q69 h ro=true∧h.room=true then
    I7 T ev R ((h.n,⟨ps,a,b,env⟩)::ys) f (first.toList++[.func (.yield h.n) #[] #[]]++cap.toList) (h.push (.lp .ready none)) (Z1y R env h.n k)
   else R.fail
  |_=>R.fail
 |_=>R.fail
def AX (c:VCode):Option Nat→ET→CH→(Exit→ET→CH→A)→A :=
 VCode.rec (motive:=fun _=>Option Nat→ET→CH→(Exit→ET→CH→A)→A)
  (fun _ env h k=>k .normal env h)
  (fun ops _ env h k=>Q28 T ev R ys ops env h (k .normal))
  (fun aQ _ env h k=>Tg T ev R ys aQ env h (k .normal))
  (fun g ps a b _ _ ro env h k=>Q3r T ev R ys (Dm env g) ps a b ro env h k)
  (fun _ _ eR eo ro env h k=>eR ro env h (Z1j (fun _ ae h'=>eo ro ae h' k) k))
  (fun c _ _ eR eo ro env h k=>Q83 R (Dm env c) (eR ro env h k) (eo ro env h k))
  (fun id _ ih ro env h k=>ih ro env h (Q1v id k))
  (fun b ih ro env h k=>ih ro env h (Z1j (fun _ ae h'=>ev R ys (.loop b) ro ae h' k) k))
  (fun id _ env h k=>k (.exit id) env h)
  (fun _ env h k=>k .ret env h)
  (fun _ _ _ _=>R.fail) c
end
def A2 (T:Tab) (n:Nat):Q8v :=
 Nat.rec (motive:=fun _=>Q8v) (fun R _ _ _ _ _ _=>R.fail) (fun _ ih {_} R ys c ro env h k=>AX T ih R ys c ro env h k) n
end Go.V