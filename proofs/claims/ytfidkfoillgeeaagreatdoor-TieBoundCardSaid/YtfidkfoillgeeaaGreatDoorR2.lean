/- A framework for walks, contracts of functions, and their proofs: part 2. -/
import Derived.RangeFuncLeaves
import Derived.RangeFuncCalls
import Derived.OrdersIn
import Derived.TacticsIn
import Derived.Sort.LoopGhostIn
import Derived.Deep.LoopGhost
import Derived.Test.YtfidkfoillgeeaaGreatDoorR1
noncomputable section
namespace Go.V
open Go
section
variable {P:Program}{S:VSpecs}{B:Nat}
def FF:Option Nat→Fence
 |none=>Fence.wide
 |some l=>Fence.wide.inRound l
theorem Ao (ro:Option Nat) (f:FuncId):(FF ro).fn f:=by cases ro<;>trivial
theorem Td (ro:Option Nat):(FF ro).depth=none:=by cases ro<;>rfl
theorem IL (ro:Option Nat):(FF ro).round=ro:=by cases ro<;>rfl
theorem Ci {ro:Option Nat}{n:Nat}{f:FuncId}{args:Array Value}{w:World}{R:Ending→World→Prop}(h:Calls P f args w R):CallsIn (FF ro) n P f args w R:=by
 cases ro with
 |none=>exact callsIn_wide.2 h
 |some l=>exact CallsIn.inRound l (callsIn_wide.2 h)
theorem SQ {ro:Option Nat}{n m:Nat}{l:Nat}{f:FuncId}{tmps:Array Value}{fh body:Code}{w:World}{R:Ending→World→Prop}(h:RoundIn Fence.wide m P l f tmps fh body w R):RoundIn (FF ro) n P l f tmps fh body w R:=by refine⟨Ao _ _,fun c cs _=>?_⟩;obtain⟨e,w',r,s⟩:=h.2 c cs (room_wide _);refine⟨e,w',r,?_⟩;cases ro<;>exact s
def Got (ρ:Plc) (σ:Heap) (w:World) (R:Value→Heap→Prop) (c:Value) (w':World):Prop :=
 ∃ v ρ' σ',R v σ'∧VRel ρ' σ'.n v c∧HRel ρ' σ' w'∧Ext ρ σ w ρ' σ' w'
def VCallsTo (P:Program) (f:FuncId) (args:List Value) (σ:Heap) (R:Value→Heap→Prop):Prop :=
 ∀ ρ w (az:Array Value),HRel ρ σ w→LRel ρ σ.n args az.toList→Calls P f az w fun e w'=>∃ c,e=.returned c∧Got ρ σ w R c w'
def VCalled (P:Program) (f:FuncId) (args:List Value) (σ:Heap) (R:Value→Heap→Prop):Prop :=
 ∀ ρ w (az:Array Value),HRel ρ σ w→LRel ρ σ.n args az.toList →
  ((∀ w,(callFunc f az).run P w=.ok (.enter f az) w)∧Calls P f az w fun e w'=>∃ c,e=.returned c∧Got ρ σ w R c w') ∨
  (∃ c,Got ρ σ w R c w∧∀ w',Like ρ w w'→(callFunc f az).run P w'=.ok (.value c) w')
def DH (P:Program) (i:Nat) (args:List Value) (σ:Heap) (R:Value→Heap→Prop):Prop :=
 ∀ ρ w (az:Array Value),HRel ρ σ w→LRel ρ σ.n args az.toList →
  ∃ p,ρ i=some p∧∃ fn tmps fh body,(Instr.yield p.blk az).run P w=.ok (.round p.blk fn tmps fh body) w ∧
   RoundIn Fence.wide 0 P p.blk fn tmps fh body w fun e w'=>∃ c,e=.returned c∧Got ρ σ w R c w'
def Jy (P:Program) (f:FuncId):Prop:=∃ fn,P.funcs[f]?=some fn∧fn.body.isSome=true∧(fn.name=="runtime.NumGoroutine")=false
def Q63 (P:Program) (f:FuncId) (s:H0):Prop:=∀ args σ K,s args σ K→VCalled P f args σ K
def YR (P:Program) (i:Nat) (s:H0):Prop:=∀ args σ K,s args σ K→DH P i args σ K
def Q5d (P:Program) (f:FuncId) (T:Nat→H0→H0):Prop:=Jy P f∧∀ i Y,YR P i Y→∀ args σ K,T i Y args σ K→VCallsTo P f args σ K
structure OkSpecs (P:Program) (S:VSpecs):Prop where
 fn:∀ f s,S.fn f=some s→Q63 P f s
 yl:∀ i s,S.yl i=some s→YR P i s
 it:∀ f T,S.it f=some T→Q5d P f T
theorem VC {f:FuncId}(h:Jy P f) (args:Array Value) (w:World):(callFunc f args).run P w=.ok (.enter f args) w:=by
 obtain⟨fn,h1,h2,h3⟩:=h;have h4:¬ fn.body=none:=fun e=>by rw[e] at h2;cases h2
 have h5:¬ fn.name="runtime.NumGoroutine":=fun e=>by rw[e] at h3;simp at h3
 simp[callFunc,h1,h4,h5]
theorem VCallsTo.called {f:FuncId}{args:List Value}{σ:Heap}{R:Value→Heap→Prop}(he:Jy P f) (h:VCallsTo P f args σ R):VCalled P f args σ R :=
 fun ρ w az hH hL=>.inl ⟨fun w=>VC he az w,h ρ w az hH hL⟩
theorem Got.mono {ρ:Plc}{σ:Heap}{w:World}{R R':Value→Heap→Prop}{c:Value}{w':World}(h:Got ρ σ w R c w') (hr:∀ v σ',R v σ'→R' v σ'):Got ρ σ w R' c w' :=
 let ⟨v,ρ',σ',h1,h2⟩:=h;⟨v,ρ',σ',hr _ _ h1,h2⟩
theorem VCallsTo.mono {f:FuncId}{args:List Value}{σ:Heap}{R R':Value→Heap→Prop}(h:VCallsTo P f args σ R) (hr:∀ v σ',R v σ'→R' v σ'):VCallsTo P f args σ R' :=
 fun ρ w az hH hL=>(h ρ w az hH hL).mono fun _ _ ⟨c,he,hg⟩=>⟨c,he,hg.mono hr⟩
theorem WK {ρ:Plc}{n:Nat}{env:Env}{a:Act}(h:LRel ρ n env a.tmps.toList) {v c:Value}(hv:VRel ρ n v c) (d:Option Nat):LRel ρ n (Js env d v) (a.put d c).tmps.toList:=by
 cases d with
 |none=>exact h
 |some d=>simp only[Js,Act.put,Array.toList_setIfInBounds];exact h.set d hv
theorem Z2 (env:Env) (d:Option Nat) (v:Value):List.length (Js env d v)=List.length env:=by cases d<;>simp[Js]
theorem Jm (a:Act) (d:Option Nat) (c:Value):(a.put d c).defers=a.defers:=by cases d<;>rfl
theorem NC {ρ:Plc}{n:Nat}{env:Env}{a:Act}{ops:Array Oper}{o:Oper}{vo:VOper}(hc:Zn P ops o=some vo) (hL:LRel ρ n env a.tmps.toList) {b:Bool}(h:Zl env vo.guard=some b) :
  Region.wanted o (yielded ops a.tmps)=b∧vo.dst=o.dst∧WU P o.op=vo.op:=by
 unfold Zn at hc;simp only[Option.bind_eq_bind] at hc;cases hg:o.guard with
 |none =>simp[hg] at hc;subst hc;simp[Zl] at h;subst h;simp[Region.wanted,hg]
 |some jw =>
  obtain⟨j,want⟩:=jw;simp[hg] at hc;cases hj:ops[j]? with
  |none=>simp[hj] at hc
  |some oj =>
   cases hd:oj.dst with
   |none=>simp[hj,hd] at hc
   |some d =>
    simp[hj,hd] at hc;subst hc;refine⟨?_,rfl,rfl⟩;simp only[Zl] at h;simp only[Region.wanted,hg,yielded,hj,Option.bind_some,hd];have hlen:List.length env=a.tmps.size:=by have:=hL.1;rw[Array.length_toList] at this;exact this
    rcases Nat.lt_or_ge d (List.length env) with ai|bA
    ·have bZ:d<a.tmps.size:=by rw[←hlen];exact ai
     have hr:=hL.2 d env[d] a.tmps[d] (List.getElem?_eq_getElem ai) (by simp[bZ]);have he:env.getD d undef=env[d]:=by simp[List.getD,ai]
     rw[he] at h;simp only[Array.getElem?_eq_getElem bZ];split at h
     ·rename_i b' heq;rw[heq] at hr;rw[hr.bool_inv];simp at h;simp[←h]
     ·rename_i vs heq;rw[heq] at hr;obtain⟨ds,hds,_⟩:=hr.tuple_inv;rw[hds];simp at h;subst h;simp
     ·cases h
    ·have he:env.getD d undef=undef:=by simp[List.getD,List.getElem?_eq_none bA]
     rw[he] at h;have:a.tmps[d]?=none:=Array.getElem?_eq_none (by rw[←hlen];exact bA);simp only[this];simp[undef] at h;subst h;simp
theorem O0 {o:Oper}{vo:VOp}(hc:K1 P o.op=some vo) {ρ:Plc}{σ:Heap}{env:Env}{a:Act}(hL:LRel ρ σ.n env a.tmps.toList) {K:Value→Heap→Prop}
  (aE:(∃ f bR,vo=.callF f bR)∨(∃ f bR,vo=.callV f bR)) {σ0:Heap}(h:vop S vo env σ0 K) :
  (∃ f args az,vcall S f args σ0 K∧LRel ρ σ.n args az.toList∧∀ w,(execOp a.eval o).run P w=(callFunc f az).run P w) ∨
  (∃ i r args az,Cb S i args σ0 K∧VRel ρ σ.n (.func (.yield i) #[] #[]) (.func (.yield r) #[] #[])∧LRel ρ σ.n args az.toList∧∀ w,(execOp a.eval o).run P w=(Instr.yield r az).run P w):=by
 have bj:=hc;cases dR:K1 P o.op with
 |none=>rw[dR] at hc;cases hc
 |some tz =>
  clear dR hc tz;obtain⟨dst,op,ty,pos,after,guard⟩:=o;simp only at bj;unfold K1 at bj;split at bj
  ·cases bj
  rename_i ak;simp only[Bool.not_eq_true,Bool.not_eq_false'] at ak;cases op
  case call c =>
   simp only[Op.operands] at ak bj;split at bj
   ·rename_i f aI;simp at bj;subst bj;simp only[vop] at h;have aD:(c.args.toList).all Jn=true:=by
     simp only[Call.operands,aI,Array.toList_append,List.all_append,Bool.and_eq_true] at ak;exact ak.2
    refine .inl ⟨f,_,c.args.map a.eval,h,by have:=Pp (fun x hx=>Xd hL hx) aD;simpa using this,fun w=>?_⟩;simp[execOp,resolve,aI,Act.eval,Deferred.ofValue,invoke]
   ·rename_i fo aF aI;simp at bj;subst bj;simp only[vop] at h;simp only[Call.operands,aI,Array.toList_append,List.all_append,Bool.and_eq_true] at ak;have hf:=Xd hL (x:=fo) (by simpa using ak.1);have has:=Pp (fun x hx=>Xd hL hx) ak.2;split at h
    ·rename_i g first cap heq
     rw[heq] at hf;cases jX:a.eval fo with
     |func fn gs ds =>
      rw[jX] at hf;cases hf with
      |func _ _ _ _ _ h1 h2 h3 h4 =>
       refine .inl ⟨g,_,gs++c.args.map a.eval++ds,h,?_,fun w=>?_⟩
       ·have dz:=LRel.of_array h1 h3;have cj:=LRel.of_array h2 h4;have:=(dz.append has).append cj;simpa using this
       ·simp[execOp,resolve,aI,jX,Deferred.ofValue,invoke]
     |_=>rw[jX] at hf;cases hf
    ·rename_i i first cap heq
     rw[heq] at hf;have hinv:∀ c,VRel ρ σ.n (.func (.yield i) first cap) c→∃ r,c=.func (.yield r) #[] #[]∧VRel ρ σ.n (.func (.yield i) #[] #[]) (.func (.yield r) #[] #[]):=by
      intro c h;cases h with
      |yield _ r hi hr=>exact⟨r,rfl,.yield i r hi hr⟩
     obtain⟨r,jX,hv⟩:=hinv _ hf;refine .inr ⟨i,r,_,c.args.map a.eval,h,hv,by simpa using has,fun w=>?_⟩;simp[execOp,resolve,aI,jX,Deferred.ofValue,invoke]
    ·cases h
   all_goals
    repeat' first
     |(cases bj;done)
     |(simp at bj;subst bj;rcases aE with⟨f,bR,h⟩|⟨f,bR,h⟩<;>cases h;done)
     |split at bj
   all_goals
    simp only[Option.bind_eq_bind,Option.bind_eq_some_iff] at bj;obtain⟨_,_,_,_,bj⟩:=bj;split at bj<;>simp at bj;subst bj;rcases aE with⟨f,bR,h⟩|⟨f,bR,h⟩<;>cases h
  all_goals simp only[Op.operands] at ak bj
  all_goals
   repeat' first
    |(cases bj;done)
    |(simp at bj;subst bj;rcases aE with⟨f,bR,h⟩|⟨f,bR,h⟩<;>cases h;done)
    |split at bj
  all_goals simp only[Option.bind_eq_bind,Option.bind_eq_some_iff,reduceCtorEq,and_false,exists_false] at bj
  all_goals first
   |(obtain⟨_,_,bj⟩:=bj;simp at bj;subst bj;rcases aE with⟨f,bR,h⟩|⟨f,bR,h⟩<;>cases h;done)
   |(obtain⟨_,_,_,_,bj⟩:=bj;simp at bj;subst bj;rcases aE with⟨f,bR,h⟩|⟨f,bR,h⟩<;>cases h;done)
   |(obtain⟨_,_,_,_,_,_,bj⟩:=bj;simp at bj;subst bj;rcases aE with⟨f,bR,h⟩|⟨f,bR,h⟩<;>cases h;done)
   |(obtain⟨d,_,bj⟩:=bj;cases d<;>simp at bj<;>subst bj<;>rcases aE with⟨f,bR,h⟩|⟨f,bR,h⟩<;>cases h;done)
   |(obtain⟨_,_,_,_,bj⟩:=bj;split at bj<;>simp at bj;subst bj;rcases aE with⟨f,bR,h⟩|⟨f,bR,h⟩<;>cases h;done)
   |(obtain⟨_,_,bj⟩:=bj;split at bj<;>simp at bj;subst bj;rcases aE with⟨f,bR,h⟩|⟨f,bR,h⟩<;>cases h;done)
theorem VN {o:Op}{vo:VOp}(h:WU P o=vo) (hv:vo≠.bad):K1 P o=some vo∨∃ x,H9 P o=some x∧vo=.ext x:=by
 unfold WU at h;split at h
 ·rename_i v gg;subst h;exact .inl gg
 ·split at h
  ·rename_i x hx;exact .inr ⟨x,hx,h.symm⟩
  ·exact absurd h.symm hv
theorem Ak {o:Op}{x:XOp}(h:K1 P o=some (.ext x)):False:=by
 unfold K1 at h
 repeat' first
  |contradiction
  |(cases h;done)
  |(simp at h;done)
  |(rw[Option.bind_eq_bind,Option.bind_eq_some_iff] at h;obtain⟨_,_,h⟩:=h)
  |split at h
theorem Pb {o:Op}{vo:VOp}(h:WU P o=vo) (hv:vo≠.bad) (c:Call):o≠.defer c:=by
 rintro rfl;rcases VN h hv with h|⟨x,h,_⟩
 ·unfold K1 at h;split at h<;>simp at h
 ·unfold H9 at h;split at h<;>simp at h
theorem Ag {o:Oper}{x:Operand}(hc:H9 P o.op=some (.nextMap x)) {ρ:Plc}{σ:Heap}{w:World}{env:Env}{ev:Operand→Value}(hH:HRel ρ σ w) (hE:∀ x,Jn x=true→VRel ρ σ.n (Q5 env x) (ev x))
  {K:Value→Heap→Prop}(h:Ez (Q5 env x) σ K):∃ c w',(execOp ev o).run P w=.ok (.value c) w'∧Got ρ σ w K c w':=by
 obtain⟨dst,op,ty,pos,after,guard⟩:=o;simp only at hc;unfold H9 at hc;split at hc
 ·cases hc
 rename_i ak;simp only[Bool.not_eq_true,Bool.not_eq_false'] at ak;have bK:op=.next x false:=by
  cases op
  case next y b=>cases b<;>simp at hc;subst hc;rfl
  all_goals
   simp only at hc
   repeat' first
    |contradiction
    |(obtain⟨_,h⟩:=CS hc;cases h;done)
    |(cases hc;done)
    |(simp at hc;done)
    |(rw[Option.bind_eq_bind,Option.bind_eq_some_iff] at hc;obtain⟨_,_,hc⟩:=hc)
    |split at hc
 subst bK;clear hc;simp[Op.operands] at ak;have hx:=hE x ak;unfold Ez at h;split at h
 ·rename_i i bz;rw[bz] at hx;split at h
  ·rename_i m since seen last hb;split at h
   ·rename_i es clock wr aN;obtain⟨h1,hall,h2,h3⟩:=h;obtain⟨p,hp,⟨_,eQ⟩,O,hO,rm,rfl,oM⟩:=hH.live i _ hb;obtain⟨q,entries,ib,dj,aG,aH⟩:=Jx hH aN oM;simp at ib;subst ib;obtain⟨_,_,cu⟩:=hx.ptr_inv hp;rw[eQ,Nat.zero_add] at cu;have gH:(getObj p.blk).run P w=.ok (.mapIter (some q.blk) since seen.toArray last) w:=Qp hO (fun _ _ _ e=>by cases e);have cW:(getObj q.blk).run P w=.ok (.map entries clock) w:=Qp aG (fun _ _ _ e=>by cases e);let left:=entries.filter fun e=>!seen.toArray.contains e.born;let bF:=left.filter (·.born<since);let new:=left.filter (·.born≥since);let bL:Array (Option MapEntry):=(if bF.isEmpty then #[none] else #[])++(bF++new).map some;have eM:0<bL.size:=by
     by_cases ho:bF.isEmpty=true
     ·simp only[bL,ho,if_true,Array.size_append];show 0<1+_;omega
     ·have:bF.size≠0:=fun e=>ho (by simp[Array.isEmpty,e]);simp only[bL,Array.size_append,Array.size_map];omega
    obtain⟨k,w1,hk,er,pP⟩:∃ k w1,k<bL.size∧(choose (.mapNext bL.size)).run P w=.ok k w1∧(w1=w∨w1=w.drew):=by
     rw[run_choose_drew];by_cases hf:(Question.mapNext bL.size).forced=true
     ·exact⟨0,w,eM,by rw[if_pos hf],.inl rfl⟩
     ·refine⟨_,w.drew,?_,by rw[if_neg hf],.inr rfl⟩;exact Nat.mod_lt _ eM
    have iZ:HRel ρ σ w1:=by rcases pP with rfl|rfl;exact hH;exact hH.drew
    have fF:Ext ρ σ w ρ σ w1:=by rcases pP with rfl|rfl;exact Ext.refl _ _ _;exact Ext.drew _ _ _
    have tA:w1.heap[p.blk]?=some (.mapIter (some q.blk) since seen.toArray last):=by rcases pP with rfl|rfl<;>exact hO
    have aj:¬ ((!seen.toArray.isEmpty&&!entries.isEmpty&&entries.all (fun e=>decide (e.born≥last)))=true):=by
     intro hh;simp only[Bool.and_eq_true] at hh;obtain⟨⟨h4,h5⟩,h6⟩:=hh;simp only[Bool.or_eq_true] at h1;rcases h1 with (h1|h1)|h1
     ·rw[List.isEmpty_iff] at h1;subst h1;simp at h4
     ·rw[List.isEmpty_iff] at h1;subst h1;have:entries=#[]:=by have:=aH.1;simpa using this
      subst this;simp at h5
     ·obtain⟨kv,di,ai⟩:=List.any_eq_true.1 h1;obtain⟨j,hj⟩:=List.mem_iff_getElem?.1 di;have cB:j<entries.toList.length:=by rw[aH.1];exact(List.getElem?_eq_some_iff.1 hj).1
      have he:=aH.2 j entries.toList[j] kv (List.getElem?_eq_getElem cB) hj;have:=Array.all_eq_true'.1 h6 entries.toList[j] (by rw[←Array.mem_toList_iff];exact List.getElem_mem cB);have h7:=he.2.1;simp at this ai;simp at h7;omega
    have aZ:∀ r,(match bL[k]? with
      |some (some e)=>(do setObj p.blk (.mapIter (some q.blk) since (seen.toArray.push e.born) clock);pure (Value.tuple #[.bool true,e.key,e.val]):Sem Value)
      |some none=>pure (.tuple #[.bool false])
      |none=>stuck "Next: no such candidate").run P w1=r→(Instr.next (ev x) false ty).run P w=r:=by
     intro r hr;rw[←hr];simp only[Instr.next,cu,Sem.run_bind,gH,cW,Result.andThen_ok];rw[if_neg aj];simp only[Sem.run_bind];change ((choose (Question.mapNext bL.size)).run P w).andThen _=_;rw[er];rfl
    have hval:∀ c w',(Instr.next (ev x) false ty).run P w=.ok c w'→(execOp ev ⟨dst,.next x false,ty,pos,after,guard⟩).run P w=.ok (.value c) w':=fun c w' h=>by simp[execOp,h]
    have fc:bL[k]?=some bL[k]:=Array.getElem?_eq_getElem hk;cases hx:bL[k] with
    |none =>
     rw[hx] at fc;have aQ:none∈bL:=hx▸Array.getElem_mem hk;have hold:bF.isEmpty=true:=by
      cases ho:bF.isEmpty with
      |true=>rfl
      |false=>simp[bL,ho] at aQ
     refine⟨_,w1,hval _ _ (aZ _ (by rw[fc];rfl)),_,ρ,σ,h2 ?_,VRel.tuple_of (LRel.cons (.bool _) (LRel.nil _ _)),iZ,fF⟩;refine List.all_eq_true.2 fun kv di=>?_;obtain⟨j,hj⟩:=List.mem_iff_getElem?.1 di;have cB:j<entries.toList.length:=by rw[aH.1];exact(List.getElem?_eq_some_iff.1 hj).1
     have he:=aH.2 j entries.toList[j] kv (List.getElem?_eq_getElem cB) hj;cases tB:seen.contains kv.2.2 with
     |true=>rfl
     |false =>
      simp only[Bool.false_or,decide_eq_true_eq];rcases Nat.lt_or_ge kv.2.2 since with ai|bA
      ·exfalso;have:entries.toList[j]∈bF:=by
        simp only[bF,left,Array.mem_filter,decide_eq_true_eq];refine⟨⟨by rw[←Array.mem_toList_iff];exact List.getElem_mem cB,?_⟩,by rw[he.2.1];exact ai⟩;rw[he.2.1];simpa using tB
       rw[Array.isEmpty_iff] at hold;rw[hold] at this;simp at this
      ·exact bA
    |some e =>
     rw[hx] at fc;have aQ:some e∈bL:=hx▸Array.getElem_mem hk;have gv:e∈left:=by
      have h4:e∈bF++new:=by
       simp only[bL,Array.mem_append,Array.mem_map] at aQ;rcases aQ with aQ|⟨a,ha,oI⟩
       ·split at aQ<;>simp at aQ
       ·simp at oI;subst oI;simpa using ha
      rcases Array.mem_append.1 h4 with h4|h4
      ·exact(Array.mem_filter.1 h4).1
      ·exact(Array.mem_filter.1 h4).1
     obtain⟨hel,mi⟩:=Array.mem_filter.1 gv;rw[←Array.mem_toList_iff] at hel;obtain⟨j,hj⟩:=List.mem_iff_getElem?.1 hel;have cB:j<es.length:=by rw[←aH.1];exact(List.getElem?_eq_some_iff.1 hj).1
     have he:=aH.2 j e es[j] hj (List.getElem?_eq_getElem cB);have jh:=h3 es[j] (List.getElem_mem cB) (by rw[←he.2.1];simpa using mi);obtain⟨k1,k2⟩:=iZ.setObj (o':=.iter m since (seen++[es[j].2.2]) clock) (O':=.mapIter (some q.blk) since (seen.toArray.push e.born) clock) hp hb ⟨q.blk,by rw[he.2.1];simp,oM⟩;have cL:VRel ρ σ.n es[j].1 e.key:=by rw[he.1];exact K4 (List.all_eq_true.1 hall _ (List.getElem_mem cB))
     refine⟨_,_,hval _ _ (aZ _ (by
      rw[fc];simp only[Sem.run_bind,QB tA (fun _ _ _ e=>by cases e),Result.andThen_ok,Sem.run_pure])),_,ρ,_,jh,VRel.tuple_of (LRel.cons (.bool _) (LRel.cons cL (LRel.cons he.2.2 (LRel.nil _ _)))),k1,fF.trans k2⟩
   ·exact h.elim
  ·exact h.elim
 ·exact h.elim
theorem I3 (hS:OkSpecs P S) {f:FuncId}{args:List Value}{σ:Heap}{K:Value→Heap→Prop}(h:vcall S f args σ K):VCalled P f args σ K:=by
 unfold vcall at h;split at h
 ·rename_i s hs;exact hS.fn f s hs _ _ _ h
 ·exact h.elim
theorem A8 (hS:OkSpecs P S) {i:Nat}{args:List Value}{σ:Heap}{K:Value→Heap→Prop}(h:Cb S i args σ K):DH P i args σ K:=by
 unfold Cb at h;split at h
 ·rename_i s hs;exact hS.yl i s hs _ _ _ h
 ·exact h.elim
theorem EV {o:Oper}{vo:VOp}(hc:WU P o.op=vo) {ρ:Plc}{σ:Heap}{w:World}{env:Env}{a:Act}(hH:HRel ρ σ w) (hL:LRel ρ σ.n env a.tmps.toList) {v:Value}{σ':Heap}
  (h:Q8 vo (Q5 env) σ=some (v,σ')):PO P ρ σ w v σ' (execOp a.eval o):=by
 cases hq:vo.quiet with
 |false=>exact Iw hc hq hH (fun x hx=>Xd hL hx) h
 |true =>obtain⟨rfl,c,d_,hr⟩:=ER hc hq hH (fun x hx=>Xd hL hx) h;exact⟨c,w,ρ,.inl (hr w (Like.refl ρ w)),d_,hH,Ext.refl _ _ _⟩
theorem K0 (hS:OkSpecs P S) {ro:Option Nat}{n:Nat}{o:Oper}{vo:VOp}(bK:WU P o.op=vo) {ρ:Plc}{σ:Heap}{w:World}{env:Env}{a:Act}(hH:HRel ρ σ w) (hL:LRel ρ σ.n env a.tmps.toList)
  {K:Value→Heap→Prop}(h:vop S vo env σ K) {next:Act→World→Prop}{Q':Exit→Act→World→Prop}(hn:∀ c w',Got ρ σ w K c w'→next (a.put o.dst c) w'):o.wpIn (FF ro) n P a w next Q':=by
 refine⟨fun f _=>Ao _ _,?_⟩;have cG:vo≠.bad:=by rintro rfl;exact h.elim
 rw[Oper.semAt_eq _ _ _ (Pb bK cG)];by_cases aE:(∃ f bR,vo=.callF f bR)∨(∃ f bR,vo=.callV f bR)
 ·have hc:K1 P o.op=some vo:=by
   rcases VN bK cG with hc|⟨x,_,hx⟩
   ·exact hc
   ·subst hx;rcases aE with⟨f,bR,hh⟩|⟨f,bR,hh⟩<;>cases hh
  rcases O0 (S:=S) hc hL aE h with⟨f,args,az,hv,mN,hr⟩|⟨i,r,args,az,hv,dF,mN,hr⟩
  ·rcases I3 hS hv ρ w az hH mN with⟨h1,h2⟩|⟨c,hg,h2⟩
   ·rw[hr,h1];exact⟨(fun hd=>by rw[Td] at hd;cases hd),(Ci h2).mono fun e w' ⟨c,he,hg⟩=>by subst he;exact hn c w' hg⟩
   ·rw[hr,h2 w (Like.refl ρ w)];exact hn c w hg
  ·obtain⟨p,hp,fn,tmps,fh,body,h1,h2⟩:=A8 hS hv ρ w az hH mN;have tC:r=p.blk:=by
    cases dF with
    |yield _ _ _ hh=>exact hh p hp
   rw[hr,tC,h1];exact⟨(fun hd=>by rw[Td] at hd;cases hd),(SQ h2).mono fun e w' ⟨c,he,hg⟩=>by subst he;exact hn c w' hg⟩
 ·by_cases eu:∃ x,vo=.ext (.nextMap x)
  ·obtain⟨x,rfl⟩:=eu;have hc:H9 P o.op=some (.nextMap x):=by
    rcases VN bK cG with hc|⟨y,hy,hx⟩
    ·have:=Ak hc;exact this.elim
    ·cases hx;exact hy
   obtain⟨c,w',hr,hg⟩:=Ag hc hH (fun x hx=>Xd hL hx) h;rw[hr];exact hn c w' hg
  ·have lg:∃ v σ',Q8 vo (Q5 env) σ=some (v,σ')∧K v σ':=by
    unfold vop at h;split at h
    ·exact absurd (.inl ⟨_,_,rfl⟩) aE
    ·exact absurd (.inr ⟨_,_,rfl⟩) aE
    ·exact absurd ⟨_,rfl⟩ eu
    ·cases dG:Q8 vo (Q5 env) σ with
     |none=>rw[dG] at h;exact h.elim
     |some p=>rw[dG] at h;exact⟨p.1,p.2,rfl,h⟩
   obtain⟨v,σ',dG,hK⟩:=lg;obtain⟨c,w',ρ',aZ,d_,gw,hE⟩:=EV bK hH hL dG;have hg:Got ρ σ w K c w':=⟨v,ρ',σ',hK,d_,gw,hE⟩;rcases aZ with aZ|⟨aZ,rfl⟩
   ·rw[aZ];exact hn c w' hg
   ·rw[aZ];exact hn undef w' hg
def Mks (B:Nat) (ds:List Deferred) (w:World):Prop:=B≤w.heap.size∧∃ Ds:List Nat,ds=Ds.map (fun D=>⟨.collected D,#[]⟩)∧Ds.Nodup∧∀ D∈Ds,B≤D∧w.heap[D]?=some (.deferred (some []))
theorem Mks.nil {w:World}(h:B≤w.heap.size):Mks B [] w:=⟨h,[],rfl,List.nodup_nil,fun _ h=>by cases h⟩
theorem Mks.ext {ds:List Deferred}{ρ ρ':Plc}{σ σ':Heap}{w w':World}(h:Mks B ds w) (hH:HRel ρ σ w) (hE:Ext ρ σ w ρ' σ' w'):Mks B ds w':=by
 obtain⟨h0,Ds,h1,h2,h3⟩:=h;refine⟨Nat.le_trans h0 hE.size,Ds,h1,h2,fun D hD=>⟨(h3 D hD).1,?_⟩⟩;have hb:=(h3 D hD).2;have ai:D<w.heap.size:=by
  rcases Nat.lt_or_ge D w.heap.size with h'|h'
  ·exact h'
  ·rw[Array.getElem?_eq_none h'] at hb;cases hb
 rw[hE.keep D ai (fun ⟨i,p,b,hp,_,_,pQ⟩=>hH.not_deferred hb i p hp pQ)];exact hb
def GP (B m:Nat) (ρ:Plc) (σ:Heap) (w:World) (K:Env→Heap→Prop) (a':Act) (w':World):Prop :=
 ∃ ah ρ' σ',K ah σ'∧List.length ah=m∧HRel ρ' σ' w'∧LRel ρ' σ'.n ah a'.tmps.toList∧Mks B a'.defers w'∧Ext ρ σ w ρ' σ' w'
theorem Ad (hS:OkSpecs P S) {ro:Option Nat}{n:Nat}(ops:Array Oper) (Q:Exit→Act→World→Prop):∀ (l:List Oper) (lv:List VOper),l.mapM (Zn P ops)=some lv →
  ∀ (env:Env) (σ:Heap) (K:Env→Heap→Prop) (ρ:Plc) (w:World) (a:Act),H6 S lv env σ K→HRel ρ σ w→LRel ρ σ.n env a.tmps.toList→Mks B a.defers w →
  (∀ a' w',GP B (List.length env) ρ σ w K a' w'→Q .normal a' w')→wpListIn (FF ro) n P ops Q l a w:=by
 intro l;induction l with
 |nil =>intro lv bT env σ K ρ w a h hH hL hd hQ;simp at bT;subst bT;exact hQ a w ⟨env,ρ,σ,h,rfl,hH,hL,hd,Ext.refl _ _ _⟩
 |cons o l ih =>
  intro lv bT env σ K ρ w a h hH hL hd hQ;rw[List.mapM_cons] at bT;cases bj:Zn P ops o with
  |none=>simp[bj] at bT
  |some vo =>
   cases jU:l.mapM (Zn P ops) with
   |none=>simp[bj,jU] at bT
   |some rF =>
    simp[bj,jU] at bT;subst bT;simp only[H6] at h;cases hw:Zl env vo.guard with
    |none=>rw[hw] at h;exact h.elim
    |some b =>
     rw[hw] at h;obtain⟨dk,bG,bK⟩:=NC bj hL hw;obtain⟨ht,hf⟩:=h;simp only[wpListIn];rw[dk];cases b with
     |false =>rw[if_neg (by simp)];exact⟨fun f _=>Ao _ _,ih rF jU (Js env vo.dst undef) σ K ρ w _ (hf rfl) hH (by rw[bG];exact WK hL ZV o.dst) (by rw[Jm];exact hd) (fun a' w' hn=>hQ a' w' (by rw[Z2] at hn;exact hn))⟩
     |true =>
      rw[if_pos rfl];refine K0 hS bK hH hL (ht rfl) fun c w' ⟨v,ρ',σ',hK,d_,gw,hE⟩=>?_
      exact ih rF jU (Js env vo.dst v) σ' K ρ' w' _ hK gw (by rw[bG];exact WK (hE.lrel hL) d_ o.dst) (by rw[Jm];exact hd.ext hH hE)
       (fun a' oC ⟨mY,eJ,aL,k1,k0,k2,k3,k4,k5⟩=>hQ a' oC ⟨mY,eJ,aL,k1,by rw[k0,Z2],k2,k3,k4,hE.trans k5⟩)
theorem Pe:∀ (l:List Nat) (vs:List Value) (env:Env),(JJ l vs env).length=env.length:=by
 intro l;induction l with
 |nil=>intro vs env;cases vs<;>rfl
 |cons i l ih =>
  intro vs env;cases vs with
  |nil=>rfl
  |cons v vs=>simp only[JJ];rw[ih];simp
theorem AM {ρ:Plc}{n:Nat}:∀ (l:List Nat) (env base:Env) (cs:List Value),LRel ρ n env cs→LRel ρ n base cs→LRel ρ n (JJ l (GH l env) base) cs:=by
 intro l;induction l with
 |nil=>intro env base cs _ hb;exact hb
 |cons i l ih =>
  intro env base cs he hb;simp only[GH,List.map_cons,JJ];refine ih env _ cs he ?_;refine⟨by simp[hb.1],fun j v c hv hc=>?_⟩;by_cases cm:i=j
  ·subst cm;rcases Nat.lt_or_ge i (List.length base) with ai|bA
   ·rw[List.getElem?_set_self ai] at hv;obtain rfl:=osj hv;have bZ:i<List.length env:=by rw[he.1,←hb.1];exact ai
    have:env.getD i poison=env[i]:=by simp[List.getD,bZ]
    rw[this];exact he.2 i _ c (List.getElem?_eq_getElem bZ) hc
   ·rw[List.getElem?_eq_none (by simp;exact bA)] at hv;cases hv
  ·rw[List.getElem?_set_ne cm] at hv;exact hb.2 j v c hv hc
theorem A0 {ρ:Plc}{n:Nat}(cs:List Value) {m:Nat}(h:m=cs.length):LRel ρ n (List.replicate m poison) cs :=
 ⟨by simp[h],fun i v c hv _=>by
  have:=List.mem_of_getElem? hv;rw[List.mem_replicate] at this;rw[this.2];exact .poison c⟩
def RoRel (cZ ro:Option Nat) (ρ:Plc) (n:Nat):Prop:=(cZ=none∧ro=none)∨∃ i l,cZ=some i∧ro=some l∧i<n∧∀ p,ρ i=some p→p.blk=l
theorem RoRel.ext {cZ ro:Option Nat}{ρ ρ':Plc}{σ σ':Heap}{w w':World}(h:RoRel cZ ro ρ σ.n) (hE:Ext ρ σ w ρ' σ' w'):RoRel cZ ro ρ' σ'.n:=by
 rcases h with h|⟨i,l,h1,h2,h3,h4⟩
 ·exact .inl h
 ·exact .inr ⟨i,l,h1,h2,Nat.lt_of_lt_of_le h3 hE.n,fun p hp=>h4 p (hE.pl i h3 p hp)⟩
def Sound (P:Program) (S:VSpecs) (c:Code) (vc:VCode):Prop :=
 ∀ ⦃B:Nat⦄ (cZ ro:Option Nat) (n:Nat) (Q:Exit→Env→Heap→Prop) (env:Env) (σ:Heap) (ρ:Plc) (w:World) (a:Act),vwp S vc cZ Q env σ→HRel ρ σ w→LRel ρ σ.n env a.tmps.toList→Mks B a.defers w→RoRel cZ ro ρ σ.n →
  ∀ (Q':Exit→Act→World→Prop),(∀ e a' w',GP B (List.length env) ρ σ w (Q e) a' w'→Q' e a' w')→c.wpIn (FF ro) n P Q' a w
theorem EH {ρ:Plc}{n:Nat}:∀ (ps:List Nat) (vs cs:List Value) (env:Env) (tmps:Array Value),LRel ρ n env tmps.toList→LRel ρ n vs cs →
  LRel ρ n (Da env ps vs) ((ps.zip cs).foldl (fun (tmps:Array Value) (q:Nat×Value)=>tmps.setIfInBounds q.1 q.2) tmps).toList:=by
 intro ps;induction ps with
 |nil=>intro vs cs env tmps h _;cases vs<;>exact h
 |cons p ps ih =>
  intro vs cs env tmps h hv;cases vs with
  |nil =>
   cases cs with
   |nil=>exact h
   |cons _ _=>have:=hv.1;simp at this
  |cons v vs =>
   cases cs with
   |nil=>have:=hv.1;simp at this
   |cons c cs =>simp only[Da,List.zip_cons_cons,List.foldl_cons];refine ih vs cs _ _ ?_ ⟨by have:=hv.1;simpa using this,fun i a b ha hb=>hv.2 (i+1) a b (by simpa using ha) (by simpa using hb)⟩;rw[Array.toList_setIfInBounds];exact h.set p (hv.2 0 v c rfl rfl)
theorem JN {w:World}{l:Nat}{r:Loop}(h:w.heap[l]?=some (.loop r)):(Instr.getLoop l).run P w=.ok r w:=by simp[Instr.getLoop,Qp h (fun _ _ _ e=>by cases e)]
theorem U7 {ρ:Plc}{σ:Heap}{w:World}(hH:HRel ρ σ w) {i:Nat}{env:Env}{r:Loop}{st:LoopState}{pend:Option Code}{wr:Bool}(h:σ.get i=some (.obj (.lp env r st pend) wr)) :
  ∃ p,ρ i=some p∧w.heap[p.blk]?=some (.loop {r with state:=st,pending:=pend})∧LRel ρ σ.n env r.tmps.toList:=by
 obtain⟨p,hp,_,O,h1,rfl,h2⟩:=hH.live i _ h;exact⟨p,hp,h1,h2⟩
theorem Ry {ρ:Plc}{σ:Heap}{w:World}(hH:HRel ρ σ w) {i:Nat}{env:Env}{r:Loop}{st:LoopState}{pend:Option Code}{p:Pl}(hp:ρ i=some p) (h:σ.get i=some (.obj (.lp env r st pend) true)) (mj:LoopState) (bV:Option Code) :
  HRel ρ (σ.upd i (.obj (.lp env r mj bV) true)) (Dy w p.blk (.loop {r with state:=mj,pending:=bV})) ∧
  Ext ρ σ w ρ (σ.upd i (.obj (.lp env r mj bV) true)) (Dy w p.blk (.loop {r with state:=mj,pending:=bV})):=by
 obtain⟨p',bE,h1,h2⟩:=U7 hH h;exact hH.setObj hp h ⟨rfl,h2⟩
theorem Sz {fh body:Code}{va vb:VCode}(ha:Sound P S fh va) (hb:Sound P S body vb) (ps:List Nat) (env:Env) (r:Loop) (dO:r.assign=fh) (cO:r.body=body) (gR:r.params.toList=ps) (i:Nat) :
  YR P i (L5 (vwp S va (some i)) (vwp S vb (some i)) ps env r i):=by
 intro args σ K h ρ w az hH hL;obtain⟨h1,h2,h3⟩:=h;obtain⟨p,hp,aG,lh⟩:=U7 hH h1;refine⟨p,hp,r.fn,(r.params.zip az).foldl (fun tmps (t,a)=>tmps.setIfInBounds t a) r.tmps,r.assign,r.body,?_,?_⟩
 ·have aJ:az.size=r.params.size:=by
   have h4:=hL.1;have:r.params.size=ps.length:=by rw[←gR];simp
   simp at h4;omega
  simp[Instr.yield,JN aG,aJ]
 ·refine roundIn_of_wpIn (F:=Fence.wide) trivial ?_;rw[dO,cO];refine ha (some i) (some p.blk) 0 _ _ σ ρ w _ h3 hH ?_ (Mks.nil (Nat.le_refl _)) (.inr ⟨i,p.blk,rfl,rfl,σ.lt h1,fun q hq=>by rw[hp] at hq;obtain rfl:=osj hq;rfl⟩) _ ?_
  ·have:=EH ps args az.toList env r.tmps lh hL;rw[←gR,←Array.toList_zip,Array.foldl_toList] at this;rw[gR] at this;exact this
  ·intro e a1 w1 ⟨bu,ρ1,σ1,k1,k0,k2,k3,k4,k5⟩;cases e with
   |normal =>
    obtain⟨k6,k7⟩:=k1;obtain⟨p1,ig,jY,rG⟩:=U7 k2 k6;have mc:p1=p:=by have:=k5.pl i (σ.lt h1) p1 ig;rw[hp] at this;exact(osj this).symm
    subst mc;obtain⟨j1,j2⟩:=Ry k2 ig k6 .busy none;refine⟨_,by simp[Instr.beginRound,JN jY,QB jY (fun _ _ _ e=>by cases e)];rfl,?_⟩;refine hb (some i) (some p1.blk) 0 _ _ _ ρ1 _ a1 k7 j1 k3 (k4.ext k2 j2) (.inr ⟨i,p1.blk,rfl,rfl,σ1.lt k6,fun q hq=>by rw[ig] at hq;obtain rfl:=osj hq;rfl⟩) _ ?_;intro e2 a2 w2 ⟨aU,ρ2,σ2,m1,m0,m2,m3,m4,m5⟩;obtain⟨m6,m7⟩:=m1;obtain⟨p2,fe,eA,rH⟩:=U7 m2 m6;have mc:p2=p1:=by have h8:=m5.pl i (by rw[Heap.upd_n];exact σ1.lt k6) p2 fe;rw[ig] at h8;exact(osj h8).symm
    subst mc;cases e2 with
    |normal =>obtain⟨q1,q2⟩:=Ry m2 fe m6 .ready none;refine⟨.bool true,_,?_,_,rfl,.bool true,ρ2,_,m7,.bool _,q1,k5.trans (j2.trans (m5.trans q2))⟩;simp[Instr.endRound,JN eA,QB eA (fun _ _ _ e=>by cases e)]
    |ret =>obtain⟨q1,q2⟩:=Ry m2 fe m6 .done (some .ret);refine⟨.bool false,_,?_,_,rfl,.bool false,ρ2,_,m7,.bool _,q1,k5.trans (j2.trans (m5.trans q2))⟩;simp[Instr.endRound,JN eA,QB eA (fun _ _ _ e=>by cases e)]
    |exit id =>obtain⟨q1,q2⟩:=Ry m2 fe m6 .done (some (.exit id));refine⟨.bool false,_,?_,_,rfl,.bool false,ρ2,_,m7,.bool _,q1,k5.trans (j2.trans (m5.trans q2))⟩;simp[Instr.endRound,JN eA,QB eA (fun _ _ _ e=>by cases e)]
    |goto l=>exact m7.elim
    |panic ch=>exact m7.elim
    |outgrown=>exact m7.elim
   |exit id=>exact k1.elim
   |goto l=>exact k1.elim
   |ret=>exact k1.elim
   |panic ch=>exact k1.elim
   |outgrown=>exact k1.elim
theorem Heap.ext' {σ σ':Heap}(h:∀ j,σ.get j=σ'.get j) (hn:σ.n=σ'.n):σ=σ':=by obtain⟨g,n,wf⟩:=σ;obtain⟨g',n',vQ⟩:=σ';have hg:g=g':=funext h;have ml:n=n':=hn;subst hg;subst ml;rfl
theorem Mks.push {ds:List Deferred}{w:World}(h:Mks B ds w):Mks B ({target:=.collected w.heap.size,args:=#[]}::ds) (w.alloc (.deferred (some []))):=by
 obtain⟨h0,Ds,h1,h2,h3⟩:=h;have ai:∀ D∈Ds,D<w.heap.size:=fun D hD=>by
  rcases Nat.lt_or_ge D w.heap.size with h'|h'
  ·exact h'
  ·have:=(h3 D hD).2;rw[Array.getElem?_eq_none h'] at this;cases this
 refine⟨by rw[World.size_alloc];omega,w.heap.size::Ds,by rw[h1];rfl,List.nodup_cons.2 ⟨fun hh=>Nat.lt_irrefl _ (ai _ hh),h2⟩,fun D hD=>?_⟩;rcases List.mem_cons.1 hD with rfl|hD
 ·refine⟨h0,?_⟩;show (w.heap.push _)[w.heap.size]?=_;simp
 ·refine⟨(h3 D hD).1,?_⟩;show (w.heap.push _)[D]?=_;rw[Array.getElem?_push,if_neg (by have:=ai D hD;omega)];exact(h3 D hD).2
theorem Ext.alloc_other {ρ:Plc}{σ:Heap}(w:World) (O:Obj):Ext ρ σ w ρ σ (w.alloc O) :=
 ⟨rfl,rfl,rfl,by have:=World.size_alloc w O;omega,fun B hB _=>by show (w.heap.push _)[B]?=_;rw[Array.getElem?_push,if_neg (by omega)],fun _ _ h=>h,Nat.le_refl _,fun _ _ _ h=>h⟩
theorem HRel.alloc_other {ρ:Plc}{σ:Heap}{w:World}(h:HRel ρ σ w) (O:Obj):HRel ρ σ (w.alloc O) :=
 h.world (by have:=World.size_alloc w O;omega) (fun i p hp=>by show (w.heap.push _)[p.blk]?=_;rw[Array.getElem?_push,if_neg (by have:=h.lt i p hp;omega)]) fun g cs hg=>by show (w.heap.push _)[g]?=_;rw[Array.getElem?_push,if_neg (by have:=h.tab.lt hg;omega)]
theorem Sv {cZ ro:Option Nat}{ρ:Plc}{σ:Heap}{w:World}{a:Act}{env:Env}(hH:HRel ρ σ w) (hL:LRel ρ σ.n env a.tmps.toList) (hd:Mks B a.defers w) (hR:RoRel cZ ro ρ σ.n) (aP:Q8y σ cZ) (fn:FuncId) (ps:Array Nat) (fh body:Code) :
  ∃ (r:Loop) (mark:List Deferred) (w1:World) (ρ1:Plc),(Instr.enterLoop fn a.tmps ps fh body ro).run P w=.ok (w1.heap.size-1,mark) w1∧r.assign=fh∧r.body=body∧r.params=ps ∧
   HRel ρ1 (σ.push (.obj (.lp env r .ready none) true)) w1∧Ext ρ σ w ρ1 (σ.push (.obj (.lp env r .ready none) true)) w1∧Mks B (mark++a.defers) w1 ∧
   (∀ p,ρ1 σ.n=some p→p.blk=w1.heap.size-1):=by
 rcases hR with⟨rfl,rfl⟩|⟨i,l,rfl,rfl,hi,ij⟩
 ·let w0:=w.alloc (.deferred (some []));have fT:HRel ρ σ w0:=hH.alloc_other _;have pS:Ext ρ σ w ρ σ w0:=Ext.alloc_other _ _;let r:Loop:={state:=.ready,pending:=none,fn,tmps:=a.tmps,params:=ps,assign:=fh,body:=body,defers:=w.heap.size};obtain⟨ρ1,h1,h2,h3⟩:=fT.newObj (.lp env r .ready none) (.loop r) ⟨rfl,hL⟩;have aJ:(w0.alloc (.loop r)).heap.size-1=w0.heap.size:=by have:=World.size_alloc w0 (.loop r);omega
  refine⟨r,[{target:=.collected w.heap.size,args:=#[]}],w0.alloc (.loop r),ρ1,?_,rfl,rfl,rfl,h2,pS.trans h3,?_,fun p hp=>?_⟩
  ·rw[aJ];simp[Instr.enterLoop];exact⟨(World.size_alloc w _).symm,rfl⟩
  ·exact(hd.push).ext fT h3
  ·rw[h1] at hp;obtain rfl:=osj hp;rw[aJ]
 ·obtain⟨tD,r0,st,pend,hb⟩:=aP;obtain⟨p,hp,aG,_⟩:=U7 hH hb;have aO:=ij p hp;subst aO;let r:Loop:={state:=.ready,pending:=none,fn,tmps:=a.tmps,params:=ps,assign:=fh,body:=body,defers:=r0.defers};obtain⟨ρ1,h1,h2,h3⟩:=hH.newObj (.lp env r .ready none) (.loop r) ⟨rfl,hL⟩;have aJ:(w.alloc (.loop r)).heap.size-1=w.heap.size:=by have:=World.size_alloc w (.loop r);omega
  refine⟨r,[],w.alloc (.loop r),ρ1,?_,rfl,rfl,rfl,h2,h3,?_,fun p hp=>?_⟩
  ·rw[aJ];simp[Instr.enterLoop,JN aG];rfl
  ·exact hd.ext hH h3
  ·rw[h1] at hp;obtain rfl:=osj hp;rw[aJ]
theorem S0 (hS:OkSpecs P S) {fh body:Code}{va vb:VCode}(ha:Sound P S fh va) (hb:Sound P S body vb) (g:Operand) (hg:Jn g=true) (ps:Array Nat):Sound P S (.rangeFunc g ps fh body) (.rangeF g ps.toList va vb):=by
 intro B cZ ro n Q env σ ρ w a h hH hL hd hR Q' hQ;simp only[vwp,Rm] at h;have gJ:=Xd hL hg;split at h
 ·rename_i f first cap bA
  rw[bA] at gJ;split at h
  ·rename_i T hT;obtain⟨aP,h⟩:=h;refine wpIn_rangeFunc fun fn _=>?_;obtain⟨r,mark,w1,ρ1,he,dO,cO,gR,iZ,fF,pT,dz⟩:=Sv (P:=P) hH hL hd hR aP fn ps fh body;obtain⟨il,mZ⟩:=hS.it f T hT;obtain⟨gs,ds,oP,kP,jO⟩:∃ gs ds,a.eval g=.func (.func f) gs ds∧LRel ρ σ.n first.toList gs.toList∧LRel ρ σ.n cap.toList ds.toList:=by
    cases oP:a.eval g with
    |func vR gs ds =>
     rw[oP] at gJ;cases gJ with
     |func _ _ _ _ _ k1 k2 k3 k4=>exact⟨gs,ds,rfl,LRel.of_array k1 k3,LRel.of_array k2 k4⟩
    |_=>rw[oP] at gJ;cases gJ
   have hY:YR P σ.n (L5 (vwp S va (some σ.n)) (vwp S vb (some σ.n)) ps.toList env r σ.n):=Sz ha hb ps.toList env r dO cO (by rw[gR]) σ.n;have lj:=mZ σ.n _ hY _ _ _ (h r) ρ1 w1 (gs++#[.func (.yield (w1.heap.size-1)) #[] #[]]++ds) iZ (by
    have k1:=fF.lrel kP;have k2:=fF.lrel jO;have k3:LRel ρ1 (σ.push (.obj (.lp env r .ready none) true)).n [.func (.yield σ.n) #[] #[]] [.func (.yield (w1.heap.size-1)) #[] #[]] :=
     LRel.cons (.yield _ _ (by simp) (fun p hp=>(dz p hp).symm)) (LRel.nil _ _)
    have:=(k1.append k3).append k2;simpa using this)
   refine⟨w1.heap.size-1,mark,w1,{target:=.fn (.func f) ds,args:=gs++#[.func (.yield (w1.heap.size-1)) #[] #[]]},w1,f,gs++#[.func (.yield (w1.heap.size-1)) #[] #[]]++ds,w1,?_,?_,fun _ _=>Ao _ _,?_,(fun hh=>by rw[Td] at hh;cases hh),?_⟩
   ·rw[IL];exact he
   ·simp[resolve,oP,Deferred.ofValue];rfl
   ·simp only[invoke];exact VC il _ _
   ·refine (Ci lj).mono fun e w3 ⟨c,tE,v,ρ3,σ3,k1,k2,k3,k4⟩=>?_;subst tE;unfold II at k1;split at k1
    ·rename_i ah r' st pend mK;obtain⟨bI,k1⟩:=k1;obtain⟨p3,rI,iq,rJ⟩:=U7 k3 mK;have aO:p3.blk=w1.heap.size-1:=dz p3 (k4.pl σ.n (by simp) p3 rI);obtain⟨q1,q2⟩:=Ry k3 rI mK .exhausted pend;rw[aO] at iq q1 q2;obtain⟨q3,q4⟩:=q1.kill σ.n;have fH:(σ3.upd σ.n (.obj (.lp ah r' .exhausted pend) true)).kill σ.n=σ3.kill σ.n:=by
      apply Heap.ext'
      ·intro j;by_cases hj:j=σ.n
       ·subst hj;rw[Heap.get_kill_self,Heap.get_kill_self]
       ·rw[Heap.get_kill_ne _ hj,Heap.get_kill_ne _ hj,Heap.get_upd_ne _ _ hj]
      ·rfl
     rw[fH] at q3 q4;have jZ:=fF.trans (k4.trans (q2.trans q4));have dV:=pT.ext iZ (k4.trans (q2.trans q4));refine⟨pend,_,by simp[Instr.endLoop,JN iq,QB iq (fun _ _ _ e=>by cases e),bI];rfl,?_⟩;have eu:∀ K:Env→Heap→Prop,K env (σ3.kill σ.n)→GP B (List.length env) ρ σ w K {a with defers:=mark++a.defers} (Dy w3 (w1.heap.size-1) (.loop {r' with state:=.exhausted,pending:=pend})):=fun K hK =>
      ⟨env,_,_,hK,rfl,q3,jZ.lrel hL,dV,jZ⟩
     cases pend with
     |none=>exact hQ _ _ _ (eu _ k1)
     |some c =>
      cases c with
      |ret=>exact wpIn_ret (hQ _ _ _ (eu _ k1))
      |exit id=>exact wpIn_exit (hQ _ _ _ (eu _ k1))
      |_=>exact k1.elim
    ·exact k1.elim
  ·exact h.elim
 ·exact h.elim
end
end Go.V
namespace Go.V
open Go
theorem Wa {ev fI:Operand→Value}(x:Option Operand) (d:Nat) (h:∀ y∈x.toList,ev y=fI y):ZH ev x d=ZH fI x d:=by
 cases x with
 |none=>rfl
 |some y=>simp only[ZH];rw[h y (by simp)]
theorem CY {o:XOp}{ev fI:Operand→Value}{σ:Heap}(h:∀ x∈o.opds,ev x=fI x):Z0 o ev σ=Z0 o fI σ:=by cases o<;>simp only[XOp.opds,List.mem_cons,List.not_mem_nil,or_false,forall_eq_or_imp,forall_eq] at h<;>simp only[Z0]<;>(try simp only[h])
theorem Ms {o:VOp}{ev fI:Operand→Value}{σ:Heap}(h:∀ x∈o.opds,ev x=fI x):Q8 o ev σ=Q8 o fI σ:=by
 cases o
 case build z ps =>
  have:(ps.map fun p=>(p.1,p.2.1,ev p.2.2))=ps.map fun p=>(p.1,p.2.1,fI p.2.2):=List.map_congr_left fun p hp=>by rw[h p.2.2 (List.mem_map.2 ⟨p,hp,rfl⟩)]
  simp only[Q8,this]
 case buildSlice e z n ps =>
  have:(ps.map fun p=>(p.1*e.sz,e.sz,ev p.2))=ps.map fun p=>(p.1*e.sz,e.sz,fI p.2):=List.map_congr_left fun p hp=>by rw[h p.2 (List.mem_map.2 ⟨p,hp,rfl⟩)]
  simp only[Q8,this]
 case makeFunc fn a b =>
  have h1:a.map ev=a.map fI:=List.map_congr_left fun x hx=>h x (List.mem_append_left _ hx);have h2:b.map ev=b.map fI:=List.map_congr_left fun x hx=>h x (List.mem_append_right _ hx);simp only[Q8,h1,h2]
 case slice size x lo hi mx =>
  have h1:=Wa lo 0 (fun y hy=>h y (by simp[VOp.opds] at *;exact .inr (.inl hy)));have h2:∀ n,ZH ev hi n=ZH fI hi n:=fun n=>Wa hi n (fun y hy=>h y (by simp[VOp.opds] at *;exact .inr (.inr (.inl hy))));have h3:=Wa mx 0 (fun y hy=>h y (by simp[VOp.opds] at *;exact .inr (.inr (.inr hy))));have h4:=h x (by simp[VOp.opds]);simp only[Q8,h4];cases fI x<;>simp only[h1,h2,h3]
 case sliceStr x lo hi =>
  have h1:=Wa lo 0 (fun y hy=>h y (by simp[VOp.opds] at *;exact .inr (.inl hy)));have h2:∀ n,ZH ev hi n=ZH fI hi n:=fun n=>Wa hi n (fun y hy=>h y (by simp[VOp.opds] at *;exact .inr (.inr hy)));have h4:=h x (by simp[VOp.opds]);simp only[Q8,h4];cases fI x<;>simp only[h1,h2]
 case ext o=>exact CY h
 all_goals
  simp only[VOp.opds,List.mem_cons,List.not_mem_nil,or_false,forall_eq_or_imp,forall_eq] at h;simp only[Q8];try simp only[h]
theorem RM {S:VSpecs}{o:VOp}{env ah:Env}{σ:Heap}{K:Value→Heap→Prop}(h:∀ x∈o.opds,Q5 env x=Q5 ah x):vop S o env σ K=vop S o ah σ K:=by
 cases o
 case callF f bR =>
  have:bR.map (Q5 env)=bR.map (Q5 ah):=List.map_congr_left h;simp only[vop,this]
 case callV f bR =>
  have h1:Q5 env f=Q5 ah f:=h f (by simp[VOp.opds]);have h2:bR.map (Q5 env)=bR.map (Q5 ah):=List.map_congr_left fun x hx=>h x (by simp[VOp.opds,hx]);simp only[vop,h1,h2]
 case ext o =>
  by_cases hx:∃ x,o=.nextMap x
  ·obtain⟨x,rfl⟩:=hx;have h1:Q5 env x=Q5 ah x:=h x (by simp[VOp.opds,XOp.opds]);simp only[vop,h1]
  ·have e1:=Ms (σ:=σ) h;cases o<;>first|exact absurd ⟨_,rfl⟩ hx|(simp only[vop];rw[e1])
 all_goals
  have e1:=Ms (σ:=σ) h;simp only[vop];rw[e1]
theorem Heap.Le.refl (σ:Heap):σ.Le σ:=⟨Nat.le_refl _,fun _ _ h=>h⟩
theorem Heap.Le.trans {σ σ' aL:Heap}(h:σ.Le σ') (k:σ'.Le aL):σ.Le aL:=⟨Nat.le_trans h.1 k.1,fun i b hb=>k.2 i b (h.2 i b hb)⟩
theorem Q8b {σ σ':Heap}(h:σ.Le σ') {esz:Nat}{v:Value}{xs:List Value}(hx:σ.sl esz v=some xs):σ'.sl esz v=some xs:=by
 unfold Heap.sl at hx ⊢;split at hx
 ·exact hx
 ·rename_i i o n c;split at hx
  ·rename_i cs e wr t hb;simp only[h.2 i _ hb];exact hx
  ·cases hx
 ·cases hx
theorem Px {σ σ':Heap}(h:σ.Le σ') {m:Nat}{x:List Jk×Nat×Bool}(hx:σ.mapAt m=some x):σ'.mapAt m=some x:=by
 unfold Heap.mapAt at hx ⊢;split at hx
 ·rename_i es clock wr hb;simp only[h.2 m _ hb];exact hx
 ·cases hx
theorem CA {σ σ':Heap}(h:σ.Le σ') {kd:Nat}{a b:Value}{r:Bool}(hx:Zw kd a b σ=some r):Zw kd a b σ'=some r:=by
 unfold Zw at hx ⊢
 split at hx<;>first
  |exact hx
  |(cases hx;done)
  |skip
 rename_i i o j q;split at hx
 ·rename_i hc;obtain⟨h1,h2,h3⟩:=hc;obtain⟨b,hb⟩:=Option.isSome_iff_exists.1 h3;rw[if_pos ⟨h1,h2,by rw[h.2 _ _ hb];rfl⟩];exact hx
 ·cases hx
theorem R9 {neg:Bool}{s:List MK}{x y:Operand}{ev:Operand→Value}{σ σ' σ1:Heap}{v:Value}(h:Z0 (.eqAgg neg s x y) ev σ=some (v,σ1)):Z0 (.eqAgg neg s x y) ev σ'=some (v,σ'):=by
 simp only[Z0] at h ⊢;split at h
 ·split at h
  ·rename_i hc;rw[if_pos hc];simp at h;obtain⟨rfl,_⟩:=h;rfl
  ·cases h
 ·cases h
theorem Ec {o:XOp}{ev:Operand→Value}{σ σ' σ1:Heap}{v:Value}(hk:(VOp.ext o).kind≠2) (h:Z0 o ev σ=some (v,σ1)) (hl:σ.Le σ'):Z0 o ev σ'=some (v,σ'):=by
 cases o<;>simp only[VOp.kind,VOp.quiet,XOp.quiet] at hk<;>try (exact absurd rfl hk)
 case eqAgg neg s x y=>exact R9 h
 case eqNil kd neg x y =>
  simp only[Z0] at h ⊢;split at h
  ·rename_i r hr;rw[CA hl hr];simp at h;obtain⟨rfl,_⟩:=h;rfl
  ·cases h
 case lookup mk z ok x i =>
  simp only[Z0] at h ⊢;split at h
  ·rename_i bS;rw[if_pos bS];split at h
   ·simp at h;obtain⟨rfl,_⟩:=h;rfl
   ·rename_i m vS;split at h
    ·rename_i es clock wr hm;simp only[Px hl hm];split at h
     ·rename_i hall;rw[if_pos hall];split at h<;>(rename_i hf;simp at h;obtain⟨rfl,_⟩:=h;rfl)
     ·cases h
    ·cases h
   ·cases h
  ·cases h
 case lenMap x =>
  simp only[Z0] at h ⊢;split at h
  ·simp at h;obtain⟨rfl,_⟩:=h;rfl
  ·split at h
   ·rename_i es clock wr hm;simp only[Px hl hm];simp at h;obtain⟨rfl,_⟩:=h;rfl
   ·cases h
  ·cases h
 case entry x =>
  simp only[Z0] at h ⊢;split at h
  ·rename_i i hx;split at h
   ·rename_i m since seen last wr hb;simp only[hl.2 i _ hb];split at h
    ·rename_i es clock kY b hm dD;simp only[Px hl hm,dD];split at h
     ·rename_i cf;rw[if_pos cf];split at h
      ·rename_i e hf;split at h
       ·rename_i hp;rw[if_pos hp];simp at h;obtain⟨rfl,_⟩:=h;rfl
       ·cases h
      ·cases h
     ·cases h
    ·cases h
   ·cases h
  ·cases h
 case toUnsafe x =>
  simp only[Z0] at h ⊢;split at h
  ·simp at h;obtain⟨rfl,_⟩:=h;rfl
  ·rename_i i o hx;split at h
   ·rename_i c e wr t hb;simp only[hl.2 i _ hb];split at h
    ·rename_i hc;rw[if_pos hc];simp at h;obtain⟨rfl,_⟩:=h;rfl
    ·cases h
   ·cases h
  ·cases h
 case fromUnsafe u sz x =>
  simp only[Z0] at h ⊢;split at h
  ·simp at h;obtain⟨rfl,_⟩:=h;rfl
  ·rename_i i o hx;split at h
   ·rename_i c e hb;simp only[hl.2 i _ hb];split at h
    ·rename_i hc;rw[if_pos hc];simp at h;obtain⟨rfl,_⟩:=h;rfl
    ·cases h
   ·cases h
  ·cases h
 case sliceData x =>
  simp only[Z0] at h ⊢;split at h
  ·simp at h;obtain⟨rfl,_⟩:=h;rfl
  ·rename_i i o n cap hx;split at h
   ·rename_i hc;obtain⟨h1,h2⟩:=hc;obtain⟨b,hb⟩:=Option.isSome_iff_exists.1 h2;rw[if_pos ⟨h1,by rw[hl.2 _ _ hb];rfl⟩];simp at h;obtain⟨rfl,_⟩:=h;rfl
   ·cases h
  ·cases h
 case bytesStr x =>
  simp only[Z0] at h ⊢;split at h
  ·rename_i a n c hx;split at h
   ·rename_i xs bh;simp only[Q8b hl bh];split at h
    ·rename_i s hs;simp at h;obtain⟨rfl,_⟩:=h;rfl
    ·cases h
   ·cases h
  ·cases h
theorem Dm {o:VOp}{ev:Operand → Value}{σ σ' σ1:Heap}{v:Value}(hk:o.kind = 0) (h:Q8 o ev σ = some (v, σ1)):Q8 o ev σ' = some (v, σ'):=by
  cases o
  case ext o =>
    cases o <;> first | (simp [VOp.kind, VOp.quiet, XOp.quiet] at hk; done) | skip
    case eqAgg neg s x y => exact R9 h
  case slice size x lo hi mx => cases mx <;> simp [VOp.kind, VOp.quiet] at hk
  case build z ps =>
    simp only [Q8] at h ⊢;split at h
    · simp at h; obtain ⟨rfl, _⟩:=h; rfl
    · cases h
  all_goals first
    | (simp [VOp.kind, VOp.quiet] at hk; done)
    | skip
  all_goals
    simp only [Q8] at h ⊢
    (repeat' split at h) <;> first
      | (cases h; done)
      | (rename_i pU; obtain ⟨rfl, rfl, rfl⟩:=pU; simp_all; done)
      | (simp_all; done)
      | (simp_all
         obtain ⟨rfl, _⟩:=h
         first
          | rw [if_neg (by omega)]
          | rw [if_pos (by omega)])
theorem Dq {o:VOp}{ev:Operand→Value}{σ σ' σ1:Heap}{v:Value}(hk:o.kind≠2) (h:Q8 o ev σ=some (v,σ1)) (hl:σ.Le σ'):Q8 o ev σ'=some (v,σ'):=by
 cases o
 case ext o=>exact Ec hk h hl
 case load agg size a =>
  simp only[Q8] at h ⊢;split at h
  ·split at h
   ·split at h
    ·rename_i hall;rw[if_pos hall];split at h
     ·simp at h;obtain⟨rfl,_⟩:=h;rfl
     ·cases h
    ·cases h
   ·cases h
  ·rename_i i o hx;split at h
   ·rename_i c e wr t hb;simp only[hl.2 i _ hb];split at h
    ·rename_i u hu;simp at h;obtain⟨rfl,_⟩:=h;rfl
    ·cases h
   ·cases h
  ·cases h
 case slice size x lo hi mx =>
  cases mx with
  |some m=>simp[VOp.kind,VOp.quiet] at hk
  |none =>
   simp only[Q8] at h ⊢;split at h
   ·rename_i a n cap hx;split at h
    ·rename_i l k dz cj;unfold Wm at h ⊢;split at h
     ·rename_i heq;split at h
      ·rename_i hc;rw[if_pos hc];simp at h;obtain⟨rfl,_⟩:=h;rfl
      ·cases h
     ·rename_i i o n' aw heq;split at h
      ·rename_i c e wr t hb;simp only[hl.2 i _ hb];simp only at h;split at h
       ·rename_i hc;rw[if_pos hc];simp at h;obtain⟨rfl,_⟩:=h;rfl
       ·cases h
      ·cases h
     ·cases h
    ·rename_i hm;cases hm
    ·cases h
   ·cases h
 all_goals first
  |(exact absurd rfl hk)
  |(exact Dm rfl h)
section
variable {P:Program}{S:VSpecs}{B:Nat}
def EL (lv:List VOper) (env:Env) (tr:Nat→Value) (A:Nat→Bool):Nat→Env
 |0=>env
 |i+1=>if A i then Js (EL lv env tr A i) ((lv[i]?).bind (·.dst)) (tr i) else EL lv env tr A i
theorem Y3 (lv:List VOper) (env:Env) (tr:Nat→Value) (A:Nat→Bool):∀ i,List.length (EL lv env tr A i)=List.length env
 |0=>rfl
 |i+1=>by
  simp only[EL];split
  ·rw[Z2];exact Y3 lv env tr A i
  ·exact Y3 lv env tr A i
theorem Yr (lv:List VOper) (env:Env) {tr tr':Nat→Value}{A B:Nat→Bool}:∀ i,(∀ l,l<i→tr l=tr' l)→(∀ l,l<i→A l=B l)→EL lv env tr A i=EL lv env tr' B i
 |0,_,_=>rfl
 |i+1,h,h'=>by simp only[EL];rw[Yr lv env i (fun l hl=>h l (by omega)) (fun l hl=>h' l (by omega)),h i (by omega),h' i (by omega)]
theorem Y4 (env:Env) (d:Option Nat) (v:Value) {x:Nat}(h:d≠some x):(Js env d v)[x]?=env[x]?:=by
 cases d with
 |none=>rfl
 |some d=>simp only[Js];rw[List.getElem?_set_ne (by rintro rfl;exact h rfl)]
theorem Q5g (lv:List VOper) (env:Env) {tr tr':Nat→Value}{A:Nat→Bool}:∀ i,(∀ l,l<i→A l=true→tr l=tr' l)→EL lv env tr A i=EL lv env tr' A i
 |0,_=>rfl
 |i+1,h=>by
  simp only[EL];rw[Q5g lv env i fun l hl hA=>h l (by omega) hA];split
  ·rename_i hA;rw[h i (by omega) hA]
  ·rfl
theorem Ny (lv:List VOper) (env:Env) (tr:Nat→Value) {A B:Nat→Bool}(x:Nat):∀ i,(∀ l,l<i→(lv[l]?).bind (·.dst)=some x→A l=B l)→(EL lv env tr A i)[x]?=(EL lv env tr B i)[x]?
 |0,_=>rfl
 |i+1,h=>by
  have ih:=Ny lv env tr x i (fun l hl hd=>h l (by omega) hd);by_cases hd:(lv[i]?).bind (·.dst)=some x
  ·have lk:=h i (by omega) hd;simp only[EL];rw[lk];split
   ·rw[hd];simp only[Js,List.getElem?_set];rw[Y3,Y3];rfl
   ·exact ih
  ·simp only[EL]
   split<;>split<;>first
    |exact ih
    |(rw[Y4 _ _ _ hd];exact ih)
    |(rw[Y4 _ _ _ hd,Y4 _ _ _ hd];exact ih)
theorem Mg (lv:List VOper) (env:Env) (tr:Nat→Value) (j:Nat):∀ i,j≤i→EL lv env tr (fun l=>decide (l<j)) i=EL lv env tr (fun _=>true) j
 |0,h=>by
  obtain rfl:j=0:=by omega
  rfl
 |i+1,h=>by
  by_cases hj:j=i+1
  ·subst hj;exact Yr lv env _ (fun _ _=>rfl) (fun l hl=>by simp[hl])
  ·simp only[EL];rw[if_neg (by simp;omega)];exact Mg lv env tr j i (by omega)
def DFact (S:VSpecs) (d:DInfo) (lv:List VOper) (env:Env) (tr:Nat→Value) (hp:Nat→Heap) (u:Nat) (i:Nat):Prop :=
 ∀ v,lv[i]?=some v→∃ b,Zl (EL lv env tr (fun _=>true) i) v.guard=some b ∧
  (b=true→v.op.kind=2→vop S v.op (EL lv env tr (fun _=>true) i) (hp (d.rank i)) (fun v' σ'=>v'=tr i∧σ'=hp (d.rank i+1))) ∧
  (b=true→v.op.kind=1→∀ r,d.kmin i≤r→r≤d.kmax i→r≤u→∃ σ',Q8 v.op (Q5 (EL lv env tr (fun _=>true) i)) (hp r)=some (tr i,σ')) ∧
  (b=true→v.op.kind≠1→v.op.kind≠2→∃ σ',Q8 v.op (Q5 (EL lv env tr (fun _=>true) i)) (hp (d.rank i))=some (tr i,σ')) ∧
  (b=false→tr i=undef∧(v.op.kind=2→hp (d.rank i+1)=hp (d.rank i)))
def Q6c (d:DInfo) (lv:List VOper) (env:Env) (tr:Nat→Value) (i:Nat) (pend:List (Nat×(Heap→Prop))):Prop :=
 ∀ l,l<i→∀ v,lv[l]?=some v→Zl (EL lv env tr (fun _=>true) l) v.guard=some true→v.op.kind=1→d.rank i+1≤d.kmax l→(d.kmax l,Jf v.op (Q5 (EL lv env tr (fun _=>true) l)) (tr l))∈pend
inductive Know (S:VSpecs) (d:DInfo) (lv:List VOper) (env:Env) (K:Env→Heap→Prop):List Nat→Nat→(Nat→Value)→(Nat→Heap)→Prop
 |full {nd:List Nat}{tr:Nat→Value}{hp:Nat→Heap}(hF:∀ l,l<lv.length→l∉nd→DFact S d lv env tr hp (d.rank lv.length) l) (hK:K (EL lv env tr (fun _=>true) lv.length) (hp (d.rank lv.length))):Know S d lv env K nd lv.length tr hp
 |part {nd:List Nat}{i:Nat}{tr:Nat→Value}{hp:Nat→Heap}{v:VOper}(hv:lv[i]?=some v) (hk:v.op.kind=2) (hw:Zl (EL lv env tr (fun _=>true) i) v.guard=some true)
   (hF:∀ l,l<i→l∉nd→DFact S d lv env tr hp (d.rank i) l) (j5:∀ j,i<j→j<lv.length→∃ e u,i≤e∧e<j∧lv[e]?=some u∧((∃ x,u.dst=some x∧∀ v,lv[j]?=some v→x∈Yy v)∨(u.op.kind=2∧∀ v,lv[j]?=some v→v.op.kind=2)))
   (R:Value→Heap→Prop) (fU:vop S v.op (EL lv env tr (fun _=>true) i) (hp (d.rank i)) R)
   (I:∀ u σ',R u σ'→Nat) (T:∀ u σ',R u σ'→Nat→Value) (H:∀ u σ',R u σ'→Nat→Heap)
   (hT:∀ u σ' h,i<I u σ' h∧(∀ l,l<i→T u σ' h l=tr l)∧T u σ' h i=u∧(∀ r,r≤d.rank i→H u σ' h r=hp r)∧H u σ' h (d.rank i+1)=σ')
   (next:∀ u σ' h,Know S d lv env K (i::nd) (I u σ' h) (T u σ' h) (H u σ' h)):Know S d lv env K nd i tr hp
theorem R1 {r:Nat}{σ:Heap}:∀ {l:List (Nat×(Heap→Prop))},Ji r σ l→∀ c∈l,r≤c.1→c.2 σ
 |[],_,_,h=>by cases h
 |x::l,h,c,hc=>by
  rcases List.mem_cons.1 hc with rfl|hc
  ·exact h.1
  ·exact R1 h.2 c hc
theorem Dl {op:VOp}{ev:Operand→Value}{v:Value}{τ:Heap}(h:Jf op ev v τ):∃ σ',Q8 op ev τ=some (v,σ'):=by
 unfold Jf at h;cases hv:Q8 op ev τ with
 |none=>rw[hv] at h;exact h.elim
 |some q =>rw[hv] at h;have h:q.1=v:=h;exact⟨q.2,by rw[←h]⟩
theorem DFact.congr {d:DInfo}{lv:List VOper}{env:Env}{tr tr':Nat→Value}{hp bE:Nat→Heap}{u u' l:Nat}(h:DFact S d lv env tr hp u l) (ht:∀ k,k≤l→tr' k=tr k) (hh:∀ r,r≤u→bE r=hp r) (hr:d.rank l≤u) (h2:∀ v,lv[l]?=some v→v.op.kind=2→d.rank l+1≤u)
  (hu:∀ v,lv[l]?=some v→Zl (EL lv env tr (fun _=>true) l) v.guard=some true→v.op.kind=1→∀ r,u<r→r≤u'→r≤d.kmax l→∃ σ',Q8 v.op (Q5 (EL lv env tr (fun _=>true) l)) (bE r)=some (tr l,σ')):DFact S d lv env tr' bE u' l:=by
 intro v hv;obtain⟨b,f1,f2,f3,f4,f5⟩:=h v hv;have e:=Yr lv env (tr:=tr') (tr':=tr) (A:=fun _=>true) (B:=fun _=>true) l (fun k hk=>ht k (by omega)) (fun _ _=>rfl);rw[e,ht l (Nat.le_refl _),hh _ hr];refine⟨b,f1,fun hb hk=>?_,fun hb hk r r1 r2 r3=>?_,f4,fun hb=>⟨(f5 hb).1,fun hk=>?_⟩⟩
 ·rw[hh _ (h2 v hv hk)];exact f2 hb hk
 ·rcases Nat.lt_or_ge u r with ai|bA
  ·subst hb;exact hu v hv f1 hk r ai r3 r2
  ·rw[hh r bA];exact f3 hb hk r r1 r2 bA
 ·rw[hh _ (h2 v hv hk)];exact(f5 hb).2 hk
theorem HL:∀ (d:DInfo) (rest:List VOper) (i:Nat) (xs:List Nat),waits xs (d.opers rest i)=true→∀ (k:Nat) (v:VOper),rest[k]?=some v→v.op.kind=2∨(∃ x∈xs,x∈Yy v)∨∃ (e:Nat) (u:VOper) (x:Nat),e<k∧rest[e]?=some u∧u.dst=some x∧x∈Yy v
 |d,[],i,xs,_,k,v,hv=>by simp at hv
 |d,o::rest,i,xs,h,k,v,hv=>by
  simp only[DInfo.opers,waits,Bool.and_eq_true,Bool.or_eq_true,List.any_eq_true,beq_iff_eq] at h;obtain⟨h1,h2⟩:=h;cases k with
  |zero =>
   obtain rfl:o=v:=by simpa using hv
   rcases h1 with h1|⟨x,hx,bh⟩
   ·exact .inl h1
   refine .inr (.inl ⟨x,by simpa using bh,?_⟩);simp only[Yy,List.mem_append] at hx ⊢;rcases hx with hx|hx
   ·exact .inl (.inr hx)
   ·exact .inr hx
  |succ k =>
   rcases HL d rest (i+1) _ h2 k v (by simpa using hv) with h3|⟨y,hy,rK⟩|⟨e,u,y,he,hu,hd,hn⟩
   ·exact .inl h3
   ·rcases List.mem_append.1 hy with hy|hy
    ·exact .inr (.inr ⟨0,o,y,by omega,rfl,by simpa using hy,rK⟩)
    ·exact .inr (.inl ⟨y,hy,rK⟩)
   ·exact .inr (.inr ⟨e+1,u,y,by omega,by simpa using hu,hd,hn⟩)
theorem R2 (d:DInfo) {i j:Nat}(h:i≤j):d.rank i≤d.rank j:=by
 induction j with
 |zero =>
  obtain rfl:i=0:=by omega
  exact Nat.le_refl _
 |succ j ih =>
  by_cases cm:i=j+1
  ·subst cm;exact Nat.le_refl _
  ·have:=ih (by omega);simp only[DInfo.rank];split<;>omega
theorem Q5q (d:DInfo) (lv:List VOper) (j6:∀ i v,lv[i]?=some v→d.k i=v.op.kind) (env:Env) (K:Env→Heap→Prop):∀ (rest:List VOper) (i:Nat),i≤lv.length→lv.drop i=rest→∀ (nd:List Nat) (tp:Nat→Value) (hq:Nat→Heap) (pend:List (Nat×(Heap→Prop))),
  (∀ l,l<i→l∉nd→DFact S d lv env tp hq (d.rank i) l)→Q6c d lv env tp i pend →
  Z6 S (d.opers rest i) (EL lv env tp (fun _=>true) i) ((List.range (d.rank i+1)).map hq) (hq (d.rank i)) pend K →
  ∃ k tr hp,i≤k∧(∀ l,l<i→tr l=tp l)∧(∀ r,r≤d.rank i→hp r=hq r)∧Know S d lv env K nd k tr hp:=by
 intro rest;induction rest with
 |nil =>
  intro i ij hi nd tp hq pend hF hP h;have hl:lv.length≤i:=by simpa using hi
  obtain rfl:i=lv.length:=by omega
  simp only[DInfo.opers,Z6] at h;exact⟨_,tp,hq,Nat.le_refl _,fun _ _=>rfl,fun _ _=>rfl,.full hF h⟩
 |cons v rest ih =>
  intro i ij hi nd tp hq pend hF hP h;have ai:i<lv.length:=by
   rcases Nat.lt_or_ge i lv.length with h'|h'
   ·exact h'
   ·rw[List.drop_eq_nil_of_le h'] at hi;cases hi
  have hv:lv[i]?=some v:=by have:=congrArg List.head? hi;rw[List.head?_drop] at this;simpa using this
  have dH:lv.drop (i+1)=rest:=by have:=congrArg List.tail hi;simpa using this
  have hk:=j6 i v hv;have dO:v.op.kind=2→d.rank (i+1)=d.rank i+1:=fun e=>by simp only[DInfo.rank,hk,e,if_true]
  have h_:v.op.kind≠2→d.rank (i+1)=d.rank i:=fun e=>by simp only[DInfo.rank,hk,e,if_false]
  have fg:∀ l,l<i→d.rank l≤d.rank i∧∀ w,lv[l]?=some w→w.op.kind=2→d.rank l+1≤d.rank i:=fun l hl=>by have h1:=R2 d (show l+1≤i by omega);refine⟨by simp only[DInfo.rank] at h1;split at h1<;>omega,fun w hw h2=>?_⟩;simp only[DInfo.rank,j6 l w hw,h2,if_true] at h1;exact h1
  simp only[DInfo.opers,Z6] at h;have hlen:((List.range (d.rank i+1)).map hq).length=d.rank i+1:=by simp
  cases hw:Zl (EL lv env tp (fun _=>true) i) v.guard with
  |none=>rw[hw] at h;exact h.elim
  |some b =>
   rw[hw] at h;obtain⟨ht,hf⟩:=h
   have go:∀ (jb:List Nat) (u:Value) (σ':Heap) (bV:List (Nat×(Heap→Prop))),(∀ l,l∈nd→l∈jb) →
     Z6 S (d.opers rest (i+1)) (Js (EL lv env tp (fun _=>true) i) v.dst u) (if v.op.kind=2 then (List.range (d.rank i+1)).map hq++[σ'] else (List.range (d.rank i+1)).map hq) (if v.op.kind=2 then σ' else hq (d.rank i)) bV K →
     (v.op.kind=2→Ji (d.rank i+1) σ' pend)→(∀ c∈pend,c∈bV) →
     (b=true→v.op.kind=1→d.rank i+1≤d.kmax i→(d.kmax i,Jf v.op (Q5 (EL lv env tp (fun _=>true) i)) u)∈bV) →
     (i∉jb→∀ tr hp,(∀ l,l<i→tr l=tp l)→tr i=u→(∀ r,r≤d.rank i→hp r=hq r)→(v.op.kind=2→hp (d.rank i+1)=σ')→DFact S d lv env tr hp (d.rank (i+1)) i) →
     ∃ k tr hp,i<k∧(∀ l,l<i→tr l=tp l)∧tr i=u∧(∀ r,r≤d.rank i→hp r=hq r)∧(v.op.kind=2→hp (d.rank i+1)=σ')∧Know S d lv env K jb k tr hp:=by
    intro jb u σ' bV jx h j7 jy jc m8;let gS:Nat→Value:=fun l=>if l=i then u else tp l
    let dj:Nat→Heap:=fun r=>if v.op.kind=2∧r=d.rank i+1 then σ' else hq r
    have et:∀ l,l<i→gS l=tp l:=fun l hl=>by simp[gS];intro e;omega
    have ei:gS i=u:=by simp[gS]
    have eh:∀ r,r≤d.rank i→dj r=hq r:=fun r hr=>by simp only[dj];rw[if_neg (by omega)]
    have pV:v.op.kind=2→dj (d.rank i+1)=σ':=fun au=>by simp[dj,au]
    have e1:EL lv env gS (fun _=>true) (i+1)=Js (EL lv env tp (fun _=>true) i) v.dst u:=by simp only[EL,if_true];rw[Yr lv env (tr:=gS) (tr':=tp) i et (fun _ _=>rfl),hv,ei];rfl
    have e2:(List.range (d.rank (i+1)+1)).map dj=if v.op.kind=2 then (List.range (d.rank i+1)).map hq++[σ'] else (List.range (d.rank i+1)).map hq:=by
     simp only[DInfo.rank,hk];split
     ·rename_i au;rw[List.range_succ,List.map_append];congr 1
      ·exact List.map_congr_left fun r hr=>eh r (by have:=List.mem_range.1 hr;omega)
      ·simp[dj,au]
     ·rename_i au;exact List.map_congr_left fun r hr=>by simp[dj,au]
    have e3:dj (d.rank (i+1))=if v.op.kind=2 then σ' else hq (d.rank i):=by simp only[DInfo.rank,hk];split<;>rename_i au<;>simp[dj,au]
    have tF:∀ l,l<i+1→l∉jb→DFact S d lv env gS dj (d.rank (i+1)) l:=fun l hl fW=>by
     by_cases iu:l=i
     ·subst iu;exact m8 fW gS dj et ei eh pV
     ·have iu:l<i:=by omega
      refine (hF l iu fun h=>fW (jx l h)).congr (fun k hk=>et k (by omega)) eh (fg l iu).1 (fg l iu).2 fun w de lq bO r r1 r2 r3=>?_;by_cases au:v.op.kind=2
      ·rw[dO au] at r2;obtain rfl:r=d.rank i+1:=by omega
       rw[pV au];exact Dl (R1 (j7 au) _ (hP l iu w de lq bO (by omega)) (by simpa using r3))
      ·rw[h_ au] at r2;omega
    have tG:Q6c d lv env gS (i+1) bV:=fun l hl w de lq bO oO=>by
     by_cases iu:l=i
     ·subst iu;rw[hv] at de;obtain rfl:=osj de;have e:=Yr lv env (tr:=gS) (tr':=tp) (A:=fun _=>true) (B:=fun _=>true) l et (fun _ _=>rfl);rw[e] at lq ⊢;rw[hw] at lq;obtain rfl:b=true:=by simpa using lq
      rw[ei];exact jc rfl bO (by rw[h_ (by omega)] at oO;exact oO)
     ·have iu:l<i:=by omega
      have e:=Yr lv env (tr:=gS) (tr':=tp) (A:=fun _=>true) (B:=fun _=>true) l (fun k hk=>et k (by omega)) (fun _ _=>rfl);rw[e] at lq ⊢;rw[et l iu];have hle:d.rank i≤d.rank (i+1):=by simp only[DInfo.rank];split<;>omega
      exact jy _ (hP l iu w de lq bO (by omega))
    obtain⟨k,tr,hp,k0,k1,k2,k3⟩:=ih (i+1) (by omega) dH jb gS dj bV tF tG (by rw[e1,e2,e3];exact h);have hle:d.rank i≤d.rank (i+1):=by simp only[DInfo.rank];split<;>omega
    exact⟨k,tr,hp,by omega,fun l hl=>by rw[k1 l (by omega),et l hl],by rw[k1 i (by omega),ei],fun r hr=>by rw[k2 r (by omega),eh r hr],fun au=>by rw[k2 _ (by rw[dO au];exact Nat.le_refl _),pV au],k3⟩
   have weak:∀ {jb:List Nat}{u:Value}{σ':Heap},(∃ k tr hp,i<k∧(∀ l,l<i→tr l=tp l)∧tr i=u∧(∀ r,r≤d.rank i→hp r=hq r)∧(v.op.kind=2→hp (d.rank i+1)=σ')∧Know S d lv env K jb k tr hp)→∃ k tr hp,i≤k∧(∀ l,l<i→tr l=tp l)∧(∀ r,r≤d.rank i→hp r=hq r)∧Know S d lv env K jb k tr hp:=by rintro jb u σ' ⟨k,tr,hp,h0,h1,_,h2,_,h3⟩;exact⟨k,tr,hp,by omega,h1,h2,h3⟩
   have fact:∀ {u:Value}{σ':Heap},(b=true→v.op.kind=1→∀ r,d.kmin i≤r→r≤d.rank i→Jf v.op (Q5 (EL lv env tp (fun _=>true) i)) u (hq r))→(b=true→v.op.kind≠1→v.op.kind≠2→∃ aL,Q8 v.op (Q5 (EL lv env tp (fun _=>true) i)) (hq (d.rank i))=some (u,aL))→(b=false→u=undef∧(v.op.kind=2→σ'=hq (d.rank i)))→(b=true→v.op.kind=2→vop S v.op (EL lv env tp (fun _=>true) i) (hq (d.rank i)) (fun v' aL=>v'=u∧aL=σ')) →
     ∀ tr hp,(∀ l,l<i→tr l=tp l)→tr i=u→(∀ r,r≤d.rank i→hp r=hq r)→(v.op.kind=2→hp (d.rank i+1)=σ')→DFact S d lv env tr hp (d.rank (i+1)) i:=by
    intro u σ' g1 g2 g3 k5 tr hp k1 k2 k3 k4 v' gg;rw[hv] at gg;obtain rfl:=osj gg;have e:=Yr lv env (tr:=tr) (tr':=tp) (A:=fun _=>true) (B:=fun _=>true) i k1 (fun _ _=>rfl);rw[e,k2,k3 _ (Nat.le_refl _)];refine⟨b,hw,fun hb au=>by rw[k4 au];exact k5 hb au,fun hb bO r r1 r2 r3=>?_,g2,fun hb=>⟨(g3 hb).1,fun au=>by rw[k4 au];exact(g3 hb).2 au⟩⟩;rw[h_ (by omega)] at r3;rw[k3 r r3];exact Dl (g1 hb bO r r1 r3)
   cases b with
   |false =>
    have hf:=hf rfl;by_cases au:v.op.kind=2
    ·rw[if_pos au] at hf;obtain⟨ig,hf⟩:=hf;exact weak (go nd undef (hq (d.rank i)) pend (fun _ h=>h) (by rw[if_pos au,ite_self];exact hf) (fun _=>by rw[hlen] at ig;exact ig) (fun _ h=>h) (fun h=>by cases h) (fun _=>fact (fun h=>by cases h) (fun h=>by cases h) (fun _=>⟨rfl,fun _=>rfl⟩) (fun h=>by cases h)))
    ·rw[if_neg au] at hf;exact weak (go nd undef (hq (d.rank i)) pend (fun _ h=>h) (by rw[if_neg au,ite_self];exact hf) (fun h=>absurd h au) (fun _ h=>h) (fun h=>by cases h) (fun _=>fact (fun h=>by cases h) (fun h=>by cases h) (fun _=>⟨rfl,fun _=>rfl⟩) (fun h=>by cases h)))
   |true =>
    have ht:=ht rfl;by_cases au:v.op.kind=2
    ·rw[if_pos au] at ht;rw[hlen] at ht;rcases ht with⟨u,σ',h1,h2,h3⟩|⟨gK,fU⟩
     ·exact weak (go nd u σ' pend (fun _ h=>h) (by rw[if_pos au,if_pos au];exact h3) (fun _=>h2) (fun _ h=>h) (fun _ hk=>by omega) (fun _=>fact (fun _ hk=>by omega) (fun _ _ hk=>absurd au hk) (fun h=>by cases h) (fun _ _=>h1)))
     ·have nx:∀ u σ',(Ji (d.rank i+1) σ' pend∧Z6 S (d.opers rest (i+1)) (Js (EL lv env tp (fun _=>true) i) v.dst u) ((List.range (d.rank i+1)).map hq++[σ']) σ' pend K) →
        ∃ k tr hp,i<k∧(∀ l,l<i→tr l=tp l)∧tr i=u∧(∀ r,r≤d.rank i→hp r=hq r)∧(v.op.kind=2→hp (d.rank i+1)=σ')∧Know S d lv env K (i::nd) k tr hp:=fun u σ' ⟨h2,h3⟩ =>
       go (i::nd) u σ' pend (fun _ h=>List.mem_cons_of_mem _ h) (by rw[if_pos au,if_pos au];exact h3) (fun _=>h2) (fun _ h=>h) (fun _ hk=>by omega) (fun h=>absurd List.mem_cons_self h)
      refine⟨i,tp,hq,Nat.le_refl _,fun _ _=>rfl,fun _ _=>rfl,.part hv au hw hF (fun j hj bc=>?_) _ fU (fun u σ' h=>(nx u σ' h).choose) (fun u σ' h=>(nx u σ' h).choose_spec.choose) (fun u σ' h=>(nx u σ' h).choose_spec.choose_spec.choose) (fun u σ' h=>?_) (fun u σ' h=>?_)⟩
      ·obtain⟨n,hn⟩:∃ n,j=i+1+n:=⟨j-(i+1),by omega⟩;subst hn;have tH:∀ k w,lv[i+1+k]?=some w→rest[k]?=some w:=fun k w de=>by
        rw[←dH,List.getElem?_drop];exact de
       have pW:∀ k w,rest[k]?=some w→lv[i+1+k]?=some w:=fun k w de=>by rw[←dH,List.getElem?_drop] at de;exact de
       have oQ:=List.getElem?_eq_getElem bc;rcases HL d rest (i+1) _ gK n _ (tH n _ oQ) with oR|⟨x,hx,jz⟩|⟨e,u,x,he,hu,hd,jz⟩
       ·exact⟨i,v,Nat.le_refl _,by omega,hv,.inr ⟨au,fun w de=>by rw[oQ] at de;obtain rfl:=osj de;exact oR⟩⟩
       ·exact⟨i,v,Nat.le_refl _,by omega,hv,.inl ⟨x,by simpa using hx,fun w de=>by rw[oQ] at de;obtain rfl:=osj de;exact jz⟩⟩
       ·exact⟨i+1+e,u,by omega,by omega,pW e u hu,.inl ⟨x,hd,fun w de=>by rw[oQ] at de;obtain rfl:=osj de;exact jz⟩⟩
      ·obtain⟨q1,q2,q3,q4,q5,_⟩:=(nx u σ' h).choose_spec.choose_spec.choose_spec;exact⟨q1,q2,q3,q4,q5 au⟩
      ·exact(nx u σ' h).choose_spec.choose_spec.choose_spec.2.2.2.2.2
    ·rw[if_neg au] at ht;by_cases bO:v.op.kind=1
     ·rw[if_pos bO] at ht;cases dG:Q8 v.op (Q5 (EL lv env tp (fun _=>true) i)) (hq (d.rank i)) with
      |none=>rw[dG] at ht;exact ht.elim
      |some p =>
       rw[dG] at ht;obtain⟨g1,g2⟩:=ht;refine weak (go nd p.1 (hq (d.rank i)) _ (fun _ h=>h) (by rw[if_neg au,ite_self];exact g2) (fun h=>absurd h au) (fun c hc=>?_) (fun _ _ hr=>?_) (fun _=>fact (fun _ _ r tI tJ=>?_) (fun _ hk=>absurd bO hk) (fun h=>by cases h) (fun _ hk=>absurd hk au)))
       ·split
        ·exact List.mem_cons_of_mem _ hc
        ·exact hc
       ·rw[if_pos (by rw[hlen];exact hr)];simp
       ·refine g1 _ ?_;rw[List.mem_iff_getElem?];refine⟨r-d.kmin i,?_⟩;rw[List.getElem?_drop,List.getElem?_map,List.getElem?_range (by omega)];simp;congr 1;omega
     ·rw[if_neg bO] at ht;cases dG:Q8 v.op (Q5 (EL lv env tp (fun _=>true) i)) (hq (d.rank i)) with
      |none=>rw[dG] at ht;exact ht.elim
      |some p =>rw[dG] at ht;exact weak (go nd p.1 (hq (d.rank i)) pend (fun _ h=>h) (by rw[if_neg au,ite_self];exact ht) (fun h=>absurd h au) (fun _ h=>h) (fun _ hk=>absurd hk bO) (fun _=>fact (fun _ hk=>absurd hk bO) (fun _ _ _=>⟨p.2,dG⟩) (fun h=>by cases h) (fun _ hk=>absurd hk au)))
structure DOk (d:DInfo) (n:Nat):Prop where
 edge:∀ j,j<n→∀ e∈d.ed.getD j [],e<j
 path:∀ j,j<n→∀ i,i<j→d.lt i j=true→∃ e∈d.ed.getD j [],e=i∨(i<e∧d.lt i e=true)
 free:∀ j,j<n→∀ i,i<j→d.lt i j=false→d.touch i j=false∧¬(d.k i=2∧d.k j=2)
 kmin:∀ j,j<n→d.k j=1→(d.kmin j≤d.rank j∧d.rank j≤d.kmax j)∧d.kmax j≤d.rank n∧∀ l,l<n→d.k l=2→((d.lt l j=true↔d.rank l<d.kmin j)∧(d.lt j l=true↔d.kmax j≤d.rank l))
theorem DOk.of {d:DInfo}(h:d.ok=true):DOk d d.ks.length:=by
 have h0:∀ j,j<d.ks.length→d.okE j=true∧d.okP j=true∧d.okK j=true:=fun j hj=>by have:=List.all_eq_true.1 h j (List.mem_range.2 hj);simpa [Bool.and_eq_true] using this
 refine⟨fun j hj e he=>?_,fun j hj i hi ai=>?_,fun j hj i hi ai=>?_,fun j hj hk=>?_⟩
 ·have:=List.all_eq_true.1 (h0 j hj).1 e he;simpa using this
 ·have:=List.all_eq_true.1 (h0 j hj).2.1 i (List.mem_range.2 hi);simp only[ai,if_true,List.any_eq_true,Bool.or_eq_true,Bool.and_eq_true,decide_eq_true_eq,beq_iff_eq] at this;exact this
 ·have:=List.all_eq_true.1 (h0 j hj).2.1 i (List.mem_range.2 hi);simp[ai] at this;exact⟨this.1,fun hk=>this.2.elim (fun h=>h hk.1) (fun h=>h hk.2)⟩
 ·have:=(h0 j hj).2.2;simp only[DInfo.okK,hk,BEq.rfl,Bool.not_true,Bool.false_or,Bool.and_eq_true,decide_eq_true_eq] at this;refine⟨this.1,this.2.1,fun l hl au=>?_⟩;have h1:=List.all_eq_true.1 this.2.2 l (List.mem_range.2 hl);simp only[au,BEq.rfl,Bool.not_true,Bool.false_or,Bool.and_eq_true,beq_iff_eq] at h1;rw[h1.1,h1.2];simp
theorem N9 (d:DInfo) {i j:Nat}(h:i<j) (hk:d.k i=2):d.rank i<d.rank j:=by have:=R2 d (show i+1≤j from h);simp only[DInfo.rank,hk,if_true] at this;omega
theorem Ku (d:DInfo):∀ j r,r<d.rank j→∃ l,l<j∧d.k l=2∧d.rank l=r
 |0,r,h=>by simp[DInfo.rank] at h
 |j+1,r,h=>by
  simp only[DInfo.rank] at h;split at h
  ·rename_i hk;rcases Nat.lt_or_ge r (d.rank j) with h'|h'
   ·obtain⟨l,h1,h2⟩:=Ku d j r h';exact⟨l,by omega,h2⟩
   ·exact⟨j,by omega,hk,by omega⟩
  ·obtain⟨l,h1,h2⟩:=Ku d j r h;exact⟨l,by omega,h2⟩
theorem Vd {d:DInfo}{n:Nat}(hd:DOk d n) {A:Nat→Bool}(hc:∀ j,j<n→A j=true→∀ e∈d.ed.getD j [],A e=true):∀ j,j<n→A j=true→∀ i,i<j→d.lt i j=true→A i=true:=by
 intro j;induction j using Nat.strongRecOn with
 |ind j ih =>
  intro hj hA i hi ai;obtain⟨e,he,h⟩:=hd.path j hj i hi ai;have m9:=hd.edge j hj e he;have gy:=hc j hj hA e he;rcases h with rfl|⟨h1,h2⟩
  ·exact gy
  ·exact ih e m9 (by omega) gy i h1 h2
def cnt (A:Nat→Bool):Nat→Nat
 |0=>0
 |i+1=>cnt A i+if A i then 0 else 1
theorem L3 {A:Nat→Bool}:∀ {n},cnt A n=0→∀ i,i<n→A i=true
 |0,_,i,h=>by omega
 |n+1,hc,i,h=>by
  simp only[cnt] at hc;by_cases hi:i=n
  ·subst hi;split at hc
   ·assumption
   ·omega
  ·exact L3 (n:=n) (by omega) i (by omega)
theorem I8 {A B:Nat→Bool}{j:Nat}(hA:A j=false) (hB:B j=true) (h:∀ i,i≠j→A i=B i):∀ n,j<n→cnt A n=cnt B n+1
 |0,hj=>by omega
 |n+1,hj=>by
  simp only[cnt];by_cases bc:j=n
  ·subst bc;have:cnt A j=cnt B j:=by
    have key:∀ m,m≤j→cnt A m=cnt B m:=by
     intro m;induction m with
     |zero=>intro _;rfl
     |succ m ih=>intro hm;simp only[cnt];rw[ih (by omega),h m (by omega)]
    exact key j (Nat.le_refl _)
   simp[hA,hB,this]
  ·have:=I8 hA hB h n (by omega);rw[h n (by omega)];omega
theorem Q34 (o:VOp):o.kind≤2:=by
 unfold VOp.kind;split<;>try omega
 split<;>omega
theorem Q21 {o:VOp}{env:Env}{σ:Heap}{p:Value×Heap}{K:Value→Heap→Prop}(hk:o.kind≠2) (h:Q8 o (Q5 env) σ=some p) (hK:K p.1 p.2):vop S o env σ K:=by
 cases o
 case callF=>exact absurd rfl hk
 case callV=>exact absurd rfl hk
 case ext x =>
  cases x
  case nextMap=>exact absurd rfl hk
  all_goals (simp only[vop];rw[h];exact hK)
 all_goals (simp only[vop];rw[h];exact hK)
theorem Mc {o:VOp}{ev:Operand→Value}{σ σ':Heap}{v:Value}(hk:o.kind≠2) (h:Q8 o ev σ=some (v,σ')):σ'=σ:=by have:=Dq hk h (Heap.Le.refl σ);rw[h] at this;simp at this;exact this
theorem HM {env ah:Env}{g:Option (Nat×Bool)}(h:∀ x b,g=some (x,b)→env[x]?=ah[x]?):Zl env g=Zl ah g:=by
 cases g with
 |none=>rfl
 |some p =>obtain⟨x,b⟩:=p;simp only[Zl,List.getD_eq_getElem?_getD];rw[h x b rfl]
theorem Hx {env ah:Env}{x:Operand}(h:∀ t,x=.tmp t→env[t]?=ah[t]?):Q5 env x=Q5 ah x:=by
 cases x<;>try rfl
 rename_i t;simp only[Q5,List.getD_eq_getElem?_getD];rw[h t rfl]
structure DInv (B:Nat) (d:DInfo) (lv:List VOper) (env:Env) (tr:Nat→Value) (hp:Nat→Heap) (ρ0:Plc) (σ0:Heap) (w0:World) (A:Nat→Bool) (a:Act) (w:World):Prop where
 closed:∀ j,j<lv.length→A j=true→∀ e∈d.ed.getD j [],A e=true
 run:∃ m ρ,(∀ l,l<lv.length→d.k l=2→(A l=true↔d.rank l<m))∧m≤d.rank lv.length∧HRel ρ (hp m) w∧LRel ρ (hp m).n (EL lv env tr A lv.length) a.tmps.toList∧Mks B a.defers w∧Ext ρ0 σ0 w0 ρ (hp m) w
structure DLink (P:Program) (ops:Array Oper) (pm:List Nat) (d:DInfo) (lv:List VOper):Prop where
 comp:∀ (p:Nat) (v:VOper),lv[p]?=some v→∃ o,ops[pm.getD p 0]?=some o∧Zn P ops o=some v∧d.k p=v.op.kind
 touch:∀ (i j:Nat) (u v:VOper),lv[i]?=some u→lv[j]?=some v→d.touch i j=false→(∀ x,u.dst=some x→x∉Yy v)∧(∀ x,v.dst=some x→x∉Yy u)
 size:pm.length=lv.length
theorem DLink.of {ops:Array Oper}{vs:List VOper}(h:ops.toList.mapM (Zn P ops)=some vs) {d0:DInfo}{pm:List Nat}(jN:∀ i∈pm,i<vs.length):DLink P ops pm (S3 d0 vs pm) (Kh vs pm):=by
 obtain⟨h1,h2⟩:=Xb _ _ _ h;refine⟨fun p v hv=>?_,fun i j u v hu hv ht=>?_,by simp[Kh]⟩
 ·simp only[Kh,List.getElem?_map,Option.map_eq_some_iff] at hv;obtain⟨i,hi,rfl⟩:=hv;have aP:=jN i (List.mem_of_getElem? hi);have m_:i<ops.toList.length:=by omega
  obtain⟨v,hv,hc⟩:=h2 i _ (List.getElem?_eq_getElem m_);have hg:vs.getD i default=v:=by simp[List.getD_eq_getElem?_getD,hv]
  have hp:pm.getD p 0=i:=by simp[List.getD_eq_getElem?_getD,hi]
  refine⟨ops.toList[i],?_,by rw[hg];exact hc,?_⟩
  ·rw[hp];simp
  ·simp[DInfo.k,S3,Kh,List.getD_eq_getElem?_getD,hi]
 ·simp only[DInfo.touch,S3,OZ,List.getD_eq_getElem?_getD,List.getElem?_map,hu,hv,Option.map_some,Option.getD_some,Bool.or_eq_false_iff] at ht;refine⟨fun x hx hm=>?_,fun x hx hm=>?_⟩
  ·have:=ht.1;rw[hx] at this;simp at this;exact this hm
  ·have:=ht.2;rw[hx] at this;simp at this;exact this hm
theorem LQ {v:VOper}{x:Nat}(h:v.dst=some x):x∈Yy v:=by simp[Yy,h]
theorem Ls {v:VOper}{x:Nat}(h:Operand.tmp x∈v.op.opds):x∈Yy v:=by refine List.mem_append_left _ (List.mem_append_right _ ?_);exact List.mem_filterMap.2 ⟨_,h,rfl⟩
theorem HD {v:VOper}{x:Nat}{b:Bool}(h:v.guard=some (x,b)):x∈Yy v:=by refine List.mem_append_right _ ?_;simp[h]
theorem DC (hS:OkSpecs P S) {ro:Option Nat}{n:Nat}{ops:Array Oper}{pm:List Nat}{d:DInfo}{lv:List VOper}(hl:DLink P ops pm d lv) (hd:DOk d lv.length) {env:Env}{tr:Nat→Value}{hp:Nat→Heap}
  {bd j:Nat}(hF:DFact S d lv env tr hp bd j)
  {Q:Exit→Act→World→Prop}{ρ0:Plc}{σ0:Heap}{w0:World}{A:Nat→Bool}{a:Act}{w:World}(lr:∀ m,(∀ l,l<lv.length→d.k l=2→(A l=true↔d.rank l<m))→m≤d.rank lv.length→m≤bd) (hI:DInv B d lv env tr hp ρ0 σ0 w0 A a w)
  (bc:j<lv.length) (dI:A j=false) (dJ:∀ e∈d.ed.getD j [],A e=true) {A':Nat→Bool}(bg:∀ i,A' i=if i=j then true else A i) {K:Act→World→Prop}(hK:∀ a' w',DInv B d lv env tr hp ρ0 σ0 w0 A' a' w'→K a' w'):wpOpIn (FF ro) n P ops Q (pm.getD j 0) K a w:=by
 obtain⟨v,hv⟩:∃ v,lv[j]?=some v:=⟨_,List.getElem?_eq_getElem bc⟩;obtain⟨o,ho,hc,hk⟩:=hl.comp j v hv;obtain⟨bQ,m,ρ,hm,na,hH,hL,dq,hE⟩:=hI;have dm:∀ i,i<j→d.lt i j=true→A i=true:=by
  intro i hi ai;obtain⟨e,he,h⟩:=hd.path j bc i hi ai;have m9:=hd.edge j bc e he;have gy:A e=true:=dJ e he;rcases h with rfl|⟨h1,h2⟩
  ·exact gy
  ·exact Vd hd bQ e (by omega) gy i h1 h2
 have dp:∀ i,i<lv.length→j<i→d.lt j i=true→A i=false:=by
  intro i hi aM ai;cases hA:A i with
  |false=>rfl
  |true=>rw[Vd hd bQ i hi hA j aM ai] at dI;cases dI
 have fv:∀ x,x∈Yy v→(EL lv env tr A lv.length)[x]?=(EL lv env tr (fun _=>true) j)[x]?:=by
  intro x hx;rw[←Mg lv env tr j lv.length (by omega)];refine Ny lv env tr x lv.length fun l aV bG=>?_;cases bT:lv[l]? with
  |none=>rw[bT] at bG;cases bG
  |some u =>
   rw[bT] at bG;rcases Nat.lt_trichotomy l j with h|h|h
   ·have ai:d.lt l j=true:=by
     cases ai:d.lt l j with
     |true=>rfl
     |false=>exact absurd hx ((hl.touch l j u v bT hv (hd.free j bc l h ai).1).1 x bG)
    simp only[h,decide_true];exact dm l h ai
   ·subst h;simp only[Nat.lt_irrefl,decide_false];exact dI
   ·have ai:d.lt j l=true:=by
     cases ai:d.lt j l with
     |true=>rfl
     |false=>exact absurd hx ((hl.touch j l v u hv bT (hd.free l aV j h ai).1).2 x bG)
    have:¬ l<j:=by omega
    simp only[this,decide_false];exact dp l aV h ai
 obtain⟨b,f1,f2,f3,tK,f4⟩:=hF v hv;have hw:Zl (EL lv env tr A lv.length) v.guard=some b:=by rw[HM (fun x b' hg=>fv x (HD hg))];exact f1
 have jA:∀ x∈v.op.opds,Q5 (EL lv env tr A lv.length) x=Q5 (EL lv env tr (fun _=>true) j) x:=fun x hx=>Hx fun t ht=>fv t (Ls (ht▸hx));obtain⟨dk,bG,bK⟩:=NC hc hL hw;have df:EL lv env tr A' lv.length=Js (EL lv env tr A lv.length) v.dst (tr j):=by
  apply List.ext_getElem?;intro x;by_cases hx:v.dst=some x
  ·have h1:(EL lv env tr A' lv.length)[x]?=(EL lv env tr (fun l=>decide (l<j+1)) lv.length)[x]?:=by
    refine Ny lv env tr x lv.length fun l aV br=>?_;rw[bg];by_cases fJ:l=j
    ·subst fJ;simp
    ·rw[if_neg fJ];cases bT:lv[l]? with
     |none=>rw[bT] at br;cases br
     |some u =>
      rw[bT] at br;have jB:=LQ hx;rcases Nat.lt_or_ge l j with h|h
      ·have ai:d.lt l j=true:=by
        cases ai:d.lt l j with
        |true=>rfl
        |false=>exact absurd jB ((hl.touch l j u v bT hv (hd.free j bc l h ai).1).1 x br)
       have:l<j+1:=by omega
       simp only[this,decide_true];exact dm l h ai
      ·have h':j<l:=by omega
       have ai:d.lt j l=true:=by
        cases ai:d.lt j l with
        |true=>rfl
        |false=>exact absurd jB ((hl.touch j l v u hv bT (hd.free l aV j h' ai).1).2 x br)
       have:¬ l<j+1:=by omega
       simp only[this,decide_false];exact dp l aV h' ai
   rw[h1,Mg lv env tr (j+1) lv.length (by omega)];simp only[EL,if_true,hv,Option.bind_some,hx,Js];rw[List.getElem?_set,List.getElem?_set];simp only[if_true,Y3]
  ·rw[Y4 _ _ _ hx];refine Ny lv env tr x lv.length fun l aV br=>?_;rw[bg];split
   ·rename_i h;subst h;rw[hv] at br;exact absurd br hx
   ·rfl
 have cw:∀ i,i<lv.length→A' i=true→∀ e∈d.ed.getD i [],A' e=true:=by
  intro i hi hA e he;rw[bg] at hA ⊢;split
  ·rfl
  ·by_cases cm:i=j
   ·subst cm;exact dJ e he
   ·rw[if_neg cm] at hA;exact bQ i hi hA e he
 have j8:d.k j=2→d.rank j=m:=by
  intro au;have h1:¬ d.rank j<m:=fun h=>by rw[(hm j bc au).2 h] at dI;cases dI
  by_cases h2:d.rank j=m
  ·exact h2
  ·obtain⟨l,fJ,bq,fg⟩:=Ku d j m (by omega);have ai:d.lt l j=true:=by
    cases ai:d.lt l j with
    |true=>rfl
    |false=>exact absurd ⟨bq,au⟩ (hd.free j bc l fJ ai).2
   have:=(hm l (by omega) bq).1 (dm l fJ ai);omega
 have eT:d.k j=2→∀ l,l<lv.length→d.k l=2→(A' l=true↔d.rank l<m+1):=by
  intro au l aV bq;rw[bg];have fX:=j8 au;split
  ·rename_i h;subst h;simp;omega
  ·rename_i h;rw[hm l aV bq];have:d.rank l≠m:=by
    rcases Nat.lt_or_ge l j with h'|h'
    ·have:=N9 d h' bq;omega
    ·have:=N9 d (show j<l by omega) au;omega
   omega
 have gL:d.k j≠2→∀ l,l<lv.length→d.k l=2→(A' l=true↔d.rank l<m):=by intro au l aV bq;rw[bg,if_neg (by rintro rfl;exact au bq)];exact hm l aV bq
 have jC:d.k j=2→m+1≤d.rank lv.length:=fun au=>by have:=N9 d bc au;have:=j8 au;omega
 unfold wpOpIn;simp only[ho];cases b with
 |false =>
  rw[dk,if_neg (by simp)];obtain⟨g1,g2⟩:=f4 rfl;refine⟨fun f _=>Ao _ _,hK _ _ ⟨cw,?_⟩⟩;by_cases au:d.k j=2
  ·have fX:=j8 au;have hh:hp (m+1)=hp m:=by rw[←fX];exact g2 (hk▸au)
   refine⟨m+1,ρ,eT au,jC au,by rw[hh];exact hH,?_,by rw[Jm];exact dq,by rw[hh];exact hE⟩;rw[hh,df,g1,bG];exact WK hL ZV o.dst
  ·refine⟨m,ρ,gL au,na,hH,?_,by rw[Jm];exact dq,hE⟩;rw[df,g1,bG];exact WK hL ZV o.dst
 |true =>
  rw[dk,if_pos rfl];by_cases au:d.k j=2
  ·have fX:=j8 au;have g1:=f2 rfl (hk▸au);rw[fX] at g1;rw[←RM jA] at g1;refine K0 hS bK hH hL g1 fun c w' ⟨u,ρ',σ',⟨hu,hσ⟩,d_,gw,bY⟩=>hK _ _ ⟨cw,?_⟩;subst hu;subst hσ;refine⟨m+1,ρ',eT au,jC au,gw,?_,by rw[Jm];exact dq.ext hH bY,hE.trans bY⟩;rw[df,bG];exact WK (bY.lrel hL) d_ o.dst
  ·have g2:∃ σ1,Q8 v.op (Q5 (EL lv env tr A lv.length)) (hp m)=some (tr j,σ1):=by
    rw[Ms jA];by_cases bO:d.k j=1
    ·obtain⟨⟨k1,k4⟩,k3,k2⟩:=hd.kmin j bc bO;refine f3 rfl (hk▸bO) m ?_ ?_ (lr m hm na)
     ·rcases Nat.lt_or_ge m (d.kmin j) with h|h
      ·obtain⟨l,aV,bq,fg⟩:=Ku d j m (by omega);have ai:=(k2 l (by omega) bq).1.2 (by omega);have:=(hm l (by omega) bq).1 (dm l aV ai);omega
      ·exact h
     ·rcases Nat.lt_or_ge (d.kmax j) m with h|h
      ·obtain⟨l,aV,bq,fg⟩:=Ku d lv.length (d.kmax j) (by omega);have ai:=(k2 l aV bq).2.2 (by omega);have j9:=(hm l aV bq).2 (by omega);rcases Nat.lt_trichotomy j l with h'|h'|h'
       ·rw[dp l aV h' ai] at j9;cases j9
       ·subst h';omega
       ·exfalso;have dO:d.rank l<d.rank j:=N9 d h' bq;omega
      ·exact h
    ·have ie:v.op.kind=0:=by
      have h2:v.op.kind≤2:=Q34 v.op;omega
     obtain⟨σ1,g1⟩:=tK rfl (by omega) (by omega);exact⟨hp m,Dm ie g1⟩
   obtain⟨σ1,g2⟩:=g2;have hq:=Mc (hk▸au) g2;subst hq;refine K0 hS (K:=fun v' σ'=>v'=tr j∧σ'=hp m) bK hH hL (Q21 (hk▸au) g2 ⟨rfl,rfl⟩) fun c w' ⟨u,ρ',σ',⟨hu,hσ⟩,d_,gw,bY⟩=>hK _ _ ⟨cw,?_⟩;subst hu;subst hσ;refine⟨m,ρ',gL au,na,gw,?_,by rw[Jm];exact dq.ext hH bY,hE.trans bY⟩;rw[df,bG];exact WK (bY.lrel hL) d_ o.dst
theorem Sq (hS:OkSpecs P S) {ro:Option Nat}{n:Nat}{ops:Array Oper}{pm:List Nat}{d:DInfo}{lv:List VOper}(hl:DLink P ops pm d lv) (hd:DOk d lv.length) {env:Env}{tr:Nat→Value}{hp:Nat→Heap}
  {j:Nat}{v:VOper}(hv:lv[j]?=some v) (pX:v.op.kind=2) (tL:Zl (EL lv env tr (fun _=>true) j) v.guard=some true) {R:Value→Heap→Prop}(fU:vop S v.op (EL lv env tr (fun _=>true) j) (hp (d.rank j)) R)
  {Q:Exit→Act→World→Prop}{ρ0:Plc}{σ0:Heap}{w0:World}{A:Nat→Bool}{a:Act}{w:World}(hI:DInv B d lv env tr hp ρ0 σ0 w0 A a w) (nc:∀ l,j≤l→l<lv.length→A l=false)
  (bc:j<lv.length) (dI:A j=false) (dJ:∀ e∈d.ed.getD j [],A e=true) {A':Nat→Bool}(bg:∀ i,A' i=if i=j then true else A i) {K:Act→World→Prop}
  (hK:∀ u σ' a' w',R u σ'→(∀ tr' bE,(∀ l,l<j→tr' l=tr l)→tr' j=u→(∀ r,r≤d.rank j→bE r=hp r)→bE (d.rank j+1)=σ'→DInv B d lv env tr' bE ρ0 σ0 w0 A' a' w')→K a' w'):wpOpIn (FF ro) n P ops Q (pm.getD j 0) K a w:=by
 obtain⟨o,ho,hc,hk⟩:=hl.comp j v hv;obtain⟨bQ,m,ρ,hm,na,hH,hL,dq,hE⟩:=hI;have dm:∀ i,i<j→d.lt i j=true→A i=true:=by
  intro i hi ai;obtain⟨e,he,h⟩:=hd.path j bc i hi ai;have m9:=hd.edge j bc e he;have gy:A e=true:=dJ e he;rcases h with rfl|⟨h1,h2⟩
  ·exact gy
  ·exact Vd hd bQ e (by omega) gy i h1 h2
 have dp:∀ i,i<lv.length→j<i→d.lt j i=true→A i=false:=by
  intro i hi aM ai;cases hA:A i with
  |false=>rfl
  |true=>rw[Vd hd bQ i hi hA j aM ai] at dI;cases dI
 have fv:∀ x,x∈Yy v→(EL lv env tr A lv.length)[x]?=(EL lv env tr (fun _=>true) j)[x]?:=by
  intro x hx;rw[←Mg lv env tr j lv.length (by omega)];refine Ny lv env tr x lv.length fun l aV bG=>?_;cases bT:lv[l]? with
  |none=>rw[bT] at bG;cases bG
  |some u =>
   rw[bT] at bG;rcases Nat.lt_trichotomy l j with h|h|h
   ·have ai:d.lt l j=true:=by
     cases ai:d.lt l j with
     |true=>rfl
     |false=>exact absurd hx ((hl.touch l j u v bT hv (hd.free j bc l h ai).1).1 x bG)
    simp only[h,decide_true];exact dm l h ai
   ·subst h;simp only[Nat.lt_irrefl,decide_false];exact dI
   ·have ai:d.lt j l=true:=by
     cases ai:d.lt j l with
     |true=>rfl
     |false=>exact absurd hx ((hl.touch j l v u hv bT (hd.free l aV j h ai).1).2 x bG)
    have:¬ l<j:=by omega
    simp only[this,decide_false];exact dp l aV h ai
 have hw:Zl (EL lv env tr A lv.length) v.guard=some true:=by rw[HM (fun x b' hg=>fv x (HD hg))];exact tL
 have jA:∀ x∈v.op.opds,Q5 (EL lv env tr A lv.length) x=Q5 (EL lv env tr (fun _=>true) j) x:=fun x hx=>Hx fun t ht=>fv t (Ls (ht▸hx));obtain⟨dk,bG,bK⟩:=NC hc hL hw;have df:∀ tr:Nat→Value,EL lv env tr A' lv.length=Js (EL lv env tr A lv.length) v.dst (tr j):=fun tr=>by
  apply List.ext_getElem?;intro x;by_cases hx:v.dst=some x
  ·have h1:(EL lv env tr A' lv.length)[x]?=(EL lv env tr (fun l=>decide (l<j+1)) lv.length)[x]?:=by
    refine Ny lv env tr x lv.length fun l aV br=>?_;rw[bg];by_cases fJ:l=j
    ·subst fJ;simp
    ·rw[if_neg fJ];cases bT:lv[l]? with
     |none=>rw[bT] at br;cases br
     |some u =>
      rw[bT] at br;have jB:=LQ hx;rcases Nat.lt_or_ge l j with h|h
      ·have ai:d.lt l j=true:=by
        cases ai:d.lt l j with
        |true=>rfl
        |false=>exact absurd jB ((hl.touch l j u v bT hv (hd.free j bc l h ai).1).1 x br)
       have:l<j+1:=by omega
       simp only[this,decide_true];exact dm l h ai
      ·have h':j<l:=by omega
       have ai:d.lt j l=true:=by
        cases ai:d.lt j l with
        |true=>rfl
        |false=>exact absurd jB ((hl.touch j l v u hv bT (hd.free l aV j h' ai).1).2 x br)
       have:¬ l<j+1:=by omega
       simp only[this,decide_false];exact dp l aV h' ai
   rw[h1,Mg lv env tr (j+1) lv.length (by omega)];simp only[EL,if_true,hv,Option.bind_some,hx,Js];rw[List.getElem?_set,List.getElem?_set];simp only[if_true,Y3]
  ·rw[Y4 _ _ _ hx];refine Ny lv env tr x lv.length fun l aV br=>?_;rw[bg];split
   ·rename_i h;subst h;rw[hv] at br;exact absurd br hx
   ·rfl
 have cw:∀ i,i<lv.length→A' i=true→∀ e∈d.ed.getD i [],A' e=true:=by
  intro i hi hA e he;rw[bg] at hA ⊢;split
  ·rfl
  ·by_cases cm:i=j
   ·subst cm;exact dJ e he
   ·rw[if_neg cm] at hA;exact bQ i hi hA e he
 have j8:d.k j=2→d.rank j=m:=by
  intro au;have h1:¬ d.rank j<m:=fun h=>by rw[(hm j bc au).2 h] at dI;cases dI
  by_cases h2:d.rank j=m
  ·exact h2
  ·obtain⟨l,fJ,bq,fg⟩:=Ku d j m (by omega);have ai:d.lt l j=true:=by
    cases ai:d.lt l j with
    |true=>rfl
    |false=>exact absurd ⟨bq,au⟩ (hd.free j bc l fJ ai).2
   have:=(hm l (by omega) bq).1 (dm l fJ ai);omega
 have eT:d.k j=2→∀ l,l<lv.length→d.k l=2→(A' l=true↔d.rank l<m+1):=by
  intro au l aV bq;rw[bg];have fX:=j8 au;split
  ·rename_i h;subst h;simp;omega
  ·rename_i h;rw[hm l aV bq];have:d.rank l≠m:=by
    rcases Nat.lt_or_ge l j with h'|h'
    ·have:=N9 d h' bq;omega
    ·have:=N9 d (show j<l by omega) au;omega
   omega
 have gL:d.k j≠2→∀ l,l<lv.length→d.k l=2→(A' l=true↔d.rank l<m):=by intro au l aV bq;rw[bg,if_neg (by rintro rfl;exact au bq)];exact hm l aV bq
 have jC:d.k j=2→m+1≤d.rank lv.length:=fun au=>by have:=N9 d bc au;have:=j8 au;omega
 unfold wpOpIn;simp only[ho];rw[dk,if_pos rfl];have au:d.k j=2:=hk.trans pX;have fX:=j8 au;rw[fX,←RM jA] at fU;refine K0 hS bK hH hL fU fun c w' ⟨u,ρ',σ',hR,d_,gw,bY⟩=>hK u σ' _ _ hR fun tr' bE t1 t2 t3 t4=>⟨cw,m+1,ρ',eT au,jC au,?_,?_,?_,?_⟩
 ·rw[←fX,t4];exact gw
 ·have e0:EL lv env tr' A lv.length=EL lv env tr A lv.length:=Q5g lv env lv.length fun l aV hA=>t1 l (by
   rcases Nat.lt_or_ge l j with h|h
   ·exact h
   ·rw[nc l h aV] at hA;cases hA)
  rw[←fX,t4,df tr',e0,bG,t2];exact WK (bY.lrel hL) d_ o.dst
 ·rw[Jm];exact dq.ext hH bY
 ·rw[←fX,t4];exact hE.trans bY
theorem Q9s {ops:Array Oper}{pm:List Nat}{d:DInfo}{lv:List VOper}(_hl:DLink P ops pm d lv) {env:Env}{tr:Nat→Value}{hp:Nat→Heap}{ρ0:Plc}{σ0:Heap}{w0:World}{A:Nat→Bool}{a:Act}{w:World}
  (hI:DInv B d lv env tr hp ρ0 σ0 w0 A a w) (hall:∀ j,j<lv.length→A j=true):GP B (List.length env) ρ0 σ0 w0 (fun ah σ'=>ah=EL lv env tr (fun _=>true) lv.length∧σ'=hp (d.rank lv.length)) a w:=by
 obtain⟨bQ,m,ρ,hm,na,hH,hL,dq,hE⟩:=hI;have iv:m=d.rank lv.length:=by
  rcases Nat.lt_or_ge m (d.rank lv.length) with h|h
  ·obtain⟨l,h1,h2,h3⟩:=Ku d _ _ h;have:=(hm l h1 h2).1 (hall l h1);omega
  ·omega
 subst iv;have e:=Yr lv env (tr:=tr) (tr':=tr) (A:=A) (B:=fun _=>true) lv.length (fun _ _=>rfl) (fun l hl=>hall l hl);exact⟨_,ρ,_,⟨rfl,rfl⟩,Y3 _ _ _ _ _,hH,by rw[←e];exact hL,dq,hE⟩
def I9 (pm:List Nat) (d:DInfo) (n:Nat):(Nat→Bool)→List Nat→Prop
 |A,[]=>∀ p,p<n→A p=true
 |A,j::rest=>∃ p,p<n∧pm.getD p 0=j∧A p=false∧(∀ e∈d.ed.getD p [],A e=true)∧I9 pm d n (fun q=>if q=p then true else A q) rest
theorem Cs (hS:OkSpecs P S) {ro:Option Nat}{n:Nat}{ops:Array Oper}{pm:List Nat}{d:DInfo}{lv:List VOper}(hl:DLink P ops pm d lv) (hd:DOk d lv.length) {env:Env}{K:Env→Heap→Prop}
  {Q:Exit→Act→World→Prop}{ρ0:Plc}{σ0:Heap}{w0:World}{l2:List Nat}(hQ:∀ a w,GP B (List.length env) ρ0 σ0 w0 K a w→wpOpsIn (FF ro) n P ops Q l2 a w) {nd:List Nat}{i:Nat}{tr:Nat→Value}{hp:Nat→Heap}(tM:Know S d lv env K nd i tr hp) :
  ∀ (l:List Nat) (A:Nat→Bool) (a:Act) (w:World),I9 pm d lv.length A l→DInv B d lv env tr hp ρ0 σ0 w0 A a w→(∀ j,i≤j→j<lv.length→A j=false)→(∀ j,j∈nd→j<lv.length→A j=true)→wpOpsIn (FF ro) n P ops Q (l++l2) a w:=by
 induction tM with
 |full hF hK =>
  intro l;induction l with
  |nil =>intro A a w hs hI _ _;obtain⟨ah,ρ',σ',⟨e1,e2⟩,n1⟩:=Q9s hl hI hs;exact hQ a w ⟨ah,ρ',σ',by rw[e1,e2];exact hK,n1⟩
  |cons j rest ih =>
   intro A a w hs hI hA hN;obtain⟨p,bE,rfl,j_,he,aX⟩:=hs;rw[List.cons_append,wpOpsIn_cons];refine DC hS hl hd (hF p bE fun h=>?_) (fun m _ h=>h) hI bE j_ he (fun _=>rfl) fun a' w' ng=>ih _ a' w' aX ng (fun j h1 h2=>by omega) (fun j hj fl=>?_)
   ·rw[hN p h bE] at j_;cases j_
   ·split
    ·rfl
    ·exact hN j hj fl
 |part hv hk hw hF j5 R fU I T H hT next oS =>
  rename_i nd i tr hp v;have aP:i<lv.length:=by
   rcases Nat.lt_or_ge i lv.length with h|h
   ·exact h
   ·rw[List.getElem?_eq_none h] at hv;cases hv
  intro l;induction l with
  |nil =>intro A a w hs hI hA _;have:=hs i aP;rw[hA i (Nat.le_refl _) aP] at this;cases this
  |cons j rest ih =>
   intro A a w hs hI hA hN;obtain⟨p,bE,rfl,j_,he,aX⟩:=hs;rw[List.cons_append,wpOpsIn_cons];have jM:d.k i=2:=by obtain⟨_,_,_,h⟩:=hl.comp i v hv;exact h.trans hk
   rcases Nat.lt_trichotomy p i with gT|rfl|gT
   ·refine DC hS hl hd (hF p gT fun h=>?_) (fun m hm _=>?_) hI bE j_ he (fun _=>rfl) fun a' w' ng=>ih _ a' w' aX ng (fun j h1 h2=>?_) (fun j hj fl=>?_)
    ·rw[hN p h bE] at j_;cases j_
    ·have h1:¬ d.rank i<m:=fun h=>by
      have:=(hm i aP jM).2 h;rw[hA i (Nat.le_refl _) aP] at this;cases this
     omega
    ·rw[if_neg (by omega)];exact hA j h1 h2
    ·split
     ·rfl
     ·exact hN j hj fl
   ·refine Sq hS hl hd hv hk hw fU hI hA bE j_ he (fun _=>rfl) fun u σ' a' w' hR ng=>?_;obtain⟨q1,q2,q3,q4,q5⟩:=hT u σ' hR;refine oS u σ' hR _ _ a' w' aX (ng _ _ q2 q3 q4 q5) (fun j h1 h2=>?_) (fun j hj fl=>?_)
    ·rw[if_neg (by omega)];exact hA j (by omega) h2
    ·split
     ·rfl
     ·rename_i aF;rcases List.mem_cons.1 hj with h|h
      ·exact absurd h aF
      ·exact hN j h fl
   ·exfalso;obtain⟨e,u,h1,h2,hu,hn⟩:=j5 p gT bE;have j7:=List.getElem?_eq_getElem bE;have ai:d.lt e p=true:=by
     cases h:d.lt e p with
     |true=>rfl
     |false =>
      rcases hn with⟨x,hx,hn⟩|⟨gk,eU⟩
      ·exact absurd (hn _ j7) ((hl.touch e p u _ hu j7 (hd.free p bE e h2 h).1).1 x hx)
      ·obtain⟨_,_,_,q1⟩:=hl.comp e u hu;obtain⟨_,_,_,q2⟩:=hl.comp p _ j7;exact absurd ⟨q1.trans gk,q2.trans (eU _ j7)⟩ (hd.free p bE e h2 h).2
    have gy:A e=true:=by
     obtain⟨e',rL,h3⟩:=hd.path p bE e h2 ai;have nh:=he e' rL;rcases h3 with rfl|⟨h3,h4⟩
     ·exact nh
     ·exact Vd hd hI.closed e' (by have:=hd.edge p bE e' rL;omega) nh e h3 h4
    rw[hA e h1 (by omega)] at gy;cases gy
def Yz (ops:Array Oper):Array Bool→List Nat→Prop
 |L,[]=>∀ j,j<ops.size→L.getD j false=true
 |L,j::rest=>j∈Region.ready .any ops L∧Yz ops (L.setIfInBounds j true) rest
theorem Yx (L:Array Bool) (j i:Nat) (hj:j<L.size):(L.setIfInBounds j true).getD i false=if i=j then true else L.getD i false:=by
 by_cases h:i=j
 ·subst h;simp[hj]
 ·simp[h,Array.getElem?_setIfInBounds_ne (Ne.symm h)]
theorem EJ {ops:Array Oper}(iw:∀ (j:Nat) (o:Oper),ops[j]?=some o→∀ e∈G0 o,e<j) {L:Array Bool}(hs:L.size=ops.size) (h:Region.ready .any ops L=[]):∀ j,j<ops.size→L.getD j false=true:=by
 intro j;induction j using Nat.strongRecOn with
 |ind j ih =>
  intro hj;cases hA:L.getD j false with
  |true=>rfl
  |false =>
   exfalso;have:j∈Region.ready .any ops L:=by
    refine mem_ready.2 ⟨?_,ops[j],Array.getElem?_eq_getElem hj,fun e he hb=>?_⟩
    ·have h1:L.getD j true=L[j]:=by simp[hs,hj]
     have h2:L.getD j false=L[j]:=by simp[hs,hj]
     rw[h1,←h2];exact hA
    ·have:=iw j ops[j] (Array.getElem?_eq_getElem hj) e.on (List.mem_map.2 ⟨e,List.mem_filter.2 ⟨by simpa using he,hb⟩,rfl⟩);exact ih _ this (by omega)
   rw[h] at this;cases this
theorem GY {ops:Array Oper}{L:Array Bool}(hs:L.size=ops.size) {j:Nat}(h:j∈Region.ready .any ops L):j<ops.size∧L.getD j false=false∧∃ o,ops[j]?=some o∧∀ e∈G0 o,L.getD e false=true:=by obtain⟨h1,o,ho,h2⟩:=mem_ready.1 h;have bc:j<ops.size:=(Array.getElem?_eq_some_iff.1 ho).1;refine⟨bc,by simp[hs,bc] at h1 ⊢;exact h1,o,ho,fun e he=>?_⟩;obtain⟨x,hx,rfl⟩:=List.mem_map.1 he;obtain⟨tN,tO⟩:=List.mem_filter.1 hx;exact h2 x (by simpa using tN) tO
theorem Q0a {ops:Array Oper}(iw:∀ (j:Nat) (o:Oper),ops[j]?=some o→∀ e∈G0 o,e<j):∀ (fuel t:Nat) (L:Array Bool),L.size=ops.size→cnt (fun i=>L.getD i false) ops.size≤fuel →
  Yz ops L (Region.linearise.go .any ops fuel t L []):=by
 intro fuel;induction fuel with
 |zero =>intro t L hs hc;simp only[Region.linearise.go,List.reverse_nil,Yz];exact L3 (by omega)
 |succ fuel ih =>
  intro t L hs hc;simp only[Region.linearise.go]
  change Yz ops L (match (Region.ready .any ops L)[t % (Region.ready .any ops L).length]? with
   |some i=>Region.linearise.go .any ops fuel (t / (Region.ready .any ops L).length) (L.setIfInBounds i true) [i]
   |none=>[].reverse)
  cases hi:(Region.ready .any ops L)[t % (Region.ready .any ops L).length]? with
  |none =>
   have iz:Region.ready .any ops L=[]:=by
    cases hr:Region.ready .any ops L with
    |nil=>rfl
    |cons x xs =>rw[hr] at hi;have ai:t % (x::xs).length<(x::xs).length:=Nat.mod_lt _ (by simp);simp at hi;simp at ai;omega
   simp only[List.reverse_nil,Yz];exact EJ iw hs iz
  |some i =>
   simp only[];rw[linearise_go_acc,List.reverse_singleton,List.singleton_append];have ka:=List.mem_of_getElem? hi;obtain⟨aP,ni,_⟩:=GY hs ka;refine⟨ka,ih _ _ (by simp[hs]) ?_⟩;have iA:i<L.size:=by rw[hs];exact aP
   have:=I8 (A:=fun i=>L.getD i false) (B:=fun k=>(L.setIfInBounds i true).getD k false) (j:=i) ni (by simp only[Yx L i i iA,if_true]) (fun k hk=>by simp only[Yx L i k iA,if_neg hk]) ops.size aP;omega
theorem S2 {ops:Array Oper}:∀ (l:List Nat) (L:Array Bool),L.size=ops.size→Yz ops L l→l.Nodup∧∀ j,j∈l↔(j<ops.size∧L.getD j false=false):=by
 intro l;induction l with
 |nil=>intro L hs h;exact⟨List.nodup_nil,fun j=>⟨fun h=>(by cases h),fun ⟨h1,h2⟩=>by rw[h j h1] at h2;cases h2⟩⟩
 |cons i l ih =>
  intro L hs h;obtain⟨ka,h'⟩:=h;obtain⟨aP,ni,_⟩:=GY hs ka;have iA:i<L.size:=by rw[hs];exact aP
  obtain⟨k1,k2⟩:=ih _ (by simp[hs]) h';refine⟨List.nodup_cons.2 ⟨fun hm=>?_,k1⟩,fun j=>?_⟩
  ·have:=((k2 i).1 hm).2;rw[Yx L i i iA,if_pos rfl] at this;cases this
  ·rw[List.mem_cons,k2 j,Yx L i j iA];by_cases aM:j=i
   ·subst aM;simp[aP,ni]
   ·simp[aM]
structure DBase (ops:Array Oper) (d:DInfo):Prop where
 ed:∀ (j:Nat) (o:Oper),ops[j]?=some o→d.ed.getD j []=G0 o
 edge:∀ j,j<ops.size→∀ e∈d.ed.getD j [],e<j
 path:∀ j,j<ops.size→∀ i,i<j→d.lt i j=true→∃ e∈d.ed.getD j [],e=i∨(i<e∧d.lt i e=true)
 up:∀ i j,d.lt i j=true→i<j
 size:d.ks.length=ops.size
theorem So {ops:Array Oper}{d:DInfo}(hb:DBase ops d) {A:Nat→Bool}(hc:∀ j,j<ops.size→A j=true→∀ e∈d.ed.getD j [],A e=true):∀ j,j<ops.size→A j=true→∀ i,i<j→d.lt i j=true→A i=true:=by
 intro j;induction j using Nat.strongRecOn with
 |ind j ih =>
  intro hj hA i hi ai;obtain⟨e,he,h⟩:=hb.path j hj i hi ai;have m9:=hb.edge j hj e he;have gy:=hc j hj hA e he;rcases h with rfl|⟨h1,h2⟩
  ·exact gy
  ·exact ih e m9 (by omega) gy i h1 h2
theorem Q4t {ops:Array Oper}{d:DInfo}(hb:DBase ops d):∀ (l:List Nat) (L:Array Bool),L.size=ops.size→(∀ j,j<ops.size→L.getD j false=true→∀ e∈d.ed.getD j [],L.getD e false=true)→Yz ops L l →
  l.Pairwise fun j i=>d.lt i j=false:=by
 intro l;induction l with
 |nil=>intro L _ _ _;exact List.Pairwise.nil
 |cons j l ih =>
  intro L hs hc h;obtain⟨ka,h'⟩:=h;obtain⟨aP,ni,o,ho,iw⟩:=GY hs ka;have iA:j<L.size:=by rw[hs];exact aP
  have cM:∀ k,k<ops.size→(L.setIfInBounds j true).getD k false=true→∀ e∈d.ed.getD k [],(L.setIfInBounds j true).getD e false=true:=by
   intro k hk hA e he;rw[Yx L j e iA];split
   ·rfl
   ·rw[Yx L j k iA] at hA;split at hA
    ·rename_i tP;subst tP;rw[hb.ed _ o ho] at he;exact iw e he
    ·exact hc k hk hA e he
  obtain⟨k1,k2⟩:=S2 l _ (by simp[hs]) h';refine List.Pairwise.cons (fun i hi=>?_) (ih _ (by simp[hs]) cM h');cases ai:d.lt i j with
  |false=>rfl
  |true =>
   exfalso;have cm:=hb.up i j ai;have hA:(L.setIfInBounds j true).getD j false=true:=by rw[Yx L j j iA,if_pos rfl]
   have:=So hb cM j aP hA i cm ai;rw[((k2 i).1 hi).2] at this;cases this
theorem PY (lt:Nat→Nat→Bool):∀ (s l:List Nat) (n:Nat),s.Perm l→l.length≤n→s.Pairwise (fun j i=>lt i j=false)→s∈exts lt n l:=by
 intro s;induction s with
 |nil =>intro l n hp hn _;have:l=[]:=hp.symm.eq_nil;subst this;cases n<;>simp[exts]
 |cons k s ih =>
  intro l n hp hn hs;have hk:k∈l:=hp.mem_iff.1 (by simp);cases l with
  |nil=>cases hk
  |cons x xs =>
   cases n with
   |zero=>simp at hn
   |succ n =>
    simp only[exts];refine List.mem_flatMap.2 ⟨k,hk,?_⟩;obtain⟨h1,h2⟩:=List.pairwise_cons.1 hs;have hall:((x::xs).all fun i=>i==k||!lt i k)=true:=by
     refine List.all_eq_true.2 fun i hi=>?_;have:i∈k::s:=hp.mem_iff.2 hi;rcases List.mem_cons.1 this with rfl|h
     ·simp
     ·simp[h1 i h]
    rw[if_pos hall];refine List.mem_map.2 ⟨s,ih _ n ?_ ?_ h2,rfl⟩
    ·exact(List.cons_perm_iff_perm_erase.1 hp).2
    ·rw[List.length_erase_of_mem hk];simp at hn ⊢;omega
theorem Oj {j:Nat}:∀ (a a' b b':List Nat),j∉a→j∉a'→a++j::b=a'++j::b'→a=a':=by
 intro a;induction a with
 |nil =>
  intro a' b b' _ h' h;cases a' with
  |nil=>rfl
  |cons x a'=>simp at h;exact absurd h.1 (by rintro rfl;exact h' (by simp))
 |cons x a ih =>
  intro a' b b' h1 h2 h;cases a' with
  |nil=>simp at h;exact absurd h.1 (by rintro rfl;exact h1 (by simp))
  |cons y a' =>simp at h;obtain⟨rfl,h⟩:=h;rw[ih a' b b' (fun hm=>h1 (by simp[hm])) (fun hm=>h2 (by simp[hm])) h]
theorem Lt {ops:Array Oper}{d:DInfo}(hb:DBase ops d):∀ (l:List Nat) (L:Array Bool),L.size=ops.size→Yz ops L l→∀ pre j post,l=pre++j::post→∀ e∈d.ed.getD j [],L.getD e false=true∨e∈pre:=by
 intro l;induction l with
 |nil=>intro L _ _ pre j post h;simp at h
 |cons i l ih =>
  intro L hs h pre j post he e fY;obtain⟨ka,h'⟩:=h;obtain⟨aP,ni,o,ho,iw⟩:=GY hs ka;have iA:i<L.size:=by rw[hs];exact aP
  cases pre with
  |nil =>simp at he;obtain⟨rfl,_⟩:=he;rw[hb.ed _ o ho] at fY;exact .inl (iw e fY)
  |cons x pre =>
   simp at he;obtain⟨rfl,he⟩:=he;rcases ih _ (by simp[hs]) h' pre j post he e fY with h1|h1
   ·rw[Yx L i e iA] at h1;split at h1
    ·rename_i cK;subst cK;exact .inr (by simp)
    ·exact .inl h1
   ·exact .inr (by simp[h1])
theorem RT {d0 d:DInfo}{pm l:List Nat}(N:Nat) (hN:∀ i∈l,i<N) (jc:pm.Nodup) (fW:l.Nodup) (aQ:∀ i,i∈pm↔i∈l) (bW:∀ pre j post,l=pre++j::post→∀ e∈d0.ed.getD j [],e∈l→e∈pre)
  (iw:∀ p,p<pm.length→d.ed.getD p []=Q14 d0 pm p) (hf:pm.filter (fun i=>d0.k i==2)=l.filter (fun i=>d0.k i==2)) :
  ∀ (post pre:List Nat),l=pre++post→I9 pm d pm.length (fun q=>pre.contains (pm.getD q N)) post:=by
 intro post;induction post with
 |nil =>
  intro pre hl p hp;have hm:pm.getD p N∈pm:=by simp[List.getD_eq_getElem?_getD,hp]
  have:=(aQ _).1 hm;rw[hl,List.append_nil] at this;simpa using this
 |cons j post ih =>
  intro pre hl;have cB:j∈l:=by rw[hl];simp
  have fX:=(aQ j).2 cB;have hp:pm.idxOf j<pm.length:=List.idxOf_lt_length_of_mem fX;have rM:pm[pm.idxOf j]'hp=j:=List.getElem_idxOf hp;have hg:∀ z,pm.getD (pm.idxOf j) z=j:=fun z=>by simp[List.getD_eq_getElem?_getD,hp]
  have ke:j∉pre:=fun hm=>by rw[hl] at fW;exact(List.nodup_append.1 fW).2.2 j hm j (by simp) rfl
  refine⟨pm.idxOf j,hp,hg 0,by simp only[hg];simpa using ke,fun e he=>?_,?_⟩
  ·rw[iw _ hp] at he;rcases List.mem_append.1 he with he|he
   ·obtain⟨e0,k_,rfl⟩:=List.mem_map.1 he;rw[hg] at k_;obtain⟨jV,jt⟩:=List.mem_filter.1 k_;have jt:e0∈pm:=by simpa using jt
    have tQ:pm.idxOf e0<pm.length:=List.idxOf_lt_length_of_mem jt;have:pm.getD (pm.idxOf e0) N=e0:=by simp[List.getD_eq_getElem?_getD,tQ]
    simp only[this];have:=bW pre j post hl e0 jV ((aQ e0).1 jt);simpa using this
   ·split at he
    ·rename_i au;rw[hg] at au;obtain⟨hq,hk⟩:=List.mem_filter.1 (List.mem_of_getLast? (Option.mem_toList.1 he));have dj:e<pm.idxOf j:=List.mem_range.1 hq;have hel:e<pm.length:=by omega
     have heq:pm.getD e N=pm[e]'hel:=by simp[List.getD_eq_getElem?_getD,hel]
     have pY:pm.getD e 0=pm[e]'hel:=by simp[List.getD_eq_getElem?_getD,hel]
     rw[pY] at hk;simp only[heq];have dg:pm=pm.take (pm.idxOf j)++j::pm.drop (pm.idxOf j+1):=by conv=>lhs;rw[←List.take_append_drop (pm.idxOf j) pm,List.drop_eq_getElem_cons hp,rM]
     have pZ:j∉pm.take (pm.idxOf j):=by intro hm;have hn:=jc;rw[dg] at hn;exact(List.nodup_append.1 hn).2.2 j hm j (by simp) rfl
     have tR:(pm.take (pm.idxOf j)).filter (fun i=>d0.k i==2)++j::(pm.drop (pm.idxOf j+1)).filter (fun i=>d0.k i==2)=pre.filter (fun i=>d0.k i==2)++j::post.filter (fun i=>d0.k i==2):=by have h1:=hf;rw[dg,hl] at h1;simp only[List.filter_append,List.filter_cons,au,if_true] at h1;exact h1
     have:=Oj _ _ _ _ (fun hm=>pZ (List.mem_filter.1 hm).1) (fun hm=>ke (List.mem_filter.1 hm).1) tR;have aP:pm[e]∈(pm.take (pm.idxOf j)).filter (fun i=>d0.k i==2):=List.mem_filter.2 ⟨List.mem_take_iff_getElem.2 ⟨e,by omega,rfl⟩,hk⟩;rw[this] at aP;have:=(List.mem_filter.1 aP).1;simpa using this
    ·cases he
  ·have p6:(fun q=>if q=pm.idxOf j then true else pre.contains (pm.getD q N))=fun q=>(pre++[j]).contains (pm.getD q N):=by
    funext q
    by_cases hq:q=pm.idxOf j
    ·subst hq;simp only[if_true,hg];simp
    ·rw[if_neg hq];have aF:pm.getD q N≠j:=by
      intro he;rcases Nat.lt_or_ge q pm.length with oT|oT
      ·have h1:pm[q]=j:=by simpa [List.getD_eq_getElem?_getD,oT] using he
       exact hq ((List.getElem_inj (h₀:=oT) (h₁:=hp) jc).1 (h1.trans rM.symm))
      ·simp[List.getD_eq_getElem?_getD,List.getElem?_eq_none oT] at he;have:=hN j cB;omega
     rw[Bool.eq_iff_iff];simp only[List.contains_iff_mem,List.mem_append,List.mem_singleton,aF,or_false]
   rw[p6];exact ih (pre++[j]) (by rw[hl];simp)
theorem Eb {ops:Array Oper}{vs:List VOper}(h:ops.toList.mapM (Zn P ops)=some vs) (ak:(Yk ops.toList vs).okB=true):DBase ops (Yk ops.toList vs):=by
 have hlen:vs.length=ops.size:=by have:=(Xb _ _ _ h).1;simpa using this
 have j6:(Yk ops.toList vs).ks.length=ops.size:=by simp[Yk,hlen]
 have cY:=ak;unfold DInfo.okB at cY;rw[Bool.and_eq_true,decide_eq_true_eq] at cY;obtain⟨tS,kU⟩:=cY;have h0:∀ j,j<ops.size→(Yk ops.toList vs).okE j=true∧(Yk ops.toList vs).an.getD j 0<2 ^ j∧((List.range j).all fun i=>!((Yk ops.toList vs).lt i j)||((Yk ops.toList vs).ed.getD j []).any (fun e=>e==i||decide (i<e)&&(Yk ops.toList vs).lt i e))=true:=fun j hj=>by have:=List.all_eq_true.1 kU j (List.mem_range.2 (by rw[j6];exact hj));rw[Bool.and_eq_true,Bool.and_eq_true,decide_eq_true_eq] at this;exact this
 have nj:∀ j,j<ops.size→∀ e∈(Yk ops.toList vs).ed.getD j [],e<j:=fun j hj e he=>by have:=List.all_eq_true.1 (h0 j hj).1 e he;simpa using this
 refine⟨fun j o ho=>by simp[Yk,List.getD_eq_getElem?_getD,ho],nj,fun j hj i hi ai=>?_,fun i j ai=>?_,j6⟩
 ·have:=List.all_eq_true.1 (h0 j hj).2.2 i (List.mem_range.2 hi);simp only[ai,Bool.not_true,Bool.false_or,List.any_eq_true,Bool.or_eq_true,Bool.and_eq_true,decide_eq_true_eq,beq_iff_eq] at this;exact this
 ·rcases Nat.lt_or_ge i j with h|h
  ·exact h
  ·exfalso;unfold DInfo.lt at ai;rcases Nat.lt_or_ge j ops.size with hj|hj
   ·have h1:=(h0 j hj).2.1;have h2:(Yk ops.toList vs).an.getD j 0<2 ^ i:=Nat.lt_of_lt_of_le h1 (Nat.pow_le_pow_right (by omega) h);rw[Nat.testBit_lt_two_pow h2] at ai;cases ai
   ·have:(Yk ops.toList vs).an.getD j 0=0:=by
     rw[List.getD_eq_getElem?_getD,List.getElem?_eq_none (by rw[tS,j6];exact hj)];rfl
    rw[this,Nat.zero_testBit] at ai;cases ai
theorem Ld {t:Nat}:∀ (l:List Nat),l.Pairwise (fun j i=>¬ (i<t∧t≤j))→l=l.filter (fun i=>decide (i<t))++l.filter (fun i=>decide (t≤i))
 |[],_=>rfl
 |x::l,h=>by
  obtain⟨h1,h2⟩:=List.pairwise_cons.1 h;have ih:=Ld l h2;by_cases hx:x<t
  ·have mB:¬ t≤x:=by omega
   simp only[List.filter_cons,hx,decide_true,if_true,mB,decide_false,List.cons_append,Bool.false_eq_true,if_false];rw[←ih]
  ·have mB:t≤x:=by omega
   have iz:l.filter (fun i=>decide (i<t))=[]:=List.filter_eq_nil_iff.2 fun i hi=>by have:=h1 i hi;simp;omega
   have hall:l.filter (fun i=>decide (t≤i))=l:=List.filter_eq_self.2 fun i hi=>by have:=h1 i hi;simp;omega
   simp only[List.filter_cons,hx,decide_false,mB,decide_true,if_true,iz,hall];simp
theorem Dt (hS:OkSpecs P S) {ro:Option Nat}{n:Nat}{ops:Array Oper}{vs:List VOper}(cD:ops.toList.mapM (Zn P ops)=some vs) {d0:DInfo}(_hb:DBase ops d0) {l l2 idx pm:List Nat}(fW:l.Nodup) (ai:∀ i∈l,i<ops.size) (p7:∀ i,i∈l↔i∈idx)
  (bW:∀ pre j post,l=pre++j::post→∀ e∈d0.ed.getD j [],e∈l→e∈pre) (iv:Q6v d0 vs idx (l.filter fun i=>d0.k i==2) pm=true)
  {env:Env}{σ:Heap}{K:Env→Heap→Prop}{ρ:Plc}{w:World}{a:Act}(p8:Z6 S ((S3 d0 vs pm).opers (Kh vs pm) 0) env [σ] σ [] K) (hH:HRel ρ σ w) (hL:LRel ρ σ.n env a.tmps.toList) (dq:Mks B a.defers w)
  {Q:Exit→Act→World→Prop}(hQ:∀ a' w',GP B (List.length env) ρ σ w K a' w'→wpOpsIn (FF ro) n P ops Q l2 a' w'):wpOpsIn (FF ro) n P ops Q (l++l2) a w:=by
 have pw:vs.length=ops.size:=by have:=(Xb _ _ _ cD).1;simpa using this
 simp only[Q6v,Bool.and_eq_true,decide_eq_true_eq,List.all_eq_true,List.contains_iff_mem] at iv;obtain⟨m1,m2,m3,m4,m5⟩:=iv;have kf:∀ i,i∈pm↔i∈l:=fun i=>by rw[p7 i];exact⟨fun hi=>m2 i hi,fun hi=>m1 i hi⟩
 have gT:∀ i∈pm,i<vs.length:=fun i hi=>by have:=ai i ((kf i).1 hi);omega
 have hl:DLink P ops pm (S3 d0 vs pm) (Kh vs pm):=DLink.of cD gT;have p9:(Kh vs pm).length=pm.length:=by simp[Kh]
 have j6:(S3 d0 vs pm).ks.length=(Kh vs pm).length:=by simp[S3]
 have hd:=DOk.of m5;rw[j6] at hd;have iw:∀ p,p<pm.length→(S3 d0 vs pm).ed.getD p []=Q14 d0 pm p:=fun p hp=>by simp[S3,List.getD_eq_getElem?_getD,hp]
 have iB:=RT (d:=S3 d0 vs pm) ops.size ai m3 fW kf bW iw m4 l [] (by simp);have fH:∀ i v,(Kh vs pm)[i]?=some v→(S3 d0 vs pm).k i=v.op.kind:=fun i v hv=>(hl.comp i v hv).choose_spec.2.2;obtain⟨k,tr,hp,_,_,k2,k3⟩:=Q5q (S3 d0 vs pm) (Kh vs pm) fH env K (Kh vs pm) 0 (by omega) rfl [] (fun _=>undef) (fun _=>σ) [] (fun l hl=>by omega) (fun l hl=>by omega) (by simpa [DInfo.rank,EL] using p8);have p_:hp 0=σ:=k2 0 (by omega);have nk:(fun q=>([]:List Nat).contains (pm.getD q ops.size))=fun _=>false:=by funext q;rfl
 rw[nk] at iB;refine Cs (B:=B) (pm:=pm) hS hl hd hQ k3 l (fun _=>false) a w (by rw[p9];exact iB) ?_ (fun _ _ _=>rfl) (fun j hj=>by cases hj) (ρ0:=ρ) (σ0:=σ) (w0:=w)
 ·refine⟨fun j hj hA=>(by cases hA),0,ρ,fun l aV hk=>by simp,by omega,by rw[p_];exact hH,?_,dq,by rw[p_];exact Ext.refl _ _ _⟩;have e:EL (Kh vs pm) env tr (fun _=>false) (Kh vs pm).length=env:=by
   have:∀ m,EL (Kh vs pm) env tr (fun _=>false) m=env:=by
    intro m;induction m with
    |zero=>rfl
    |succ m ih=>simp only[EL,Bool.false_eq_true,if_false];exact ih
   exact this _
  rw[e,p_];exact hL
theorem HX (d:DInfo):∀ (lv:List VOper) (i:Nat),(∀ v∈lv,v.op.kind≠2)→∀ (env:Env) (σ:Heap) (pend:List (Nat×(Heap→Prop))) (K:Env→Heap→Prop),H6 S lv env σ K→Z6 S (d.opers lv i) env [σ] σ pend K:=by
 intro lv;induction lv with
 |nil=>intro i _ env σ pend K h;exact h
 |cons v rest ih =>
  intro i hk env σ pend K h;have au:v.op.kind≠2:=hk v (by simp);have dH:∀ u∈rest,u.op.kind≠2:=fun u hu=>hk u (by simp[hu]);simp only[H6] at h;simp only[DInfo.opers,Z6];cases hw:Zl env v.guard with
  |none=>rw[hw] at h;exact h.elim
  |some b =>
   rw[hw] at h;obtain⟨ht,hf⟩:=h;refine⟨fun e=>?_,fun e=>?_⟩
   ·have ht:=ht e;have lg:∃ p,Q8 v.op (Q5 env) σ=some p∧H6 S rest (Js env v.dst p.1) p.2 K:=by
     have cG:∀ x:XOp,v.op=.ext x→(∀ y,x≠.nextMap y):=fun x hx y hy=>by rw[hx,hy] at au;exact au rfl
     have:=ht;unfold vop at this;split at this
     ·rename_i f bR heq;rw[heq] at au;exact absurd rfl au
     ·rename_i f bR heq;rw[heq] at au;exact absurd rfl au
     ·rename_i x heq;rw[heq] at au;exact absurd rfl au
     ·cases dG:Q8 v.op (Q5 env) σ with
      |none=>rw[dG] at this;exact this.elim
      |some p=>rw[dG] at this;exact⟨p,rfl,this⟩
    obtain⟨p,hp,hr⟩:=lg;have hq:p.2=σ:=Mc au (v:=p.1) (σ':=p.2) hp;rw[hq] at hr;rw[if_neg au];split
    ·rw[hp];refine⟨fun τ hτ=>?_,ih (i+1) dH _ _ _ _ hr⟩;have:τ=σ:=by
      have:=List.mem_of_mem_drop hτ;simpa using this
     subst this;show QR (Q8 v.op (Q5 env) τ) _;rw[hp];rfl
    ·rw[hp];exact ih (i+1) dH _ _ _ _ hr
   ·rw[if_neg au];exact ih (i+1) dH _ _ _ _ (hf e)
theorem Fg (hS:OkSpecs P S) {ro:Option Nat}{n:Nat}{ops:Array Oper}{vs:List VOper}(cD:ops.toList.mapM (Zn P ops)=some vs) {d0:DInfo}(hb:DBase ops d0) (_hk0:∀ i v,vs[i]?=some v→d0.k i=v.op.kind) {s len:Nat}(hlen:0<len) (mg:s+len≤ops.size) {x:DSeg}(hx:Q8d d0 vs s len=some x)
  {l l2:List Nat}(fW:l.Nodup) (aQ:∀ i,i∈l↔(s≤i∧i<s+len)) (bW:∀ pre j post,l=pre++j::post→∀ e∈d0.ed.getD j [],e∈l→e∈pre) (gU:l.Pairwise fun j i=>d0.lt i j=false)
  {rest:List DSeg}{env:Env}{σ:Heap}{K:Env→Heap→Prop}{ρ:Plc}{w:World}{a:Act}(h:Ue S (x::rest) env σ K) (hH:HRel ρ σ w) (hL:LRel ρ σ.n env a.tmps.toList) (dq:Mks B a.defers w)
  {Q:Exit→Act→World→Prop}(hQ:∀ a' w',GP B (List.length env) ρ σ w (fun env σ=>Ue S rest env σ K) a' w'→wpOpsIn (FF ro) n P ops Q l2 a' w'):wpOpsIn (FF ro) n P ops Q (l++l2) a w:=by
 have pw:vs.length=ops.size:=by have:=(Xb _ _ _ cD).1;simpa using this
 unfold Q8d at hx;split at hx
 ·rename_i h1;subst h1;obtain rfl:=osj hx;have hs:s<ops.size:=by omega
  have dz:l=[s]:=by
   have hm:∀ i,i∈l↔i=s:=fun i=>by rw[aQ i];omega
   have hp:l.Perm [s]:=(List.perm_ext_iff_of_nodup fW (by simp)).2 fun i=>by rw[hm i];simp
   exact List.perm_singleton.1 hp
  subst dz;obtain⟨v,hv,hc⟩:=(Xb _ _ _ cD).2 s ops[s] (by simp[hs]);have hg:vs.getD s default=v:=by simp[List.getD_eq_getElem?_getD,hv]
  simp only[Ue,hg] at h;simp only[H6] at h;rw[List.singleton_append,wpOpsIn_cons];unfold wpOpIn;rw[Array.getElem?_eq_getElem hs];simp only;cases hw:Zl env v.guard with
  |none=>rw[hw] at h;exact h.elim
  |some b =>
   rw[hw] at h;obtain⟨ht,hf⟩:=h;obtain⟨dk,bG,bK⟩:=NC hc hL hw;rw[dk];cases b with
   |false =>rw[if_neg (by simp)];refine⟨fun f _=>Ao _ _,hQ _ _ ⟨_,ρ,σ,hf rfl,Z2 _ _ _,hH,by rw[bG];exact WK hL ZV _,by rw[Jm];exact dq,Ext.refl _ _ _⟩⟩
   |true =>rw[if_pos rfl];refine K0 hS bK hH hL (ht rfl) fun c w' ⟨u,ρ',σ',hK,d_,gw,hE⟩=>?_;exact hQ _ _ ⟨_,ρ',σ',hK,Z2 _ _ _,gw,by rw[bG];exact WK (hE.lrel hL) d_ _,by rw[Jm];exact dq.ext hH hE,hE⟩
 ·rename_i gk;simp only at hx;split at hx
  ·rename_i hP;obtain rfl:=osj hx;simp only[Ue] at h;have nq:(l.filter fun i=>d0.k i==2).Perm ((List.range' s len).filter fun i=>d0.k i==2):=by
    refine (List.Perm.filter _ ?_);refine (List.perm_ext_iff_of_nodup fW List.nodup_range').2 fun j=>?_;rw[aQ j,List.mem_range'_1]
   have hs:=PY d0.lt _ _ len nq (by
    refine Nat.le_trans (List.length_filter_le _ _) (by simp)) (gU.filter _)
   have iv:=List.all_eq_true.1 hP _ (List.mem_map.2 ⟨_,hs,rfl⟩);have p8:=h _ (List.mem_map.2 ⟨_,List.mem_map.2 ⟨_,hs,rfl⟩,rfl⟩);exact Dt hS cD hb fW (fun i hi=>by have:=(aQ i).1 hi;omega) (fun i=>by rw[aQ i,List.mem_range'_1]) bW iv p8 hH hL dq (fun a' w' hn=>by
    obtain⟨ah,ρ',σ',⟨aU,σ2,hD,hR⟩,n1,n2,n3,n4,n5⟩:=hn;obtain⟨ρ2,d1,d2,d3⟩:=hD ρ w ρ' w' a'.tmps.toList hH n5 n2 n3;exact hQ a' w' ⟨aU,ρ2,σ2,hR,(d1.1.trans n3.1.symm).trans n1,d2,d1,n4,d3⟩)
  ·cases hx
theorem CZ (hS:OkSpecs P S) {ro:Option Nat}{n:Nat}{ops:Array Oper}{vs:List VOper}(cD:ops.toList.mapM (Zn P ops)=some vs) {d0:DInfo}(hb:DBase ops d0) (ie:∀ i v,vs[i]?=some v→d0.k i=v.op.kind)
  {Q:Exit→Act→World→Prop}{K:Env→Heap→Prop}:∀ (f s:Nat) (aT:List DSeg),Fb d0 vs f s=some aT→s≤ops.size→∀ (l:List Nat),l.Nodup→(∀ i,i∈l↔(s≤i∧i<ops.size)) →
   (∀ pre j post,l=pre++j::post→∀ e∈d0.ed.getD j [],e∈l→e∈pre)→(l.Pairwise fun j i=>d0.lt i j=false) →
   ∀ (env:Env) (σ:Heap) (ρ:Plc) (w:World) (a:Act),Ue S aT env σ K→HRel ρ σ w→LRel ρ σ.n env a.tmps.toList→Mks B a.defers w→(∀ a' w',GP B (List.length env) ρ σ w K a' w'→Q .normal a' w') →
   wpOpsIn (FF ro) n P ops Q l a w:=by
 intro f
 have fin:∀ (s:Nat) (aT:List DSeg),s=d0.ks.length→[]=aT→∀ (l:List Nat),(∀ i,i∈l↔(s≤i∧i<ops.size))→∀ (env:Env) (σ:Heap) (ρ:Plc) (w:World) (a:Act),Ue S aT env σ K→HRel ρ σ w→LRel ρ σ.n env a.tmps.toList→Mks B a.defers w→(∀ a' w',GP B (List.length env) ρ σ w K a' w'→Q .normal a' w') →
   wpOpsIn (FF ro) n P ops Q l a w:=by
  intro s aT hs eX l aQ env σ ρ w a h hH hL dq hQ;subst eX;have:l=[]:=by
   cases l with
   |nil=>rfl
   |cons x l =>have:=(aQ x).1 (by simp);rw[hs,hb.size] at this;omega
  subst this;exact hQ a w ⟨env,ρ,σ,h,rfl,hH,hL,dq,Ext.refl _ _ _⟩
 induction f with
 |zero =>
  intro s aT eX hs l fW aQ bW gU env σ ρ w a h hH hL dq hQ;simp only[Fb] at eX;split at eX
  ·rename_i he;exact fin s aT he (osj eX) l aQ env σ ρ w a h hH hL dq hQ
  ·cases eX
 |succ f ih =>
  intro s aT eX hs l fW aQ bW gU env σ ρ w a h hH hL dq hQ;simp only[Fb] at eX;split at eX
  ·rename_i he;exact fin s aT he (osj eX) l aQ env σ ρ w a h hH hL dq hQ
  ·rename_i aF;split at eX
   ·cases eX
   ·rename_i t ht;have qa:=List.find?_some ht;have nr:=List.mem_range'_1.1 (List.mem_of_find?_eq_some ht);rw[hb.size] at nr;split at eX
    ·rename_i x r hx hr;obtain rfl:=osj eX;have ai:∀ i p,i<t→t≤p→p<ops.size→d0.lt i p=true:=fun i p hi hp jc=>by
      have h1:=List.all_eq_true.1 qa p (List.mem_range'_1.2 ⟨hp,by rw[hb.size];omega⟩);exact List.all_eq_true.1 h1 i (List.mem_range.2 hi)
     have qb:l.Pairwise (fun j i=>¬ (i<t∧t≤j)):=by refine (List.pairwise_iff_forall_sublist.2 fun {j i} jy=>?_);rintro⟨h1,h2⟩;have hj:j∈l:=jy.subset (by simp);have h3:=(List.pairwise_iff_forall_sublist.1 gU) jy;rw[ai i j h1 h2 ((aQ j).1 hj).2] at h3;cases h3
     have dg:=Ld l qb;have gL:∀ i,i∈l.filter (fun i=>decide (i<t))↔(s≤i∧i<s+(t-s)):=fun i=>by rw[List.mem_filter,aQ i,decide_eq_true_eq];omega
     have eT:∀ i,i∈l.filter (fun i=>decide (t≤i))↔(t≤i∧i<ops.size):=fun i=>by rw[List.mem_filter,aQ i,decide_eq_true_eq];omega
     rw[dg];refine Fg hS cD hb ie (by omega) (by omega) hx (fW.filter _) gL ?_ (gU.filter _) h hH hL dq ?_
     ·intro pre j post he e fY hel;refine bW pre j (post++l.filter (fun i=>decide (t≤i))) ?_ e fY (List.mem_filter.1 hel).1;exact dg.trans (by rw[he,List.append_assoc];rfl)
     ·intro a' w' ⟨ah,ρ',σ',k1,k0,k2,k3,k4,k5⟩;refine ih t r hr (by omega) _ (fW.filter _) eT ?_ (gU.filter _) ah σ' ρ' w' a' k1 k2 k3 k4 ?_
      ·intro pre j post he e fY hel;have:=bW (l.filter (fun i=>decide (i<t))++pre) j post (dg.trans (by rw[he,List.append_assoc])) e fY (List.mem_filter.1 hel).1;rcases List.mem_append.1 this with h1|h1
       ·have h2:=(List.mem_filter.1 h1).2;have h3:=(List.mem_filter.1 hel).2;simp at h2 h3;omega
       ·exact h1
      ·intro a2 w2 ⟨aU,ρ2,σ2,m1,m0,m2,m3,m4,m5⟩;exact hQ a2 w2 ⟨aU,ρ2,σ2,m1,m0.trans k0,m2,m3,m4,k5.trans m5⟩
    ·cases eX
theorem CQ (hm:P.follows .mixedOrders=true) (hS:OkSpecs P S) {ro:Option Nat}{n:Nat}{id:Nat}{ops:Array Oper}{vs:List VOper}(cD:ops.toList.mapM (Zn P ops)=some vs) {aT:List DSeg}(ak:Q1k (Yk ops.toList vs) vs=some aT)
  {env:Env}{σ:Heap}{K:Env→Heap→Prop}{ρ:Plc}{w:World}{a:Act}(h:Ue S aT env σ K) (hH:HRel ρ σ w) (hL:LRel ρ σ.n env a.tmps.toList) (dq:Mks B a.defers w)
  {Q:Exit→Act→World→Prop}(hQ:∀ a' w',GP B (List.length env) ρ σ w K a' w'→Q .normal a' w'):(Code.region id ops true).wpIn (FF ro) n P Q a w:=by
 unfold Q1k at ak;split at ak
 ·rename_i hB;have hb:=Eb cD hB;have fH:∀ i v,vs[i]?=some v→(Yk ops.toList vs).k i=v.op.kind:=fun i v hv=>by
   simp[DInfo.k,Yk,List.getD_eq_getElem?_getD,hv]
  generalize pL:Yk ops.toList vs=d0 at *
  refine wpIn_region_draw fun t=>?_;simp only[Region.schedule,hm,Bool.true_or,if_true];have fZ:∀ (j:Nat) (o:Oper),ops[j]?=some o→∀ e∈G0 o,e<j:=fun j o ho e he=>hb.edge j (Array.getElem?_eq_some_iff.1 ho).1 e (by rw[hb.ed j o ho];exact he);have hall:∀ i,(Array.replicate ops.size false).getD i false=false:=fun i=>by rw[Array.getD_eq_getD_getElem?,Array.getElem?_replicate];split<;>rfl
  have gM:=Q0a fZ ops.size t (Array.replicate ops.size false) (by simp) (by
   have:∀ m,cnt (fun i=>(Array.replicate ops.size false).getD i false) m≤m:=by
    intro m;induction m with
    |zero=>exact Nat.le_refl _
    |succ m ih=>simp only[cnt];split<;>omega
   exact this _)
  change wpOpsIn _ _ _ _ _ (Region.linearise.go .any ops ops.size t (Array.replicate ops.size false) []) _ _;generalize Region.linearise.go .any ops ops.size t (Array.replicate ops.size false) []=l at *
  obtain⟨jx,aQ⟩:=S2 l _ (by simp) gM;have gU:=Q4t hb l _ (by simp) (fun j _ hA=>by rw[hall] at hA;cases hA) gM;have bW:=Lt hb l _ (by simp) gM;refine CZ hS cD hb fH _ 0 aT ak (by omega) l jx (fun i=>by rw[aQ i,hall];simp) (fun pre j post he e fY _=>?_) gU env σ ρ _ a h hH.drew hL (dq.ext hH (Ext.drew _ _ _)) (fun a' w' hn=>?_)
  ·rcases bW pre j post he e fY with h1|h1
   ·rw[hall] at h1;cases h1
   ·exact h1
  ·obtain⟨ah,ρ',σ',n0,n1,n2,n3,n4,n5⟩:=hn;exact hQ a' w' ⟨ah,ρ',σ',n0,n1,n2,n3,n4,(Ext.drew _ _ _).trans n5⟩
 ·cases ak
theorem TG (hm:P.follows .mixedOrders=true) (hS:OkSpecs P S) {ro:Option Nat}{n:Nat}{id:Nat}{ops:Array Oper}{vs:List VOper}(cD:ops.toList.mapM (Zn P ops)=some vs) (ak:Nc (Yk ops.toList vs) vs=true)
  {env:Env}{σ:Heap}{K:Env→Heap→Prop}{ρ:Plc}{w:World}{a:Act}(h:H6 S vs env σ K) (hH:HRel ρ σ w) (hL:LRel ρ σ.n env a.tmps.toList) (dq:Mks B a.defers w)
  {Q:Exit→Act→World→Prop}(hQ:∀ a' w',GP B (List.length env) ρ σ w K a' w'→Q .normal a' w'):(Code.region id ops true).wpIn (FF ro) n P Q a w:=by
 simp only[Nc,Bool.and_eq_true] at ak;obtain⟨hB,lu,jN⟩:=ak;have hb:=Eb cD hB;have pw:vs.length=ops.size:=by have:=(Xb _ _ _ cD).1;simpa using this
 have au:∀ v∈vs,v.op.kind≠2:=fun v hv=>by have:=List.all_eq_true.1 lu v hv;simpa using this
 have fH:∀ i v,vs[i]?=some v→(Yk ops.toList vs).k i=v.op.kind:=fun i v hv=>by simp[DInfo.k,Yk,List.getD_eq_getElem?_getD,hv]
 generalize pL:Yk ops.toList vs=d0 at *
 refine wpIn_region_draw fun t=>?_;simp only[Region.schedule,hm,Bool.true_or,if_true];have fZ:∀ (j:Nat) (o:Oper),ops[j]?=some o→∀ e∈G0 o,e<j:=fun j o ho e he=>hb.edge j (Array.getElem?_eq_some_iff.1 ho).1 e (by rw[hb.ed j o ho];exact he);have hall:∀ i,(Array.replicate ops.size false).getD i false=false:=fun i=>by rw[Array.getD_eq_getD_getElem?,Array.getElem?_replicate];split<;>rfl
 have gM:=Q0a fZ ops.size t (Array.replicate ops.size false) (by simp) (by
  have:∀ m,cnt (fun i=>(Array.replicate ops.size false).getD i false) m≤m:=by
   intro m;induction m with
   |zero=>exact Nat.le_refl _
   |succ m ih=>simp only[cnt];split<;>omega
  exact this _)
 change wpOpsIn _ _ _ _ _ (Region.linearise.go .any ops ops.size t (Array.replicate ops.size false) []) _ _;generalize Region.linearise.go .any ops ops.size t (Array.replicate ops.size false) []=l at *
 obtain⟨jx,aQ⟩:=S2 l _ (by simp) gM;have bW:=Lt hb l _ (by simp) gM;have ai:∀ i∈l,i<ops.size:=fun i hi=>((aQ i).1 hi).1;have iz:l.filter (fun i=>d0.k i==2)=[]:=List.filter_eq_nil_iff.2 fun i hi=>by have aP:=ai i hi;have rN:vs[i]?=some vs[i]:=List.getElem?_eq_getElem (by omega);rw[fH i _ rN];simpa using au _ (List.mem_of_getElem? rN)
 have tT:Kh vs (List.range' 0 d0.ks.length)=vs:=by
  apply List.ext_getElem?;intro i;unfold Kh;rw[List.getElem?_map];rcases Nat.lt_or_ge i vs.length with hi|hi
  ·rw[List.getElem?_range' (by rw[hb.size];omega),List.getElem?_eq_getElem hi];simp[List.getD_eq_getElem?_getD,hi]
  ·rw[List.getElem?_eq_none (by simp[hb.size];omega),List.getElem?_eq_none hi];rfl
 have hd:=HX (S:=S) (S3 d0 vs (List.range' 0 d0.ks.length)) vs 0 au env σ [] K h;rw[←List.append_nil l];refine Dt hS cD hb jx ai (fun i=>by rw[aQ i,hall,List.mem_range'_1,hb.size];simp) (fun pre j post he e fY _=>?_) (idx:=List.range' 0 d0.ks.length) (pm:=List.range' 0 d0.ks.length) (by rw[iz];exact jN) (by rw[tT];exact hd) hH.drew hL (dq.ext hH (Ext.drew _ _ _)) (fun a' w' hn=>?_)
 ·rcases bW pre j post he e fY with h1|h1
  ·rw[hall] at h1;cases h1
  ·exact h1
 ·obtain⟨ah,ρ',σ',n0,n1,n2,n3,n4,n5⟩:=hn;exact hQ a' w' ⟨ah,ρ',σ',n0,n1,n2,n3,n4,(Ext.drew _ _ _).trans n5⟩
theorem RS (hS:OkSpecs P S) {id:Nat}{ops:Array Oper}{lv:List VOper}(bT:ops.toList.mapM (Zn P ops)=some lv):Sound P S (.region id ops false) (.region lv):=by intro B cZ ro n Q env σ ρ w a h hH hL hd hR Q' hQ;simp only[vwp] at h;refine wpIn_region ?_;rw[List.range_eq_range',←Array.length_toList,wpOpsIn_eq_wpListIn ops.toList 0 (by simp)];exact Ad hS ops Q' ops.toList lv bT env σ _ ρ w a h hH hL hd (fun a' w' hn=>hQ .normal a' w' hn)
theorem cond_true {v:Value}{A B:Prop}(h:EF v A B):∃ t,v=.bool t∧(t=true→A)∧(t=false→B):=by
 unfold EF at h;split at h
 ·exact⟨_,rfl,h⟩
 ·exact h.elim
theorem Au {c:Code}{vc:VCode}(ih:Sound P S c vc):Sound P S (.loop c) (.loop vc):=by
 intro B cZ ro n Q env σ ρ w a h hH hL hd hR Q' hQ;simp only[vwp] at h;obtain⟨live,I,n0,h0,lx⟩:=h;refine wpIn_loop_ghost (fun k a' w'=>GP B (List.length env) ρ σ w (fun ah σ'=>I k (GH live ah) σ') a' w') n0 ⟨env,ρ,σ,h0,rfl,hH,hL,hd,Ext.refl _ _ _⟩ ?_;rintro k a1 w1 ⟨bu,ρ1,σ1,k1,k0,k2,k3,k4,k5⟩;have hlen:List.length (JJ live (GH live bu) (List.replicate env.length poison))=List.length env:=by rw[Pe];simp
 refine ih cZ ro n _ _ σ1 ρ1 w1 a1 (lx k (GH live bu) σ1 k1) k2 (AM live bu _ _ k3 (A0 _ (by rw[←k3.1,k0]))) k4 (hR.ext k5) _ ?_;rintro e a2 w2 ⟨aU,ρ2,σ2,m1,m0,m2,m3,m4,m5⟩;rw[hlen] at m0;cases e with
 |normal =>obtain⟨n',ml,hI⟩:=m1;exact⟨n',ml,aU,ρ2,σ2,hI,m0,m2,m3,m4,k5.trans m5⟩
 |_=>exact hQ _ a2 w2 ⟨aU,ρ2,σ2,m1,m0,m2,m3,m4,k5.trans m5⟩
theorem NO (c:Code):Sound P S c .bad:=by intro B cZ ro n Q env σ ρ w a h;exact h.elim
theorem CE (hm:P.follows .mixedOrders=true) (hS:OkSpecs P S):∀ (c:Code) (vc:VCode),comp P c=some vc→Sound P S c vc:=by
 intro c;induction c with
 |skip =>intro vc hc;simp[comp] at hc;subst hc;intro B cZ ro n Q env σ ρ w a h hH hL hd hR Q' hQ;exact wpIn_skip (hQ _ _ _ ⟨env,ρ,σ,h,rfl,hH,hL,hd,Ext.refl _ _ _⟩)
 |region id ops dr =>
  intro vc hc;cases dr with
  |false =>simp only[comp,Option.bind_eq_bind,Option.bind_eq_some_iff] at hc;obtain⟨lv,bT,hc⟩:=hc;simp at hc;subst hc;exact RS hS bT
  |true =>
   simp only[comp,Option.bind_eq_bind,Option.bind_eq_some_iff] at hc;obtain⟨lv,bT,hc⟩:=hc;split at hc
   ·rename_i ak;simp at hc;subst hc;intro B cZ ro n Q env σ ρ w a h hH hL hd hR Q' hQ;exact TG hm hS bT ak h hH hL hd (fun a' w' hn=>hQ .normal a' w' hn)
   split at hc
   ·rename_i aT ak;simp at hc;subst hc;intro B cZ ro n Q env σ ρ w a h hH hL hd hR Q' hQ;exact CQ hm hS bT ak h hH hL hd (fun a' w' hn=>hQ .normal a' w' hn)
   ·simp at hc;subst hc;exact NO _
 |seq x y jD nu =>
  intro vc hc;simp only[comp,Option.bind_eq_bind,Option.bind_eq_some_iff] at hc;obtain⟨vx,hx,vy,hy,hc⟩:=hc;simp at hc;subst hc;intro B cZ ro n Q env σ ρ w a h hH hL hd hR Q' hQ;simp only[vwp] at h;refine wpIn_seq (jD vx hx cZ ro n _ env σ ρ w a h hH hL hd hR _ ?_);rintro e a1 w1 ⟨bu,ρ1,σ1,k1,k0,k2,k3,k4,k5⟩;cases e with
  |normal =>refine nu vy hy cZ ro n _ bu σ1 ρ1 w1 a1 k1 k2 k3 k4 (hR.ext k5) _ ?_;rintro e2 a2 w2 ⟨aU,ρ2,σ2,m1,m0,m2,m3,m4,m5⟩;exact hQ e2 a2 w2 ⟨aU,ρ2,σ2,m1,m0.trans k0,m2,m3,m4,k5.trans m5⟩
  |_=>exact hQ _ a1 w1 ⟨bu,ρ1,σ1,k1,k0,k2,k3,k4,k5⟩
 |cond c x y jD nu =>
  intro vc hc;simp only[comp] at hc;split at hc
  ·rename_i ak;simp only[Option.bind_eq_bind,Option.bind_eq_some_iff] at hc;obtain⟨vx,hx,vy,hy,hc⟩:=hc;simp at hc;subst hc;intro B cZ ro n Q env σ ρ w a h hH hL hd hR Q' hQ;simp only[vwp] at h;obtain⟨t,ht,h1,h2⟩:=cond_true h;have hv:=Xd hL ak;rw[ht] at hv;refine wpIn_cond_split hv.bool_inv (fun e=>?_) (fun e=>?_)
   ·exact jD vx hx cZ ro n Q env σ ρ w a (h1 e) hH hL hd hR Q' hQ
   ·exact nu vy hy cZ ro n Q env σ ρ w a (h2 e) hH hL hd hR Q' hQ
  ·simp at hc;subst hc;exact NO _
 |block id x jD =>
  intro vc hc;simp only[comp,Option.bind_eq_bind,Option.bind_eq_some_iff] at hc;obtain⟨vx,hx,hc⟩:=hc;simp at hc;subst hc;intro B cZ ro n Q env σ ρ w a h hH hL hd hR Q' hQ;simp only[vwp] at h;refine wpIn_block (jD vx hx cZ ro n _ env σ ρ w a h hH hL hd hR _ ?_);rintro e a1 w1 ⟨bu,ρ1,σ1,k1,k0,k2,k3,k4,k5⟩;cases e with
  |exit g_ =>
   simp only[Lm] at k1;simp only[Exit.inBlock];split at k1
   ·rename_i he;rw[if_pos he];exact hQ _ a1 w1 ⟨bu,ρ1,σ1,k1,k0,k2,k3,k4,k5⟩
   ·rename_i he;rw[if_neg he];exact hQ _ a1 w1 ⟨bu,ρ1,σ1,k1,k0,k2,k3,k4,k5⟩
  |_=>exact hQ _ a1 w1 ⟨bu,ρ1,σ1,k1,k0,k2,k3,k4,k5⟩
 |loop x jD =>intro vc hc;simp only[comp,Option.bind_eq_bind,Option.bind_eq_some_iff] at hc;obtain⟨vx,hx,hc⟩:=hc;simp at hc;subst hc;exact Au (jD vx hx)
 |rangeFunc g ps x y jD nu =>
  intro vc hc;simp only[comp] at hc;split at hc
  ·rename_i ak;simp only[Option.bind_eq_bind,Option.bind_eq_some_iff] at hc;obtain⟨vx,hx,vy,hy,hc⟩:=hc;simp at hc;subst hc;exact S0 hS (jD vx hx) (nu vy hy) g ak ps
  ·simp at hc;subst hc;exact NO _
 |exit id =>intro vc hc;simp[comp] at hc;subst hc;intro B cZ ro n Q env σ ρ w a h hH hL hd hR Q' hQ;exact wpIn_exit (hQ _ _ _ ⟨env,ρ,σ,h,rfl,hH,hL,hd,Ext.refl _ _ _⟩)
 |ret =>intro vc hc;simp[comp] at hc;subst hc;intro B cZ ro n Q env σ ρ w a h hH hL hd hR Q' hQ;exact wpIn_ret (hQ _ _ _ ⟨env,ρ,σ,h,rfl,hH,hL,hd,Ext.refl _ _ _⟩)
 |_ =>intro vc hc;simp[comp] at hc;subst hc;exact NO _
end
end Go.V
namespace Go.V
open Go
inductive Ren (n:Nat) (π:Nat→Nat):Value→Value→Prop
 |plain (v:Value) (h:Qv v=true):Ren n π v v
 |poison (c:Value):Ren n π poison c
 |glob (g o s:Nat):Ren n π (.pointer (some ⟨g,o,some s⟩)) (.pointer (some ⟨g,o,some s⟩))
 |ptr (i o:Nat) (hi:i<n):Ren n π (.pointer (some ⟨i,o,none⟩)) (.pointer (some ⟨π i,o,none⟩))
 |sl (i o len cap:Nat) (hi:i<n):Ren n π (.slice (some ⟨i,o,none⟩) len cap) (.slice (some ⟨π i,o,none⟩) len cap)
 |map (i:Nat) (hi:i<n):Ren n π (.map (some i)) (.map (some (π i)))
 |iface (t:TypeId) (v c:Value) (h:Ren n π v c):Ren n π (.iface t v) (.iface t c)
 |yield (i:Nat) (hi:i<n):Ren n π (.func (.yield i) #[] #[]) (.func (.yield (π i)) #[] #[])
 |func (fn:FuncId) (fs gs cs ds:Array Value) (hf:fs.size=gs.size) (hc:cs.size=ds.size)
   (h1:∀ i (h1:i<fs.size) (h2:i<gs.size),Ren n π fs[i] gs[i]) (h2:∀ i (h1:i<cs.size) (h2:i<ds.size),Ren n π cs[i] ds[i]):Ren n π (.func (.func fn) fs cs) (.func (.func fn) gs ds)
 |agg (cs ds:Array Value) (hc:cs.size=ds.size) (h:∀ i (h1:i<cs.size) (h2:i<ds.size),Ren n π cs[i] ds[i]):Ren n π (.agg cs) (.agg ds)
 |tuple (cs ds:Array Value) (hc:cs.size=ds.size) (h:∀ i (h1:i<cs.size) (h2:i<ds.size),Ren n π cs[i] ds[i]):Ren n π (.tuple cs) (.tuple ds)
def LRen (n:Nat) (π:Nat→Nat) (vs cs:List Value):Prop:=vs.length=cs.length∧∀ (i:Nat) (v c:Value),vs[i]?=some v→cs[i]?=some c→Ren n π v c
theorem Ren.rel {ρ:Plc}{nf n':Nat}{π:Nat→Nat}{v' v:Value}(h:Ren n' π v' v):∀ {c:Value},VRel ρ nf v c→VRel (fun i=>if i<n' then ρ (π i) else none) n' v' c:=by
 induction h with
 |plain v h =>intro c hv;have:c=v:=YH h hv;subst this;exact Xf h
 |poison c=>intro c _;exact .poison _
 |glob g o s=>intro c hv;cases hv;exact .glob _ _ _
 |ptr i o hi =>intro c hv;obtain⟨a,rfl,_,h⟩:=hv.ptr_inv';exact .ptr _ _ _ hi fun p hp=>h p (by simpa [hi] using hp)
 |sl i o len cap hi =>intro c hv;obtain⟨a,aw,rfl,_,h⟩:=hv.sl_inv;exact .sl _ _ _ _ _ _ hi fun p hp=>h p (by simpa [hi] using hp)
 |map i hi =>
  intro c hv;cases hv with
  |map _ r _ h=>exact .map _ _ hi fun p hp=>h p (by simpa [hi] using hp)
 |yield i hi =>
  intro c hv;cases hv with
  |yield _ r _ h=>exact .yield _ _ hi fun p hp=>h p (by simpa [hi] using hp)
 |iface t v c h ih =>
  intro c hv;cases hv with
  |iface _ _ _ h=>exact .iface _ _ _ (ih h)
 |func fn fs gs cs ds hf hc h1 h2 kL kM =>
  intro c hv;cases hv with
  |func _ _ vT _ ds' ly cM gV gW =>exact .func _ _ _ _ _ (hf.trans ly) (hc.trans cM) (fun i k1 k2=>kL i k1 (by omega) (gV i (by omega) k2)) (fun i k1 k2=>kM i k1 (by omega) (gW i (by omega) k2))
 |agg cs ds hc h ih =>
  intro c hv;cases hv with
  |agg _ ds' cM h'=>exact .agg _ _ (hc.trans cM) fun i k1 k2=>ih i k1 (by omega) (h' i (by omega) k2)
 |tuple cs ds hc h ih =>
  intro c hv;cases hv with
  |tuple _ ds' cM h'=>exact .tuple _ _ (hc.trans cM) fun i k1 k2=>ih i k1 (by omega) (h' i (by omega) k2)
theorem VRel.ren {ρ:Plc}{n n':Nat}{π:Nat→Nat}(hn:n≤n') (hπ:∀ i,i<n→π i=i) {v c:Value}(h:VRel ρ n v c):Ren n' π v v:=by
 induction h with
 |poison c=>exact .poison _
 |bool b=>exact .plain _ rfl
 |int k x=>exact .plain _ rfl
 |string s=>exact .plain _ rfl
 |nilPtr=>exact .plain _ rfl
 |nilSl=>exact .plain _ rfl
 |nilMap=>exact .plain _ rfl
 |nilFunc=>exact .plain _ rfl
 |nilIface=>exact .plain _ rfl
 |glob g o s=>exact .glob _ _ _
 |ptr i o a hi h=>have:=Ren.ptr (n:=n') (π:=π) i o (by omega);rwa [hπ i hi] at this
 |sl i o len cap a aw hi h=>have:=Ren.sl (n:=n') (π:=π) i o len cap (by omega);rwa [hπ i hi] at this
 |map i r hi h=>have:=Ren.map (n:=n') (π:=π) i (by omega);rwa [hπ i hi] at this
 |yield i r hi h=>have:=Ren.yield (n:=n') (π:=π) i (by omega);rwa [hπ i hi] at this
 |iface t v c _ ih=>exact .iface _ _ _ ih
 |func fn fs gs cs ds hf hc _ _ kL kM=>exact .func _ _ _ _ _ rfl rfl (fun i k1 _=>kL i k1 (by omega)) (fun i k1 _=>kM i k1 (by omega))
 |agg cs ds hc _ ih=>exact .agg _ _ rfl fun i k1 _=>ih i k1 (by omega)
 |tuple cs ds hc _ ih=>exact .tuple _ _ rfl fun i k1 _=>ih i k1 (by omega)
theorem LRen.rel {ρ:Plc}{nf n':Nat}{π:Nat→Nat}{cT vs:List Value}(h:LRen n' π cT vs) {cs:List Value}(hL:LRel ρ nf vs cs):LRel (fun i=>if i<n' then ρ (π i) else none) n' cT cs:=by
 refine⟨h.1.trans hL.1,fun i v c hv hc=>?_⟩;have ai:i<vs.length:=by rw[←h.1];exact(List.getElem?_eq_some_iff.1 hv).1
 exact(h.2 i v _ hv (List.getElem?_eq_getElem ai)).rel (hL.2 i _ c (List.getElem?_eq_getElem ai) hc)
theorem LRel.ren {ρ:Plc}{n n':Nat}{π:Nat→Nat}(hn:n≤n') (hπ:∀ i,i<n→π i=i) {vs cs:List Value}(h:LRel ρ n vs cs):LRen n' π vs vs :=
 ⟨rfl,fun i v u hv hu=>by
  obtain rfl:v=u:=osj (hv.symm.trans hu);obtain⟨c,_,hc⟩:=h.get hv;exact hc.ren hn hπ⟩
def ORen (n:Nat) (π:Nat→Nat):VObj→VObj→Prop
 |.map es clock,.map fs lz=>clock=lz∧es.length=fs.length∧∀ (k:Nat) (a b:Jk),es[k]?=some a→fs[k]?=some b→a.1=b.1∧a.2.2=b.2.2∧Ren n π a.2.1 b.2.1
 |.iter m since seen last,.iter m' lA nw ny=>m'=π m∧m<n∧since=lA∧seen=nw∧last=ny
 |.lp env r st pend,.lp ah r' mj bV=>LRen n π env ah∧r=r'∧st=mj∧pend=bV
 |_,_=>False
theorem ORen.rel {ρ:Plc}{nf n':Nat}{π:Nat→Nat}{o' o:VObj}(h:ORen n' π o' o) {O:Obj}(hO:ORel ρ nf o O):ORel (fun i=>if i<n' then ρ (π i) else none) n' o' O:=by
 cases o'<;>cases o<;>try exact h.elim
 ·obtain⟨rfl,hl,hk⟩:=h;obtain⟨entries,h1,h2,h3⟩:=hO;refine⟨entries,h1,by rw[hl];exact h2,fun k a ha=>?_⟩;have bq:=(List.getElem?_eq_some_iff.1 ha).1;rw[hl] at bq;obtain⟨e,he,h4,h5,h6⟩:=h3 k _ (List.getElem?_eq_getElem bq);obtain⟨k1,k2,k3⟩:=hk k a _ ha (List.getElem?_eq_getElem bq);exact⟨e,he,h4.trans k1.symm,h5.trans k2.symm,k3.rel h6⟩
 ·obtain⟨rfl,hm,rfl,rfl,rfl⟩:=h;obtain⟨rm,h1,h2⟩:=hO;exact⟨rm,h1,(Ren.map _ hm).rel h2⟩
 ·obtain⟨hl,rfl,rfl,rfl⟩:=h;exact⟨hO.1,hl.rel hO.2⟩
theorem ORel.ren {ρ:Plc}{n n':Nat}{π:Nat→Nat}(hn:n≤n') (hπ:∀ i,i<n→π i=i) {o:VObj}{O:Obj}(h:ORel ρ n o O):ORen n' π o o:=by
 cases o with
 |map es clock =>obtain⟨entries,h1,h2,h3⟩:=h;refine⟨rfl,rfl,fun k a b ha hb=>?_⟩;obtain rfl:a=b:=osj (ha.symm.trans hb);obtain⟨e,_,_,_,hv⟩:=h3 k a ha;exact⟨rfl,rfl,hv.ren hn hπ⟩
 |iter m since seen last =>
  obtain⟨rm,h1,h2⟩:=h;cases h2 with
  |map _ _ hi _=>exact⟨(hπ m hi).symm,by omega,rfl,rfl,rfl⟩
 |lp env r st pend=>exact⟨h.2.ren hn hπ,rfl,rfl,rfl⟩
def BRen (n:Nat) (π:Nat→Nat):Blk→Blk→Prop
 |.cells c esz wr tight,.cells d nz kY iC=>esz=nz∧wr=kY∧tight=iC∧LRen n π c d
 |.obj o wr,.obj o' kY=>wr=kY∧ORen n π o o'
 |_,_=>False
theorem BRen.wr {n:Nat}{π:Nat→Nat}{b c:Blk}(h:BRen n π b c):b.wr=c.wr:=by cases b<;>cases c<;>first|(exact h.elim)|exact h.2.1|exact h.1
theorem BRen.rel {ρ:Plc}{nf n':Nat}{π:Nat→Nat}{p:Pl}{w:World}{b' b:Blk}(h:BRen n' π b' b) (hB:BRel ρ nf p w b):BRel (fun i=>if i<n' then ρ (π i) else none) n' p w b':=by
 cases b' with
 |cells c esz wr tight =>
  cases b with
  |cells d nz kY iC =>
   obtain⟨rfl,rfl,rfl,hl⟩:=h;obtain⟨h1,h2,h3,h4,h5,h6⟩:=hB;refine⟨h1,h2,by rw[hl.1];exact h3,h4,fun k v hk=>?_,h6⟩;have bq:k<d.length:=by rw[←hl.1];exact(List.getElem?_eq_some_iff.1 hk).1
   obtain⟨u,hu,hv⟩:=h5 k _ (List.getElem?_eq_getElem bq);exact⟨u,hu,(hl.2 k v _ hk (List.getElem?_eq_getElem bq)).rel hv⟩
  |obj _ _=>exact h.elim
 |obj o wr =>
  cases b with
  |cells _ _ _ _=>exact h.elim
  |obj o' kY =>obtain⟨rfl,ho⟩:=h;obtain⟨h0,O,h1,h2⟩:=hB;exact⟨h0,O,h1,ho.rel h2⟩
def VObj.plain:VObj→Bool
 |.map es _=>es.all fun kv=>Qv kv.2.1
 |_=>false
def Blk.plain:Blk→Bool
 |.cells c _ _ _=>c.all Qv
 |.obj o _=>o.plain
theorem LRen.plain {n:Nat}{π:Nat→Nat}{c:List Value}(h:c.all Qv=true):LRen n π c c :=
 ⟨rfl,fun i v u hv hu=>by
  obtain rfl:v=u:=osj (hv.symm.trans hu);exact .plain _ (List.all_eq_true.1 h v (List.mem_of_getElem? hv))⟩
theorem BRen.plain {n:Nat}{π:Nat→Nat}{b:Blk}(h:b.plain=true):BRen n π b b:=by
 cases b with
 |cells c esz wr tight=>exact⟨rfl,rfl,rfl,LRen.plain h⟩
 |obj o wr =>
  cases o with
  |map es clock =>refine⟨rfl,rfl,rfl,fun k a b ha hb=>?_⟩;obtain rfl:a=b:=osj (ha.symm.trans hb);exact⟨rfl,rfl,.plain _ (List.all_eq_true.1 h a (List.mem_of_getElem? ha))⟩
  |_=>cases h
theorem BRel.ren {ρ:Plc}{n n':Nat}{π:Nat→Nat}(hn:n≤n') (hπ:∀ i,i<n→π i=i) {p:Pl}{w:World}{b:Blk}(h:BRel ρ n p w b):BRen n' π b b:=by
 cases b with
 |cells c esz wr tight =>refine⟨rfl,rfl,rfl,rfl,fun i v u hv hu=>?_⟩;obtain rfl:v=u:=osj (hv.symm.trans hu);obtain⟨_,_,tU⟩:=h.2.2.2.2.1 i v hv;exact tU.ren hn hπ
 |obj o wr =>obtain⟨_,O,_,ho⟩:=h;exact⟨rfl,ho.ren hn hπ⟩
def DropTo (σ0:Heap) (v:Value) (σf:Heap) (v':Value) (σ':Heap):Prop :=
 ∀ ρ0 w0 ρ w c,HRel ρ0 σ0 w0→Ext ρ0 σ0 w0 ρ σf w→HRel ρ σf w→VRel ρ σf.n v c→∃ ρ',VRel ρ' σ'.n v' c∧HRel ρ' σ' w∧Ext ρ0 σ0 w0 ρ' σ' w
theorem DropTo.refl (σ0:Heap) (v:Value) (σf:Heap):DropTo σ0 v σf v σf:=fun _ _ ρ _ _ _ hE hH hv=>⟨ρ,hv,hH,hE⟩
theorem DropTo.rename {σ0 σf σ':Heap}{v v':Value}(π:Nat→Nat) (h1:σ0.n≤σ'.n)
  (h2:∀ i,i<σ0.n→π i=i∧σ'.get i=σf.get i∧(σf.get i=σ0.get i∨∃ b,σf.get i=some b∧b.plain=true))
  (h3:∀ i,σ0.n≤i→i<σ'.n→σ0.n≤π i∧∃ b' b,σ'.get i=some b'∧σf.get (π i)=some b∧BRen σ'.n π b' b)
  (h4:∀ i j,σ0.n≤i→i<σ'.n→σ0.n≤j→j<σ'.n→π i=π j→i=j) (h5:Ren σ'.n π v' v):DropTo σ0 v σf v' σ':=by
 intro ρ0 w0 ρ w c fT hE hH hv;have hπ:∀ i,i<σ0.n→π i=i:=fun i hi=>(h2 i hi).1;have aG:∀ i b',σ'.get i=some b'→∃ b,σf.get (π i)=some b∧BRen σ'.n π b' b:=fun i b' hb=>by
  have hi:=σ'.lt hb;rcases Nat.lt_or_ge i σ0.n with ai|bA
  ·obtain⟨k1,k2,k3⟩:=h2 i ai;rw[k1];rw[k2] at hb;refine⟨b',hb,?_⟩;rcases k3 with k3|⟨b,k3,k4⟩
   ·rw[k3] at hb;obtain⟨p,_,hB⟩:=fT.live i b' hb;exact hB.ren h1 hπ
   ·rw[k3] at hb;obtain rfl:=osj hb;exact BRen.plain k4
  ·obtain⟨_,b1,b,k1,k2,k3⟩:=h3 i bA hi;rw[k1] at hb;obtain rfl:=osj hb;exact⟨b,k2,k3⟩
 have eY:∀ i j,i<σ'.n→j<σ'.n→π i=π j→i=j:=fun i j hi hj he=>by
  rcases Nat.lt_or_ge i σ0.n with ai|bA<;>rcases Nat.lt_or_ge j σ0.n with bZ|iD
  ·rw[hπ i ai,hπ j bZ] at he;exact he
  ·have:=(h3 j iD hj).1;rw[hπ i ai] at he;omega
  ·have:=(h3 i bA hi).1;rw[hπ j bZ] at he;omega
  ·exact h4 i j bA hi iD hj he
 have hX:Ext ρ0 σ0 w0 (fun i=>if i<σ'.n then ρ (π i) else none) σ' w:=by
  refine⟨hE.os,hE.tape,hE.output,hE.size,hE.keep,?_,h1,fun i hi p hp=>?_⟩
  ·rintro B hB ⟨i,p,b,hp,hb,hw,rfl⟩;change (if i<σ'.n then ρ (π i) else none)=some p at hp;split at hp
   ·obtain⟨b0,bC,cg⟩:=aG i b hb;exact hE.wr _ hB ⟨π i,p,b0,hp,bC,by rw[←cg.wr];exact hw,rfl⟩
   ·cases hp
  ·change (if i<σ'.n then ρ (π i) else none)=some p at hp;split at hp
   ·rw[hπ i hi] at hp;exact hE.pl i hi p hp
   ·cases hp
 refine⟨fun i=>if i<σ'.n then ρ (π i) else none,h5.rel hv,fT.ext ⟨fun i b' hb=>?_,fun i hi=>?_,fun i p hp=>?_,fun i j p q b cm hp hq hb hw hx=>?_⟩ hX,hX⟩
 ·obtain⟨b,bC,cg⟩:=aG i b' hb;obtain⟨p,hp,hB⟩:=hH.live _ b bC;exact⟨p,by simp[σ'.lt hb,hp],cg.rel hB⟩
 ·show (if i<σ'.n then ρ (π i) else none)=none;split
  ·rename_i ai;rcases Nat.lt_or_ge i σ0.n with bZ|bA
   ·obtain⟨k1,k2,_⟩:=h2 i bZ;rw[k1];exact hH.dead i (by rw[←k2];exact hi)
   ·obtain⟨_,b1,b,k1,_⟩:=h3 i bA ai;rw[k1] at hi;cases hi
  ·rfl
 ·change (if i<σ'.n then ρ (π i) else none)=some p at hp;split at hp
  ·exact hH.lt _ p hp
  ·cases hp
 ·change (if i<σ'.n then ρ (π i) else none)=some p at hp;change (if j<σ'.n then ρ (π j) else none)=some q at hq;split at hp
  ·rename_i hi;split at hq
   ·rename_i hj;obtain⟨b0,bC,cg⟩:=aG i b hb;exact hH.sep (π i) (π j) p q b0 (fun e=>cm (eY i j hi hj e)) hp hq bC (by rw[←cg.wr];exact hw) hx
   ·cases hq
  ·cases hp
def Agree (σ0 σf:Heap):Prop:=∀ i,i<σ0.n→σf.get i=σ0.get i
theorem Agree.refl (σ:Heap):Agree σ σ:=fun _ _=>rfl
theorem Agree.push {σ0 σ:Heap}(h:Agree σ0 σ) (hn:σ0.n≤σ.n) (b:Blk):Agree σ0 (σ.push b):=fun i hi=>(Heap.get_push_lt σ b (by omega)).trans (h i hi)
theorem Agree.trans {σ0 σ1 σ2:Heap}(h:Agree σ0 σ1) (k:Agree σ1 σ2) (hn:σ0.n≤σ1.n):Agree σ0 σ2:=fun i hi=>(k i (by omega)).trans (h i hi)
section
variable {P:Program}{S:VSpecs}
def K2 (tmps:Array Value):ResultVar→Sem Value
 |.tmp t=>pure (tmps.getD t undef)
 |.cell a t=>do loadVar t (←asAddr (tmps.getD a undef))
theorem Hm (fn:Func) (tmps:Array Value):results fn tmps=(do
  let vs ←fn.results.mapM (K2 tmps)
  pure (if h:vs.size=1 then vs[0] else .tuple vs)):=by
 unfold results;congr 1
theorem PH {ρ:Plc}{σ:Heap}{w:World}{env:Env}{tmps:Array Value}(hH:HRel ρ σ w) (hL:LRel ρ σ.n env tmps.toList) {r:ResultVar}{vr:VResult}
  (hc:ZW P r=some vr) {v:Value}(h:ZO env σ vr=some v):∃ c,VRel ρ σ.n v c∧(K2 tmps r).run P w=.ok c w:=by
 have al:∀ t,VRel ρ σ.n (env.getD t undef) (tmps.getD t undef):=fun t=>Xd (a:=⟨tmps,[]⟩) hL (x:=.tmp t) rfl;cases r with
 |tmp t =>simp[ZW] at hc;subst hc;simp only[ZO,Option.some.injEq] at h;subst h;exact⟨_,al t,rfl⟩
 |cell a t =>
  simp only[ZW] at hc;split at hc
  ·rename_i i d hi hu;simp at hc;subst hc;simp only[ZO,Option.map_eq_some_iff] at h;obtain⟨p,hp,rfl⟩:=h;simp only[Q8,Q5] at hp;have ha:=al a;split at hp
   ·rename_i g o s h1;rw[h1] at ha;split at hp
    ·rename_i c hb;split at hp
     ·rename_i hall;split at hp
      ·rename_i v0 hv;simp at hp;subst hp;obtain⟨u,cC,hr⟩:=To hH hi hu hb hall hv ha;refine⟨u,cC,?_⟩;have:=hr w (Like.refl ρ w);have nB:tmps.getD a undef=.pointer (some ⟨g,o,none⟩):=by
        generalize tmps.getD a undef=c at ha;cases ha;rfl
       rw[nB] at this;simp only[Instr.loadAt,Instr.sureAddr,Sem.run_bind,Sem.run_pure,Result.andThen_ok] at this;simp only[K2,nB,asAddr,Sem.run_bind,Sem.run_pure,Result.andThen_ok];exact this
      ·cases hp
     ·cases hp
    ·cases hp
   ·rename_i i' o h1;rw[h1] at ha;split at hp
    ·rename_i c esz wr tight hb;split at hp
     ·rename_i v0 hv;simp at hp;subst hp;obtain⟨u,cC,hr⟩:=L9 hH hi hu hb hv ha;refine⟨u,cC,?_⟩;have:=hr w (Like.refl ρ w);obtain⟨ad,nB,_⟩:=ha.ptr_inv';rw[nB] at this;simp only[Instr.loadAt,Instr.sureAddr,Sem.run_bind,Sem.run_pure,Result.andThen_ok] at this;simp only[K2,nB,asAddr,Sem.run_bind,Sem.run_pure,Result.andThen_ok];exact this
     ·cases hp
    ·cases hp
   ·cases hp
  ·cases hc
theorem SP {α:Type}{ρ:Plc}{n:Nat}(g:α→Sem Value) (w:World) (f:α→Option Value):∀ (l:List α) (vs:List Value),l.mapM f=some vs →
  (∀ a∈l,∀ v,f a=some v→∃ c,VRel ρ n v c∧(g a).run P w=.ok c w)→∃ cs,LRel ρ n vs cs∧(l.mapM g).run P w=.ok cs w:=by
 intro l;induction l with
 |nil=>intro vs h _;simp at h;subst h;exact⟨[],LRel.nil _ _,rfl⟩
 |cons a l ih =>
  intro vs h hg;rw[List.mapM_cons] at h;cases hf:f a with
  |none=>simp[hf] at h
  |some v =>
   cases hm:l.mapM f with
   |none=>simp[hf,hm] at h
   |some cT =>simp[hf,hm] at h;subst h;obtain⟨c,dA,eZ⟩:=hg a (by simp) v hf;obtain⟨cs,qc,jE⟩:=ih cT hm (fun b hb=>hg b (by simp[hb]));refine⟨c::cs,LRel.cons dA qc,?_⟩;rw[List.mapM_cons];simp[eZ,jE]
theorem H2 {ρ:Plc}{σ:Heap}{w:World}{env:Env}{tmps:Array Value}(hH:HRel ρ σ w) (hL:LRel ρ σ.n env tmps.toList) {fn:Func}{rs:List VResult}
  (hc:Kq P fn.results.toList=some rs) {v:Value}(h:J4 env σ rs=some v):∃ c,VRel ρ σ.n v c∧(results fn tmps).run P w=.ok c w:=by
 unfold Kq at hc;have hall:∀ vs,rs.mapM (ZO env σ)=some vs→∃ cs,LRel ρ σ.n vs cs∧(fn.results.mapM (K2 tmps)).run P w=.ok cs.toArray w:=by
  intro vs cD;have nC:fn.results.toList.mapM (fun r=>(ZW P r).bind (ZO env σ))=some vs:=by
   have:∀ (l:List ResultVar) (rs:List VResult) (vs:List Value),l.mapM (ZW P)=some rs→rs.mapM (ZO env σ)=some vs→l.mapM (fun r=>(ZW P r).bind (ZO env σ))=some vs:=by
    intro l;induction l with
    |nil=>intro rs vs h1 h2;simp at h1;subst h1;simpa using h2
    |cons r l ih =>
     intro rs vs h1 h2;rw[List.mapM_cons] at h1;cases hg:ZW P r with
     |none=>simp[hg] at h1
     |some x =>
      cases hm:l.mapM (ZW P) with
      |none=>simp[hg,hm] at h1
      |some bn =>
       simp[hg,hm] at h1;subst h1;rw[List.mapM_cons] at h2;cases hx:ZO env σ x with
       |none=>simp[hx] at h2
       |some y =>
        cases eT:bn.mapM (ZO env σ) with
        |none=>simp[hx,eT] at h2
        |some cT =>simp[hx,eT] at h2;subst h2;rw[List.mapM_cons];simp[hg,hx,ih bn cT hm eT]
   exact this _ _ _ hc cD
  obtain⟨cs,k1,k2⟩:=SP (P:=P) (ρ:=ρ) (n:=σ.n) (K2 tmps) w _ _ _ nC (fun r _ v hv=>by
   cases hr:ZW P r with
   |none=>rw[hr] at hv;cases hv
   |some vr=>rw[hr] at hv;exact PH hH hL hr hv)
  refine⟨cs,k1,?_⟩;rw[Array.mapM_eq_mapM_toList];simp[k2]
 unfold J4 at h;split at h
 ·rename_i r;obtain⟨cs,k1,k2⟩:=hall [v] (by simp[h]);have cf:cs.length=1:=by rw[←k1.1];rfl
  obtain⟨c,rfl⟩:=List.length_eq_one_iff.1 cf;refine⟨c,k1.2 0 v c rfl rfl,?_⟩;rw[Hm];simp only[Sem.run_bind];rw[k2];simp
 ·rename_i aF;simp only[Option.map_eq_some_iff] at h;obtain⟨vs,cD,rfl⟩:=h;obtain⟨cs,k1,k2⟩:=hall vs cD;refine⟨.tuple cs.toArray,VRel.tuple_of k1,?_⟩;have hl:cs.length≠1:=by
   rw[←k1.1,(Xb _ _ _ cD).1];intro e;obtain⟨r,hr⟩:=List.length_eq_one_iff.1 e;exact aF r hr
  rw[Hm];simp only[Sem.run_bind];rw[k2];simp[hl]
theorem RE {ρ:Plc}{n:Nat}(k:Nat):LRel ρ n (List.replicate k undef) (List.replicate k undef) :=
 ⟨rfl,fun i v c hv hc=>by
  obtain rfl:v=c:=osj (hv.symm.trans hc);have:=List.mem_of_getElem? hv;rw[List.mem_replicate] at this;rw[this.2];exact ZV⟩
theorem GL {w:World}{D:Nat}{ds:List Deferred}(h:w.heap[D]?=some (.deferred (some ds))):(Instr.takeDeferred D).run P w=.ok ds (Dy w D (.deferred none)):=by simp[Instr.takeDeferred,Qp h (fun _ _ _ e=>by cases e),QB h (fun _ _ _ e=>by cases e)]
theorem Ext.mark {ρ0 ρ:Plc}{σ0 σ:Heap}{w0 w:World}(hE:Ext ρ0 σ0 w0 ρ σ w) {D:Nat}(hD:w0.heap.size≤D) (O:Obj):Ext ρ0 σ0 w0 ρ σ (Dy w D O) :=
 ⟨hE.os,hE.tape,hE.output,by rw[Me];exact hE.size,fun B hB hW=>(WQ w D O B (by omega)).trans (hE.keep B hB hW),hE.wr,hE.n,hE.pl⟩
theorem HRel.mark {ρ:Plc}{σ:Heap}{w:World}(hH:HRel ρ σ w) {D:Nat}{d:Option (List Deferred)}(hD:w.heap[D]?=some (.deferred d)) (O:Obj):HRel ρ σ (Dy w D O) :=
 hH.world (by rw[Me];exact Nat.le_refl _) (fun i p hp=>WQ w D O p.blk (hH.not_deferred hD i p hp)) fun g cs hg=>WQ w D O g fun e=>by obtain⟨⟨e',f,h1⟩,_⟩:=hH.tab g cs hg;rw[e,hD] at h1;cases h1
theorem RR {fn:Func}{tmps:Array Value}{R:Ending→World→Prop}{ρ0:Plc}{σ0:Heap}{w0:World}{ρ:Plc}{σ:Heap}
  (qd:∀ w,HRel ρ σ w→Ext ρ0 σ0 w0 ρ σ w→∃ v,(results fn tmps).run P w=.ok v w∧R (.returned v) w) :
  ∀ (Ds:List Nat) (w:World),Ds.Nodup→(∀ D∈Ds,w0.heap.size≤D∧w.heap[D]?=some (.deferred (some [])))→HRel ρ σ w→Ext ρ0 σ0 w0 ρ σ w →
   LeavesInM Fence.wide 0 P fn tmps R (Ds.map fun D=>⟨.collected D,#[]⟩) .returning w:=by
 intro Ds;induction Ds with
 |nil=>intro w _ _ hH hE;exact qd w hH hE
 |cons D Ds ih =>intro w jx hall hH hE;obtain⟨h1,h2⟩:=List.nodup_cons.1 jx;obtain⟨h3,h4⟩:=hall D (by simp);refine⟨by simp,.inl ⟨D,_,rfl,GL h4,ih _ h2 (fun E bY=>?_) (hH.mark h4 _) (hE.mark h3 _)⟩⟩;obtain⟨k1,k2⟩:=hall E (by simp[bY]);exact⟨k1,by rw[WQ _ _ _ _ (by rintro rfl;exact h1 bY)];exact k2⟩
theorem Gc (hm:P.follows .mixedOrders=true) (hS:OkSpecs P S) {f:FuncId}{fn:Func}{c:Code}{vc:VCode}{rs:List VResult}(hf:P.funcs[f]?=some fn) (hb:fn.body=some c) (hc:comp P c=some vc) (hr:Kq P fn.results.toList=some rs)
  {args:List Value}{σ:Heap}{R:Value→Heap→Prop}(h:vwp S vc none (Q55 rs fun v σf=>∃ v' σ',DropTo σ v σf v' σ'∧R v' σ') (args++List.replicate (fn.ntmps-args.length) undef) σ):VCallsTo P f args σ R:=by
 intro ρ w az hH hL;refine callsIn_wide.1 (callsIn_of_wp_marks (n:=0) hf hb trivial (CE hm hS c vc hc (B:=w.heap.size) none none 0 _ _ σ ρ w _ h hH ?_ (Mks.nil (Nat.le_refl _)) (.inl ⟨rfl,rfl⟩) _ ?_) rfl)
 ·have hl:args.length=az.size:=by have:=hL.1;simpa using this
  have:=hL.append (RE (ρ:=ρ) (n:=σ.n) (fn.ntmps-args.length));simpa [hl] using this
 ·intro e a' w' ⟨ah,ρ',σ',k1,_,k2,k3,⟨_,Ds,k4,k6,k7⟩,k5⟩;have fin:(QR (J4 ah σ' rs) fun v=>∃ v' aL,DropTo σ v σ' v' aL∧R v' aL)→LeavesInM Fence.wide 0 P fn a'.tmps (fun e w'=>∃ c,e=.returned c∧Got ρ σ w R c w') a'.defers .returning w':=by
   intro hk;rw[k4];refine RR (fun w1 iZ fF=>?_) Ds w' k6 k7 k2 k5;cases hv:J4 ah σ' rs with
   |none=>rw[hv] at hk;exact hk.elim
   |some v =>rw[hv] at hk;obtain⟨v',aL,hd,hR⟩:=hk;obtain⟨c,dA,eZ⟩:=H2 iZ k3 hr hv;obtain⟨eJ,j1,j2,j3⟩:=hd ρ w ρ' w1 c hH fF iZ dA;exact⟨c,eZ,c,rfl,v',eJ,aL,hR,j1,j2,j3⟩
  cases e with
  |normal=>exact fin k1
  |ret=>exact fin k1
  |_=>exact k1.elim
end
end Go.V
namespace Go.V
open Go
def Fun (P:Program) (f:FuncId) (vc:VCode) (rs:List VResult) (nt:Nat):Prop :=
 ∃ fn,P.funcs[f]?=some fn∧fn.body.bind (comp P)=some vc∧Kq P fn.results.toList=some rs∧fn.ntmps=nt∧(fn.name=="runtime.NumGoroutine")=false
def Q6r (σ:Heap) (rs:List VResult) (R:Value→Heap→Prop):Exit→Env→Heap→Prop:=Q55 rs fun v σf=>∃ v' σ',DropTo σ v σf v' σ'∧R v' σ'
section
variable {P:Program}{S:VSpecs}{f:FuncId}{vc:VCode}{rs:List VResult}{nt:Nat}
theorem Fun.calls (h:Fun P f vc rs nt) (hm:P.follows .mixedOrders=true) (hS:OkSpecs P S) {args:List Value}{σ:Heap}{R:Value→Heap→Prop}
  (hw:vwp S vc none (Q6r σ rs R) (args++List.replicate (nt-args.length) undef) σ):VCalled P f args σ R:=by
 obtain⟨fn,h1,h2,h3,h4,h5⟩:=h;cases hb:fn.body with
 |none=>rw[hb] at h2;cases h2
 |some c =>rw[hb] at h2;exact VCallsTo.called ⟨fn,h1,by rw[hb];rfl,h5⟩ (Gc hm hS h1 hb h2 h3 (by rw[h4];exact hw))
theorem Fun.enterable (h:Fun P f vc rs nt):Jy P f:=by
 obtain⟨fn,h1,h2,h3,h4,h5⟩:=h;refine⟨fn,h1,?_,h5⟩;cases hb:fn.body with
 |none=>rw[hb] at h2;cases h2
 |some c=>rfl
theorem Fun.callsTo (h:Fun P f vc rs nt) (hm:P.follows .mixedOrders=true) (hS:OkSpecs P S) {args:List Value}{σ:Heap}{R:Value→Heap→Prop}
  (hw:vwp S vc none (Q6r σ rs R) (args++List.replicate (nt-args.length) undef) σ):VCallsTo P f args σ R:=by
 obtain⟨fn,h1,h2,h3,h4,h5⟩:=h;cases hb:fn.body with
 |none=>rw[hb] at h2;cases h2
 |some c =>rw[hb] at h2;exact Gc hm hS h1 hb h2 h3 (by rw[h4];exact hw)
def Q2 (P:Program):VSpecs where
 fn f:=some fun args σ K=>VCalled P f args σ K
 yl i:=some fun args σ K=>DH P i args σ K
 it f:=@ite _ (Jy P f) (Classical.propDecidable _) (some fun i Y args σ K=>YR P i Y→VCallsTo P f args σ K) none
theorem P0:OkSpecs P (Q2 P) :=
  ⟨fun f s h => by obtain rfl:=osj h; exact fun args σ K h => h,
   fun f s h => by obtain rfl:=osj h; exact fun args σ K h => h,
   fun f T h => by
    simp only [Q2] at h;split at h
    · rename_i he; obtain rfl:=osj h; exact ⟨he, fun i Y hY args σ K h => h hY⟩
    · cases h⟩
end
end Go.V
namespace Go.V
open Go
inductive EB where
 |cells (c:List Value) (esz:El) (wr tight:Bool)
 |map (es:List Jk) (clock:Nat) (wr:Bool)
 |iter (m since:Nat) (seen:List Nat) (last:Nat)
 |lp (st:LoopState) (pend:Option Code)
inductive GT (α:Type) where
 |nil
 |node (v:α) (l r:GT α)
def GT.get {α:Type}(d:α) (t:GT α):Nat→α :=
 GT.rec (motive:=fun _=>Nat→α) (fun _=>d)
  (fun v _ _ gl gr i=>Bool.rec (motive:=fun _=>α) (Bool.rec (motive:=fun _=>α) (gr (i / 2-1)) (gl (i / 2)) (Nat.beq (i % 2) 1)) v (Nat.beq i 0)) t
def GT.set {α:Type}(d:α) (f:Nat):GT α→Nat→α→GT α :=
 Nat.rec (motive:=fun _=>GT α→Nat→α→GT α) (fun t _ _=>t)
  (fun _ ih t i b=>GT.rec (motive:=fun _=>GT α)
   (Bool.rec (motive:=fun _=>GT α) (Bool.rec (motive:=fun _=>GT α) (.node d .nil (ih .nil (i / 2-1) b)) (.node d (ih .nil (i / 2) b) .nil) (Nat.beq (i % 2) 1)) (.node b .nil .nil) (Nat.beq i 0))
   (fun v l r _ _=>Bool.rec (motive:=fun _=>GT α) (Bool.rec (motive:=fun _=>GT α) (.node v l (ih r (i / 2-1) b)) (.node v (ih l (i / 2) b) r) (Nat.beq (i % 2) 1)) (.node b l r) (Nat.beq i 0)) t) f
theorem GT.get_node {α:Type}(d v:α) (l r:GT α) (k:Nat):(GT.node v l r).get d k=if k=0 then v else if k % 2=1 then l.get d (k / 2) else r.get d (k / 2-1):=by
 show (Bool.rec (motive:=fun _=>α) (Bool.rec (motive:=fun _=>α) (r.get d (k / 2-1)) (l.get d (k / 2)) (Nat.beq (k % 2) 1)) v (Nat.beq k 0))=_;by_cases h0:k=0
 ·subst h0;rfl
 ·have:Nat.beq k 0=false:=by
   cases h:Nat.beq k 0 with
   |false=>rfl
   |true=>exact absurd (Nat.eq_of_beq_eq_true h) h0
  rw[this,if_neg h0];by_cases h1:k % 2=1
  ·rw[if_pos h1,h1];rfl
  ·have:Nat.beq (k % 2) 1=false:=by
    cases h:Nat.beq (k % 2) 1 with
    |false=>rfl
    |true=>exact absurd (Nat.eq_of_beq_eq_true h) h1
   rw[this,if_neg h1]
theorem GT.set_node {α:Type}(d v:α) (f:Nat) (l r:GT α) (i:Nat) (b:α):(GT.node v l r).set d (f+1) i b=if i=0 then .node b l r else if i % 2=1 then .node v (l.set d f (i / 2) b) r else .node v l (r.set d f (i / 2-1) b):=by
 show (Bool.rec (motive:=fun _=>GT α) (Bool.rec (motive:=fun _=>GT α) (.node v l (r.set d f (i / 2-1) b)) (.node v (l.set d f (i / 2) b) r) (Nat.beq (i % 2) 1)) (.node b l r) (Nat.beq i 0))=_;by_cases h0:i=0
 ·subst h0;rfl
 ·have:Nat.beq i 0=false:=by
   cases h:Nat.beq i 0 with
   |false=>rfl
   |true=>exact absurd (Nat.eq_of_beq_eq_true h) h0
  rw[this,if_neg h0];by_cases h1:i % 2=1
  ·rw[if_pos h1,h1];rfl
  ·have:Nat.beq (i % 2) 1=false:=by
    cases h:Nat.beq (i % 2) 1 with
    |false=>rfl
    |true=>exact absurd (Nat.eq_of_beq_eq_true h) h1
   rw[this,if_neg h1]
theorem GT.set_nil {α:Type}(d:α) (f i:Nat) (b:α):(GT.nil:GT α).set d (f+1) i b=(GT.node d .nil .nil).set d (f+1) i b:=rfl
theorem GT.get_set {α:Type}(d:α):∀ (f:Nat) (t:GT α) (i:Nat) (b:α) (j:Nat),i+1<2 ^ f→(t.set d f i b).get d j=if j=i then b else t.get d j:=by
 intro f;induction f with
 |zero=>intro t i b j h;simp at h
 |succ f ih =>
  intro t i b j h;have hp:2 ^ (f+1)=2*2 ^ f:=by rw[Nat.pow_succ];omega
  have gA:∀ v l r,((GT.node v l r).set d (f+1) i b).get d j=if j=i then b else (GT.node v l r).get d j:=by
   intro v l r;rw[GT.set_node];by_cases hi:i=0
   ·subst hi;rw[if_pos rfl,GT.get_node,GT.get_node];split<;>rfl
   ·rw[if_neg hi];by_cases ho:i % 2=1
    ·rw[if_pos ho,GT.get_node,GT.get_node,ih _ _ _ _ (by omega)];by_cases iW:j=0
     ·subst iW;rw[if_pos rfl,if_neg (Ne.symm hi),if_pos rfl]
     ·rw[if_neg iW,if_neg iW];by_cases iE:j % 2=1
      ·rw[if_pos iE,if_pos iE];by_cases aM:j=i
       ·subst aM;simp
       ·rw[if_neg aM,if_neg (by omega)]
      ·rw[if_neg iE,if_neg iE,if_neg (by rintro rfl;exact iE ho)]
    ·rw[if_neg ho,GT.get_node,GT.get_node,ih _ _ _ _ (by omega)];by_cases iW:j=0
     ·subst iW;rw[if_pos rfl,if_neg (Ne.symm hi),if_pos rfl]
     ·rw[if_neg iW,if_neg iW];by_cases iE:j % 2=1
      ·rw[if_pos iE,if_pos iE,if_neg (by rintro rfl;exact ho iE)]
      ·rw[if_neg iE,if_neg iE];by_cases aM:j=i
       ·subst aM;simp
       ·rw[if_neg aM,if_neg (by omega)]
  cases t with
  |node v l r=>exact gA v l r
  |nil =>
   rw[GT.set_nil,gA d .nil .nil,GT.get_node];split
   ·rfl
   ·split
    ·rfl
    ·split<;>rfl
structure CH where
 t:GT (Option EB)
 n:Nat
def CH.get (h:CH) (i:Nat):Option EB:=Bool.rec (motive:=fun _=>Option EB) none (h.t.get none i) (Nat.blt i h.n)
def CH.upd (h:CH) (i:Nat) (b:EB):CH:=⟨h.t.set none 32 i (some b),h.n⟩
def CH.kill (h:CH) (i:Nat):CH:=⟨h.t.set none 32 i none,h.n⟩
def CH.push (h:CH) (b:EB):CH:=⟨h.t.set none 32 h.n (some b),h.n+1⟩
def CH.room (h:CH):Bool:=Nat.ble h.n 1000000000
def CH.empty:CH:=⟨.nil,0⟩
theorem CH.get_lt {h:CH}{i:Nat}(hi:i<h.n):h.get i=h.t.get none i:=by unfold CH.get;rw[show Nat.blt i h.n=true from Nat.ble_eq_true_of_le hi]
theorem CH.get_ge {h:CH}{i:Nat}(hi:h.n≤i):h.get i=none:=by
 unfold CH.get;cases hb:Nat.blt i h.n with
 |false=>rfl
 |true=>have:=Nat.le_of_ble_eq_true hb;omega
theorem CH.get_upd {h:CH}{i:Nat}{b:EB}(hi:i<h.n) (hs:h.n≤1000000001) (j:Nat):(h.upd i b).get j=if j=i then some b else h.get j:=by
 rcases Nat.lt_or_ge j h.n with hj|hj
 ·rw[CH.get_lt (h:=h.upd i b) hj,CH.get_lt hj];exact GT.get_set none 32 _ _ _ _ (by omega)
 ·rw[CH.get_ge (h:=h.upd i b) hj,CH.get_ge hj,if_neg (by omega)]
theorem CH.get_kill {h:CH}{i:Nat}(hi:i<h.n) (hs:h.n≤1000000001) (j:Nat):(h.kill i).get j=if j=i then none else h.get j:=by
 rcases Nat.lt_or_ge j h.n with hj|hj
 ·rw[CH.get_lt (h:=h.kill i) hj,CH.get_lt hj];exact GT.get_set none 32 _ _ _ _ (by omega)
 ·rw[CH.get_ge (h:=h.kill i) hj,CH.get_ge hj];simp
theorem CH.get_push {h:CH}{b:EB}(hs:h.n≤1000000001) (j:Nat):(h.push b).get j=if j=h.n then some b else h.get j:=by
 rcases Nat.lt_or_ge j (h.n+1) with hj|hj
 ·rw[CH.get_lt (h:=h.push b) hj];show (h.t.set none 32 h.n (some b)).get none j=_;rw[GT.get_set none 32 _ _ _ _ (by omega)];split
  ·rfl
  ·rw[CH.get_lt (by omega)]
 ·rw[CH.get_ge (h:=h.push b) hj,CH.get_ge (by omega),if_neg (by omega)]
def EB.to (q:Env×Loop):EB→Blk
 |.cells c e w t=>.cells c e w t
 |.map es cl w=>.obj (.map es cl) w
 |.iter m s sn l=>.obj (.iter m s sn l) true
 |.lp st pend=>.obj (.lp q.1 q.2 st pend) true
structure CSim (rs:Nat→Env×Loop) (h:CH) (σ:Heap):Prop where
 n:h.n=σ.n
 sm:h.n≤1000000001
 get:∀ i,σ.get i=(h.get i).map (EB.to (rs i))
theorem CSim.cells {rs:Nat→Env×Loop}{h:CH}{σ:Heap}(hs:CSim rs h σ) {i:Nat}{c:List Value}{e:El}{w t:Bool}(hg:h.get i=some (.cells c e w t)):σ.get i=some (.cells c e w t):=by rw[hs.get,hg];rfl
theorem CSim.map {rs:Nat→Env×Loop}{h:CH}{σ:Heap}(hs:CSim rs h σ) {i:Nat}{es:List Jk}{cl:Nat}{w:Bool}(hg:h.get i=some (.map es cl w)):σ.get i=some (.obj (.map es cl) w):=by rw[hs.get,hg];rfl
theorem CSim.iter {rs:Nat→Env×Loop}{h:CH}{σ:Heap}(hs:CSim rs h σ) {i m s:Nat}{sn:List Nat}{l:Nat}(hg:h.get i=some (.iter m s sn l)):σ.get i=some (.obj (.iter m s sn l) true):=by rw[hs.get,hg];rfl
theorem CSim.lp {rs:Nat→Env×Loop}{h:CH}{σ:Heap}(hs:CSim rs h σ) {i:Nat}{st:LoopState}{pend:Option Code}(hg:h.get i=some (.lp st pend)):σ.get i=some (.obj (.lp (rs i).1 (rs i).2 st pend) true):=by rw[hs.get,hg];rfl
theorem CSim.lt {rs:Nat→Env×Loop}{h:CH}{σ:Heap}(hs:CSim rs h σ) {i:Nat}{b:EB}(hg:h.get i=some b):i<h.n:=by
 have:σ.get i=some (b.to (rs i)):=by rw[hs.get,hg];rfl
 rw[hs.n];exact σ.lt this
theorem CSim.upd {rs:Nat→Env×Loop}{h:CH}{σ:Heap}(hs:CSim rs h σ) {i:Nat}(hi:i<h.n) {b:EB}{b':Blk}(hb:b.to (rs i)=b'):CSim rs (h.upd i b) (σ.upd i b'):=by
 refine⟨hs.n,hs.sm,fun j=>?_⟩;rw[CH.get_upd hi hs.sm];show (if j=i∧i<σ.n then some b' else σ.get j)=_;by_cases hj:j=i
 ·subst hj;rw[if_pos ⟨rfl,by rw[←hs.n];exact hi⟩,if_pos rfl,←hb];rfl
 ·rw[if_neg (fun e=>hj e.1),if_neg hj];exact hs.get j
theorem CSim.kill {rs:Nat→Env×Loop}{h:CH}{σ:Heap}(hs:CSim rs h σ) {i:Nat}(hi:i<h.n):CSim rs (h.kill i) (σ.kill i):=by
 refine⟨hs.n,hs.sm,fun j=>?_⟩;rw[CH.get_kill hi hs.sm];show (if j=i then none else σ.get j)=_;by_cases hj:j=i
 ·rw[if_pos hj,if_pos hj];rfl
 ·rw[if_neg hj,if_neg hj];exact hs.get j
theorem CSim.push {rs:Nat→Env×Loop}{h:CH}{σ:Heap}(hs:CSim rs h σ) (hr:h.room=true) {b:EB}{b':Blk}(hb:b.to (rs h.n)=b'):CSim rs (h.push b) (σ.push b'):=by
 have hr:h.n≤1000000000:=Nat.le_of_ble_eq_true hr;refine⟨by show h.n+1=σ.n+1;rw[hs.n],by show h.n+1≤_;omega,fun j=>?_⟩;rw[CH.get_push hs.sm];show (if j=σ.n then some b' else σ.get j)=_;rw[←hs.n];by_cases hj:j=h.n
 ·subst hj;rw[if_pos rfl,if_pos rfl,←hb];rfl
 ·rw[if_neg hj,if_neg hj];exact hs.get j
theorem CSim.rs {rs bn:Nat→Env×Loop}{h:CH}{σ:Heap}(hs:CSim rs h σ) (hr:∀ i,i<h.n→bn i=rs i):CSim bn h σ :=
 ⟨hs.n,hs.sm,fun i=>by
  rw[hs.get];cases hg:h.get i with
  |none=>rfl
  |some b=>rw[hr i (hs.lt hg)]⟩
def CH.sl (σ:CH) (esz:Nat):Value→Option (List Value)
 |.slice none 0 0=>some []
 |.slice (some ⟨i,o,none⟩) n _ =>
  match σ.get i with
  |some (.cells c e _ _)=>if e.sz=esz∧o+n*esz≤c.length then some ((c.drop o).take (n*esz)) else none
  |_=>none
 |_=>none
def CH.mapAt (σ:CH) (m:Nat):Option (List Jk×Nat×Bool):=match σ.get m with
 |some (.map es clock wr)=>some (es,clock,wr)
 |_=>none
def V4 (σ:CH) (b:EB) (v:Value):Option (Value×CH):=if σ.room=true then some (v,σ.push b) else none
def T8 (esz:El) (bytes:Nat) (σ:CH) (s:Value) (m:Nat) (xs:List Value):Option (Value×CH) :=
 match s with
 |.slice none 0 0 =>
  if m=0 then some (s,σ) else
  if m*bytes≤2 ^ 46 then V4 σ (.cells xs esz true false) (.slice (some ⟨σ.n,0,none⟩) m m) else none
 |.slice (some ⟨i,o,none⟩) n cap =>
  match σ.get i with
  |some (.cells c e wr tight) =>
   if e=esz∧n≤cap∧o+n*esz.sz≤c.length then
    if m=0 then some (s,σ) else
    if n+m≤cap then
     (if wr=true∧o+(n+m)*esz.sz≤c.length then some (.slice (some ⟨i,o,none⟩) (n+m) cap,σ.upd i (.cells (WH c (o+n*esz.sz) xs) e wr tight)) else none)
    else if (n+m)*bytes≤2 ^ 46 then
     (if tight then V4 σ (.cells ((c.drop o).take (n*esz.sz)++xs) esz true false) (.slice (some ⟨σ.n,0,none⟩) (n+m) (n+m))
     else if wr then V4 (σ.kill i) (.cells ((c.drop o).take (n*esz.sz)++xs) esz true false) (.slice (some ⟨σ.n,0,none⟩) (n+m) (n+m))
     else none)
    else none
   else none
  |_=>none
 |_=>none
def LM (size:Nat) (σ:CH) (s:Value) (l h:Nat) (m:Option Nat):Option (Value×CH) :=
 match s with
 |.slice none 0 0=>if l=0∧h=0∧(m.getD 0)=0 then some (.slice none 0 0,σ) else none
 |.slice (some ⟨i,o,none⟩) _ cap =>
  match σ.get i with
  |some (.cells _ e _ _) =>
   match m with
   |none=>if e.sz=size∧l≤h∧h≤cap then some (.slice (some ⟨i,o+l*size,none⟩) (h-l) (cap-l),σ) else none
   |some m =>
    if e.sz=size∧l≤h∧h≤m∧m≤cap then
     if m=l then V4 σ (.cells [] e false true) (.slice (some ⟨σ.n,0,none⟩) 0 0)
     else some (.slice (some ⟨i,o+l*size,none⟩) (h-l) (m-l),σ)
    else none
  |_=>none
 |_=>none
def Q0x:Nat→Value→Value→CH→Option Bool
 |0,.pointer none,.pointer none,_=>some true
 |0,.pointer none,.pointer (some _),_=>some false
 |0,.pointer (some _),.pointer none,_=>some false
 |0,.pointer (some ⟨i,o,none⟩),.pointer (some ⟨j,q,none⟩),σ=>if i=j∧o=q∧(σ.get i).isSome=true then some true else none
 |1,.slice none _ _,.slice none _ _,_=>some true
 |1,.slice none _ _,.slice (some _) _ _,_=>some false
 |1,.slice (some _) _ _,.slice none _ _,_=>some false
 |2,.map none,.map none,_=>some true
 |2,.map none,.map (some _),_=>some false
 |2,.map (some _),.map none,_=>some false
 |3,.nilFunc,.nilFunc,_=>some true
 |3,.nilFunc,.func _ _ _,_=>some false
 |3,.func _ _ _,.nilFunc,_=>some false
 |_,_,_,_=>none
def JU (o:XOp) (ev:Operand→Value) (σ:CH):Option (Value×CH) :=
 match o with
 |.eqAgg neg s x y=>match ev x,ev y with
  |.agg a,.agg b=>if fits s a.toList=true∧fits s b.toList=true then some (.bool (if neg then !(Qk a.toList b.toList) else Qk a.toList b.toList),σ) else none
  |_,_=>none
 |.eqNil kd neg x y=>match Q0x kd (ev x) (ev y) σ with|some b=>some (.bool (if neg then !b else b),σ)|none=>none
 |.makeMap=>V4 σ (.map [] 0 true) (.map (some σ.n))
 |.lookup mk z ok x i =>
  let k:=ev i
  if Zm mk k then
   match ev x with
   |.map none=>some (if ok then .tuple #[z,.bool false] else z,σ)
   |.map (some m)=>match σ.mapAt m with
    |some (es,_,_)=>if es.all (fun e=>Zm mk e.1) then
      (match Qw k es with
      |some e=>some (if ok then .tuple #[e.2.1,.bool true] else e.2.1,σ)
      |none=>some (if ok then .tuple #[z,.bool false] else z,σ)) else none
    |none=>none
   |_=>none
  else none
 |.mapUpdate mk m k v=>match ev m with
  |.map (some i)=>match σ.mapAt i with
   |some (es,clock,true)=>if Zm mk (ev k)&&es.all (fun e=>Zm mk e.1) then some (undef,σ.upd i (.map (QN (ev k) (ev v) clock es).1 (QN (ev k) (ev v) clock es).2 true)) else none
   |_=>none
  |_=>none
 |.delete mk m k=>match ev m with
  |.map (some i)=>match σ.mapAt i with
   |some (es,clock,true)=>if Zm mk (ev k)&&es.all (fun e=>Zm mk e.1) then some (.tuple #[],σ.upd i (.map (G5 (ev k) es) clock true)) else none
   |_=>none
  |_=>none
 |.lenMap x=>match ev x with
  |.map none=>some (.int .i64 0,σ)
  |.map (some m)=>match σ.mapAt m with
   |some (es,_,_)=>some (.int .i64 es.length,σ)
   |none=>none
  |_=>none
 |.rangeMap x=>match ev x with
  |.map (some m)=>match σ.mapAt m with
   |some (_,clock,_)=>V4 σ (.iter m clock [] clock) (.pointer (some ⟨σ.n,0,none⟩))
   |none=>none
  |_=>none
 |.entry x=>match ev x with
  |.pointer (some ⟨i,0,none⟩)=>match σ.get i with
   |some (.iter m _ seen last)=>match σ.mapAt m,seen.getLast? with
    |some (es,clock,_),some b=>if clock=last then (match es.find? (fun e=>e.2.2==b) with|some e=>if YK e.1 then some (.tuple #[e.1,e.2.1],σ) else none|none=>none) else none
    |_,_=>none
   |_=>none
  |_=>none
 |.copy size d s=>match ev d,ev s with
  |.slice db dn _,.slice sb sn sc =>
   if min sn dn=0 then some (.int .i64 0,σ) else
   match db,σ.sl size (.slice sb (min sn dn) sc) with
   |some ⟨i,o,none⟩,some xs=>match σ.get i with
    |some (.cells c e wr tight)=>if wr=true∧e.sz=size∧o+xs.length≤c.length∧xs.all cellOk=true then some (.int .i64 (min sn dn:Nat),σ.upd i (.cells (WH c o xs) e wr tight)) else none
    |_=>none
   |_,_=>none
  |_,_=>none
 |.clear z x=>match ev x with
  |.slice b n _ =>
   if n=0 then some (.tuple #[],σ) else
   match b with
   |some ⟨i,o,none⟩=>match σ.get i with
    |some (.cells c e wr tight)=>if wr=true∧o+n*z.length≤c.length∧z.all cellOk=true then some (.tuple #[],σ.upd i (.cells (WH c o (D3 n z)) e wr tight)) else none
    |_=>none
   |_=>none
  |_=>none
 |.toUnsafe x=>match ev x with
  |.pointer none=>some (.pointer none,σ)
  |.pointer (some ⟨i,o,none⟩)=>match σ.get i with
   |some (.cells c _ _ _)=>if o<c.length then some (.pointer (some ⟨i,o,none⟩),σ) else none
   |_=>none
  |_=>none
 |.fromUnsafe u size x=>match ev x with
  |.pointer none=>some (.pointer none,σ)
  |.pointer (some ⟨i,o,none⟩)=>match σ.get i with
   |some (.cells c e true true)=>if o=0∧e.ty=u∧size≤c.length then some (.pointer (some ⟨i,o,none⟩),σ) else none
   |_=>none
  |_=>none
 |.sliceData x=>match ev x with
  |.slice none _ _=>some (.pointer none,σ)
  |.slice (some ⟨i,o,none⟩) _ cap=>if cap≠0∧(σ.get i).isSome=true then some (.pointer (some ⟨i,o,none⟩),σ) else none
  |_=>none
 |.unsafeStr e x n=>match ev x,ev n with
  |.pointer p,.int .i64 k =>
   if k=0 then some (.string ⟨#[]⟩,σ) else
   match p with
   |some ⟨i,o,none⟩=>match σ.get i with
    |some (.cells c el true tight) =>
     if 0<k∧k≤2 ^ 62∧el.ty=e∧o+k.toNat≤c.length then
      (match Gm ((c.drop o).take k.toNat) with
      |some s=>some (.string s,σ.upd i (.cells c el false tight))
      |none=>none) else none
    |_=>none
   |_=>none
  |_,_=>none
 |.bytesStr x=>match ev x with
  |.slice a n c=>match σ.sl 1 (.slice a n c) with
   |some xs=>match Gm xs with|some s=>some (.string s,σ)|none=>none
   |none=>none
  |_=>none
 |.strBytes e x=>match ev x with
  |.string s=>if s.size≤2 ^ 62 then V4 σ (.cells (s.data.toList.map fun b=>.int .u8 b.toNat) ⟨1,e⟩ true false) (.slice (some ⟨σ.n,0,none⟩) s.size s.size) else none
  |_=>none
 |_=>none
def Heap.empty:Heap:=⟨fun _=>none,0,fun _ _=>rfl⟩
def Ig (o:VOp) (ev:Operand→Value) (σ:CH):Option (Value×CH) :=
 match o with
 |.alloc t z=>V4 σ (.cells z ⟨z.length,t⟩ true true) (.pointer (some ⟨σ.n,0,none⟩))
 |.box t x=>match WS (ev x) with
  |some vs=>V4 σ (.cells vs ⟨vs.length,t⟩ true true) (.pointer (some ⟨σ.n,0,none⟩))
  |none=>none
 |.buildSlice esz z len parts=>match Vb (D3 len z) (parts.map fun p=>(p.1*esz.sz,esz.sz,ev p.2)) with
  |some cs=>V4 σ (.cells cs esz true true) (.slice (some ⟨σ.n,0,none⟩) len len)
  |none=>none
 |.load agg size a=>match ev a with
  |.pointer (some ⟨g,o,some _⟩)=>(match Ii g with
   |some c=>if c.all Qv then (match Xk agg size c o with|some v=>some (v,σ)|none=>none) else none
   |none=>none)
  |.pointer (some ⟨i,o,none⟩)=>match σ.get i with
   |some (.cells c _ _ _)=>match Xk agg size c o with|some v=>some (v,σ)|none=>none
   |_=>none
  |_=>none
 |.store size a v=>match ev a,WS (ev v) with
  |.pointer (some ⟨i,o,none⟩),some vs=>match σ.get i with
   |some (.cells c e wr tight)=>if wr=true∧vs.length=size∧o+size≤c.length∧vs.all cellOk=true then some (undef,σ.upd i (.cells (WH c o vs) e wr tight)) else none
   |_=>none
  |_,_=>none
 |.slice size x lo hi mx =>
  match ev x with
  |.slice a n cap =>
   match ZH ev lo 0,ZH ev hi n,mx with
   |some l,some h,none=>LM size σ (.slice a n cap) l h none
   |some l,some h,some _=>match ZH ev mx 0,hi with
    |some m,some _=>LM size σ (.slice a n cap) l h (some m)
    |_,_=>none
   |_,_,_=>none
  |_=>none
 |.makeSlice esz bytes z l c =>
  match ev l,ev c with
  |.int _ a,.int _ b=>if 0≤a∧a≤b∧b*bytes≤2 ^ 46∧b≤2 ^ 46 then V4 σ (.cells (D3 b.toNat z) esz true true) (.slice (some ⟨σ.n,0,none⟩) a.toNat b.toNat) else none
  |_,_=>none
 |.append esz bytes s x =>
  match σ.sl esz.sz (ev x),ev x with
  |some xs,.slice _ m _=>if xs.all cellOk then T8 esz bytes σ (ev s) m xs else none
  |_,_=>none
 |.ext o=>JU o ev σ
 |o=>if o.kind=0 then (match Q8 o ev Heap.empty with|some p=>some (p.1,σ)|none=>none) else none
def ESnd (rs:Nat→Env×Loop) (h:CH) (_σ:Heap) (r:Option (Value×Heap)) (p:Value×CH):Prop:=h.n≤p.2.n∧∃ σ',r=some (p.1,σ')∧CSim rs p.2 σ'
theorem ESnd.same {rs:Nat→Env×Loop}{h:CH}{σ:Heap}(hs:CSim rs h σ) {r:Option (Value×Heap)}{v:Value}(hr:r=some (v,σ)):ESnd rs h σ r (v,h):=⟨Nat.le_refl _,σ,hr,hs⟩
theorem ESnd.upd {rs:Nat→Env×Loop}{h:CH}{σ:Heap}(hs:CSim rs h σ) {r:Option (Value×Heap)}{v:Value}{i:Nat}{b:EB}{b0:EB}(hg:h.get i=some b0) {b':Blk}(hb:b.to (rs i)=b') (hr:r=some (v,σ.upd i b')):ESnd rs h σ r (v,h.upd i b):=by have hi:=hs.lt hg;have mn:=hs.sm;exact⟨Nat.le_refl _,_,hr,hs.upd hi hb⟩
theorem ESnd.push {rs:Nat→Env×Loop}{h:CH}{σ:Heap}(hs:CSim rs h σ) {r:Option (Value×Heap)}{v:Value}{p:Value×CH}{b:EB}(hp:V4 h b v=some p) {b':Blk}(hb:b.to (rs h.n)=b') (hr:r=some (v,σ.push b')):ESnd rs h σ r p:=by
 unfold V4 at hp;split at hp
 ·rename_i aY;obtain rfl:=osj hp;have mn:=hs.sm;exact⟨Nat.le_succ _,_,hr,hs.push aY hb⟩
 ·cases hp
theorem CSim.sl {rs:Nat→Env×Loop}{h:CH}{σ:Heap}(hs:CSim rs h σ) {esz:Nat}{v:Value}{xs:List Value}(hx:h.sl esz v=some xs):σ.sl esz v=some xs:=by
 unfold CH.sl at hx;unfold Heap.sl;split at hx
 ·exact hx
 ·rename_i i o n c;split at hx
  ·rename_i cs e wr t hb;simp only[hs.cells hb];exact hx
  ·cases hx
 ·cases hx
theorem CSim.mapAt {rs:Nat→Env×Loop}{h:CH}{σ:Heap}(hs:CSim rs h σ) {m:Nat}{x:List Jk×Nat×Bool}(hx:h.mapAt m=some x):σ.mapAt m=some x∧h.get m=some (.map x.1 x.2.1 x.2.2):=by
 unfold CH.mapAt at hx;unfold Heap.mapAt;split at hx
 ·rename_i es clock wr hb;obtain rfl:=osj hx;exact⟨by simp only[hs.map hb],hb⟩
 ·cases hx
theorem S6 {rs:Nat→Env×Loop}{h:CH}{σ:Heap}(hs:CSim rs h σ) {kd:Nat}{a b:Value}{r:Bool}(hx:Q0x kd a b h=some r):Zw kd a b σ=some r:=by
 unfold Q0x at hx;unfold Zw
 split at hx<;>first
  |exact hx
  |(cases hx;done)
  |skip
 rename_i i o j q;split at hx
 ·rename_i hc;obtain⟨h1,h2,h3⟩:=hc;have cM:i=j∧o=q∧(σ.get i).isSome=true:=⟨h1,h2,by rw[hs.get];simpa using h3⟩;simp only[if_pos cM];exact hx
 ·cases hx
theorem P_ {rs:Nat→Env×Loop}{h:CH}{σ:Heap}(hs:CSim rs h σ) {esz:El}{bytes:Nat}{s:Value}{m:Nat}{xs:List Value}{p:Value×CH}(hx:T8 esz bytes h s m xs=some p):ESnd rs h σ (Wh esz bytes σ s m xs) p:=by
 unfold T8 at hx;unfold Wh;split at hx
 ·split at hx
  ·rename_i hm;simp only[if_pos hm];obtain rfl:=osj hx;exact .same hs rfl
  ·rename_i hm;simp only[if_neg hm];split at hx
   ·rename_i hb;simp only[if_pos hb];rw[hs.n] at hx;exact .push hs hx rfl rfl
   ·cases hx
 ·rename_i i o n cap;split at hx
  ·rename_i c e wr tight hg;have mn:=hs.sm;have hi:=hs.lt hg;simp only[hs.cells hg];split at hx
   ·rename_i h1;simp only[if_pos h1];split at hx
    ·rename_i h2;simp only[if_pos h2];obtain rfl:=osj hx;exact .same hs rfl
    ·rename_i h2;simp only[if_neg h2];split at hx
     ·rename_i h3;simp only[if_pos h3];split at hx
      ·rename_i h4;simp only[if_pos h4];obtain rfl:=osj hx;exact .upd hs hg rfl rfl
      ·cases hx
     ·rename_i h3;simp only[if_neg h3];split at hx
      ·rename_i h4;simp only[if_pos h4];split at hx
       ·rename_i h5;simp only[if_pos h5];rw[hs.n] at hx;exact .push hs hx rfl rfl
       ·rename_i h5;simp only[if_neg h5];split at hx
        ·rename_i h6;simp only[if_pos h6];rw[hs.n] at hx;have hk:=hs.kill hi;obtain⟨k1,σ',k2,k3⟩:=ESnd.push (r:=some (.slice (some ⟨σ.n,0,none⟩) (n+m) (n+m),(σ.kill i).push (.cells ((c.drop o).take (n*esz.sz)++xs) esz true false))) hk hx rfl rfl;exact⟨k1,σ',k2,k3⟩
        ·cases hx
      ·cases hx
   ·cases hx
  ·cases hx
 ·cases hx
theorem Gs {rs:Nat→Env×Loop}{h:CH}{σ:Heap}(hs:CSim rs h σ) {size:Nat}{s:Value}{l k:Nat}{m:Option Nat}{p:Value×CH}(hx:LM size h s l k m=some p):ESnd rs h σ (Wm size σ s l k m) p:=by
 unfold LM at hx;unfold Wm;split at hx
 ·split at hx
  ·rename_i hm;simp only[if_pos hm];obtain rfl:=osj hx;exact .same hs rfl
  ·cases hx
 ·rename_i i o n cap;split at hx
  ·rename_i c e wr tight hg;simp only[hs.cells hg];split at hx
   ·split at hx
    ·rename_i h1;simp only[if_pos h1];obtain rfl:=osj hx;exact .same hs rfl
    ·cases hx
   ·split at hx
    ·rename_i h1;simp only[if_pos h1];split at hx
     ·rename_i h2;simp only[if_pos h2];rw[hs.n] at hx;exact .push hs hx rfl rfl
     ·rename_i h2;simp only[if_neg h2];obtain rfl:=osj hx;exact .same hs rfl
    ·cases hx
  ·cases hx
 ·cases hx
theorem Bf {rs:Nat→Env×Loop}{h:CH}{σ:Heap}(hs:CSim rs h σ) {o:XOp}{ev:Operand→Value}{p:Value×CH}(hx:JU o ev h=some p):ESnd rs h σ (Z0 o ev σ) p:=by
 cases o
 case eqAgg neg s x y =>
  simp only[JU] at hx;simp only[Z0];split at hx
  ·rename_i a b ha hb;split at hx
   ·rename_i hc;rw[ha,hb];simp only;rw[if_pos hc];obtain rfl:=osj hx;exact .same hs rfl
   ·cases hx
  ·cases hx
 case eqNil kd neg x y =>
  simp only[JU] at hx;simp only[Z0];split at hx
  ·rename_i b hb;rw[S6 hs hb];obtain rfl:=osj hx;exact .same hs rfl
  ·cases hx
 case makeMap =>
  simp only[JU] at hx;simp only[Z0];rw[hs.n] at hx;exact .push hs hx rfl rfl
 case lookup mk z ok x i =>
  simp only[JU] at hx;simp only[Z0];generalize ev x=q0 at hx ⊢;generalize ev i=q1 at hx ⊢;split at hx
  ·rename_i hk;simp only[if_pos hk];split at hx
   ·obtain rfl:=osj hx;exact .same hs rfl
   ·rename_i m hm;split at hx
    ·rename_i es cl wr gN;obtain⟨k1,k2⟩:=hs.mapAt gN;simp only[k1];split at hx
     ·rename_i hall;simp only[if_pos hall];split at hx
      ·rename_i e hf;simp only[hf];obtain rfl:=osj hx;exact .same hs rfl
      ·rename_i hf;simp only[hf];obtain rfl:=osj hx;exact .same hs rfl
     ·cases hx
    ·cases hx
   ·cases hx
  ·cases hx
 case mapUpdate mk m k v =>
  simp only[JU] at hx;simp only[Z0];generalize ev m=q0 at hx ⊢;split at hx
  ·rename_i i hi;split at hx
   ·rename_i es cl gN;obtain⟨k1,k2⟩:=hs.mapAt gN;simp only[k1];split at hx
    ·rename_i hc;simp only[if_pos hc];obtain rfl:=osj hx;exact .upd hs k2 rfl rfl
    ·cases hx
   ·cases hx
  ·cases hx
 case delete mk m k =>
  simp only[JU] at hx;simp only[Z0];generalize ev m=q0 at hx ⊢;split at hx
  ·rename_i i hi;split at hx
   ·rename_i es cl gN;obtain⟨k1,k2⟩:=hs.mapAt gN;simp only[k1];split at hx
    ·rename_i hc;simp only[if_pos hc];obtain rfl:=osj hx;exact .upd hs k2 rfl rfl
    ·cases hx
   ·cases hx
  ·cases hx
 case mapEntry=>cases hx
 case entryStore=>cases hx
 case lenMap x =>
  simp only[JU] at hx;simp only[Z0];generalize ev x=q0 at hx ⊢;split at hx
  ·obtain rfl:=osj hx;exact .same hs rfl
  ·split at hx
   ·rename_i es cl wr gN;obtain⟨k1,k2⟩:=hs.mapAt gN;simp only[k1];obtain rfl:=osj hx;exact .same hs rfl
   ·cases hx
  ·cases hx
 case rangeMap x =>
  simp only[JU] at hx;simp only[Z0];generalize ev x=q0 at hx ⊢;split at hx
  ·split at hx
   ·rename_i es cl wr gN;obtain⟨k1,k2⟩:=hs.mapAt gN;simp only[k1];rw[hs.n] at hx;exact .push hs hx rfl rfl
   ·cases hx
  ·cases hx
 case nextMap=>cases hx
 case entry x =>
  simp only[JU] at hx;simp only[Z0];generalize ev x=q0 at hx ⊢;split at hx
  ·split at hx
   ·rename_i m since seen last hg;simp only[hs.iter hg];split at hx
    ·rename_i es clock wr b gN dD;obtain⟨k1,_⟩:=hs.mapAt gN;simp only[k1,dD];split at hx
     ·rename_i hc;rw[if_pos hc];split at hx
      ·rename_i e hf;split at hx
       ·rename_i hp;rw[hf];simp only[hp,if_true];obtain rfl:=osj hx;exact .same hs rfl
       ·cases hx
      ·cases hx
     ·cases hx
    ·cases hx
   ·cases hx
  ·cases hx
 case copy size d s =>
  simp only[JU] at hx;simp only[Z0];generalize ev d=q0 at hx ⊢;generalize ev s=q1 at hx ⊢;split at hx
  ·rename_i db dn dc sb sn sc h1 h2;split at hx
   ·rename_i hm;simp only[if_pos hm];obtain rfl:=osj hx;exact .same hs rfl
   ·rename_i hm;simp only[if_neg hm];split at hx
    ·rename_i i o xs bh;simp only[hs.sl bh];split at hx
     ·rename_i c e wr tight hg;simp only[hs.cells hg];split at hx
      ·rename_i hc;simp only[if_pos hc];obtain rfl:=osj hx;exact .upd hs hg rfl rfl
      ·cases hx
     ·cases hx
    ·cases hx
  ·cases hx
 case clear z x =>
  simp only[JU] at hx;simp only[Z0];generalize ev x=q0 at hx ⊢;split at hx
  ·rename_i b n cap;split at hx
   ·rename_i hm;simp only[if_pos hm];obtain rfl:=osj hx;exact .same hs rfl
   ·rename_i hm;simp only[if_neg hm];split at hx
    ·rename_i i o;split at hx
     ·rename_i c e wr tight hg;simp only[hs.cells hg];split at hx
      ·rename_i hc;simp only[if_pos hc];obtain rfl:=osj hx;exact .upd hs hg rfl rfl
      ·cases hx
     ·cases hx
    ·cases hx
  ·cases hx
 case toUnsafe x =>
  simp only[JU] at hx;simp only[Z0];generalize ev x=q0 at hx ⊢;split at hx
  ·obtain rfl:=osj hx;exact .same hs rfl
  ·split at hx
   ·rename_i c e wr tight hg;simp only[hs.cells hg];split at hx
    ·rename_i hc;simp only[if_pos hc];obtain rfl:=osj hx;exact .same hs rfl
    ·cases hx
   ·cases hx
  ·cases hx
 case fromUnsafe u size x =>
  simp only[JU] at hx;simp only[Z0];generalize ev x=q0 at hx ⊢;split at hx
  ·obtain rfl:=osj hx;exact .same hs rfl
  ·split at hx
   ·rename_i c e hg;simp only[hs.cells hg];split at hx
    ·rename_i hc;simp only[if_pos hc];obtain rfl:=osj hx;exact .same hs rfl
    ·cases hx
   ·cases hx
  ·cases hx
 case sliceData x =>
  simp only[JU] at hx;simp only[Z0];generalize ev x=q0 at hx ⊢;split at hx
  ·obtain rfl:=osj hx;exact .same hs rfl
  ·rename_i i o n cap;split at hx
   ·rename_i hc;simp only[if_pos (show cap≠0∧(σ.get i).isSome=true from ⟨hc.1,by rw[hs.get];simpa using hc.2⟩)];obtain rfl:=osj hx;exact .same hs rfl
   ·cases hx
  ·cases hx
 case unsafeStr e x n =>
  simp only[JU] at hx;simp only[Z0];generalize ev x=q0 at hx ⊢;generalize ev n=q1 at hx ⊢;split at hx
  ·rename_i q k h1 h2;split at hx
   ·rename_i hk;simp only[if_pos hk];obtain rfl:=osj hx;exact .same hs rfl
   ·rename_i hk;simp only[if_neg hk];split at hx
    ·rename_i i o;split at hx
     ·rename_i c el tight hg;simp only[hs.cells hg];split at hx
      ·rename_i hc;simp only[if_pos hc];split at hx
       ·rename_i u hu;simp only[hu];obtain rfl:=osj hx;exact .upd hs hg rfl rfl
       ·cases hx
      ·cases hx
     ·cases hx
    ·cases hx
  ·cases hx
 case bytesStr x =>
  simp only[JU] at hx;simp only[Z0];generalize ev x=q0 at hx ⊢;split at hx
  ·split at hx
   ·rename_i xs bh;simp only[hs.sl bh];split at hx
    ·rename_i u hu;simp only[hu];obtain rfl:=osj hx;exact .same hs rfl
    ·cases hx
   ·cases hx
  ·cases hx
 case strBytes e x =>
  simp only[JU] at hx;simp only[Z0];generalize ev x=q0 at hx ⊢;split at hx
  ·split at hx
   ·rename_i h1;simp only[if_pos h1];rw[hs.n] at hx;exact .push hs hx rfl rfl
   ·cases hx
  ·cases hx
theorem E_ {rs:Nat→Env×Loop}{h:CH}{σ:Heap}(hs:CSim rs h σ) {o:VOp}{ev:Operand→Value}{p:Value×CH}
  (hx:(if o.kind=0 then (match Q8 o ev Heap.empty with|some p=>some (p.1,h)|none=>none) else none)=some p):ESnd rs h σ (Q8 o ev σ) p:=by
 split at hx
 ·rename_i hk;split at hx
  ·rename_i q hq;obtain rfl:=osj hx;exact .same hs (Dm hk (v:=q.1) (σ1:=q.2) hq)
  ·cases hx
 ·cases hx
theorem XK {rs:Nat→Env×Loop}{h:CH}{σ:Heap}(hs:CSim rs h σ) {o:VOp}{ev:Operand→Value}{p:Value×CH}(hx:Ig o ev h=some p):ESnd rs h σ (Q8 o ev σ) p:=by
 cases o
 case alloc t z =>
  simp only[Ig] at hx;simp only[Q8];rw[hs.n] at hx;exact .push hs hx rfl rfl
 case box t x =>
  simp only[Ig] at hx;simp only[Q8];generalize WS (ev x)=q0 at hx ⊢;split at hx
  ·rw[hs.n] at hx;exact .push hs hx rfl rfl
  ·cases hx
 case buildSlice esz z len parts =>
  simp only[Ig] at hx;simp only[Q8];generalize Vb (D3 len z) (parts.map fun p=>(p.1*esz.sz,esz.sz,ev p.2))=q0 at hx ⊢;split at hx
  ·rw[hs.n] at hx;exact .push hs hx rfl rfl
  ·cases hx
 case load agg size a =>
  simp only[Ig] at hx;simp only[Q8];generalize ev a=q0 at hx ⊢;split at hx
  ·split at hx
   ·rename_i c hg;split at hx
    ·rename_i hall;simp only[hg,if_pos hall];split at hx
     ·rename_i u hu;simp only[hu];obtain rfl:=osj hx;exact .same hs rfl
     ·cases hx
    ·cases hx
   ·cases hx
  ·split at hx
   ·rename_i c e wr tight hg;simp only[hs.cells hg];split at hx
    ·rename_i u hu;simp only[hu];obtain rfl:=osj hx;exact .same hs rfl
    ·cases hx
   ·cases hx
  ·cases hx
 case store size a v =>
  simp only[Ig] at hx;simp only[Q8];generalize WS (ev v)=q0 at hx ⊢;generalize ev a=q1 at hx ⊢;split at hx
  ·rename_i i o vs h1 h2;split at hx
   ·rename_i c e wr tight hg;simp only[hs.cells hg];split at hx
    ·rename_i hc;simp only[if_pos hc];obtain rfl:=osj hx;exact .upd hs hg rfl rfl
    ·cases hx
   ·cases hx
  ·cases hx
 case slice size x lo hi mx =>
  simp only[Ig] at hx;simp only[Q8];generalize ev x=q0 at hx ⊢;split at hx
  ·rename_i a n cap;dsimp only;generalize ZH ev lo 0=q1 at hx ⊢;generalize ZH ev hi n=q2 at hx ⊢;split at hx
   ·exact Gs hs hx
   ·rename_i l k m;dsimp only;generalize ZH ev (some m) 0=q3 at hx ⊢;split at hx
    ·exact Gs hs hx
    ·cases hx
   ·cases hx
  ·cases hx
 case makeSlice esz bytes z l c =>
  simp only[Ig] at hx;simp only[Q8];generalize ev l=q0 at hx ⊢;generalize ev c=q1 at hx ⊢;split at hx
  ·split at hx
   ·rename_i hc;simp only[if_pos hc];rw[hs.n] at hx;exact .push hs hx rfl rfl
   ·cases hx
  ·cases hx
 case append esz bytes s x =>
  simp only[Ig] at hx;simp only[Q8];generalize ev x=q0 at hx ⊢;split at hx
  ·rename_i bh;simp only[hs.sl bh];split at hx
   ·rename_i hc;simp only[if_pos hc];exact P_ hs hx
   ·cases hx
  ·cases hx
 case ext o=>exact Bf hs hx
 all_goals exact E_ hs hx
def AI (k:IntKind) (n:Int):Int:=match n with
 |.ofNat x=>match Nat.ble x 127 with
  |true=>.ofNat x
  |false=>k.wrap (.ofNat x)
 |.negSucc x=>k.wrap (.negSucc x)
theorem Lu (k:IntKind) (n:Int):AI k n=k.wrap n:=by
 cases n with
 |negSucc x=>rfl
 |ofNat x =>
  simp only[AI];split
  ·rename_i h;have hx:x≤127:=Nat.le_of_ble_eq_true h;show (x:Int)=k.wrap (x:Int);cases k<;>simp[IntKind.wrap,IntKind.bits,IntKind.signed]<;>omega
  ·rfl
def Q4f (c a b:Value):Option Value:=match c with|.bool t=>some (if t then a else b)|_=>none
def OT (op:BinOp) (x y:Value):Option Value:=match x,y with|.int k a,.int k' b=>if k=k' then some (.int k (match op with|.add=>AI k (a+b)|.sub=>AI k (a-b)|_=>AI k (a*b))) else none|_,_=>none
def Q94 (op:BinOp) (x y:Value):Option Value:=match x,y with|.int k a,.int k' b=>if k=k'∧b≠0 then some (.int k (Q3m op k a b)) else none|_,_=>none
def Q6b (op:BinOp) (x y:Value):Option Value:=match x,y with|.int k a,.int k' b=>if k=k' then some (.int k (JL op k a b)) else none|_,_=>none
def OY (op:BinOp) (x y:Value):Option Value:=match x,y with|.int k a,.int _ b=>if 0≤b then some (.int k (Hu op k a b)) else none|_,_=>none
def Q92 (op:BinOp) (x y:Value):Option Value:=match x,y with|.int k a,.int k' b=>if k=k' then some (.bool (Q6u op a b)) else none|_,_=>none
def Q95 (op:BinOp) (x y:Value):Option Value:=match x,y with
  |.string a,.string b=>match op with
   |.add=>if a.size+b.size≤2 ^ 62 then some (.string (a++b)) else none
   |.eql=>some (.bool (a.data.toList==b.data.toList))
   |.neq=>some (.bool (!(a.data.toList==b.data.toList)))
   |.lss=>some (.bool (Op.bytesLess a.data.toList b.data.toList))
   |_=>none
  |_,_=>none
def Q8x (neg:Bool) (x y:Value):Option Value:=match x,y with|.bool a,.bool b=>some (.bool (if neg then !(a==b) else (a==b)))|_,_=>none
def pUn (op:UnOp) (x:Value):Option Value:=match op,x with
  |.not,.bool b=>some (.bool (!b))
  |.neg,.int k n=>some (.int k (k.wrap (0-n)))
  |.xor,.int k n=>some (.int k (JL .xor k (if k.signed then -1 else k.max) n))
  |_,_=>none
def Q07 (k:IntKind) (x:Value):Option Value:=match x with|.int _ n=>some (.int k (AI k n))|_=>none
def Oq (x:Value):Option Value:=match x with|.string s=>some (.string s)|_=>none
def Q09 (z:List Value) (l:List (Nat×Nat×Value)):Option Value:=match Vb z l with|some cs=>some (.agg cs.toArray)|none=>none
def Hz (off:Nat) (a:Value):Option Value:=match a with
  |.pointer (some ⟨i,o,none⟩)=>some (.pointer (some ⟨i,o+off,none⟩))
  |_=>none
def Q0p (agg:Bool) (off size:Nat) (x:Value):Option Value:=match x with
  |.agg cs=>Xk agg size cs.toList off
  |_=>none
def HK (size:Nat) (x i:Value):Option Value:=match x,i with
  |.slice (some ⟨b,o,none⟩) n _,.int _ k=>if 0≤k∧k<n then some (.pointer (some ⟨b,o+k.toNat*size,none⟩)) else none
  |_,_=>none
def Mp (len size:Nat) (x i:Value):Option Value:=match x,i with
  |.pointer (some ⟨g,o,some s⟩),.int _ k=>if 0≤k∧k<len then some (.pointer (some ⟨g,o+k.toNat*size,some s⟩)) else none
  |.pointer (some ⟨b,o,none⟩),.int _ k=>if 0≤k∧k<len then some (.pointer (some ⟨b,o+k.toNat*size,none⟩)) else none
  |_,_=>none
def TZ (x i:Value):Option Value:=match x,i with
  |.string s,.int _ k=>if 0≤k then (match s.data.toList[k.toNat]? with|some b=>some (.int .u8 b.toNat)|none=>none) else none
  |_,_=>none
def TH (len:Nat) (agg:Bool) (size:Nat) (x i:Value):Option Value:=match x,i with
  |.agg cs,.int _ k=>if 0≤k∧k<len then Xk agg size cs.toList (k.toNat*size) else none
  |_,_=>none
def TI (ev:Operand→Value) (x:Value) (lo hi:Option Operand):Option Value:=match x with
  |.string s =>
   match ZH ev lo 0,ZH ev hi s.size with
   |some l,some h=>if l≤h∧h≤s.size then some (.string (s.extract l h)) else none
   |_,_=>none
  |_=>none
def Q9d (x:Value):Option Value:=match x with|.slice _ n _=>some (.int .i64 n)|_=>none
def Er (x:Value):Option Value:=match x with|.string s=>some (.int .i64 s.size)|_=>none
def Q4o (x y z w:Value):Option Value:=match x,y,z,w with|.int k a,.int k2 b,.int k3 c,.int k4 d=>if k=k2∧k=k3∧k=k4 then some (.int k (AV (AV (AV a b) c) d)) else none|_,_,_,_=>none
def Q8z (x y:Value):Option Value:=match x,y with|.int k a,.int k' b=>if k=k' then some (.int k (if b > a then b else a)) else none|_,_=>none
def Q8t (x y:Value):Option Value:=match x,y with|.int k a,.int k' b=>if k=k' then some (.int k (if b<a then b else a)) else none|_,_=>none
def OF (t:TypeId) (x:Value):Option Value:=match x with|.chan _=>none|v=>some (.iface t v)
def Lk (i:Nat) (x:Value):Option Value:=match x with
  |.tuple vs=>vs.toList[i]?
  |_=>none
def RD (x:Value):Option Value:=match x with
  |.pointer (some a)=>some (.pointer (some a))
  |.func (.func f) first cap=>some (.func (.func f) first cap)
  |_=>none
def ppp (r:Option Value) (σ:CH):Option (Value×CH):=match r with|some v=>some (v,σ)|none=>none
def Q9t (t:Nat) (x:Value) (σ:CH):Option (Value×CH):=match WS x with
  |some vs=>V4 σ (.cells vs ⟨vs.length,t⟩ true true) (.pointer (some ⟨σ.n,0,none⟩))
  |none=>none
def S7 (esz:El) (z:List Value) (len:Nat) (l:List (Nat×Nat×Value)) (σ:CH):Option (Value×CH):=match Vb (D3 len z) l with
  |some cs=>V4 σ (.cells cs esz true true) (.slice (some ⟨σ.n,0,none⟩) len len)
  |none=>none
def Q65 (agg:Bool) (size:Nat) (a:Value) (σ:CH):Option (Value×CH):=match a with
  |.pointer (some ⟨g,o,some _⟩)=>(match Ii g with
   |some c=>if c.all Qv then (match Xk agg size c o with|some v=>some (v,σ)|none=>none) else none
   |none=>none)
  |.pointer (some ⟨i,o,none⟩)=>match σ.get i with
   |some (.cells c _ _ _)=>match Xk agg size c o with|some v=>some (v,σ)|none=>none
   |_=>none
  |_=>none
def stL (c:List Value) (o:Nat) (vs:List Value):List Value:=match vs with
 |[v]=>c.set o v
 |vs=>c.take o++(vs++c.drop (o+vs.length))
theorem L7:∀ (vs a b c:List Value),vs.length=b.length→WH (a++(b++c)) a.length vs=a++(vs++c)
 |[],a,b,c,h=>by have:b=[]:=List.eq_nil_of_length_eq_zero (by simpa using h.symm);subst this;rfl
 |v::vs,a,[],c,h=>by simp at h
 |v::vs,a,x::b,c,h=>by
  simp only[WH];have e:(a++(x::b++c)).set a.length v=(a++[v])++(b++c):=by simp
  rw[e];have:=L7 vs (a++[v]) b c (by simpa using h);rw[List.length_append,List.length_singleton] at this;rw[this];simp
theorem Q5b {c:List Value}{o:Nat}{vs:List Value}(h:o+vs.length≤c.length):stL c o vs=WH c o vs:=by
 unfold stL;split
 ·rfl
 ·have h1:c=c.take o++((c.drop o).take vs.length++c.drop (o+vs.length)):=by
   rw[←List.drop_drop,List.take_append_drop,List.take_append_drop]
  have h2:(c.take o).length=o:=by simp;omega
  have:=L7 vs (c.take o) ((c.drop o).take vs.length) (c.drop (o+vs.length)) (by simp;omega);rw[h2,←h1] at this;exact this.symm
def Q0o (size:Nat) (a v:Value) (σ:CH):Option (Value×CH):=match a,WS v with
  |.pointer (some ⟨i,o,none⟩),some vs=>match σ.get i with
   |some (.cells c e wr tight)=>if wr=true∧vs.length=size∧o+size≤c.length∧vs.all cellOk=true then some (undef,σ.upd i (.cells (stL c o vs) e wr tight)) else none
   |_=>none
  |_,_=>none
def AF (esz:El) (bytes:Nat) (z:List Value) (l c:Value) (σ:CH):Option (Value×CH) :=
  match l,c with
  |.int _ a,.int _ b=>if 0≤a∧a≤b∧b*bytes≤2 ^ 46∧b≤2 ^ 46 then V4 σ (.cells (D3 b.toNat z) esz true true) (.slice (some ⟨σ.n,0,none⟩) a.toNat b.toNat) else none
  |_,_=>none
def Q9o (esz:El) (bytes:Nat) (s x:Value) (σ:CH):Option (Value×CH) :=
  match σ.sl esz.sz x,x with
  |some xs,.slice _ m _=>if xs.all cellOk then T8 esz bytes σ s m xs else none
  |_,_=>none
def Si (o:VOp) (ev:Operand→Value) (σ:CH):Option (Value×CH) :=
 match o with
 |.move x=>some (ev x,σ)
 |.pick c a b=>ppp (Q4f (ev c) (ev a) (ev b)) σ
 |.arith op x y=>ppp (OT op (ev x) (ev y)) σ
 |.div op x y=>ppp (Q94 op (ev x) (ev y)) σ
 |.bits op x y=>ppp (Q6b op (ev x) (ev y)) σ
 |.shift op x y=>ppp (OY op (ev x) (ev y)) σ
 |.cmp op x y=>ppp (Q92 op (ev x) (ev y)) σ
 |.str op x y=>ppp (Q95 op (ev x) (ev y)) σ
 |.eqB n x y=>ppp (Q8x n (ev x) (ev y)) σ
 |.un op x=>ppp (pUn op (ev x)) σ
 |.convI k x=>ppp (Q07 k (ev x)) σ
 |.convS x=>ppp (Oq (ev x)) σ
 |.build z parts=>ppp (Q09 z (parts.map fun p=>(p.1,p.2.1,ev p.2.2))) σ
 |.fieldAddr off a=>ppp (Hz off (ev a)) σ
 |.field agg off size x=>ppp (Q0p agg off size (ev x)) σ
 |.indexAddr size x i=>ppp (HK size (ev x) (ev i)) σ
 |.indexAddrArr len size x i=>ppp (Mp len size (ev x) (ev i)) σ
 |.indexStr x i=>ppp (TZ (ev x) (ev i)) σ
 |.indexArr len agg size x i=>ppp (TH len agg size (ev x) (ev i)) σ
 |.sliceStr x lo hi=>ppp (TI ev (ev x) lo hi) σ
 |.len x=>ppp (Q9d (ev x)) σ
 |.lenStr x=>ppp (Er (ev x)) σ
 |.max x y=>ppp (Q8z (ev x) (ev y)) σ
 |.max4 x y z w=>ppp (Q4o (ev x) (ev y) (ev z) (ev w)) σ
 |.min x y=>ppp (Q8t (ev x) (ev y)) σ
 |.makeFunc fn first cap=>some (.func fn (first.map ev).toArray (cap.map ev).toArray,σ)
 |.iface t x=>ppp (OF t (ev x)) σ
 |.extract x i=>ppp (Lk i (ev x)) σ
 |.nilCheck x=>ppp (RD (ev x)) σ
 |.alloc t z=>V4 σ (.cells z ⟨z.length,t⟩ true true) (.pointer (some ⟨σ.n,0,none⟩))
 |.box t x=>Q9t t (ev x) σ
 |.buildSlice esz z len parts=>S7 esz z len (parts.map fun p=>(p.1*esz.sz,esz.sz,ev p.2)) σ
 |.load agg size a=>Q65 agg size (ev a) σ
 |.store size a v=>Q0o size (ev a) (ev v) σ
 |.slice size x lo hi mx=>Ig (.slice size x lo hi mx) ev σ
 |.makeSlice esz bytes z l c=>AF esz bytes z (ev l) (ev c) σ
 |.append esz bytes s x=>Q9o esz bytes (ev s) (ev x) σ
 |.ext o=>JU o ev σ
 |_=>none
theorem EE {rs:Nat→Env×Loop}{h:CH}{σ:Heap}(hs:CSim rs h σ) {r:Option Value}{r':Option (Value×Heap)}{p:Value×CH}(hr:∀ v,r=some v→r'=some (v,σ)) (hx:ppp r h=some p):ESnd rs h σ r' p:=by
 unfold ppp at hx;split at hx
 ·rename_i v;obtain rfl:=osj hx;exact .same hs (hr v rfl)
 ·cases hx
theorem Yl {rs:Nat→Env×Loop}{h:CH}{σ:Heap}(hs:CSim rs h σ) {o:VOp}{ev:Operand→Value}{p:Value×CH}(hx:Si o ev h=some p):ESnd rs h σ (Q8 o ev σ) p:=by
 cases o
 case move x=>exact .same hs (by obtain rfl:=osj hx;rfl) |> fun (h:ESnd rs _ σ (Q8 (.move x) ev σ) (ev x,_))=>by obtain rfl:=osj hx;exact h
 case makeFunc fn a b=>obtain rfl:=osj hx;exact .same hs rfl
 case alloc t z=>exact XK (o:=.alloc t z) hs hx
 case box t x=>exact XK (o:=.box t x) hs hx
 case buildSlice a b c d=>exact XK (o:=.buildSlice a b c d) hs hx
 case load a b c=>exact XK (o:=.load a b c) hs hx
 case store size a v =>
  simp only[Si] at hx;simp only[Q8];unfold Q0o at hx;generalize WS (ev v)=q0 at hx ⊢;generalize ev a=q1 at hx ⊢;split at hx
  ·rename_i i o vs;split at hx
   ·rename_i c e wr tight hg;simp only[hs.cells hg];split at hx
    ·rename_i hc;simp only[if_pos hc];rw[Q5b (by omega)] at hx;obtain rfl:=osj hx;exact .upd hs hg rfl rfl
    ·cases hx
   ·cases hx
  ·cases hx
 case slice a b c d e=>exact XK (o:=.slice a b c d e) hs hx
 case makeSlice a b c d e=>exact XK (o:=.makeSlice a b c d e) hs hx
 case append a b c d=>exact XK (o:=.append a b c d) hs hx
 case ext o=>exact Bf hs hx
 case callF=>cases hx
 case callV=>cases hx
 case bad=>cases hx
 all_goals refine EE hs (fun v hv=>?_) hx
 case arith op x y =>
  simp only[Q8];generalize ev x=a at hv ⊢;generalize ev y=b at hv ⊢;unfold OT at hv;split at hv
  ·split at hv
   ·rename_i hk;simp only[if_pos hk];obtain rfl:=osj hv;cases op<;>simp only[HT,Lu]
   ·cases hv
  ·cases hv
 case convI k x =>
  simp only[Q8];generalize ev x=a at hv ⊢;unfold Q07 at hv;split at hv
  ·obtain rfl:=osj hv;simp only[Lu]
  ·cases hv
 case pick c a b =>
  simp only[Q8];generalize ev c=q0 at hv ⊢;generalize ev a=q1 at hv ⊢;generalize ev b=q2 at hv ⊢;unfold Q4f at hv
  (repeat' split at hv)<;>first|(cases hv;done)|(obtain rfl:=osj hv;first|rfl|(simp_all;done)|(simp_all;intros;omega))
 case div op x y =>
  simp only[Q8];generalize ev x=q0 at hv ⊢;generalize ev y=q1 at hv ⊢;unfold Q94 at hv
  (repeat' split at hv)<;>first|(cases hv;done)|(obtain rfl:=osj hv;first|rfl|(simp_all;done)|(simp_all;intros;omega))
 case bits op x y =>
  simp only[Q8];generalize ev x=q0 at hv ⊢;generalize ev y=q1 at hv ⊢;unfold Q6b at hv
  (repeat' split at hv)<;>first|(cases hv;done)|(obtain rfl:=osj hv;first|rfl|(simp_all;done)|(simp_all;intros;omega))
 case shift op x y =>
  simp only[Q8];generalize ev x=q0 at hv ⊢;generalize ev y=q1 at hv ⊢;unfold OY at hv
  (repeat' split at hv)<;>first|(cases hv;done)|(obtain rfl:=osj hv;first|rfl|(simp_all;done)|(simp_all;intros;omega))
 case cmp op x y =>
  simp only[Q8];generalize ev x=q0 at hv ⊢;generalize ev y=q1 at hv ⊢;unfold Q92 at hv
  (repeat' split at hv)<;>first|(cases hv;done)|(obtain rfl:=osj hv;first|rfl|(simp_all;done)|(simp_all;intros;omega))
 case eqB n x y =>
  simp only[Q8];generalize ev x=q0 at hv ⊢;generalize ev y=q1 at hv ⊢;unfold Q8x at hv
  (repeat' split at hv)<;>first|(cases hv;done)|(obtain rfl:=osj hv;first|rfl|(simp_all;done)|(simp_all;intros;omega))
 case un op x =>
  simp only[Q8];generalize ev x=q0 at hv ⊢;unfold pUn at hv
  (repeat' split at hv)<;>first|(cases hv;done)|(obtain rfl:=osj hv;first|rfl|(simp_all;done)|(simp_all;intros;omega))
 case convS x =>
  simp only[Q8];generalize ev x=q0 at hv ⊢;unfold Oq at hv
  (repeat' split at hv)<;>first|(cases hv;done)|(obtain rfl:=osj hv;first|rfl|(simp_all;done)|(simp_all;intros;omega))
 case fieldAddr off a =>
  simp only[Q8];generalize ev a=q0 at hv ⊢;unfold Hz at hv
  (repeat' split at hv)<;>first|(cases hv;done)|(obtain rfl:=osj hv;first|rfl|(simp_all;done)|(simp_all;intros;omega))
 case indexAddr size x i =>
  simp only[Q8];generalize ev x=q0 at hv ⊢;generalize ev i=q1 at hv ⊢;unfold HK at hv
  (repeat' split at hv)<;>first|(cases hv;done)|(obtain rfl:=osj hv;first|rfl|(simp_all;done)|(simp_all;intros;omega))
 case indexAddrArr len size x i =>
  simp only[Q8];generalize ev x=q0 at hv ⊢;generalize ev i=q1 at hv ⊢;unfold Mp at hv
  (repeat' split at hv)<;>first|(cases hv;done)|(obtain rfl:=osj hv;first|rfl|(simp_all;done)|(simp_all;intros;omega))
 case len x =>
  simp only[Q8];generalize ev x=q0 at hv ⊢;unfold Q9d at hv
  (repeat' split at hv)<;>first|(cases hv;done)|(obtain rfl:=osj hv;first|rfl|(simp_all;done)|(simp_all;intros;omega))
 case lenStr x =>
  simp only[Q8];generalize ev x=q0 at hv ⊢;unfold Er at hv
  (repeat' split at hv)<;>first|(cases hv;done)|(obtain rfl:=osj hv;first|rfl|(simp_all;done)|(simp_all;intros;omega))
 case max4 x y z w =>
  simp only[Q8];generalize ev x=q0 at hv ⊢;generalize ev y=q1 at hv ⊢;generalize ev z=q2 at hv ⊢;generalize ev w=q3 at hv ⊢;unfold Q4o at hv
  (repeat' split at hv)<;>first|(cases hv;done)|(rename_i pU;obtain⟨rfl,rfl,rfl⟩:=pU;obtain rfl:=osj hv;simp_all;done)
 case max x y =>
  simp only[Q8];generalize ev x=q0 at hv ⊢;generalize ev y=q1 at hv ⊢;unfold Q8z at hv
  (repeat' split at hv)<;>first|(cases hv;done)|(obtain rfl:=osj hv;first|rfl|(simp_all;done)|(simp_all;intros;omega))
 case min x y =>
  simp only[Q8];generalize ev x=q0 at hv ⊢;generalize ev y=q1 at hv ⊢;unfold Q8t at hv
  (repeat' split at hv)<;>first|(cases hv;done)|(obtain rfl:=osj hv;first|rfl|(simp_all;done)|(simp_all;intros;omega))
 case nilCheck x =>
  simp only[Q8];generalize ev x=q0 at hv ⊢;unfold RD at hv
  (repeat' split at hv)<;>first|(cases hv;done)|(obtain rfl:=osj hv;first|rfl|(simp_all;done)|(simp_all;intros;omega))
 case str op x y =>
  simp only[Q8];generalize ev x=q0 at hv ⊢;generalize ev y=q1 at hv ⊢;unfold Q95 at hv
  (repeat' split at hv)<;>first|(cases hv;done)|(obtain rfl:=osj hv;first|rfl|(simp_all;done)|(simp_all;intros;omega))
 case build z parts =>
  simp only[Q8];unfold Q09 at hv;split at hv
  ·rename_i cs hc;rw[hc];obtain rfl:=osj hv;rfl
  ·cases hv
 case field agg off size x =>
  simp only[Q8];generalize ev x=q0 at hv ⊢;unfold Q0p at hv;split at hv
  ·dsimp only;rw[hv]
  ·cases hv
 case indexStr x i =>
  simp only[Q8];generalize ev x=q0 at hv ⊢;generalize ev i=q1 at hv ⊢;unfold TZ at hv;split at hv
  ·split at hv
   ·rename_i hc;simp only[if_pos hc];split at hv
    ·rename_i b hb;simp only[hb];obtain rfl:=osj hv;rfl
    ·cases hv
   ·cases hv
  ·cases hv
 case indexArr len agg size x i =>
  simp only[Q8];generalize ev x=q0 at hv ⊢;generalize ev i=q1 at hv ⊢;unfold TH at hv;split at hv
  ·split at hv
   ·rename_i hc;simp only[if_pos hc,hv]
   ·cases hv
  ·cases hv
 case sliceStr x lo hi =>
  simp only[Q8];generalize ev x=q0 at hv ⊢;unfold TI at hv;split at hv
  ·rename_i s;split at hv
   ·rename_i l h h1 h2;split at hv
    ·rename_i hc;simp only[h1,h2,if_pos hc];obtain rfl:=osj hv;rfl
    ·cases hv
   ·cases hv
  ·cases hv
 case iface t x =>
  simp only[Q8];generalize ev x=q0 at hv ⊢;unfold OF at hv;split at hv
  ·cases hv
  ·rename_i aF;obtain rfl:=osj hv;split
   ·exact absurd rfl (aF _)
   ·rfl
 case extract x i =>
  simp only[Q8];generalize ev x=q0 at hv ⊢;unfold Lk at hv;split at hv
  ·dsimp only;rw[hv]
  ·cases hv
inductive Sh (a m d:Nat):Value→Value→Prop
 |plain (v:Value) (h:Qv v=true):Sh a m d v v
 |ptr (i o:Nat) (h:a≤i) (hi:i<m):Sh a m d (.pointer (some ⟨i,o,none⟩)) (.pointer (some ⟨d+(i-a),o,none⟩))
 |sl (i o len cap:Nat) (h:a≤i) (hi:i<m):Sh a m d (.slice (some ⟨i,o,none⟩) len cap) (.slice (some ⟨d+(i-a),o,none⟩) len cap)
 |agg (cs ds:Array Value) (hc:cs.size=ds.size) (h:∀ i (h1:i<cs.size) (h2:i<ds.size),Sh a m d cs[i] ds[i]):Sh a m d (.agg cs) (.agg ds)
 |tuple (cs ds:Array Value) (hc:cs.size=ds.size) (h:∀ i (h1:i<cs.size) (h2:i<ds.size),Sh a m d cs[i] ds[i]):Sh a m d (.tuple cs) (.tuple ds)
theorem Sh.rel {ρ ρ':Plc}{a m d n':Nat}(hn:d+(m-a)≤n') (hρ:∀ i,a≤i→i<m→ρ' (d+(i-a))=ρ i) {v v':Value}(h:Sh a m d v v') :
  ∀ {c:Value},VRel ρ m v c→VRel ρ' n' v' c:=by
 induction h with
 |plain v h =>intro c hv;have:c=v:=YH h hv;subst this;exact Xf h
 |ptr i o h hi =>intro c hv;obtain⟨a',rfl,_,bE⟩:=hv.ptr_inv';exact .ptr _ _ _ (by omega) fun p hp=>bE p (by rw[←hρ i h hi];exact hp)
 |sl i o len cap h hi =>intro c hv;obtain⟨a',aw,rfl,_,bE⟩:=hv.sl_inv;exact .sl _ _ _ _ _ _ (by omega) fun p hp=>bE p (by rw[←hρ i h hi];exact hp)
 |agg cs ds hc h ih =>
  intro c hv;cases hv with
  |agg _ ds' cM h'=>exact .agg _ _ (hc.symm.trans cM) fun i k1 k2=>ih i (by omega) k1 (h' i (by omega) k2)
 |tuple cs ds hc h ih =>
  intro c hv;cases hv with
  |tuple _ ds' cM h'=>exact .tuple _ _ (hc.symm.trans cM) fun i k1 k2=>ih i (by omega) k1 (h' i (by omega) k2)
theorem BRel.any {ρ ρ':Plc}{n n':Nat}{p:Pl}{w:World}{c:List Value}{esz:El}{wr tight:Bool}(hp:c.all Qv=true) (h:BRel ρ n p w (.cells c esz wr tight)) :
  BRel ρ' n' p w (.cells c esz wr tight):=by
 obtain⟨h1,h2,h3,h4,h5,h6⟩:=h;refine⟨h1,h2,h3,h4,fun k v hk=>?_,h6⟩;obtain⟨u,hu,hv⟩:=h5 k v hk;have aO:Qv v=true:=List.all_eq_true.1 hp v (List.mem_of_getElem? hk);obtain rfl:u=v:=YH aO hv;exact⟨u,hu,Xf aO⟩
theorem BRel.asRo {ρ ρ':Plc}{n n':Nat}{p:Pl}{w:World}{c:List Value}{esz:El}{wr tight:Bool}(hp:c.all Qv=true) (h:BRel ρ n p w (.cells c esz wr tight)) :
  BRel ρ' n' p w (.cells c esz false tight):=by
 obtain⟨h1,h2,h3,h4,h5,h6⟩:=BRel.any (ρ':=ρ') (n':=n') hp h;exact⟨h1,h2,h3,h4,h5,fun h=>by cases h⟩
structure PB where
 c:List Value
 esz:El
 tight:Bool
def PB.blk (wr:Bool) (b:PB):Blk:=.cells b.c b.esz wr b.tight
def Ja (bl fr:List PB):Heap where
 get i:=if i<bl.length then (bl[i]?).map (PB.blk false) else (fr[i-bl.length]?).map (PB.blk true)
 n:=bl.length+fr.length
 wf i h:=by rw[if_neg (by omega),List.getElem?_eq_none (by omega)];rfl
def JV (σ:Heap) (fr:List PB):Heap where
 get i:=if i<σ.n then σ.get i else (fr[i-σ.n]?).map (PB.blk true)
 n:=σ.n+fr.length
 wf i h:=by rw[if_neg (by omega),List.getElem?_eq_none (by omega)];rfl
theorem VCalled.localize {P:Program}{f:FuncId}{iF args:List Value}{bl fr:List PB}{vm v:Value}{σ:Heap}{π:Nat→Nat}{K:Value→Heap→Prop}
  (hm:VCalled P f iF (Ja bl []) fun u τ=>u=vm∧τ=Ja bl fr)
  (jQ:∀ b∈bl,b.c.all Qv=true) (cP:∀ b∈fr,b.c.all Qv=true)
  (hπ:∀ i b,bl[i]?=some b→∃ wr,σ.get (π i)=some (b.blk wr))
  (aD:LRen bl.length π iF args) (hv:Sh bl.length (bl.length+fr.length) σ.n vm v) (hK:K v (JV σ fr)):VCalled P f args σ K:=by
 intro ρ w az hH hL;have bP:∀ B,¬ Wr (fun i=>if i<bl.length then ρ (π i) else none) (Ja bl []) B:=by
  rintro B ⟨i,p,b,_,hb,hw,_⟩;have hi:i<bl.length:=by have:=(Ja bl []).lt hb;simpa [Ja] using this
  simp only[Ja,if_pos hi] at hb;cases eC:bl[i]? with
  |none=>rw[eC] at hb;cases hb
  |some b0=>rw[eC] at hb;obtain rfl:=osj hb;cases hw
 have tV:HRel (fun i=>if i<bl.length then ρ (π i) else none) (Ja bl []) w:=by
  refine⟨⟨fun i b hb=>?_,fun i hi=>?_,fun i p hp=>?_,fun i j p q b _ hp _ hb hw _=>(bP _ ⟨i,p,b,hp,hb,hw,rfl⟩).elim⟩,fun g cs hg=>⟨(hH.tab g cs hg).1,bP g⟩⟩
  ·have hi:i<bl.length:=by have:=(Ja bl []).lt hb;simpa [Ja] using this
   simp only[Ja,if_pos hi] at hb;cases eC:bl[i]? with
   |none=>rw[eC] at hb;cases hb
   |some b0 =>rw[eC] at hb;obtain rfl:=osj hb;obtain⟨wr,hg⟩:=hπ i b0 eC;obtain⟨p,hp,hB⟩:=hH.live _ _ hg;exact⟨p,by simp[hi,hp],BRel.asRo (jQ b0 (List.mem_of_getElem? eC)) hB⟩
  ·by_cases h:i<bl.length
   ·simp only[Ja,if_pos h,List.getElem?_eq_getElem h] at hi;cases hi
   ·simp[h]
  ·skip
   split at hp
   ·exact hH.lt _ p hp
   ·cases hp
 have tW:LRel (fun i=>if i<bl.length then ρ (π i) else none) (Ja bl []).n iF az.toList:=by have:=aD.rel hL;simpa [Ja] using this
 have lift:∀ c w',Got (fun i=>if i<bl.length then ρ (π i) else none) (Ja bl []) w (fun u τ=>u=vm∧τ=Ja bl fr) c w'→Got ρ σ w K c w':=by
  rintro c w' ⟨_,ρm,_,⟨rfl,rfl⟩,dF,iG,hE⟩;have dK:∀ B,B<w.heap.size→w'.heap[B]?=w.heap[B]?:=fun B hB=>hE.keep B hB (bP B);have f_:∀ i p,bl.length≤i→ρm i=some p→w.heap.size≤p.blk:=fun i p hi hp=>by
   rcases Nat.lt_or_ge p.blk w.heap.size with h|h
   ·refine (bP _ (hE.wr p.blk h ?_)).elim;have ij:=iG.idlt hp;cases hb:(Ja bl fr).get i with
    |none=>rw[iG.dead i hb] at hp;cases hp
    |some b =>
     refine⟨i,p,b,hp,hb,?_,rfl⟩;simp only[Ja,if_neg (Nat.not_lt.2 hi)] at hb;cases eC:fr[i-bl.length]? with
     |none=>rw[eC] at hb;cases hb
     |some b0=>rw[eC] at hb;obtain rfl:=osj hb;rfl
   ·exact h
  have hρ:∀ i,σ.n≤i→(if i<σ.n then ρ i else if i<σ.n+fr.length then ρm (bl.length+(i-σ.n)) else none)=if i<σ.n+fr.length then ρm (bl.length+(i-σ.n)) else none:=fun i hi=>if_neg (by omega)
  have hX:Ext ρ σ w (fun i=>if i<σ.n then ρ i else if i<σ.n+fr.length then ρm (bl.length+(i-σ.n)) else none) (JV σ fr) w':=by
   refine⟨hE.os,hE.tape,hE.output,hE.size,fun B hB _=>dK B hB,?_,by simp[JV],fun i hi p hp=>?_⟩
   ·rintro B hB ⟨i,p,b,hp,hb,hw,rfl⟩
    replace hp:(if i<σ.n then ρ i else if i<σ.n+fr.length then ρm (bl.length+(i-σ.n)) else none)=some p:=hp
    by_cases hi:i<σ.n
    ·rw[if_pos hi] at hp;simp only[JV,if_pos hi] at hb;exact⟨i,p,b,hp,hb,hw,rfl⟩
    ·rw[if_neg hi] at hp;split at hp
     ·have:=f_ _ p (by omega) hp;omega
     ·cases hp
   ·skip
    rwa [if_pos hi] at hp
  refine⟨v,fun i=>if i<σ.n then ρ i else if i<σ.n+fr.length then ρm (bl.length+(i-σ.n)) else none,JV σ fr,hK,?_,hH.ext ⟨fun i b hb=>?_,fun i hi=>?_,fun i p hp=>?_,fun i j p q b cm hp hq hb hw hx=>?_⟩ hX,hX⟩
  ·refine hv.rel (by simp[JV]) (fun i h1 h2=>?_) dF;rw[if_neg (by omega),if_pos (by omega)];congr 1;omega
  ·by_cases hi:i<σ.n
   ·simp only[JV,if_pos hi] at hb;obtain⟨p,hp,hB⟩:=hH.live i b hb;exact⟨p,by simp[hi,hp],hB.mono (by simp[JV]) (fun j hj q hq=>by simpa [hj] using hq) (dK _ (hH.lt i p hp))⟩
   ·simp only[JV,if_neg hi] at hb;cases eC:fr[i-σ.n]? with
    |none=>rw[eC] at hb;cases hb
    |some b0 =>
     rw[eC] at hb;obtain rfl:=osj hb;have ai:i-σ.n<fr.length:=(List.getElem?_eq_some_iff.1 eC).1;obtain⟨p,hp,hB⟩:=iG.live (bl.length+(i-σ.n)) (b0.blk true) (by
      show (if _ then _ else _)=_;rw[if_neg (by omega),show bl.length+(i-σ.n)-bl.length=i-σ.n by omega,eC];rfl)
     exact⟨p,by rw[if_neg hi,if_pos (by omega)];exact hp,BRel.any (cP b0 (List.mem_of_getElem? eC)) hB⟩
  ·by_cases h:i<σ.n
   ·simp only[JV,if_pos h] at hi;rw[if_pos h];exact hH.dead i hi
   ·simp only[JV,if_neg h] at hi;rw[if_neg h];split
    ·rename_i h2;have ai:i-σ.n<fr.length:=by omega
     rw[List.getElem?_eq_getElem ai] at hi;cases hi
    ·rfl
  ·skip
   split at hp
   ·exact Nat.lt_of_lt_of_le (hH.lt i p hp) hE.size
   ·split at hp
    ·exact iG.lt _ p hp
    ·cases hp
  ·skip
   by_cases hi:i<σ.n<;>by_cases hj:j<σ.n
   ·rw[if_pos hi] at hp;rw[if_pos hj] at hq;simp only[JV,if_pos hi] at hb;exact hH.sep i j p q b cm hp hq hb hw hx
   ·rw[if_pos hi] at hp;rw[if_neg hj] at hq;split at hq
    ·have h1:=hH.lt i p hp;have h2:=f_ _ q (by omega) hq;omega
    ·cases hq
   ·rw[if_neg hi] at hp;rw[if_pos hj] at hq;split at hp
    ·have h1:=hH.lt j q hq;have h2:=f_ _ p (by omega) hp;omega
    ·cases hp
   ·rw[if_neg hi] at hp;rw[if_neg hj] at hq;split at hp
    ·split at hq
     ·simp only[JV,if_neg hi] at hb;refine iG.sep (bl.length+(i-σ.n)) (bl.length+(j-σ.n)) p q b (by omega) hp hq ?_ hw hx;show (if _ then _ else _)=_;rw[if_neg (by omega),show bl.length+(i-σ.n)-bl.length=i-σ.n by omega];exact hb
     ·cases hq
    ·cases hp
 rcases hm _ w az tV tW with⟨h1,h2⟩|⟨c,h1,h2⟩
 ·refine .inl ⟨h1,?_⟩;exact h2.mono fun e w' he=>by
   obtain⟨c,rfl,hc⟩:=he;exact⟨c,rfl,lift c w' hc⟩
 ·refine .inr ⟨c,lift c w h1,fun w' de=>h2 w' ⟨de.1,fun i p hp=>?_,de.tab⟩⟩
  replace hp:(if i<bl.length then ρ (π i) else none)=some p:=hp
  split at hp
  ·exact de.2 _ p hp
  ·cases hp
def Ee {α:Type}(p:α→α→Bool):List α→List α→Bool
 |[],[]=>true
 |a::l,b::m=>p a b&&Ee p l m
 |_,_=>false
theorem Kn {α:Type}{p:α→α→Bool}(hp:∀ a b,p a b=true→a=b):∀ l m,Ee p l m=true→l=m
 |[],[],_=>rfl
 |a::l,b::m,h=>by simp only[Ee,Bool.and_eq_true] at h;rw[hp a b h.1,Kn hp l m h.2]
 |[],_::_,h=>by cases h
 |_::_,[],h=>by cases h
def SX:Nat→Value→Value→Bool
 |0,_,_=>false
 |f+1,a,b=>match a,b with
  |.bool x,.bool y=>x==y
  |.int k x,.int k' y=>decide (k=k')&&decide (x=y)
  |.string s,.string t=>decide (s.data.toList=t.data.toList)
  |.pointer none,.pointer none=>true
  |.pointer (some ⟨i,o,none⟩),.pointer (some ⟨j,q,none⟩)=>Nat.beq i j&&Nat.beq o q
  |.slice none l c,.slice none l' c'=>Nat.beq l l'&&Nat.beq c c'
  |.slice (some ⟨i,o,none⟩) l c,.slice (some ⟨j,q,none⟩) l' c'=>Nat.beq i j&&(Nat.beq o q&&(Nat.beq l l'&&Nat.beq c c'))
  |.map x,.map y=>decide (x=y)
  |.chan none,.chan none=>true
  |.nilFunc,.nilFunc=>true
  |.nilIface,.nilIface=>true
  |.func (.func g) fs cs,.func (.func g') rO cs'=>decide (g=g')&&(Ee (SX f) fs.toList rO.toList&&Ee (SX f) cs.toList cs'.toList)
  |.iface t v,.iface t' v'=>decide (t=t')&&SX f v v'
  |.agg cs,.agg ds=>Ee (SX f) cs.toList ds.toList
  |.tuple cs,.tuple ds=>Ee (SX f) cs.toList ds.toList
  |_,_=>false
theorem HI {α:Type}{a b:Array α}(h:a.toList=b.toList):a=b:=by cases a;cases b;simp at h;rw[h]
theorem V1:∀ (f:Nat) (a b:Value),SX f a b=true→a=b:=by
 intro f;induction f with
 |zero=>intro a b h;cases h
 |succ f ih =>
  intro a b h;unfold SX at h
  split at h<;>first
   |(cases h;done)
   |rfl
   |(simp at h;subst h;rfl)
   |(simp at h;obtain⟨rfl,rfl⟩:=h;rfl)
   |(simp at h;obtain⟨rfl,rfl,rfl,rfl⟩:=h;rfl)
   |skip
  ·rename_i s t;have h:=of_decide_eq_true h;have:=HI h;cases s;cases t;simp at this;rw[this]
  ·rename_i g fs cs g' rO cs';simp only[Bool.and_eq_true,decide_eq_true_eq] at h;obtain⟨rfl,h1,h2⟩:=h;rw[HI (Kn ih _ _ h1),HI (Kn ih _ _ h2)]
  ·rename_i t v t' v';simp only[Bool.and_eq_true,decide_eq_true_eq] at h;obtain⟨rfl,h1⟩:=h;rw[ih _ _ h1]
  ·rw[HI (Kn ih _ _ h)]
  ·rw[HI (Kn ih _ _ h)]
def EB.beq:EB→EB→Bool
 |.cells c e w t,.cells c' e' w' t'=>decide (e=e')&&(w==w'&&(t==t'&&Ee (SX 20) c c'))
 |.map es cl w,.map bX tX w'=>Nat.beq cl tX&&(w==w'&&Ee (fun a b=>SX 20 a.1 b.1&&(SX 20 a.2.1 b.2.1&&Nat.beq a.2.2 b.2.2)) es bX)
 |.iter m s sn l,.iter m' s' tY l'=>Nat.beq m m'&&(Nat.beq s s'&&(Nat.beq l l'&&decide (sn=tY)))
 |.lp .ready none,.lp .ready none=>true
 |.lp .busy none,.lp .busy none=>true
 |_,_=>false
theorem EB.beq_eq {a b:EB}(h:a.beq b=true):a=b:=by
 unfold EB.beq at h
 split at h<;>first
  |(cases h;done)
  |rfl
  |skip
 ·simp only[Bool.and_eq_true,decide_eq_true_eq,beq_iff_eq] at h;obtain⟨rfl,rfl,rfl,h⟩:=h;rw[Kn (V1 20) _ _ h]
 ·simp only[Bool.and_eq_true,beq_iff_eq,Nat.beq_eq] at h;obtain⟨rfl,rfl,h⟩:=h;rw[Kn (fun a b h=>by
   simp only[Bool.and_eq_true,Nat.beq_eq] at h;obtain⟨a1,a2,a3⟩:=a;obtain⟨b1,b2,b3⟩:=b;obtain⟨h1,h2,h3⟩:=h;simp at h1 h2 h3;rw[V1 _ _ _ h1,V1 _ _ _ h2,h3]) _ _ h]
 ·simp only[Bool.and_eq_true,decide_eq_true_eq,Nat.beq_eq] at h;obtain⟨rfl,rfl,rfl,rfl⟩:=h;rfl
def CH.newOk (h h':CH):Bool:=Nat.ble h.n h'.n&&(h'.room&&(List.range' h.n (h'.n-h.n)).all fun i=>match h'.get i with
 |some (.lp _ _)=>false
 |_=>true)
structure AnsOps (A:Type) where
 fail:A
 both:A→A→A
structure Good {A:Type}(R:AnsOps A) (G:A→Prop):Prop where
 fail:¬ G R.fail
 both:∀ a b,G (R.both a b)→G a∧G b
def YJ:AnsOps Bool:=⟨false,and⟩
theorem Ps:Good YJ (·=true):=⟨by simp[YJ],fun a b h=>by simpa [YJ] using h⟩
def C8:AnsOps (Option (Value×CH)):=⟨none,fun _ _=>none⟩
theorem Q1x (x:Value×CH):Good C8 (·=some x):=⟨by simp[C8],fun a b h=>by simp[C8] at h⟩
def CH.same (h h':CH):Bool:=Nat.beq h.n h'.n&&(List.range h.n).all fun i=>match h.get i,h'.get i with
 |none,none=>true
 |some a,some b=>a.beq b
 |_,_=>false
def EB.plainE:EB→Bool
 |.cells c _ _ _=>c.all Qv
 |.map es _ _=>es.all fun kv=>Qv kv.2.1
 |_=>false
def CH.keepOk (h h':CH):Bool:=Nat.ble h.n h'.n&&(List.range h.n).all fun i=>match h.get i,h'.get i with
 |none,none=>true
 |some a,some b=>b.plainE||a.beq b
 |_,_=>false
def gcI (n0:Nat) (refs:List Nat) (i:Nat):Nat×List Nat :=
 if i<n0 then (i,refs) else if refs.contains i=true then (n0+refs.idxOf i,refs) else (n0+refs.length,refs++[i])
def Ir (g:List Nat→Value→Option (Value×List Nat)):List Value→List Nat→Option (List Value×List Nat)
 |[],refs=>some ([],refs)
 |v::vs,refs=>match g refs v with
  |none=>none
  |some p=>match Ir g vs p.2 with
   |none=>none
   |some q=>some (p.1::q.1,q.2)
def gcX (n0:Nat):Nat→List Nat→Value→Option (Value×List Nat)
 |0,_,_=>none
 |f+1,refs,v=>match v with
  |.pointer (some ⟨i,o,none⟩)=>some (.pointer (some ⟨(gcI n0 refs i).1,o,none⟩),(gcI n0 refs i).2)
  |.slice (some ⟨i,o,none⟩) l c=>some (.slice (some ⟨(gcI n0 refs i).1,o,none⟩) l c,(gcI n0 refs i).2)
  |.map (some i)=>some (.map (some (gcI n0 refs i).1),(gcI n0 refs i).2)
  |.chan none=>some (.chan none,refs)
  |.iface t u=>match gcX n0 f refs u with
   |some p=>some (.iface t p.1,p.2)
   |none=>none
  |.agg cs=>match Ir (gcX n0 f) cs.toList refs with
   |some p=>some (.agg p.1.toArray,p.2)
   |none=>none
  |.tuple cs=>match Ir (gcX n0 f) cs.toList refs with
   |some p=>some (.tuple p.1.toArray,p.2)
   |none=>none
  |.func (.func g) fs cs=>match Ir (gcX n0 f) fs.toList refs with
   |some p=>match Ir (gcX n0 f) cs.toList p.2 with
    |some q=>some (.func (.func g) p.1.toArray q.1.toArray,q.2)
    |none=>none
   |none=>none
  |v=>if Qv v=true then some (v,refs) else none
def Q6o (n0:Nat):List Jk→List Nat→Option (List Jk×List Nat)
 |[],refs=>some ([],refs)
 |e::es,refs=>match gcX n0 8 refs e.2.1 with
  |none=>none
  |some p=>match Q6o n0 es p.2 with
   |none=>none
   |some q=>some ((e.1,p.1,e.2.2)::q.1,q.2)
def gcB (n0:Nat) (refs:List Nat):EB→Option (EB×List Nat)
 |.cells c e w t=>match Ir (gcX n0 8) c refs with
  |some p=>some (.cells p.1 e w t,p.2)
  |none=>none
 |.map es cl w=>match Q6o n0 es refs with
  |some p=>some (.map p.1 cl w,p.2)
  |none=>none
 |_=>none
def IN (h':CH) (n0:Nat):Nat→Nat→List Nat→CH→Option (CH×List Nat)
 |0,_,_,_=>none
 |f+1,k,refs,acc=>if refs.length≤k then (if k=refs.length then some (acc,refs) else none) else match h'.get (refs.getD k 0) with
  |none=>none
  |some b=>match gcB n0 refs b with
   |none=>none
   |some p=>if acc.room=true then IN h' n0 f (k+1) p.2 (acc.push p.1) else none
def OP (h h':CH) (refs:List Nat):Option (CH×List Nat) :=
 if h.keepOk h'=true then IN h' h.n 100000 0 refs ⟨h'.t,h.n⟩ else none
def Rh (h h':CH) (v:Value):Option (Value×CH):=match gcX h.n 8 [] v with
 |none=>none
 |some p=>match OP h h' p.2 with
  |none=>none
  |some q=>some (p.1,q.1)
def joinOps:AnsOps (Option (Value×CH)):=⟨none,fun a b=>match a with
 |some x=>match b with
  |some y=>if SX 20 x.1 y.1=true∧x.2.same y.2=true then some x else none
  |none=>none
 |none=>none⟩
structure ET where
 t:GT Value
 m:Nat
def ET.get (e:ET) (i:Nat):Value:=Bool.rec (motive:=fun _=>Value) undef (e.t.get undef i) (Nat.blt i e.m)
def ET.set (e:ET) (i:Nat) (v:Value):ET:=Bool.rec (motive:=fun _=>ET) e ⟨e.t.set undef 32 i v,e.m⟩ (Nat.blt i e.m)
def ET.put (e:ET) (d:Option Nat) (v:Value):ET:=Option.rec (motive:=fun _=>ET) e (fun d=>e.set d v) d
def etL (l:List Value):Nat→GT Value→GT Value:=List.rec (motive:=fun _=>Nat→GT Value→GT Value) (fun _ t=>t) (fun v _ ih i t=>ih (i+1) (t.set undef 32 i v)) l
def ET.of (args:List Value) (nt:Nat):ET:=⟨etL args 0 .nil,args.length+(nt-args.length)⟩
def N4 (e:ET) (x:Operand):Value:=Operand.rec (motive:=fun _=>Value) (fun t=>e.get t) (fun v=>v) (fun g=>.pointer (some ⟨g,0,some 0⟩)) (fun f=>.func (.func f) #[] #[]) x
def Q01 (e:ET) (ps:List Nat):List Value→ET:=List.rec (motive:=fun _=>ET→List Value→ET) (fun e _=>e) (fun p _ ih e vs=>List.rec (motive:=fun _=>ET) e (fun v vs _=>ih (e.set p v) vs) vs) ps e
def FB (e:ET) (g:Option (Nat×Bool)):Option Bool:=match g with
 |none=>some true
 |some (d,want)=>match e.get d with
  |.bool b=>some (b==want)
  |.tuple _=>some false
  |_=>none
def ET.list (e:ET):List Value:=(List.range e.m).map e.get
def Q4z (h h':CH) (e:ET):Option (Value×CH):=Rh h h' (.tuple e.list.toArray)
structure RCtx where
 ps:List Nat
 a:VCode
 b:VCode
 env:ET
abbrev Ys:=List (Nat×RCtx)
def Ys.find:Ys→Nat→Option RCtx
 |[],_=>none
 |(j,c)::l,i=>if Nat.beq i j=true then some c else Ys.find l i
structure Memo where
 args:List Value
 bl:List PB
 v:Value
 fr:List PB
def Q4v (g:Value→Option Value):List Value→Option (List Value)
 |[]=>some []
 |v::vs=>match g v with
  |none=>none
  |some u=>match Q4v g vs with
   |none=>none
   |some us=>some (u::us)
def shX (a m d:Nat):Nat→Value→Option Value
 |0,_=>none
 |f+1,v=>match v with
  |.pointer (some ⟨i,o,none⟩)=>if a≤i∧i<m then some (.pointer (some ⟨d+(i-a),o,none⟩)) else none
  |.slice (some ⟨i,o,none⟩) l c=>if a≤i∧i<m then some (.slice (some ⟨d+(i-a),o,none⟩) l c) else none
  |.agg cs=>match Q4v (shX a m d f) cs.toList with
   |some p=>some (.agg p.toArray)
   |none=>none
  |.tuple cs=>match Q4v (shX a m d f) cs.toList with
   |some p=>some (.tuple p.toArray)
   |none=>none
  |v=>if Qv v=true then some v else none
def Q7h (h:CH) (i:Nat) (b:PB):Bool:=match h.get i with
 |some (.cells c e _ t)=>decide (e=b.esz)&&(t==b.tight&&Ee (SX 20) c b.c)
 |_=>false
def ED (h:CH):List Nat→List PB→Bool
 |[],[]=>true
 |i::l,b::m=>Q7h h i b&&ED h l m
 |_,_=>false
def YC:List PB→CH→CH
 |[],h=>h
 |b::l,h=>YC l (h.push (.cells b.c b.esz true b.tight))
def LI (h:CH) (args:List Value) (refs:List Nat):List Memo→Option Memo
 |[]=>none
 |m::ms=>if (Ee (SX 20) args m.args&&ED h refs m.bl)=true then some m else LI h args refs ms
def PA (h:CH) (args:List Value) (ms:List Memo):Option (Value×CH) :=
 match Ir (gcX 0 8) args [] with
 |none=>none
 |some p=>match LI h p.1 p.2 ms with
  |none=>none
  |some m=>match Nat.ble (h.n+m.fr.length) 1000000000 with
   |false=>none
   |true=>match shX m.bl.length (m.bl.length+m.fr.length) h.n 8 m.v with
    |some v=>some (v,YC m.fr h)
    |none=>none
inductive FEnt where
 |code (vc:VCode) (rs:List VResult) (nt:Nat)
 |codeJ (vc:VCode) (rs:List VResult) (nt:Nat)
 |codeM (vc:VCode) (rs:List VResult) (nt:Nat) (ms:List Memo)
 |same
abbrev Tab:=FuncId→Option FEnt
abbrev Q3r:=∀ {A:Type},AnsOps A→Ys→VCode→Option Nat→ET→CH→(Exit→ET→CH→A)→A
def DJ (env:ET) (σ:CH):VResult→Option Value
 |.tmp t=>some (env.get t)
 |.cell a agg size=>match Q65 agg size (env.get a) σ with|some p=>some p.1|none=>none
def M4 (env:ET) (σ:CH):List VResult→Option (List Value)
 |[]=>some []
 |r::rs=>match DJ env σ r with
  |none=>none
  |some v=>match M4 env σ rs with
   |none=>none
   |some vs=>some (v::vs)
def U4 (env:ET) (σ:CH) (rs:List VResult):Option Value :=
 match rs with
 |[r]=>DJ env σ r
 |rs=>match M4 env σ rs with|some vs=>some (.tuple vs.toArray)|none=>none
section
variable (T:Tab) (ev:Q3r) {A:Type}(R:AnsOps A) (ys:Ys)
def Q16 (fail:A) (rs:List VResult) (k:Value→CH→A):Exit→ET→CH→A:=fun e env h'=>match e with
  |.normal=>(match U4 env h' rs with|some v=>k v h'|none=>fail)
  |.ret=>(match U4 env h' rs with|some v=>k v h'|none=>fail)
  |_=>fail
def Rf (f:FuncId) (args:List Value) (h:CH) (k:Value→CH→A):A :=
 match T f with
 |some (.code vc rs nt)=>match Nat.ble (ET.of args nt).m 1000000 with
  |true=>ev R ys vc none (ET.of args nt) h (Q16 R.fail rs k)
  |false=>R.fail
 |some (.codeJ vc rs nt)=>match Nat.ble (ET.of args nt).m 1000000 with
  |true=>(match ev joinOps ys vc none (ET.of args nt) h (Q16 none rs fun v h'=>Rh h h' v) with
   |some x=>if x.2.room=true∧Nat.ble h.n x.2.n=true then k x.1 x.2 else R.fail
   |none=>R.fail)
  |false=>R.fail
 |some (.codeM vc rs nt ms)=>match PA h args ms with
  |some p=>k p.1 p.2
  |none=>match Nat.ble (ET.of args nt).m 1000000 with
   |true=>ev R ys vc none (ET.of args nt) h (Q16 R.fail rs k)
   |false=>R.fail
 |some .same=>match args with
  |[v]=>k v h
  |_=>R.fail
 |none=>R.fail
def E7 (i:Nat) (k:Value→CH→A):Exit→ET→CH→A:=fun e _ h =>
 match h.get i with
 |some (.lp .busy none)=>match e with
  |.normal=>k (.bool true) (h.upd i (.lp .ready none))
  |.ret=>k (.bool false) (h.upd i (.lp .done (some .ret)))
  |.exit id=>k (.bool false) (h.upd i (.lp .done (some (.exit id))))
  |_=>R.fail
 |_=>R.fail
def OE (c:RCtx) (i:Nat) (k:Value→CH→A):Exit→ET→CH→A:=fun e bu h1=>match e with
 |.normal=>(match h1.get i with
  |some (.lp .ready none)=>ev R ys c.b (some i) bu (h1.upd i (.lp .busy none)) (E7 R i k)
  |_=>R.fail)
 |_=>R.fail
def FZ (i:Nat) (args:List Value) (h:CH) (k:Value→CH→A):A :=
 match ys.find i with
 |some c=>match h.get i with
  |some (.lp .ready none)=>if args.length=c.ps.length then ev R ys c.a (some i) (Q01 c.env c.ps args) h (OE ev R ys c i k) else R.fail
  |_=>R.fail
 |none=>R.fail
def UU (i m since clock:Nat) (seen:List Nat) (h:CH) (k:Value→CH→A):List Jk→Option A
 |[]=>none
 |e::es=>if seen.contains e.2.2=true then UU i m since clock seen h k es
  else match UU i m since clock seen h k es with
   |none=>some (k (.tuple #[.bool true,e.1,e.2.1]) (h.upd i (.iter m since (seen++[e.2.2]) clock)))
   |some a=>some (R.both (k (.tuple #[.bool true,e.1,e.2.1]) (h.upd i (.iter m since (seen++[e.2.2]) clock))) a)
def Q36 (x:Value) (h:CH) (k:Value→CH→A):A :=
 match x with
 |.pointer (some ⟨i,0,none⟩)=>match h.get i with
  |some (.iter m since seen last)=>match h.mapAt m with
   |some (es,clock,_) =>
    if (seen.isEmpty||es.isEmpty||es.any (fun e=>decide (e.2.2<last)))=true∧es.all (fun e=>YK e.1)=true then
     (match UU R i m since clock seen h k es with
     |none=>if es.all (fun e=>seen.contains e.2.2||decide (since≤e.2.2))=true then k (.tuple #[.bool false]) h else R.fail
     |some a=>if es.all (fun e=>seen.contains e.2.2||decide (since≤e.2.2))=true then R.both (k (.tuple #[.bool false]) h) a else a)
    else R.fail
   |none=>R.fail
  |_=>R.fail
 |_=>R.fail
def OS (f:Value) (args:List Value) (h:CH) (k:Value→CH→A):A:=match f with
  |.func (.func g) first cap=>Rf T ev R ys g (first.toList++args++cap.toList) h k
  |.func (.yield i) _ _=>FZ ev R ys i args h k
  |_=>R.fail
def Ej (r:Option (Value×CH)) (k:Value→CH→A):A:=match r with
  |some p=>k p.1 p.2
  |none=>R.fail
def Q1c (o:VOp) (env:ET) (h:CH) (k:Value→CH→A):A :=
 match o with
 |.callF f args=>Rf T ev R ys f (args.map (N4 env)) h k
 |.callV f args=>OS T ev R ys (N4 env f) (args.map (N4 env)) h k
 |.ext (.nextMap x)=>Q36 R (N4 env x) h k
 |o=>Ej R (Si o (N4 env) h) k
def AY (l:List VOper):ET→CH→(ET→CH→A)→A :=
 List.rec (motive:=fun _=>ET→CH→(ET→CH→A)→A) (fun env h k=>k env h)
  (fun o _ ih env h k=>match FB env o.guard with
   |none=>R.fail
   |some true=>Q1c T ev R ys o.op env h fun v h'=>ih (env.put o.dst v) h' k
   |some false=>ih (env.put o.dst undef) h k) l
def SZ (op:VOp) (ev:Operand→Value) (v:Value) (h:CH):Bool:=match Si op ev h with
 |some q=>SX 20 q.1 v
 |none=>false
def E1 (r:Nat) (h:CH):List (Nat×(CH→Bool))→Bool
 |[]=>true
 |c::l=>(!(Nat.ble r c.1)||c.2 h)&&E1 r h l
def UN:List DOper→ET→List CH→CH→List (Nat×(CH→Bool))→(ET→CH→A)→A
 |[],env,_,h,_,k=>k env h
 |o::rest,env,hs,h,pend,k=>match FB env o.guard with
  |none=>R.fail
  |some true=>if o.kind=2 then
    (match Q1c T ev C8 ys o.op env h (fun v h'=>some (v,h')) with
    |some p=>if h.newOk p.2=true∧E1 hs.length p.2 pend=true then UN rest (env.put o.dst p.1) (hs++[p.2]) p.2 pend k else R.fail
    |none=>R.fail)
   else if o.kind=1 then
    (match Si o.op (N4 env) h with
    |some p=>if (hs.drop o.kmin).all (SZ o.op (N4 env) p.1)=true then
      UN rest (env.put o.dst p.1) hs h (if hs.length≤o.kmax then (o.kmax,SZ o.op (N4 env) p.1)::pend else pend) k else R.fail
    |none=>R.fail)
   else match Si o.op (N4 env) h with
    |some p=>UN rest (env.put o.dst p.1) hs h pend k
    |none=>R.fail
  |some false=>if o.kind=2 then
    (if E1 hs.length h pend=true then UN rest (env.put o.dst undef) (hs++[h]) h pend k else R.fail)
   else UN rest (env.put o.dst undef) hs h pend k
def Q2n (env:ET) (h:CH) (a:List DOper):Option (Value×CH):=UN T ev joinOps ys a env [h] h [] fun env h'=>Q4z h h' env
def C3 (env:ET) (h:CH):List (List DOper)→Option (Value×CH)
 |[]=>none
 |[a]=>Q2n T ev ys env h a
 |a::b::r=>joinOps.both (Q2n T ev ys env h a) (C3 env h (b::r))
def BB:List DSeg→ET→CH→(ET→CH→A)→A
 |[],env,h,k=>k env h
 |.one o::rest,env,h,k=>AY T ev R ys [o] env h fun env h=>BB rest env h k
 |.alts [a]::rest,env,h,k=>UN T ev R ys a env [h] h [] fun env h=>BB rest env h k
 |.alts l::rest,env,h,k=>match C3 T ev ys env h l with
  |some x=>(match x.1 with
   |.tuple vs=>if x.2.room=true∧Nat.ble h.n x.2.n=true∧vs.toList.length=env.m then BB rest (ET.of vs.toList 0) x.2 k else R.fail
   |_=>R.fail)
  |none=>R.fail
def OJ (h:CH):Option Nat→Bool
 |none=>true
 |some i=>match h.get i with
  |some (.lp _ _)=>true
  |_=>false
def Q2l:LoopState→Bool
 |.busy=>false
 |_=>true
def Q50 (env:ET) (i:Nat) (k:Exit→ET→CH→A):Value→CH→A:=fun _ h =>
 match h.get i with
 |some (.lp st pend)=>if Q2l st=true then (match pend with
   |none=>k .normal env (h.kill i)
   |some .ret=>k .ret env (h.kill i)
   |some (.exit id)=>k (.exit id) env (h.kill i)
   |some _=>R.fail) else R.fail
 |_=>R.fail
def Q40 (kb k:Exit→ET→CH→A):Exit→ET→CH→A:=fun e env h=>match e with
 |.normal=>kb .normal env h
 |e=>k e env h
def Ia (id:Nat) (k:Exit→ET→CH→A):Exit→ET→CH→A:=fun e env h=>match e with
 |.exit g_=>if g_=id then k .normal env h else k (.exit g_) env h
 |e=>k e env h
def Q3i (v:Value) (a b:A):A:=match v with
 |.bool true=>a
 |.bool false=>b
 |_=>R.fail
def EG (g:Value) (ps:List Nat) (a b:VCode) (ro:Option Nat) (env:ET) (h:CH) (k:Exit→ET→CH→A):A:=match g with
 |.func (.func f) first cap=>match T f with
  |some (.code _ _ _)=>if OJ h ro=true∧h.room=true then
    Rf T ev R ((h.n,⟨ps,a,b,env⟩)::ys) f (first.toList++[.func (.yield h.n) #[] #[]]++cap.toList) (h.push (.lp .ready none)) (Q50 R env h.n k)
   else R.fail
  |_=>R.fail
 |_=>R.fail
def T_ (c:VCode):Option Nat→ET→CH→(Exit→ET→CH→A)→A :=
 VCode.rec (motive:=fun _=>Option Nat→ET→CH→(Exit→ET→CH→A)→A)
  (fun _ env h k=>k .normal env h)
  (fun ops _ env h k=>AY T ev R ys ops env h (k .normal))
  (fun aT _ env h k=>BB T ev R ys aT env h (k .normal))
  (fun g ps a b _ _ ro env h k=>EG T ev R ys (N4 env g) ps a b ro env h k)
  (fun _ _ fw e7 ro env h k=>fw ro env h (Q40 (fun _ ah h'=>e7 ro ah h' k) k))
  (fun c _ _ fw e7 ro env h k=>Q3i R (N4 env c) (fw ro env h k) (e7 ro env h k))
  (fun id _ ih ro env h k=>ih ro env h (Ia id k))
  (fun b ih ro env h k=>ih ro env h (Q40 (fun _ ah h'=>ev R ys (.loop b) ro ah h' k) k))
  (fun id _ env h k=>k (.exit id) env h)
  (fun _ env h k=>k .ret env h)
  (fun _ _ _ _=>R.fail) c
end
def PW (T:Tab) (n:Nat):Q3r :=
 Nat.rec (motive:=fun _=>Q3r) (fun R _ _ _ _ _ _=>R.fail) (fun _ ih {_} R ys c ro env h k=>T_ T ih R ys c ro env h k) n
end Go.V