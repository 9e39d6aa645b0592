/- A framework for walks, contracts of functions, and their proofs: part 2. -/
import Derived.RangeFuncLeaves
import Derived.RangeFuncCalls
import Derived.OrdersIn
import Derived.TacticsIn
import Derived.Sort.LoopGhostIn
import Derived.Deep.LoopGhost
import Derived.Test.YthponhelanafhaaGreatDoorR1
namespace Go.V
open Go
section
variable {P:Program}{S:VSpecs}{B:Nat}
def FF:Option Nat→Fence
 |none=>Fence.wide
 |some l=>Fence.wide.inRound l
theorem EY (ro:Option Nat) (f:FuncId):(FF ro).fn f:=by cases ro<;>trivial
theorem RE (ro:Option Nat):(FF ro).depth=none:=by cases ro<;>rfl
theorem Q0k (ro:Option Nat):(FF ro).round=ro:=by cases ro<;>rfl
theorem AZ {ro:Option Nat}{n:Nat}{f:FuncId}{args:Array Value}{w:World}{R:Ending→World→Prop}(h:Calls P f args w R):CallsIn (FF ro) n P f args w R:=by
 cases ro with
 |none=>exact callsIn_wide.2 h
 |some l=>exact CallsIn.inRound l (callsIn_wide.2 h)
theorem CB {ro:Option Nat}{n m:Nat}{l:Nat}{f:FuncId}{tmps:Array Value}{eA body:Code}{w:World}{R:Ending→World→Prop}(h:RoundIn Fence.wide m P l f tmps eA body w R):RoundIn (FF ro) n P l f tmps eA body w R:=by refine⟨EY _ _,fun c cs _=>?_⟩;obtain⟨e,w',r,s⟩:=h.2 c cs (room_wide _);refine⟨e,w',r,?_⟩;cases ro<;>exact s
def Got (ρ:Plc) (σ:Heap) (w:World) (R:Value→Heap→Prop) (c:Value) (w':World):Prop :=
 ∃ v ρ' σ',R v σ'∧VRel ρ' σ'.n v c∧HRel ρ' σ' w'∧Ext ρ σ w ρ' σ' w'
def VCallsTo (P:Program) (f:FuncId) (args:List Value) (σ:Heap) (R:Value→Heap→Prop):Prop :=
 ∀ ρ w (aw:Array Value),HRel ρ σ w→LRel ρ σ.n args aw.toList→Calls P f aw w fun e w'=>∃ c,e=.returned c∧Got ρ σ w R c w'
def VCalled (P:Program) (f:FuncId) (args:List Value) (σ:Heap) (R:Value→Heap→Prop):Prop :=
 ∀ ρ w (aw:Array Value),HRel ρ σ w→LRel ρ σ.n args aw.toList →
  ((∀ w,(callFunc f aw).run P w=.ok (.enter f aw) w)∧Calls P f aw w fun e w'=>∃ c,e=.returned c∧Got ρ σ w R c w') ∨
  (∃ c,Got ρ σ w R c w∧∀ w',Like ρ w w'→(callFunc f aw).run P w'=.ok (.value c) w')
def HI (P:Program) (i:Nat) (args:List Value) (σ:Heap) (R:Value→Heap→Prop):Prop :=
 ∀ ρ w (aw:Array Value),HRel ρ σ w→LRel ρ σ.n args aw.toList →
  ∃ p,ρ i=some p∧∃ fn tmps eA body,(Instr.yield p.blk aw).run P w=.ok (.round p.blk fn tmps eA body) w ∧
   RoundIn Fence.wide 0 P p.blk fn tmps eA body w fun e w'=>∃ c,e=.returned c∧Got ρ σ w R c w'
def Xg (P:Program) (f:FuncId):Prop:=∃ fn,P.funcs[f]?=some fn∧fn.body.isSome=true∧(fn.name=="runtime.NumGoroutine")=false
def Q3d (P:Program) (f:FuncId) (s:Tt):Prop:=∀ args σ K,s args σ K→VCalled P f args σ K
def KZ (P:Program) (i:Nat) (s:Tt):Prop:=∀ args σ K,s args σ K→HI P i args σ K
def Q5y (P:Program) (f:FuncId) (T:Nat→Tt→Tt):Prop:=Xg P f∧∀ i Y,KZ P i Y→∀ args σ K,T i Y args σ K→VCallsTo P f args σ K
structure OkSpecs (P:Program) (S:VSpecs):Prop where
 fn:∀ f s,S.fn f=some s→Q3d P f s
 yl:∀ i s,S.yl i=some s→KZ P i s
 it:∀ f T,S.it f=some T→Q5y P f T
theorem N3 {f:FuncId}(h:Xg P f) (args:Array Value) (w:World):(callFunc f args).run P w=.ok (.enter f args) w:=by
 obtain⟨fn,h1,h2,h3⟩:=h;have h4:¬ fn.body=none:=fun e=>by rw[e] at h2;cases h2
 have h5:¬ fn.name="runtime.NumGoroutine":=fun e=>by rw[e] at h3;simp at h3
 simp[callFunc,h1,h4,h5]
theorem VCallsTo.called {f:FuncId}{args:List Value}{σ:Heap}{R:Value→Heap→Prop}(he:Xg P f) (h:VCallsTo P f args σ R):VCalled P f args σ R :=
 fun ρ w aw hH hL=>.inl ⟨fun w=>N3 he aw w,h ρ w aw hH hL⟩
theorem Got.mono {ρ:Plc}{σ:Heap}{w:World}{R R':Value→Heap→Prop}{c:Value}{w':World}(h:Got ρ σ w R c w') (hr:∀ v σ',R v σ'→R' v σ'):Got ρ σ w R' c w' :=
 let ⟨v,ρ',σ',h1,h2⟩:=h;⟨v,ρ',σ',hr _ _ h1,h2⟩
theorem VCallsTo.mono {f:FuncId}{args:List Value}{σ:Heap}{R R':Value→Heap→Prop}(h:VCallsTo P f args σ R) (hr:∀ v σ',R v σ'→R' v σ'):VCallsTo P f args σ R' :=
 fun ρ w aw hH hL=>(h ρ w aw hH hL).mono fun _ _ ⟨c,he,hg⟩=>⟨c,he,hg.mono hr⟩
theorem Yx {ρ:Plc}{n:Nat}{env:Env}{a:Act}(h:LRel ρ n env a.tmps.toList) {v c:Value}(hv:VRel ρ n v c) (d:Option Nat):LRel ρ n (X3 env d v) (a.put d c).tmps.toList:=by
 cases d with
 |none=>exact h
 |some d=>simp only[X3,Act.put,Array.toList_setIfInBounds];exact h.set d hv
theorem Zx (env:Env) (d:Option Nat) (v:Value):List.length (X3 env d v)=List.length env:=by cases d<;>simp[X3]
theorem X0 (a:Act) (d:Option Nat) (c:Value):(a.put d c).defers=a.defers:=by cases d<;>rfl
theorem D3 {ρ:Plc}{n:Nat}{env:Env}{a:Act}{ops:Array Oper}{o:Oper}{vo:VOper}(hc:J7 P ops o=some vo) (hL:LRel ρ n env a.tmps.toList) {b:Bool}(h:J2 env vo.guard=some b) :
  Region.wanted o (yielded ops a.tmps)=b∧vo.dst=o.dst∧YC P o.op=vo.op:=by
 unfold J7 at hc;simp only[Option.bind_eq_bind] at hc;cases hg:o.guard with
 |none =>simp[hg] at hc;subst hc;simp[J2] at h;subst h;simp[Region.wanted,hg]
 |some jw =>
  obtain⟨j,want⟩:=jw;simp[hg] at hc;cases hj:ops[j]? with
  |none=>simp[hj] at hc
  |some oj =>
   cases hd:oj.dst with
   |none=>simp[hj,hd] at hc
   |some d =>
    simp[hj,hd] at hc;subst hc;refine⟨?_,rfl,rfl⟩;simp only[J2] at h;simp only[Region.wanted,hg,yielded,hj,Option.bind_some,hd];have hlen:List.length env=a.tmps.size:=by have:=hL.1;rw[Array.length_toList] at this;exact this
    rcases Nat.lt_or_ge d (List.length env) with ah|a_
    ·have bM:d<a.tmps.size:=by rw[←hlen];exact ah
     have hr:=hL.2 d env[d] a.tmps[d] (List.getElem?_eq_getElem ah) (by simp[bM]);have he:env.getD d undef=env[d]:=by simp[List.getD,ah]
     rw[he] at h;simp only[Array.getElem?_eq_getElem bM];split at h
     ·rename_i b' heq;rw[heq] at hr;rw[hr.bool_inv];simp at h;simp[←h]
     ·rename_i vs heq;rw[heq] at hr;obtain⟨ds,hds,_⟩:=hr.tuple_inv;rw[hds];simp at h;subst h;simp
     ·cases h
    ·have he:env.getD d undef=undef:=by simp[List.getD,List.getElem?_eq_none a_]
     rw[he] at h;have:a.tmps[d]?=none:=Array.getElem?_eq_none (by rw[←hlen];exact a_);simp only[this];simp[undef] at h;subst h;simp
theorem OC {o:Oper}{vo:VOp}(hc:Vg P o.op=some vo) {ρ:Plc}{σ:Heap}{env:Env}{a:Act}(hL:LRel ρ σ.n env a.tmps.toList) {K:Value→Heap→Prop}
  (aA:(∃ f bD,vo=.callF f bD)∨(∃ f bD,vo=.callV f bD)) {σ0:Heap}(h:vop S vo env σ0 K) :
  (∃ f args aw,vcall S f args σ0 K∧LRel ρ σ.n args aw.toList∧∀ w,(execOp a.eval o).run P w=(callFunc f aw).run P w) ∨
  (∃ i r args aw,E9 S i args σ0 K∧VRel ρ σ.n (.func (.yield i) #[] #[]) (.func (.yield r) #[] #[])∧LRel ρ σ.n args aw.toList∧∀ w,(execOp a.eval o).run P w=(Instr.yield r aw).run P w):=by
 have a0:=hc;cases dy:Vg P o.op with
 |none=>rw[dy] at hc;cases hc
 |some rX =>
  clear dy hc rX;obtain⟨dst,op,ty,pos,after,guard⟩:=o;simp only at a0;unfold Vg at a0;split at a0
  ·cases a0
  rename_i ai;simp only[Bool.not_eq_true,Bool.not_eq_false'] at ai;cases op
  case call c =>
   simp only[Op.operands] at ai a0;split at a0
   ·rename_i f aG;simp at a0;subst a0;simp only[vop] at h;have ax:(c.args.toList).all X5=true:=by
     simp only[Call.operands,aG,Array.toList_append,List.all_append,Bool.and_eq_true] at ai;exact ai.2
    refine .inl ⟨f,_,c.args.map a.eval,h,by have:=SN (fun x hx=>XL hL hx) ax;simpa using this,fun w=>?_⟩;simp[execOp,resolve,aG,Act.eval,Deferred.ofValue,invoke]
   ·rename_i fo aF aG;simp at a0;subst a0;simp only[vop] at h;simp only[Call.operands,aG,Array.toList_append,List.all_append,Bool.and_eq_true] at ai;have hf:=XL hL (x:=fo) (by simpa using ai.1);have has:=SN (fun x hx=>XL hL hx) ai.2;split at h
    ·rename_i g first cap heq
     rw[heq] at hf;cases jh:a.eval fo with
     |func fn gs ds =>
      rw[jh] at hf;cases hf with
      |func _ _ _ _ _ h1 h2 h3 h4 =>
       refine .inl ⟨g,_,gs++c.args.map a.eval++ds,h,?_,fun w=>?_⟩
       ·have dU:=LRel.of_array h1 h3;have cg:=LRel.of_array h2 h4;have:=(dU.append has).append cg;simpa using this
       ·simp[execOp,resolve,aG,jh,Deferred.ofValue,invoke]
     |_=>rw[jh] at hf;cases hf
    ·rename_i i first cap heq
     rw[heq] at hf;have hinv:∀ c,VRel ρ σ.n (.func (.yield i) first cap) c→∃ r,c=.func (.yield r) #[] #[]∧VRel ρ σ.n (.func (.yield i) #[] #[]) (.func (.yield r) #[] #[]):=by
      intro c h;cases h with
      |yield _ r hi hr=>exact⟨r,rfl,.yield i r hi hr⟩
     obtain⟨r,jh,hv⟩:=hinv _ hf;refine .inr ⟨i,r,_,c.args.map a.eval,h,hv,by simpa using has,fun w=>?_⟩;simp[execOp,resolve,aG,jh,Deferred.ofValue,invoke]
    ·cases h
   all_goals
    repeat' first
     |(cases a0;done)
     |(simp at a0;subst a0;rcases aA with⟨f,bD,h⟩|⟨f,bD,h⟩<;>cases h;done)
     |split at a0
   all_goals
    simp only[Option.bind_eq_bind,Option.bind_eq_some_iff] at a0;obtain⟨_,_,_,_,a0⟩:=a0;split at a0<;>simp at a0;subst a0;rcases aA with⟨f,bD,h⟩|⟨f,bD,h⟩<;>cases h
  all_goals simp only[Op.operands] at ai a0
  all_goals
   repeat' first
    |(cases a0;done)
    |(simp at a0;subst a0;rcases aA with⟨f,bD,h⟩|⟨f,bD,h⟩<;>cases h;done)
    |split at a0
  all_goals simp only[Option.bind_eq_bind,Option.bind_eq_some_iff,reduceCtorEq,and_false,exists_false] at a0
  all_goals first
   |(obtain⟨_,_,a0⟩:=a0;simp at a0;subst a0;rcases aA with⟨f,bD,h⟩|⟨f,bD,h⟩<;>cases h;done)
   |(obtain⟨_,_,_,_,a0⟩:=a0;simp at a0;subst a0;rcases aA with⟨f,bD,h⟩|⟨f,bD,h⟩<;>cases h;done)
   |(obtain⟨_,_,_,_,_,_,a0⟩:=a0;simp at a0;subst a0;rcases aA with⟨f,bD,h⟩|⟨f,bD,h⟩<;>cases h;done)
   |(obtain⟨d,_,a0⟩:=a0;cases d<;>simp at a0<;>subst a0<;>rcases aA with⟨f,bD,h⟩|⟨f,bD,h⟩<;>cases h;done)
   |(obtain⟨_,_,_,_,a0⟩:=a0;split at a0<;>simp at a0;subst a0;rcases aA with⟨f,bD,h⟩|⟨f,bD,h⟩<;>cases h;done)
   |(obtain⟨_,_,a0⟩:=a0;split at a0<;>simp at a0;subst a0;rcases aA with⟨f,bD,h⟩|⟨f,bD,h⟩<;>cases h;done)
theorem Un {o:Op}{vo:VOp}(h:YC P o=vo) (hv:vo≠.bad):Vg P o=some vo∨∃ x,Tx P o=some x∧vo=.ext x:=by
 unfold YC at h;split at h
 ·rename_i v fD;subst h;exact .inl fD
 ·split at h
  ·rename_i x hx;exact .inr ⟨x,hx,h.symm⟩
  ·exact absurd h.symm hv
theorem F4 {o:Op}{x:XOp}(h:Vg P o=some (.ext x)):False:=by
 unfold Vg at h
 repeat' first
  |contradiction
  |(cases h;done)
  |(simp at h;done)
  |(rw[Option.bind_eq_bind,Option.bind_eq_some_iff] at h;obtain⟨_,_,h⟩:=h)
  |split at h
theorem RU {o:Op}{vo:VOp}(h:YC P o=vo) (hv:vo≠.bad) (c:Call):o≠.defer c:=by
 rintro rfl;rcases Un h hv with h|⟨x,h,_⟩
 ·unfold Vg at h;split at h<;>simp at h
 ·unfold Tx at h;split at h<;>simp at h
theorem Em {o:Oper}{x:Operand}(hc:Tx P o.op=some (.nextMap x)) {ρ:Plc}{σ:Heap}{w:World}{env:Env}{ev:Operand→Value}(hH:HRel ρ σ w) (hE:∀ x,X5 x=true→VRel ρ σ.n (Q2 env x) (ev x))
  {K:Value→Heap→Prop}(h:A4 (Q2 env x) σ K):∃ c w',(execOp ev o).run P w=.ok (.value c) w'∧Got ρ σ w K c w':=by
 obtain⟨dst,op,ty,pos,after,guard⟩:=o;simp only at hc;unfold Tx at hc;split at hc
 ·cases hc
 rename_i ai;simp only[Bool.not_eq_true,Bool.not_eq_false'] at ai;have bt:op=.next x false:=by
  cases op
  case next y b=>cases b<;>simp at hc;subst hc;rfl
  all_goals
   simp only at hc
   repeat' first
    |contradiction
    |(obtain⟨_,h⟩:=Eg hc;cases h;done)
    |(cases hc;done)
    |(simp at hc;done)
    |(rw[Option.bind_eq_bind,Option.bind_eq_some_iff] at hc;obtain⟨_,_,hc⟩:=hc)
    |split at hc
 subst bt;clear hc;simp[Op.operands] at ai;have hx:=hE x ai;unfold A4 at h;split at h
 ·rename_i i bm;rw[bm] at hx;split at h
  ·rename_i m since seen last hb;split at h
   ·rename_i es clock wr aD;obtain⟨h1,hall,h2,h3⟩:=h;obtain⟨p,hp,⟨_,dC⟩,O,hO,rm,rfl,nJ⟩:=hH.live i _ hb;obtain⟨q,entries,gw,cU,aC,aE⟩:=Xi hH aD nJ;simp at gw;subst gw;obtain⟨_,_,b8⟩:=hx.ptr_inv hp;rw[dC,Nat.zero_add] at b8;have hg1:(getObj p.blk).run P w=.ok (.mapIter (some q.blk) since seen.toArray last) w:=Qw hO (fun _ _ _ e=>by cases e);have cM:(getObj q.blk).run P w=.ok (.map entries clock) w:=Qw aC (fun _ _ _ e=>by cases e);let left:=entries.filter fun e=>!seen.toArray.contains e.born;let aS:=left.filter (·.born<since);let new:=left.filter (·.born≥since);let bu:Array (Option MapEntry):=(if aS.isEmpty then #[none] else #[])++(aS++new).map some;have dV:0<bu.size:=by
     by_cases ho:aS.isEmpty=true
     ·simp only[bu,ho,if_true,Array.size_append];show 0<1+_;omega
     ·have:aS.size≠0:=fun e=>ho (by simp[Array.isEmpty,e]);simp only[bu,Array.size_append,Array.size_map];omega
    obtain⟨k,w1,hk,dX,oU⟩:∃ k w1,k<bu.size∧(choose (.mapNext bu.size)).run P w=.ok k w1∧(w1=w∨w1=w.drew):=by
     rw[run_choose_drew];by_cases hf:(Question.mapNext bu.size).forced=true
     ·exact⟨0,w,dV,by rw[if_pos hf],.inl rfl⟩
     ·refine⟨_,w.drew,?_,by rw[if_neg hf],.inr rfl⟩;exact Nat.mod_lt _ dV
    have hU:HRel ρ σ w1:=by rcases oU with rfl|rfl;exact hH;exact hH.drew
    have eT:Ext ρ σ w ρ σ w1:=by rcases oU with rfl|rfl;exact Ext.refl _ _ _;exact Ext.drew _ _ _
    have rY:w1.heap[p.blk]?=some (.mapIter (some q.blk) since seen.toArray last):=by rcases oU with rfl|rfl<;>exact hO
    have aj:¬ ((!seen.toArray.isEmpty&&!entries.isEmpty&&entries.all (fun e=>decide (e.born≥last)))=true):=by
     intro hh;simp only[Bool.and_eq_true] at hh;obtain⟨⟨h4,h5⟩,h6⟩:=hh;simp only[Bool.or_eq_true] at h1;rcases h1 with (h1|h1)|h1
     ·rw[List.isEmpty_iff] at h1;subst h1;simp at h4
     ·rw[List.isEmpty_iff] at h1;subst h1;have:entries=#[]:=by have:=aE.1;simpa using this
      subst this;simp at h5
     ·obtain⟨kv,cT,ah⟩:=List.any_eq_true.1 h1;obtain⟨j,hj⟩:=List.mem_iff_getElem?.1 cT;have b7:j<entries.toList.length:=by rw[aE.1];exact(List.getElem?_eq_some_iff.1 hj).1
      have he:=aE.2 j entries.toList[j] kv (List.getElem?_eq_getElem b7) hj;have:=Array.all_eq_true'.1 h6 entries.toList[j] (by rw[←Array.mem_toList_iff];exact List.getElem_mem b7);have h7:=he.2.1;simp at this ah;simp at h7;omega
    have aU:∀ r,(match bu[k]? with
      |some (some e)=>(do setObj p.blk (.mapIter (some q.blk) since (seen.toArray.push e.born) clock);pure (Value.tuple #[.bool true,e.key,e.val]):Sem Value)
      |some none=>pure (.tuple #[.bool false])
      |none=>stuck "Next: no such candidate").run P w1=r→(Instr.next (ev x) false ty).run P w=r:=by
     intro r hr;rw[←hr];simp only[Instr.next,b8,Sem.run_bind,hg1,cM,Result.andThen_ok];rw[if_neg aj];simp only[Sem.run_bind];change ((choose (Question.mapNext bu.size)).run P w).andThen _=_;rw[dX];rfl
    have hval:∀ c w',(Instr.next (ev x) false ty).run P w=.ok c w'→(execOp ev ⟨dst,.next x false,ty,pos,after,guard⟩).run P w=.ok (.value c) w':=fun c w' h=>by simp[execOp,h]
    have ez:bu[k]?=some bu[k]:=Array.getElem?_eq_getElem hk;cases hx:bu[k] with
    |none =>
     rw[hx] at ez;have aL:none∈bu:=hx▸Array.getElem_mem hk;have hold:aS.isEmpty=true:=by
      cases ho:aS.isEmpty with
      |true=>rfl
      |false=>simp[bu,ho] at aL
     refine⟨_,w1,hval _ _ (aU _ (by rw[ez];rfl)),_,ρ,σ,h2 ?_,VRel.tuple_of (LRel.cons (.bool _) (LRel.nil _ _)),hU,eT⟩;refine List.all_eq_true.2 fun kv cT=>?_;obtain⟨j,hj⟩:=List.mem_iff_getElem?.1 cT;have b7:j<entries.toList.length:=by rw[aE.1];exact(List.getElem?_eq_some_iff.1 hj).1
     have he:=aE.2 j entries.toList[j] kv (List.getElem?_eq_getElem b7) hj;cases rZ:seen.contains kv.2.2 with
     |true=>rfl
     |false =>
      simp only[Bool.false_or,decide_eq_true_eq];rcases Nat.lt_or_ge kv.2.2 since with ah|a_
      ·exfalso;have:entries.toList[j]∈aS:=by
        simp only[aS,left,Array.mem_filter,decide_eq_true_eq];refine⟨⟨by rw[←Array.mem_toList_iff];exact List.getElem_mem b7,?_⟩,by rw[he.2.1];exact ah⟩;rw[he.2.1];simpa using rZ
       rw[Array.isEmpty_iff] at hold;rw[hold] at this;simp at this
      ·exact a_
    |some e =>
     rw[hx] at ez;have aL:some e∈bu:=hx▸Array.getElem_mem hk;have l7:e∈left:=by
      have h4:e∈aS++new:=by
       simp only[bu,Array.mem_append,Array.mem_map] at aL;rcases aL with aL|⟨a,ha,nG⟩
       ·split at aL<;>simp at aL
       ·simp at nG;subst nG;simpa using ha
      rcases Array.mem_append.1 h4 with h4|h4
      ·exact(Array.mem_filter.1 h4).1
      ·exact(Array.mem_filter.1 h4).1
     obtain⟨hel,lb⟩:=Array.mem_filter.1 l7;rw[←Array.mem_toList_iff] at hel;obtain⟨j,hj⟩:=List.mem_iff_getElem?.1 hel;have b7:j<es.length:=by rw[←aE.1];exact(List.getElem?_eq_some_iff.1 hj).1
     have he:=aE.2 j e es[j] hj (List.getElem?_eq_getElem b7);have ij:=h3 es[j] (List.getElem_mem b7) (by rw[←he.2.1];simpa using lb);obtain⟨k1,k2⟩:=hU.setObj (o':=.iter m since (seen++[es[j].2.2]) clock) (O':=.mapIter (some q.blk) since (seen.toArray.push e.born) clock) hp hb ⟨q.blk,by rw[he.2.1];simp,nJ⟩;have bB:VRel ρ σ.n es[j].1 e.key:=by rw[he.1];exact Vw (List.all_eq_true.1 hall _ (List.getElem_mem b7))
     refine⟨_,_,hval _ _ (aU _ (by
      rw[ez];simp only[Sem.run_bind,QV rY (fun _ _ _ e=>by cases e),Result.andThen_ok,Sem.run_pure])),_,ρ,_,ij,VRel.tuple_of (LRel.cons (.bool _) (LRel.cons bB (LRel.cons he.2.2 (LRel.nil _ _)))),k1,eT.trans k2⟩
   ·exact h.elim
  ·exact h.elim
 ·exact h.elim
theorem Ik (hS:OkSpecs P S) {f:FuncId}{args:List Value}{σ:Heap}{K:Value→Heap→Prop}(h:vcall S f args σ K):VCalled P f args σ K:=by
 unfold vcall at h;split at h
 ·rename_i s hs;exact hS.fn f s hs _ _ _ h
 ·exact h.elim
theorem Et (hS:OkSpecs P S) {i:Nat}{args:List Value}{σ:Heap}{K:Value→Heap→Prop}(h:E9 S i args σ K):HI P i args σ K:=by
 unfold E9 at h;split at h
 ·rename_i s hs;exact hS.yl i s hs _ _ _ h
 ·exact h.elim
theorem IE {o:Oper}{vo:VOp}(hc:YC P o.op=vo) {ρ:Plc}{σ:Heap}{w:World}{env:Env}{a:Act}(hH:HRel ρ σ w) (hL:LRel ρ σ.n env a.tmps.toList) {v:Value}{σ':Heap}
  (h:Q4 vo (Q2 env) σ=some (v,σ')):So P ρ σ w v σ' (execOp a.eval o):=by
 cases hq:vo.quiet with
 |false=>exact OW hc hq hH (fun x hx=>XL hL hx) h
 |true =>obtain⟨rfl,c,dH,hr⟩:=Ia hc hq hH (fun x hx=>XL hL hx) h;exact⟨c,w,ρ,.inl (hr w (Like.refl ρ w)),dH,hH,Ext.refl _ _ _⟩
theorem Vn (hS:OkSpecs P S) {ro:Option Nat}{n:Nat}{o:Oper}{vo:VOp}(bt:YC P o.op=vo) {ρ:Plc}{σ:Heap}{w:World}{env:Env}{a:Act}(hH:HRel ρ σ w) (hL:LRel ρ σ.n env a.tmps.toList)
  {K:Value→Heap→Prop}(h:vop S vo env σ K) {next:Act→World→Prop}{Q':Exit→Act→World→Prop}(hn:∀ c w',Got ρ σ w K c w'→next (a.put o.dst c) w'):o.wpIn (FF ro) n P a w next Q':=by
 refine⟨fun f _=>EY _ _,?_⟩;have cm:vo≠.bad:=by rintro rfl;exact h.elim
 rw[Oper.semAt_eq _ _ _ (RU bt cm)];by_cases aA:(∃ f bD,vo=.callF f bD)∨(∃ f bD,vo=.callV f bD)
 ·have hc:Vg P o.op=some vo:=by
   rcases Un bt cm with hc|⟨x,_,hx⟩
   ·exact hc
   ·subst hx;rcases aA with⟨f,bD,hh⟩|⟨f,bD,hh⟩<;>cases hh
  rcases OC (S:=S) hc hL aA h with⟨f,args,aw,hv,lU,hr⟩|⟨i,r,args,aw,hv,dY,lU,hr⟩
  ·rcases Ik hS hv ρ w aw hH lU with⟨h1,h2⟩|⟨c,hg,h2⟩
   ·rw[hr,h1];exact⟨(fun hd=>by rw[RE] at hd;cases hd),(AZ h2).mono fun e w' ⟨c,he,hg⟩=>by subst he;exact hn c w' hg⟩
   ·rw[hr,h2 w (Like.refl ρ w)];exact hn c w hg
  ·obtain⟨p,hp,fn,tmps,eA,body,h1,h2⟩:=Et hS hv ρ w aw hH lU;have r4:r=p.blk:=by
    cases dY with
    |yield _ _ _ hh=>exact hh p hp
   rw[hr,r4,h1];exact⟨(fun hd=>by rw[RE] at hd;cases hd),(CB h2).mono fun e w' ⟨c,he,hg⟩=>by subst he;exact hn c w' hg⟩
 ·by_cases dL:∃ x,vo=.ext (.nextMap x)
  ·obtain⟨x,rfl⟩:=dL;have hc:Tx P o.op=some (.nextMap x):=by
    rcases Un bt cm with hc|⟨y,hy,hx⟩
    ·have:=F4 hc;exact this.elim
    ·cases hx;exact hy
   obtain⟨c,w',hr,hg⟩:=Em hc hH (fun x hx=>XL hL hx) h;rw[hr];exact hn c w' hg
  ·have fm:∃ v σ',Q4 vo (Q2 env) σ=some (v,σ')∧K v σ':=by
    unfold vop at h;split at h
    ·exact absurd (.inl ⟨_,_,rfl⟩) aA
    ·exact absurd (.inr ⟨_,_,rfl⟩) aA
    ·exact absurd ⟨_,rfl⟩ dL
    ·cases dk:Q4 vo (Q2 env) σ with
     |none=>rw[dk] at h;exact h.elim
     |some p=>rw[dk] at h;exact⟨p.1,p.2,rfl,h⟩
   obtain⟨v,σ',dk,hK⟩:=fm;obtain⟨c,w',ρ',aU,dH,fL,hE⟩:=IE bt hH hL dk;have hg:Got ρ σ w K c w':=⟨v,ρ',σ',hK,dH,fL,hE⟩;rcases aU with aU|⟨aU,rfl⟩
   ·rw[aU];exact hn c w' hg
   ·rw[aU];exact hn undef w' hg
def Mks (B:Nat) (ds:List Deferred) (w:World):Prop:=B≤w.heap.size∧∃ Ds:List Nat,ds=Ds.map (fun D=>⟨.collected D,#[]⟩)∧Ds.Nodup∧∀ D∈Ds,B≤D∧w.heap[D]?=some (.deferred (some []))
theorem Mks.nil {w:World}(h:B≤w.heap.size):Mks B [] w:=⟨h,[],rfl,List.nodup_nil,fun _ h=>by cases h⟩
theorem Mks.ext {ds:List Deferred}{ρ ρ':Plc}{σ σ':Heap}{w w':World}(h:Mks B ds w) (hH:HRel ρ σ w) (hE:Ext ρ σ w ρ' σ' w'):Mks B ds w':=by
 obtain⟨h0,Ds,h1,h2,h3⟩:=h;refine⟨Nat.le_trans h0 hE.size,Ds,h1,h2,fun D hD=>⟨(h3 D hD).1,?_⟩⟩;have hb:=(h3 D hD).2;have ah:D<w.heap.size:=by
  rcases Nat.lt_or_ge D w.heap.size with h'|h'
  ·exact h'
  ·rw[Array.getElem?_eq_none h'] at hb;cases hb
 rw[hE.keep D ah (fun ⟨i,p,b,hp,_,_,r5⟩=>hH.not_deferred hb i p hp r5)];exact hb
def Hc (B m:Nat) (ρ:Plc) (σ:Heap) (w:World) (K:Env→Heap→Prop) (a':Act) (w':World):Prop :=
 ∃ ae ρ' σ',K ae σ'∧List.length ae=m∧HRel ρ' σ' w'∧LRel ρ' σ'.n ae a'.tmps.toList∧Mks B a'.defers w'∧Ext ρ σ w ρ' σ' w'
theorem EE (hS:OkSpecs P S) {ro:Option Nat}{n:Nat}(ops:Array Oper) (Q:Exit→Act→World→Prop):∀ (l:List Oper) (lv:List VOper),l.mapM (J7 P ops)=some lv →
  ∀ (env:Env) (σ:Heap) (K:Env→Heap→Prop) (ρ:Plc) (w:World) (a:Act),PJ S lv env σ K→HRel ρ σ w→LRel ρ σ.n env a.tmps.toList→Mks B a.defers w →
  (∀ a' w',Hc B (List.length env) ρ σ w K a' w'→Q .normal a' w')→wpListIn (FF ro) n P ops Q l a w:=by
 intro l;induction l with
 |nil =>intro lv bS env σ K ρ w a h hH hL hd hQ;simp at bS;subst bS;exact hQ a w ⟨env,ρ,σ,h,rfl,hH,hL,hd,Ext.refl _ _ _⟩
 |cons o l ih =>
  intro lv bS env σ K ρ w a h hH hL hd hQ;rw[List.mapM_cons] at bS;cases a0:J7 P ops o with
  |none=>simp[a0] at bS
  |some vo =>
   cases hZ:l.mapM (J7 P ops) with
   |none=>simp[a0,hZ] at bS
   |some qv =>
    simp[a0,hZ] at bS;subst bS;simp only[PJ] at h;cases hw:J2 env vo.guard with
    |none=>rw[hw] at h;exact h.elim
    |some b =>
     rw[hw] at h;obtain⟨cW,bq,bt⟩:=D3 a0 hL hw;obtain⟨ht,hf⟩:=h;simp only[wpListIn];rw[cW];cases b with
     |false =>rw[if_neg (by simp)];exact⟨fun f _=>EY _ _,ih qv hZ (X3 env vo.dst undef) σ K ρ w _ (hf rfl) hH (by rw[bq];exact Yx hL JE o.dst) (by rw[X0];exact hd) (fun a' w' hn=>hQ a' w' (by rw[Zx] at hn;exact hn))⟩
     |true =>
      rw[if_pos rfl];refine Vn hS bt hH hL (ht rfl) fun c w' ⟨v,ρ',σ',hK,dH,fL,hE⟩=>?_
      exact ih qv hZ (X3 env vo.dst v) σ' K ρ' w' _ hK fL (by rw[bq];exact Yx (hE.lrel hL) dH o.dst) (by rw[X0];exact hd.ext hH hE)
       (fun a' ny ⟨l8,dQ,aJ,k1,k0,k2,k3,k4,k5⟩=>hQ a' ny ⟨l8,dQ,aJ,k1,by rw[k0,Zx],k2,k3,k4,hE.trans k5⟩)
theorem RR:∀ (l:List Nat) (vs:List Value) (env:Env),(Xp l vs env).length=env.length:=by
 intro l;induction l with
 |nil=>intro vs env;cases vs<;>rfl
 |cons i l ih =>
  intro vs env;cases vs with
  |nil=>rfl
  |cons v vs=>simp only[Xp];rw[ih];simp
theorem EI {ρ:Plc}{n:Nat}:∀ (l:List Nat) (env base:Env) (cs:List Value),LRel ρ n env cs→LRel ρ n base cs→LRel ρ n (Xp l (H9 l env) base) cs:=by
 intro l;induction l with
 |nil=>intro env base cs _ hb;exact hb
 |cons i l ih =>
  intro env base cs he hb;simp only[H9,List.map_cons,Xp];refine ih env _ cs he ?_;refine⟨by simp[hb.1],fun j v c hv hc=>?_⟩;by_cases bZ:i=j
  ·subst bZ;rcases Nat.lt_or_ge i (List.length base) with ah|a_
   ·rw[List.getElem?_set_self ah] at hv;obtain rfl:=osj hv;have bM:i<List.length env:=by rw[he.1,←hb.1];exact ah
    have:env.getD i poison=env[i]:=by simp[List.getD,bM]
    rw[this];exact he.2 i _ c (List.getElem?_eq_getElem bM) hc
   ·rw[List.getElem?_eq_none (by simp;exact a_)] at hv;cases hv
  ·rw[List.getElem?_set_ne bZ] at hv;exact hb.2 j v c hv hc
theorem ER {ρ:Plc}{n:Nat}(cs:List Value) {m:Nat}(h:m=cs.length):LRel ρ n (List.replicate m poison) cs :=
 ⟨by simp[h],fun i v c hv _=>by
  have:=List.mem_of_getElem? hv;rw[List.mem_replicate] at this;rw[this.2];exact .poison c⟩
def RoRel (cJ ro:Option Nat) (ρ:Plc) (n:Nat):Prop:=(cJ=none∧ro=none)∨∃ i l,cJ=some i∧ro=some l∧i<n∧∀ p,ρ i=some p→p.blk=l
theorem RoRel.ext {cJ ro:Option Nat}{ρ ρ':Plc}{σ σ':Heap}{w w':World}(h:RoRel cJ ro ρ σ.n) (hE:Ext ρ σ w ρ' σ' w'):RoRel cJ ro ρ' σ'.n:=by
 rcases h with h|⟨i,l,h1,h2,h3,h4⟩
 ·exact .inl h
 ·exact .inr ⟨i,l,h1,h2,Nat.lt_of_lt_of_le h3 hE.n,fun p hp=>h4 p (hE.pl i h3 p hp)⟩
def Sound (P:Program) (S:VSpecs) (c:Code) (vc:VCode):Prop :=
 ∀ ⦃B:Nat⦄ (cJ ro:Option Nat) (n:Nat) (Q:Exit→Env→Heap→Prop) (env:Env) (σ:Heap) (ρ:Plc) (w:World) (a:Act),vwp S vc cJ Q env σ→HRel ρ σ w→LRel ρ σ.n env a.tmps.toList→Mks B a.defers w→RoRel cJ ro ρ σ.n →
  ∀ (Q':Exit→Act→World→Prop),(∀ e a' w',Hc B (List.length env) ρ σ w (Q e) a' w'→Q' e a' w')→c.wpIn (FF ro) n P Q' a w
theorem I5 {ρ:Plc}{n:Nat}:∀ (ps:List Nat) (vs cs:List Value) (env:Env) (tmps:Array Value),LRel ρ n env tmps.toList→LRel ρ n vs cs →
  LRel ρ n (HL env ps vs) ((ps.zip cs).foldl (fun (tmps:Array Value) (q:Nat×Value)=>tmps.setIfInBounds q.1 q.2) tmps).toList:=by
 intro ps;induction ps with
 |nil=>intro vs cs env tmps h _;cases vs<;>exact h
 |cons p ps ih =>
  intro vs cs env tmps h hv;cases vs with
  |nil =>
   cases cs with
   |nil=>exact h
   |cons _ _=>have:=hv.1;simp at this
  |cons v vs =>
   cases cs with
   |nil=>have:=hv.1;simp at this
   |cons c cs =>simp only[HL,List.zip_cons_cons,List.foldl_cons];refine ih vs cs _ _ ?_ ⟨by have:=hv.1;simpa using this,fun i a b ha hb=>hv.2 (i+1) a b (by simpa using ha) (by simpa using hb)⟩;rw[Array.toList_setIfInBounds];exact h.set p (hv.2 0 v c rfl rfl)
theorem Xs {w:World}{l:Nat}{r:Loop}(h:w.heap[l]?=some (.loop r)):(Instr.getLoop l).run P w=.ok r w:=by simp[Instr.getLoop,Qw h (fun _ _ _ e=>by cases e)]
theorem Nj {ρ:Plc}{σ:Heap}{w:World}(hH:HRel ρ σ w) {i:Nat}{env:Env}{r:Loop}{st:LoopState}{pend:Option Code}{wr:Bool}(h:σ.get i=some (.obj (.lp env r st pend) wr)) :
  ∃ p,ρ i=some p∧w.heap[p.blk]?=some (.loop {r with state:=st,pending:=pend})∧LRel ρ σ.n env r.tmps.toList:=by
 obtain⟨p,hp,_,O,h1,rfl,h2⟩:=hH.live i _ h;exact⟨p,hp,h1,h2⟩
theorem Lv {ρ:Plc}{σ:Heap}{w:World}(hH:HRel ρ σ w) {i:Nat}{env:Env}{r:Loop}{st:LoopState}{pend:Option Code}{p:Pl}(hp:ρ i=some p) (h:σ.get i=some (.obj (.lp env r st pend) true)) (ld:LoopState) (bI:Option Code) :
  HRel ρ (σ.upd i (.obj (.lp env r ld bI) true)) (Pv w p.blk (.loop {r with state:=ld,pending:=bI})) ∧
  Ext ρ σ w ρ (σ.upd i (.obj (.lp env r ld bI) true)) (Pv w p.blk (.loop {r with state:=ld,pending:=bI})):=by
 obtain⟨p',bp,h1,h2⟩:=Nj hH h;exact hH.setObj hp h ⟨rfl,h2⟩
theorem CZ {eA body:Code}{va vb:VCode}(ha:Sound P S eA va) (hb:Sound P S body vb) (ps:List Nat) (env:Env) (r:Loop) (eX:r.assign=eA) (dm:r.body=body) (iI:r.params.toList=ps) (i:Nat) :
  KZ P i (AV (vwp S va (some i)) (vwp S vb (some i)) ps env r i):=by
 intro args σ K h ρ w aw hH hL;obtain⟨h1,h2,h3⟩:=h;obtain⟨p,hp,aC,j8⟩:=Nj hH h1;refine⟨p,hp,r.fn,(r.params.zip aw).foldl (fun tmps (t,a)=>tmps.setIfInBounds t a) r.tmps,r.assign,r.body,?_,?_⟩
 ·have aB:aw.size=r.params.size:=by
   have h4:=hL.1;have:r.params.size=ps.length:=by rw[←iI];simp
   simp at h4;omega
  simp[Instr.yield,Xs aC,aB]
 ·refine roundIn_of_wpIn (F:=Fence.wide) trivial ?_;rw[eX,dm];refine ha (some i) (some p.blk) 0 _ _ σ ρ w _ h3 hH ?_ (Mks.nil (Nat.le_refl _)) (.inr ⟨i,p.blk,rfl,rfl,σ.lt h1,fun q hq=>by rw[hp] at hq;obtain rfl:=osj hq;rfl⟩) _ ?_
  ·have:=I5 ps args aw.toList env r.tmps j8 hL;rw[←iI,←Array.toList_zip,Array.foldl_toList] at this;rw[iI] at this;exact this
  ·intro e a1 w1 ⟨bg,ρ1,σ1,k1,k0,k2,k3,k4,k5⟩;cases e with
   |normal =>
    obtain⟨k6,k7⟩:=k1;obtain⟨p1,gy,ji,qw⟩:=Nj k2 k6;have kX:p1=p:=by have:=k5.pl i (σ.lt h1) p1 gy;rw[hp] at this;exact(osj this).symm
    subst kX;obtain⟨j1,j2⟩:=Lv k2 gy k6 .busy none;refine⟨_,by simp[Instr.beginRound,Xs ji,QV ji (fun _ _ _ e=>by cases e)];rfl,?_⟩;refine hb (some i) (some p1.blk) 0 _ _ _ ρ1 _ a1 k7 j1 k3 (k4.ext k2 j2) (.inr ⟨i,p1.blk,rfl,rfl,σ1.lt k6,fun q hq=>by rw[gy] at hq;obtain rfl:=osj hq;rfl⟩) _ ?_;intro e2 a2 w2 ⟨aP,ρ2,σ2,m1,m0,m2,m3,m4,m5⟩;obtain⟨m6,m7⟩:=m1;obtain⟨p2,dW,dM,qx⟩:=Nj m2 m6;have kX:p2=p1:=by have h8:=m5.pl i (by rw[Heap.upd_n];exact σ1.lt k6) p2 dW;rw[gy] at h8;exact(osj h8).symm
    subst kX;cases e2 with
    |normal =>obtain⟨q1,q2⟩:=Lv m2 dW m6 .ready none;refine⟨.bool true,_,?_,_,rfl,.bool true,ρ2,_,m7,.bool _,q1,k5.trans (j2.trans (m5.trans q2))⟩;simp[Instr.endRound,Xs dM,QV dM (fun _ _ _ e=>by cases e)]
    |ret =>obtain⟨q1,q2⟩:=Lv m2 dW m6 .done (some .ret);refine⟨.bool false,_,?_,_,rfl,.bool false,ρ2,_,m7,.bool _,q1,k5.trans (j2.trans (m5.trans q2))⟩;simp[Instr.endRound,Xs dM,QV dM (fun _ _ _ e=>by cases e)]
    |exit id =>obtain⟨q1,q2⟩:=Lv m2 dW m6 .done (some (.exit id));refine⟨.bool false,_,?_,_,rfl,.bool false,ρ2,_,m7,.bool _,q1,k5.trans (j2.trans (m5.trans q2))⟩;simp[Instr.endRound,Xs dM,QV dM (fun _ _ _ e=>by cases e)]
    |goto l=>exact m7.elim
    |panic ch=>exact m7.elim
    |outgrown=>exact m7.elim
   |exit id=>exact k1.elim
   |goto l=>exact k1.elim
   |ret=>exact k1.elim
   |panic ch=>exact k1.elim
   |outgrown=>exact k1.elim
theorem Heap.ext' {σ σ':Heap}(h:∀ j,σ.get j=σ'.get j) (hn:σ.n=σ'.n):σ=σ':=by obtain⟨g,n,wf⟩:=σ;obtain⟨g',n',uH⟩:=σ';have hg:g=g':=funext h;have lf:n=n':=hn;subst hg;subst lf;rfl
theorem Mks.push {ds:List Deferred}{w:World}(h:Mks B ds w):Mks B ({target:=.collected w.heap.size,args:=#[]}::ds) (w.alloc (.deferred (some []))):=by
 obtain⟨h0,Ds,h1,h2,h3⟩:=h;have ah:∀ D∈Ds,D<w.heap.size:=fun D hD=>by
  rcases Nat.lt_or_ge D w.heap.size with h'|h'
  ·exact h'
  ·have:=(h3 D hD).2;rw[Array.getElem?_eq_none h'] at this;cases this
 refine⟨by rw[World.size_alloc];omega,w.heap.size::Ds,by rw[h1];rfl,List.nodup_cons.2 ⟨fun hh=>Nat.lt_irrefl _ (ah _ hh),h2⟩,fun D hD=>?_⟩;rcases List.mem_cons.1 hD with rfl|hD
 ·refine⟨h0,?_⟩;show (w.heap.push _)[w.heap.size]?=_;simp
 ·refine⟨(h3 D hD).1,?_⟩;show (w.heap.push _)[D]?=_;rw[Array.getElem?_push,if_neg (by have:=ah D hD;omega)];exact(h3 D hD).2
theorem Ext.alloc_other {ρ:Plc}{σ:Heap}(w:World) (O:Obj):Ext ρ σ w ρ σ (w.alloc O) :=
 ⟨rfl,rfl,rfl,by have:=World.size_alloc w O;omega,fun B hB _=>by show (w.heap.push _)[B]?=_;rw[Array.getElem?_push,if_neg (by omega)],fun _ _ h=>h,Nat.le_refl _,fun _ _ _ h=>h⟩
theorem HRel.alloc_other {ρ:Plc}{σ:Heap}{w:World}(h:HRel ρ σ w) (O:Obj):HRel ρ σ (w.alloc O) :=
 h.world (by have:=World.size_alloc w O;omega) (fun i p hp=>by show (w.heap.push _)[p.blk]?=_;rw[Array.getElem?_push,if_neg (by have:=h.lt i p hp;omega)]) fun g cs hg=>by show (w.heap.push _)[g]?=_;rw[Array.getElem?_push,if_neg (by have:=h.tab.lt hg;omega)]
theorem Co {cJ ro:Option Nat}{ρ:Plc}{σ:Heap}{w:World}{a:Act}{env:Env}(hH:HRel ρ σ w) (hL:LRel ρ σ.n env a.tmps.toList) (hd:Mks B a.defers w) (hR:RoRel cJ ro ρ σ.n) (aK:Z0a σ cJ) (fn:FuncId) (ps:Array Nat) (eA body:Code) :
  ∃ (r:Loop) (mark:List Deferred) (w1:World) (ρ1:Plc),(Instr.enterLoop fn a.tmps ps eA body ro).run P w=.ok (w1.heap.size-1,mark) w1∧r.assign=eA∧r.body=body∧r.params=ps ∧
   HRel ρ1 (σ.push (.obj (.lp env r .ready none) true)) w1∧Ext ρ σ w ρ1 (σ.push (.obj (.lp env r .ready none) true)) w1∧Mks B (mark++a.defers) w1 ∧
   (∀ p,ρ1 σ.n=some p→p.blk=w1.heap.size-1):=by
 rcases hR with⟨rfl,rfl⟩|⟨i,l,rfl,rfl,hi,gA⟩
 ·let w0:=w.alloc (.deferred (some []));have fp:HRel ρ σ w0:=hH.alloc_other _;have oV:Ext ρ σ w ρ σ w0:=Ext.alloc_other _ _;let r:Loop:={state:=.ready,pending:=none,fn,tmps:=a.tmps,params:=ps,assign:=eA,body:=body,defers:=w.heap.size};obtain⟨ρ1,h1,h2,h3⟩:=fp.newObj (.lp env r .ready none) (.loop r) ⟨rfl,hL⟩;have aB:(w0.alloc (.loop r)).heap.size-1=w0.heap.size:=by have:=World.size_alloc w0 (.loop r);omega
  refine⟨r,[{target:=.collected w.heap.size,args:=#[]}],w0.alloc (.loop r),ρ1,?_,rfl,rfl,rfl,h2,oV.trans h3,?_,fun p hp=>?_⟩
  ·rw[aB];simp[Instr.enterLoop];exact⟨(World.size_alloc w _).symm,rfl⟩
  ·exact(hd.push).ext fp h3
  ·rw[h1] at hp;obtain rfl:=osj hp;rw[aB]
 ·obtain⟨r6,r0,st,pend,hb⟩:=aK;obtain⟨p,hp,aC,_⟩:=Nj hH hb;have aO:=gA p hp;subst aO;let r:Loop:={state:=.ready,pending:=none,fn,tmps:=a.tmps,params:=ps,assign:=eA,body:=body,defers:=r0.defers};obtain⟨ρ1,h1,h2,h3⟩:=hH.newObj (.lp env r .ready none) (.loop r) ⟨rfl,hL⟩;have aB:(w.alloc (.loop r)).heap.size-1=w.heap.size:=by have:=World.size_alloc w (.loop r);omega
  refine⟨r,[],w.alloc (.loop r),ρ1,?_,rfl,rfl,rfl,h2,h3,?_,fun p hp=>?_⟩
  ·rw[aB];simp[Instr.enterLoop,Xs aC];rfl
  ·exact hd.ext hH h3
  ·rw[h1] at hp;obtain rfl:=osj hp;rw[aB]
theorem CW (hS:OkSpecs P S) {eA body:Code}{va vb:VCode}(ha:Sound P S eA va) (hb:Sound P S body vb) (g:Operand) (hg:X5 g=true) (ps:Array Nat):Sound P S (.rangeFunc g ps eA body) (.rangeF g ps.toList va vb):=by
 intro B cJ ro n Q env σ ρ w a h hH hL hd hR Q' hQ;simp only[vwp,Cg] at h;have fS:=XL hL hg;split at h
 ·rename_i f first cap a_
  rw[a_] at fS;split at h
  ·rename_i T hT;obtain⟨aK,h⟩:=h;refine wpIn_rangeFunc fun fn _=>?_;obtain⟨r,mark,w1,ρ1,he,eX,dm,iI,hU,eT,hd1,dU⟩:=Co (P:=P) hH hL hd hR aK fn ps eA body;obtain⟨gB,l9⟩:=hS.it f T hT;obtain⟨gs,ds,nM,jR,iZ⟩:∃ gs ds,a.eval g=.func (.func f) gs ds∧LRel ρ σ.n first.toList gs.toList∧LRel ρ σ.n cap.toList ds.toList:=by
    cases nM:a.eval g with
    |func uI gs ds =>
     rw[nM] at fS;cases fS with
     |func _ _ _ _ _ k1 k2 k3 k4=>exact⟨gs,ds,rfl,LRel.of_array k1 k3,LRel.of_array k2 k4⟩
    |_=>rw[nM] at fS;cases fS
   have hY:KZ P σ.n (AV (vwp S va (some σ.n)) (vwp S vb (some σ.n)) ps.toList env r σ.n):=CZ ha hb ps.toList env r eX dm (by rw[iI]) σ.n;have j9:=l9 σ.n _ hY _ _ _ (h r) ρ1 w1 (gs++#[.func (.yield (w1.heap.size-1)) #[] #[]]++ds) hU (by
    have k1:=eT.lrel jR;have k2:=eT.lrel iZ;have k3:LRel ρ1 (σ.push (.obj (.lp env r .ready none) true)).n [.func (.yield σ.n) #[] #[]] [.func (.yield (w1.heap.size-1)) #[] #[]] :=
     LRel.cons (.yield _ _ (by simp) (fun p hp=>(dU p hp).symm)) (LRel.nil _ _)
    have:=(k1.append k3).append k2;simpa using this)
   refine⟨w1.heap.size-1,mark,w1,{target:=.fn (.func f) ds,args:=gs++#[.func (.yield (w1.heap.size-1)) #[] #[]]},w1,f,gs++#[.func (.yield (w1.heap.size-1)) #[] #[]]++ds,w1,?_,?_,fun _ _=>EY _ _,?_,(fun hh=>by rw[RE] at hh;cases hh),?_⟩
   ·rw[Q0k];exact he
   ·simp[resolve,nM,Deferred.ofValue];rfl
   ·simp only[invoke];exact N3 gB _ _
   ·refine (AZ j9).mono fun e w3 ⟨c,r7,v,ρ3,σ3,k1,k2,k3,k4⟩=>?_;subst r7;unfold Q0a at k1;split at k1
    ·rename_i ae r' st pend lR;obtain⟨bA,k1⟩:=k1;obtain⟨p3,qy,gC,qz⟩:=Nj k3 lR;have aO:p3.blk=w1.heap.size-1:=dU p3 (k4.pl σ.n (by simp) p3 qy);obtain⟨q1,q2⟩:=Lv k3 qy lR .exhausted pend;rw[aO] at gC q1 q2;obtain⟨q3,q4⟩:=q1.kill σ.n;have eW:(σ3.upd σ.n (.obj (.lp ae r' .exhausted pend) true)).kill σ.n=σ3.kill σ.n:=by
      apply Heap.ext'
      ·intro j;by_cases hj:j=σ.n
       ·subst hj;rw[Heap.get_kill_self,Heap.get_kill_self]
       ·rw[Heap.get_kill_ne _ hj,Heap.get_kill_ne _ hj,Heap.get_upd_ne _ _ hj]
      ·rfl
     rw[eW] at q3 q4;have jj:=eT.trans (k4.trans (q2.trans q4));have bO:=hd1.ext hU (k4.trans (q2.trans q4));refine⟨pend,_,by simp[Instr.endLoop,Xs gC,QV gC (fun _ _ _ e=>by cases e),bA];rfl,?_⟩;have dL:∀ K:Env→Heap→Prop,K env (σ3.kill σ.n)→Hc B (List.length env) ρ σ w K {a with defers:=mark++a.defers} (Pv w3 (w1.heap.size-1) (.loop {r' with state:=.exhausted,pending:=pend})):=fun K hK =>
      ⟨env,_,_,hK,rfl,q3,jj.lrel hL,bO,jj⟩
     cases pend with
     |none=>exact hQ _ _ _ (dL _ k1)
     |some c =>
      cases c with
      |ret=>exact wpIn_ret (hQ _ _ _ (dL _ k1))
      |exit id=>exact wpIn_exit (hQ _ _ _ (dL _ k1))
      |_=>exact k1.elim
    ·exact k1.elim
  ·exact h.elim
 ·exact h.elim
end
end Go.V
namespace Go.V
open Go
theorem Ww {ev eY:Operand→Value}(x:Option Operand) (d:Nat) (h:∀ y∈x.toList,ev y=eY y):Jp ev x d=Jp eY x d:=by
 cases x with
 |none=>rfl
 |some y=>simp only[Jp];rw[h y (by simp)]
theorem Fj {o:XOp}{ev eY:Operand→Value}{σ:Heap}(h:∀ x∈o.opds,ev x=eY x):Zi o ev σ=Zi o eY σ:=by cases o<;>simp only[XOp.opds,List.mem_cons,List.not_mem_nil,or_false,forall_eq_or_imp,forall_eq] at h<;>simp only[Zi]<;>(try simp only[h])
theorem Dz {o:VOp}{ev eY:Operand→Value}{σ:Heap}(h:∀ x∈o.opds,ev x=eY x):Q4 o ev σ=Q4 o eY σ:=by
 cases o
 case build z ps =>
  have:(ps.map fun p=>(p.1,p.2.1,ev p.2.2))=ps.map fun p=>(p.1,p.2.1,eY p.2.2):=List.map_congr_left fun p hp=>by rw[h p.2.2 (List.mem_map.2 ⟨p,hp,rfl⟩)]
  simp only[Q4,this]
 case buildSlice e z n ps =>
  have:(ps.map fun p=>(p.1*e.sz,e.sz,ev p.2))=ps.map fun p=>(p.1*e.sz,e.sz,eY p.2):=List.map_congr_left fun p hp=>by rw[h p.2 (List.mem_map.2 ⟨p,hp,rfl⟩)]
  simp only[Q4,this]
 case makeFunc fn a b =>
  have h1:a.map ev=a.map eY:=List.map_congr_left fun x hx=>h x (List.mem_append_left _ hx);have h2:b.map ev=b.map eY:=List.map_congr_left fun x hx=>h x (List.mem_append_right _ hx);simp only[Q4,h1,h2]
 case slice size x lo hi mx =>
  have h1:=Ww lo 0 (fun y hy=>h y (by simp[VOp.opds] at *;exact .inr (.inl hy)));have h2:∀ n,Jp ev hi n=Jp eY hi n:=fun n=>Ww hi n (fun y hy=>h y (by simp[VOp.opds] at *;exact .inr (.inr (.inl hy))));have h3:=Ww mx 0 (fun y hy=>h y (by simp[VOp.opds] at *;exact .inr (.inr (.inr hy))));have h4:=h x (by simp[VOp.opds]);simp only[Q4,h4];cases eY x<;>simp only[h1,h2,h3]
 case sliceStr x lo hi =>
  have h1:=Ww lo 0 (fun y hy=>h y (by simp[VOp.opds] at *;exact .inr (.inl hy)));have h2:∀ n,Jp ev hi n=Jp eY hi n:=fun n=>Ww hi n (fun y hy=>h y (by simp[VOp.opds] at *;exact .inr (.inr hy)));have h4:=h x (by simp[VOp.opds]);simp only[Q4,h4];cases eY x<;>simp only[h1,h2]
 case ext o=>exact Fj h
 all_goals
  simp only[VOp.opds,List.mem_cons,List.not_mem_nil,or_false,forall_eq_or_imp,forall_eq] at h;simp only[Q4];try simp only[h]
theorem LF {S:VSpecs}{o:VOp}{env ae:Env}{σ:Heap}{K:Value→Heap→Prop}(h:∀ x∈o.opds,Q2 env x=Q2 ae x):vop S o env σ K=vop S o ae σ K:=by
 cases o
 case callF f bD =>
  have:bD.map (Q2 env)=bD.map (Q2 ae):=List.map_congr_left h;simp only[vop,this]
 case callV f bD =>
  have h1:Q2 env f=Q2 ae f:=h f (by simp[VOp.opds]);have h2:bD.map (Q2 env)=bD.map (Q2 ae):=List.map_congr_left fun x hx=>h x (by simp[VOp.opds,hx]);simp only[vop,h1,h2]
 case ext o =>
  by_cases hx:∃ x,o=.nextMap x
  ·obtain⟨x,rfl⟩:=hx;have h1:Q2 env x=Q2 ae x:=h x (by simp[VOp.opds,XOp.opds]);simp only[vop,h1]
  ·have e1:=Dz (σ:=σ) h;cases o<;>first|exact absurd ⟨_,rfl⟩ hx|(simp only[vop];rw[e1])
 all_goals
  have e1:=Dz (σ:=σ) h;simp only[vop];rw[e1]
theorem Heap.Le.refl (σ:Heap):σ.Le σ:=⟨Nat.le_refl _,fun _ _ h=>h⟩
theorem Heap.Le.trans {σ σ' aJ:Heap}(h:σ.Le σ') (k:σ'.Le aJ):σ.Le aJ:=⟨Nat.le_trans h.1 k.1,fun i b hb=>k.2 i b (h.2 i b hb)⟩
theorem Q8i {σ σ':Heap}(h:σ.Le σ') {esz:Nat}{v:Value}{xs:List Value}(hx:σ.sl esz v=some xs):σ'.sl esz v=some xs:=by
 unfold Heap.sl at hx ⊢;split at hx
 ·exact hx
 ·rename_i i o n c;split at hx
  ·rename_i cs e wr t hb;simp only[h.2 i _ hb];exact hx
  ·cases hx
 ·cases hx
theorem RL {σ σ':Heap}(h:σ.Le σ') {m:Nat}{x:List JA×Nat×Bool}(hx:σ.mapAt m=some x):σ'.mapAt m=some x:=by
 unfold Heap.mapAt at hx ⊢;split at hx
 ·rename_i es clock wr hb;simp only[h.2 m _ hb];exact hx
 ·cases hx
theorem Ex {σ σ':Heap}(h:σ.Le σ') {kd:Nat}{a b:Value}{r:Bool}(hx:Jj kd a b σ=some r):Jj kd a b σ'=some r:=by
 unfold Jj at hx ⊢
 split at hx<;>first
  |exact hx
  |(cases hx;done)
  |skip
 rename_i i o j q;split at hx
 ·rename_i hc;obtain⟨h1,h2,h3⟩:=hc;obtain⟨b,hb⟩:=Option.isSome_iff_exists.1 h3;rw[if_pos ⟨h1,h2,by rw[h.2 _ _ hb];rfl⟩];exact hx
 ·cases hx
theorem Ll {neg:Bool}{s:List MK}{x y:Operand}{ev:Operand→Value}{σ σ' σ1:Heap}{v:Value}(h:Zi (.eqAgg neg s x y) ev σ=some (v,σ1)):Zi (.eqAgg neg s x y) ev σ'=some (v,σ'):=by
 simp only[Zi] at h ⊢;split at h
 ·split at h
  ·rename_i hc;rw[if_pos hc];simp at h;obtain⟨rfl,_⟩:=h;rfl
  ·cases h
 ·cases h
theorem Il {o:XOp}{ev:Operand→Value}{σ σ' σ1:Heap}{v:Value}(hk:(VOp.ext o).kind≠2) (h:Zi o ev σ=some (v,σ1)) (hl:σ.Le σ'):Zi o ev σ'=some (v,σ'):=by
 cases o<;>simp only[VOp.kind,VOp.quiet,XOp.quiet] at hk<;>try (exact absurd rfl hk)
 case eqAgg neg s x y=>exact Ll h
 case eqNil kd neg x y =>
  simp only[Zi] at h ⊢;split at h
  ·rename_i r hr;rw[Ex hl hr];simp at h;obtain⟨rfl,_⟩:=h;rfl
  ·cases h
 case lookup mk z ok x i =>
  simp only[Zi] at h ⊢;split at h
  ·rename_i bE;rw[if_pos bE];split at h
   ·simp at h;obtain⟨rfl,_⟩:=h;rfl
   ·rename_i m uJ;split at h
    ·rename_i es clock wr hm;simp only[RL hl hm];split at h
     ·rename_i hall;rw[if_pos hall];split at h<;>(rename_i hf;simp at h;obtain⟨rfl,_⟩:=h;rfl)
     ·cases h
    ·cases h
   ·cases h
  ·cases h
 case lenMap x =>
  simp only[Zi] at h ⊢;split at h
  ·simp at h;obtain⟨rfl,_⟩:=h;rfl
  ·split at h
   ·rename_i es clock wr hm;simp only[RL hl hm];simp at h;obtain⟨rfl,_⟩:=h;rfl
   ·cases h
  ·cases h
 case entry x =>
  simp only[Zi] at h ⊢;split at h
  ·rename_i i hx;split at h
   ·rename_i m since seen last wr hb;simp only[hl.2 i _ hb];split at h
    ·rename_i es clock jY b hm di;simp only[RL hl hm,di];split at h
     ·rename_i cA;rw[if_pos cA];split at h
      ·rename_i e hf;split at h
       ·rename_i hp;rw[if_pos hp];simp at h;obtain⟨rfl,_⟩:=h;rfl
       ·cases h
      ·cases h
     ·cases h
    ·cases h
   ·cases h
  ·cases h
 case toUnsafe x =>
  simp only[Zi] at h ⊢;split at h
  ·simp at h;obtain⟨rfl,_⟩:=h;rfl
  ·rename_i i o hx;split at h
   ·rename_i c e wr t hb;simp only[hl.2 i _ hb];split at h
    ·rename_i hc;rw[if_pos hc];simp at h;obtain⟨rfl,_⟩:=h;rfl
    ·cases h
   ·cases h
  ·cases h
 case fromUnsafe u sz x =>
  simp only[Zi] at h ⊢;split at h
  ·simp at h;obtain⟨rfl,_⟩:=h;rfl
  ·rename_i i o hx;split at h
   ·rename_i c e hb;simp only[hl.2 i _ hb];split at h
    ·rename_i hc;rw[if_pos hc];simp at h;obtain⟨rfl,_⟩:=h;rfl
    ·cases h
   ·cases h
  ·cases h
 case sliceData x =>
  simp only[Zi] at h ⊢;split at h
  ·simp at h;obtain⟨rfl,_⟩:=h;rfl
  ·rename_i i o n cap hx;split at h
   ·rename_i hc;obtain⟨h1,h2⟩:=hc;obtain⟨b,hb⟩:=Option.isSome_iff_exists.1 h2;rw[if_pos ⟨h1,by rw[hl.2 _ _ hb];rfl⟩];simp at h;obtain⟨rfl,_⟩:=h;rfl
   ·cases h
  ·cases h
 case bytesStr x =>
  simp only[Zi] at h ⊢;split at h
  ·rename_i a n c hx;split at h
   ·rename_i xs bz;simp only[Q8i hl bz];split at h
    ·rename_i s hs;simp at h;obtain⟨rfl,_⟩:=h;rfl
    ·cases h
   ·cases h
  ·cases h
theorem Pf {o : VOp}{ev : Operand → Value}{σ σ' σ1 : Heap}{v : Value}(hk : o.kind = 0) (h : Q4 o ev σ = some (v, σ1)) : Q4 o ev σ' = some (v, σ') := by
  cases o
  case ext o =>
    cases o <;> first | (simp [VOp.kind, VOp.quiet, XOp.quiet] at hk; done) | skip
    case eqAgg neg s x y => exact Ll h
  case slice size x lo hi mx => cases mx <;> simp [VOp.kind, VOp.quiet] at hk
  case build z ps =>
    simp only [Q4] at h ⊢;split at h
    · simp at h; obtain ⟨rfl, _⟩ := h; rfl
    · cases h
  all_goals first
    | (simp [VOp.kind, VOp.quiet] at hk; done)
    | skip
  all_goals
    simp only [Q4] at h ⊢
    (repeat' split at h) <;> first
      | (cases h; done)
      | (rename_i oW; obtain ⟨rfl, rfl, rfl⟩ := oW; simp_all; done)
      | (simp_all; done)
      | (simp_all
         obtain ⟨rfl, _⟩ := h
         first
          | rw [if_neg (by omega)]
          | rw [if_pos (by omega)])
theorem PT {o:VOp}{ev:Operand→Value}{σ σ' σ1:Heap}{v:Value}(hk:o.kind≠2) (h:Q4 o ev σ=some (v,σ1)) (hl:σ.Le σ'):Q4 o ev σ'=some (v,σ'):=by
 cases o
 case ext o=>exact Il hk h hl
 case load agg size a =>
  simp only[Q4] at h ⊢;split at h
  ·split at h
   ·split at h
    ·rename_i hall;rw[if_pos hall];split at h
     ·simp at h;obtain⟨rfl,_⟩:=h;rfl
     ·cases h
    ·cases h
   ·cases h
  ·rename_i i o hx;split at h
   ·rename_i c e wr t hb;simp only[hl.2 i _ hb];split at h
    ·rename_i u hu;simp at h;obtain⟨rfl,_⟩:=h;rfl
    ·cases h
   ·cases h
  ·cases h
 case slice size x lo hi mx =>
  cases mx with
  |some m=>simp[VOp.kind,VOp.quiet] at hk
  |none =>
   simp only[Q4] at h ⊢;split at h
   ·rename_i a n cap hx;split at h
    ·rename_i l k dU cg;unfold Y7 at h ⊢;split at h
     ·rename_i heq;split at h
      ·rename_i hc;rw[if_pos hc];simp at h;obtain⟨rfl,_⟩:=h;rfl
      ·cases h
     ·rename_i i o n' ao heq;split at h
      ·rename_i c e wr t hb;simp only[hl.2 i _ hb];simp only at h;split at h
       ·rename_i hc;rw[if_pos hc];simp at h;obtain⟨rfl,_⟩:=h;rfl
       ·cases h
      ·cases h
     ·cases h
    ·rename_i hm;cases hm
    ·cases h
   ·cases h
 all_goals first
  |(exact absurd rfl hk)
  |(exact Pf rfl h)
end Go.V
namespace Go.V
open Go
section
variable {P:Program}{S:VSpecs}{B:Nat}
def EL (lv:List VOper) (env:Env) (tr:Nat→Value) (A:Nat→Bool):Nat→Env
 |0=>env
 |i+1=>if A i then X3 (EL lv env tr A i) ((lv[i]?).bind (·.dst)) (tr i) else EL lv env tr A i
theorem Ka (lv:List VOper) (env:Env) (tr:Nat→Value) (A:Nat→Bool):∀ i,List.length (EL lv env tr A i)=List.length env
 |0=>rfl
 |i+1=>by
  simp only[EL];split
  ·rw[Zx];exact Ka lv env tr A i
  ·exact Ka lv env tr A i
theorem Kq (lv:List VOper) (env:Env) {tr tr':Nat→Value}{A B:Nat→Bool}:∀ i,(∀ l,l<i→tr l=tr' l)→(∀ l,l<i→A l=B l)→EL lv env tr A i=EL lv env tr' B i
 |0,_,_=>rfl
 |i+1,h,h'=>by simp only[EL];rw[Kq lv env i (fun l hl=>h l (by omega)) (fun l hl=>h' l (by omega)),h i (by omega),h' i (by omega)]
theorem YL (env:Env) (d:Option Nat) (v:Value) {x:Nat}(h:d≠some x):(X3 env d v)[x]?=env[x]?:=by
 cases d with
 |none=>rfl
 |some d=>simp only[X3];rw[List.getElem?_set_ne (by rintro rfl;exact h rfl)]
theorem Q47 (lv:List VOper) (env:Env) {tr tr':Nat→Value}{A:Nat→Bool}:∀ i,(∀ l,l<i→A l=true→tr l=tr' l)→EL lv env tr A i=EL lv env tr' A i
 |0,_=>rfl
 |i+1,h=>by
  simp only[EL];rw[Q47 lv env i fun l hl hA=>h l (by omega) hA];split
  ·rename_i hA;rw[h i (by omega) hA]
  ·rfl
theorem MF (lv:List VOper) (env:Env) (tr:Nat→Value) {A B:Nat→Bool}(x:Nat):∀ i,(∀ l,l<i→(lv[l]?).bind (·.dst)=some x→A l=B l)→(EL lv env tr A i)[x]?=(EL lv env tr B i)[x]?
 |0,_=>rfl
 |i+1,h=>by
  have ih:=MF lv env tr x i (fun l hl hd=>h l (by omega) hd);by_cases hd:(lv[i]?).bind (·.dst)=some x
  ·have j_:=h i (by omega) hd;simp only[EL];rw[j_];split
   ·rw[hd];simp only[X3,List.getElem?_set];rw[Ka,Ka];rfl
   ·exact ih
  ·simp only[EL]
   split<;>split<;>first
    |exact ih
    |(rw[YL _ _ _ hd];exact ih)
    |(rw[YL _ _ _ hd,YL _ _ _ hd];exact ih)
theorem Ga (lv:List VOper) (env:Env) (tr:Nat→Value) (j:Nat):∀ i,j≤i→EL lv env tr (fun l=>decide (l<j)) i=EL lv env tr (fun _=>true) j
 |0,h=>by
  obtain rfl:j=0:=by omega
  rfl
 |i+1,h=>by
  by_cases hj:j=i+1
  ·subst hj;exact Kq lv env _ (fun _ _=>rfl) (fun l hl=>by simp[hl])
  ·simp only[EL];rw[if_neg (by simp;omega)];exact Ga lv env tr j i (by omega)
def DFact (S:VSpecs) (d:DInfo) (lv:List VOper) (env:Env) (tr:Nat→Value) (hp:Nat→Heap) (u:Nat) (i:Nat):Prop :=
 ∀ v,lv[i]?=some v→∃ b,J2 (EL lv env tr (fun _=>true) i) v.guard=some b ∧
  (b=true→v.op.kind=2→vop S v.op (EL lv env tr (fun _=>true) i) (hp (d.rank i)) (fun v' σ'=>v'=tr i∧σ'=hp (d.rank i+1))) ∧
  (b=true→v.op.kind=1→∀ r,d.kmin i≤r→r≤d.kmax i→r≤u→∃ σ',Q4 v.op (Q2 (EL lv env tr (fun _=>true) i)) (hp r)=some (tr i,σ')) ∧
  (b=true→v.op.kind≠1→v.op.kind≠2→∃ σ',Q4 v.op (Q2 (EL lv env tr (fun _=>true) i)) (hp (d.rank i))=some (tr i,σ')) ∧
  (b=false→tr i=undef∧(v.op.kind=2→hp (d.rank i+1)=hp (d.rank i)))
def Q6a (d:DInfo) (lv:List VOper) (env:Env) (tr:Nat→Value) (i:Nat) (pend:List (Nat×(Heap→Prop))):Prop :=
 ∀ l,l<i→∀ v,lv[l]?=some v→J2 (EL lv env tr (fun _=>true) l) v.guard=some true→v.op.kind=1→d.rank i+1≤d.kmax l→(d.kmax l,JY v.op (Q2 (EL lv env tr (fun _=>true) l)) (tr l))∈pend
inductive Know (S:VSpecs) (d:DInfo) (lv:List VOper) (env:Env) (K:Env→Heap→Prop):List Nat→Nat→(Nat→Value)→(Nat→Heap)→Prop
 |full {nd:List Nat}{tr:Nat→Value}{hp:Nat→Heap}(hF:∀ l,l<lv.length→l∉nd→DFact S d lv env tr hp (d.rank lv.length) l) (hK:K (EL lv env tr (fun _=>true) lv.length) (hp (d.rank lv.length))):Know S d lv env K nd lv.length tr hp
 |part {nd:List Nat}{i:Nat}{tr:Nat→Value}{hp:Nat→Heap}{v:VOper}(hv:lv[i]?=some v) (hk:v.op.kind=2) (hw:J2 (EL lv env tr (fun _=>true) i) v.guard=some true)
   (hF:∀ l,l<i→l∉nd→DFact S d lv env tr hp (d.rank i) l) (jk:∀ j,i<j→j<lv.length→∃ e u,i≤e∧e<j∧lv[e]?=some u∧((∃ x,u.dst=some x∧∀ v,lv[j]?=some v→x∈KK v)∨(u.op.kind=2∧∀ v,lv[j]?=some v→v.op.kind=2)))
   (R:Value→Heap→Prop) (fq:vop S v.op (EL lv env tr (fun _=>true) i) (hp (d.rank i)) R)
   (I:∀ u σ',R u σ'→Nat) (T:∀ u σ',R u σ'→Nat→Value) (H:∀ u σ',R u σ'→Nat→Heap)
   (hT:∀ u σ' h,i<I u σ' h∧(∀ l,l<i→T u σ' h l=tr l)∧T u σ' h i=u∧(∀ r,r≤d.rank i→H u σ' h r=hp r)∧H u σ' h (d.rank i+1)=σ')
   (next:∀ u σ' h,Know S d lv env K (i::nd) (I u σ' h) (T u σ' h) (H u σ' h)):Know S d lv env K nd i tr hp
theorem LH {r:Nat}{σ:Heap}:∀ {l:List (Nat×(Heap→Prop))},JV r σ l→∀ c∈l,r≤c.1→c.2 σ
 |[],_,_,h=>by cases h
 |x::l,h,c,hc=>by
  rcases List.mem_cons.1 hc with rfl|hc
  ·exact h.1
  ·exact LH h.2 c hc
theorem Hz {op:VOp}{ev:Operand→Value}{v:Value}{τ:Heap}(h:JY op ev v τ):∃ σ',Q4 op ev τ=some (v,σ'):=by
 unfold JY at h;cases hv:Q4 op ev τ with
 |none=>rw[hv] at h;exact h.elim
 |some q =>rw[hv] at h;have h:q.1=v:=h;exact⟨q.2,by rw[←h]⟩
theorem DFact.congr {d:DInfo}{lv:List VOper}{env:Env}{tr tr':Nat→Value}{hp bp:Nat→Heap}{u u' l:Nat}(h:DFact S d lv env tr hp u l) (ht:∀ k,k≤l→tr' k=tr k) (hh:∀ r,r≤u→bp r=hp r) (hr:d.rank l≤u) (h2:∀ v,lv[l]?=some v→v.op.kind=2→d.rank l+1≤u)
  (hu:∀ v,lv[l]?=some v→J2 (EL lv env tr (fun _=>true) l) v.guard=some true→v.op.kind=1→∀ r,u<r→r≤u'→r≤d.kmax l→∃ σ',Q4 v.op (Q2 (EL lv env tr (fun _=>true) l)) (bp r)=some (tr l,σ')):DFact S d lv env tr' bp u' l:=by
 intro v hv;obtain⟨b,f1,f2,f3,f4,f5⟩:=h v hv;have e:=Kq lv env (tr:=tr') (tr':=tr) (A:=fun _=>true) (B:=fun _=>true) l (fun k hk=>ht k (by omega)) (fun _ _=>rfl);rw[e,ht l (Nat.le_refl _),hh _ hr];refine⟨b,f1,fun hb hk=>?_,fun hb hk r r1 r2 r3=>?_,f4,fun hb=>⟨(f5 hb).1,fun hk=>?_⟩⟩
 ·rw[hh _ (h2 v hv hk)];exact f2 hb hk
 ·rcases Nat.lt_or_ge u r with ah|a_
  ·subst hb;exact hu v hv f1 hk r ah r3 r2
  ·rw[hh r a_];exact f3 hb hk r r1 r2 a_
 ·rw[hh _ (h2 v hv hk)];exact(f5 hb).2 hk
theorem Ri:∀ (d:DInfo) (rest:List VOper) (i:Nat) (xs:List Nat),waits xs (d.opers rest i)=true→∀ (k:Nat) (v:VOper),rest[k]?=some v→v.op.kind=2∨(∃ x∈xs,x∈KK v)∨∃ (e:Nat) (u:VOper) (x:Nat),e<k∧rest[e]?=some u∧u.dst=some x∧x∈KK v
 |d,[],i,xs,_,k,v,hv=>by simp at hv
 |d,o::rest,i,xs,h,k,v,hv=>by
  simp only[DInfo.opers,waits,Bool.and_eq_true,Bool.or_eq_true,List.any_eq_true,beq_iff_eq] at h;obtain⟨h1,h2⟩:=h;cases k with
  |zero =>
   obtain rfl:o=v:=by simpa using hv
   rcases h1 with h1|⟨x,hx,bz⟩
   ·exact .inl h1
   refine .inr (.inl ⟨x,by simpa using bz,?_⟩);simp only[KK,List.mem_append] at hx ⊢;rcases hx with hx|hx
   ·exact .inl (.inr hx)
   ·exact .inr hx
  |succ k =>
   rcases Ri d rest (i+1) _ h2 k v (by simpa using hv) with h3|⟨y,hy,qA⟩|⟨e,u,y,he,hu,hd,hn⟩
   ·exact .inl h3
   ·rcases List.mem_append.1 hy with hy|hy
    ·exact .inr (.inr ⟨0,o,y,by omega,rfl,by simpa using hy,qA⟩)
    ·exact .inr (.inl ⟨y,hy,qA⟩)
   ·exact .inr (.inr ⟨e+1,u,y,by omega,by simpa using hu,hd,hn⟩)
theorem C7 (d:DInfo) {i j:Nat}(h:i≤j):d.rank i≤d.rank j:=by
 induction j with
 |zero =>
  obtain rfl:i=0:=by omega
  exact Nat.le_refl _
 |succ j ih =>
  by_cases bZ:i=j+1
  ·subst bZ;exact Nat.le_refl _
  ·have:=ih (by omega);simp only[DInfo.rank];split<;>omega
theorem Q3p (d:DInfo) (lv:List VOper) (jl:∀ i v,lv[i]?=some v→d.k i=v.op.kind) (env:Env) (K:Env→Heap→Prop):∀ (rest:List VOper) (i:Nat),i≤lv.length→lv.drop i=rest→∀ (nd:List Nat) (tp:Nat→Value) (hq:Nat→Heap) (pend:List (Nat×(Heap→Prop))),
  (∀ l,l<i→l∉nd→DFact S d lv env tp hq (d.rank i) l)→Q6a d lv env tp i pend →
  Zy S (d.opers rest i) (EL lv env tp (fun _=>true) i) ((List.range (d.rank i+1)).map hq) (hq (d.rank i)) pend K →
  ∃ k tr hp,i≤k∧(∀ l,l<i→tr l=tp l)∧(∀ r,r≤d.rank i→hp r=hq r)∧Know S d lv env K nd k tr hp:=by
 intro rest;induction rest with
 |nil =>
  intro i gA hi nd tp hq pend hF hP h;have hl:lv.length≤i:=by simpa using hi
  obtain rfl:i=lv.length:=by omega
  simp only[DInfo.opers,Zy] at h;exact⟨_,tp,hq,Nat.le_refl _,fun _ _=>rfl,fun _ _=>rfl,.full hF h⟩
 |cons v rest ih =>
  intro i gA hi nd tp hq pend hF hP h;have ah:i<lv.length:=by
   rcases Nat.lt_or_ge i lv.length with h'|h'
   ·exact h'
   ·rw[List.drop_eq_nil_of_le h'] at hi;cases hi
  have hv:lv[i]?=some v:=by have:=congrArg List.head? hi;rw[List.head?_drop] at this;simpa using this
  have dp:lv.drop (i+1)=rest:=by have:=congrArg List.tail hi;simpa using this
  have hk:=jl i v hv;have eX:v.op.kind=2→d.rank (i+1)=d.rank i+1:=fun e=>by simp only[DInfo.rank,hk,e,if_true]
  have jc:v.op.kind≠2→d.rank (i+1)=d.rank i:=fun e=>by simp only[DInfo.rank,hk,e,if_false]
  have dK:∀ l,l<i→d.rank l≤d.rank i∧∀ w,lv[l]?=some w→w.op.kind=2→d.rank l+1≤d.rank i:=fun l hl=>by have h1:=C7 d (show l+1≤i by omega);refine⟨by simp only[DInfo.rank] at h1;split at h1<;>omega,fun w hw h2=>?_⟩;simp only[DInfo.rank,jl l w hw,h2,if_true] at h1;exact h1
  simp only[DInfo.opers,Zy] at h;have hlen:((List.range (d.rank i+1)).map hq).length=d.rank i+1:=by simp
  cases hw:J2 (EL lv env tp (fun _=>true) i) v.guard with
  |none=>rw[hw] at h;exact h.elim
  |some b =>
   rw[hw] at h;obtain⟨ht,hf⟩:=h
   have go:∀ (ia:List Nat) (u:Value) (σ':Heap) (bI:List (Nat×(Heap→Prop))),(∀ l,l∈nd→l∈ia) →
     Zy S (d.opers rest (i+1)) (X3 (EL lv env tp (fun _=>true) i) v.dst u) (if v.op.kind=2 then (List.range (d.rank i+1)).map hq++[σ'] else (List.range (d.rank i+1)).map hq) (if v.op.kind=2 then σ' else hq (d.rank i)) bI K →
     (v.op.kind=2→JV (d.rank i+1) σ' pend)→(∀ c∈pend,c∈bI) →
     (b=true→v.op.kind=1→d.rank i+1≤d.kmax i→(d.kmax i,JY v.op (Q2 (EL lv env tp (fun _=>true) i)) u)∈bI) →
     (i∉ia→∀ tr hp,(∀ l,l<i→tr l=tp l)→tr i=u→(∀ r,r≤d.rank i→hp r=hq r)→(v.op.kind=2→hp (d.rank i+1)=σ')→DFact S d lv env tr hp (d.rank (i+1)) i) →
     ∃ k tr hp,i<k∧(∀ l,l<i→tr l=tp l)∧tr i=u∧(∀ r,r≤d.rank i→hp r=hq r)∧(v.op.kind=2→hp (d.rank i+1)=σ')∧Know S d lv env K ia k tr hp:=by
    intro ia u σ' bI iJ h jm iK ib l_;let f_:Nat→Value:=fun l=>if l=i then u else tp l
    let cU:Nat→Heap:=fun r=>if v.op.kind=2∧r=d.rank i+1 then σ' else hq r
    have et:∀ l,l<i→f_ l=tp l:=fun l hl=>by simp[f_];intro e;omega
    have ei:f_ i=u:=by simp[f_]
    have eh:∀ r,r≤d.rank i→cU r=hq r:=fun r hr=>by simp only[cU];rw[if_neg (by omega)]
    have oX:v.op.kind=2→cU (d.rank i+1)=σ':=fun aq=>by simp[cU,aq]
    have e1:EL lv env f_ (fun _=>true) (i+1)=X3 (EL lv env tp (fun _=>true) i) v.dst u:=by simp only[EL,if_true];rw[Kq lv env (tr:=f_) (tr':=tp) i et (fun _ _=>rfl),hv,ei];rfl
    have e2:(List.range (d.rank (i+1)+1)).map cU=if v.op.kind=2 then (List.range (d.rank i+1)).map hq++[σ'] else (List.range (d.rank i+1)).map hq:=by
     simp only[DInfo.rank,hk];split
     ·rename_i aq;rw[List.range_succ,List.map_append];congr 1
      ·exact List.map_congr_left fun r hr=>eh r (by have:=List.mem_range.1 hr;omega)
      ·simp[cU,aq]
     ·rename_i aq;exact List.map_congr_left fun r hr=>by simp[cU,aq]
    have e3:cU (d.rank (i+1))=if v.op.kind=2 then σ' else hq (d.rank i):=by simp only[DInfo.rank,hk];split<;>rename_i aq<;>simp[cU,aq]
    have r8:∀ l,l<i+1→l∉ia→DFact S d lv env f_ cU (d.rank (i+1)) l:=fun l hl eB=>by
     by_cases gF:l=i
     ·subst gF;exact l_ eB f_ cU et ei eh oX
     ·have gF:l<i:=by omega
      refine (hF l gF fun h=>eB (iJ l h)).congr (fun k hk=>et k (by omega)) eh (dK l gF).1 (dK l gF).2 fun w cN ka aV r r1 r2 r3=>?_;by_cases aq:v.op.kind=2
      ·rw[eX aq] at r2;obtain rfl:r=d.rank i+1:=by omega
       rw[oX aq];exact Hz (LH (jm aq) _ (hP l gF w cN ka aV (by omega)) (by simpa using r3))
      ·rw[jc aq] at r2;omega
    have r9:Q6a d lv env f_ (i+1) bI:=fun l hl w cN ka aV nL=>by
     by_cases gF:l=i
     ·subst gF;rw[hv] at cN;obtain rfl:=osj cN;have e:=Kq lv env (tr:=f_) (tr':=tp) (A:=fun _=>true) (B:=fun _=>true) l et (fun _ _=>rfl);rw[e] at ka ⊢;rw[hw] at ka;obtain rfl:b=true:=by simpa using ka
      rw[ei];exact ib rfl aV (by rw[jc (by omega)] at nL;exact nL)
     ·have gF:l<i:=by omega
      have e:=Kq lv env (tr:=f_) (tr':=tp) (A:=fun _=>true) (B:=fun _=>true) l (fun k hk=>et k (by omega)) (fun _ _=>rfl);rw[e] at ka ⊢;rw[et l gF];have hle:d.rank i≤d.rank (i+1):=by simp only[DInfo.rank];split<;>omega
      exact iK _ (hP l gF w cN ka aV (by omega))
    obtain⟨k,tr,hp,k0,k1,k2,k3⟩:=ih (i+1) (by omega) dp ia f_ cU bI r8 r9 (by rw[e1,e2,e3];exact h);have hle:d.rank i≤d.rank (i+1):=by simp only[DInfo.rank];split<;>omega
    exact⟨k,tr,hp,by omega,fun l hl=>by rw[k1 l (by omega),et l hl],by rw[k1 i (by omega),ei],fun r hr=>by rw[k2 r (by omega),eh r hr],fun aq=>by rw[k2 _ (by rw[eX aq];exact Nat.le_refl _),oX aq],k3⟩
   have weak:∀ {ia:List Nat}{u:Value}{σ':Heap},(∃ k tr hp,i<k∧(∀ l,l<i→tr l=tp l)∧tr i=u∧(∀ r,r≤d.rank i→hp r=hq r)∧(v.op.kind=2→hp (d.rank i+1)=σ')∧Know S d lv env K ia k tr hp)→∃ k tr hp,i≤k∧(∀ l,l<i→tr l=tp l)∧(∀ r,r≤d.rank i→hp r=hq r)∧Know S d lv env K ia k tr hp:=by rintro ia u σ' ⟨k,tr,hp,h0,h1,_,h2,_,h3⟩;exact⟨k,tr,hp,by omega,h1,h2,h3⟩
   have fact:∀ {u:Value}{σ':Heap},(b=true→v.op.kind=1→∀ r,d.kmin i≤r→r≤d.rank i→JY v.op (Q2 (EL lv env tp (fun _=>true) i)) u (hq r))→(b=true→v.op.kind≠1→v.op.kind≠2→∃ aJ,Q4 v.op (Q2 (EL lv env tp (fun _=>true) i)) (hq (d.rank i))=some (u,aJ))→(b=false→u=undef∧(v.op.kind=2→σ'=hq (d.rank i)))→(b=true→v.op.kind=2→vop S v.op (EL lv env tp (fun _=>true) i) (hq (d.rank i)) (fun v' aJ=>v'=u∧aJ=σ')) →
     ∀ tr hp,(∀ l,l<i→tr l=tp l)→tr i=u→(∀ r,r≤d.rank i→hp r=hq r)→(v.op.kind=2→hp (d.rank i+1)=σ')→DFact S d lv env tr hp (d.rank (i+1)) i:=by
    intro u σ' g1 g2 g3 k5 tr hp k1 k2 k3 k4 v' fD;rw[hv] at fD;obtain rfl:=osj fD;have e:=Kq lv env (tr:=tr) (tr':=tp) (A:=fun _=>true) (B:=fun _=>true) i k1 (fun _ _=>rfl);rw[e,k2,k3 _ (Nat.le_refl _)];refine⟨b,hw,fun hb aq=>by rw[k4 aq];exact k5 hb aq,fun hb aV r r1 r2 r3=>?_,g2,fun hb=>⟨(g3 hb).1,fun aq=>by rw[k4 aq];exact(g3 hb).2 aq⟩⟩;rw[jc (by omega)] at r3;rw[k3 r r3];exact Hz (g1 hb aV r r1 r3)
   cases b with
   |false =>
    have hf:=hf rfl;by_cases aq:v.op.kind=2
    ·rw[if_pos aq] at hf;obtain⟨gy,hf⟩:=hf;exact weak (go nd undef (hq (d.rank i)) pend (fun _ h=>h) (by rw[if_pos aq,ite_self];exact hf) (fun _=>by rw[hlen] at gy;exact gy) (fun _ h=>h) (fun h=>by cases h) (fun _=>fact (fun h=>by cases h) (fun h=>by cases h) (fun _=>⟨rfl,fun _=>rfl⟩) (fun h=>by cases h)))
    ·rw[if_neg aq] at hf;exact weak (go nd undef (hq (d.rank i)) pend (fun _ h=>h) (by rw[if_neg aq,ite_self];exact hf) (fun h=>absurd h aq) (fun _ h=>h) (fun h=>by cases h) (fun _=>fact (fun h=>by cases h) (fun h=>by cases h) (fun _=>⟨rfl,fun _=>rfl⟩) (fun h=>by cases h)))
   |true =>
    have ht:=ht rfl;by_cases aq:v.op.kind=2
    ·rw[if_pos aq] at ht;rw[hlen] at ht;rcases ht with⟨u,σ',h1,h2,h3⟩|⟨fT,fq⟩
     ·exact weak (go nd u σ' pend (fun _ h=>h) (by rw[if_pos aq,if_pos aq];exact h3) (fun _=>h2) (fun _ h=>h) (fun _ hk=>by omega) (fun _=>fact (fun _ hk=>by omega) (fun _ _ hk=>absurd aq hk) (fun h=>by cases h) (fun _ _=>h1)))
     ·have nx:∀ u σ',(JV (d.rank i+1) σ' pend∧Zy S (d.opers rest (i+1)) (X3 (EL lv env tp (fun _=>true) i) v.dst u) ((List.range (d.rank i+1)).map hq++[σ']) σ' pend K) →
        ∃ k tr hp,i<k∧(∀ l,l<i→tr l=tp l)∧tr i=u∧(∀ r,r≤d.rank i→hp r=hq r)∧(v.op.kind=2→hp (d.rank i+1)=σ')∧Know S d lv env K (i::nd) k tr hp:=fun u σ' ⟨h2,h3⟩ =>
       go (i::nd) u σ' pend (fun _ h=>List.mem_cons_of_mem _ h) (by rw[if_pos aq,if_pos aq];exact h3) (fun _=>h2) (fun _ h=>h) (fun _ hk=>by omega) (fun h=>absurd List.mem_cons_self h)
      refine⟨i,tp,hq,Nat.le_refl _,fun _ _=>rfl,fun _ _=>rfl,.part hv aq hw hF (fun j hj aX=>?_) _ fq (fun u σ' h=>(nx u σ' h).choose) (fun u σ' h=>(nx u σ' h).choose_spec.choose) (fun u σ' h=>(nx u σ' h).choose_spec.choose_spec.choose) (fun u σ' h=>?_) (fun u σ' h=>?_)⟩
      ·obtain⟨n,hn⟩:∃ n,j=i+1+n:=⟨j-(i+1),by omega⟩;subst hn;have r_:∀ k w,lv[i+1+k]?=some w→rest[k]?=some w:=fun k w cN=>by
        rw[←dp,List.getElem?_drop];exact cN
       have oY:∀ k w,rest[k]?=some w→lv[i+1+k]?=some w:=fun k w cN=>by rw[←dp,List.getElem?_drop] at cN;exact cN
       have nN:=List.getElem?_eq_getElem aX;rcases Ri d rest (i+1) _ fT n _ (r_ n _ nN) with nO|⟨x,hx,iL⟩|⟨e,u,x,he,hu,hd,iL⟩
       ·exact⟨i,v,Nat.le_refl _,by omega,hv,.inr ⟨aq,fun w cN=>by rw[nN] at cN;obtain rfl:=osj cN;exact nO⟩⟩
       ·exact⟨i,v,Nat.le_refl _,by omega,hv,.inl ⟨x,by simpa using hx,fun w cN=>by rw[nN] at cN;obtain rfl:=osj cN;exact iL⟩⟩
       ·exact⟨i+1+e,u,by omega,by omega,oY e u hu,.inl ⟨x,hd,fun w cN=>by rw[nN] at cN;obtain rfl:=osj cN;exact iL⟩⟩
      ·obtain⟨q1,q2,q3,q4,q5,_⟩:=(nx u σ' h).choose_spec.choose_spec.choose_spec;exact⟨q1,q2,q3,q4,q5 aq⟩
      ·exact(nx u σ' h).choose_spec.choose_spec.choose_spec.2.2.2.2.2
    ·rw[if_neg aq] at ht;by_cases aV:v.op.kind=1
     ·rw[if_pos aV] at ht;cases dk:Q4 v.op (Q2 (EL lv env tp (fun _=>true) i)) (hq (d.rank i)) with
      |none=>rw[dk] at ht;exact ht.elim
      |some p =>
       rw[dk] at ht;obtain⟨g1,g2⟩:=ht;refine weak (go nd p.1 (hq (d.rank i)) _ (fun _ h=>h) (by rw[if_neg aq,ite_self];exact g2) (fun h=>absurd h aq) (fun c hc=>?_) (fun _ _ hr=>?_) (fun _=>fact (fun _ _ r sd sg=>?_) (fun _ hk=>absurd aV hk) (fun h=>by cases h) (fun _ hk=>absurd hk aq)))
       ·split
        ·exact List.mem_cons_of_mem _ hc
        ·exact hc
       ·rw[if_pos (by rw[hlen];exact hr)];simp
       ·refine g1 _ ?_;rw[List.mem_iff_getElem?];refine⟨r-d.kmin i,?_⟩;rw[List.getElem?_drop,List.getElem?_map,List.getElem?_range (by omega)];simp;congr 1;omega
     ·rw[if_neg aV] at ht;cases dk:Q4 v.op (Q2 (EL lv env tp (fun _=>true) i)) (hq (d.rank i)) with
      |none=>rw[dk] at ht;exact ht.elim
      |some p =>rw[dk] at ht;exact weak (go nd p.1 (hq (d.rank i)) pend (fun _ h=>h) (by rw[if_neg aq,ite_self];exact ht) (fun h=>absurd h aq) (fun _ h=>h) (fun _ hk=>absurd hk aV) (fun _=>fact (fun _ hk=>absurd hk aV) (fun _ _ _=>⟨p.2,dk⟩) (fun h=>by cases h) (fun _ hk=>absurd hk aq)))
structure DOk (d:DInfo) (n:Nat):Prop where
 edge:∀ j,j<n→∀ e∈d.ed.getD j [],e<j
 path:∀ j,j<n→∀ i,i<j→d.lt i j=true→∃ e∈d.ed.getD j [],e=i∨(i<e∧d.lt i e=true)
 free:∀ j,j<n→∀ i,i<j→d.lt i j=false→d.touch i j=false∧¬(d.k i=2∧d.k j=2)
 kmin:∀ j,j<n→d.k j=1→(d.kmin j≤d.rank j∧d.rank j≤d.kmax j)∧d.kmax j≤d.rank n∧∀ l,l<n→d.k l=2→((d.lt l j=true↔d.rank l<d.kmin j)∧(d.lt j l=true↔d.kmax j≤d.rank l))
theorem DOk.of {d:DInfo}(h:d.ok=true):DOk d d.ks.length:=by
 have h0:∀ j,j<d.ks.length→d.okE j=true∧d.okP j=true∧d.okK j=true:=fun j hj=>by have:=List.all_eq_true.1 h j (List.mem_range.2 hj);simpa [Bool.and_eq_true] using this
 refine⟨fun j hj e he=>?_,fun j hj i hi ah=>?_,fun j hj i hi ah=>?_,fun j hj hk=>?_⟩
 ·have:=List.all_eq_true.1 (h0 j hj).1 e he;simpa using this
 ·have:=List.all_eq_true.1 (h0 j hj).2.1 i (List.mem_range.2 hi);simp only[ah,if_true,List.any_eq_true,Bool.or_eq_true,Bool.and_eq_true,decide_eq_true_eq,beq_iff_eq] at this;exact this
 ·have:=List.all_eq_true.1 (h0 j hj).2.1 i (List.mem_range.2 hi);simp[ah] at this;exact⟨this.1,fun hk=>this.2.elim (fun h=>h hk.1) (fun h=>h hk.2)⟩
 ·have:=(h0 j hj).2.2;simp only[DInfo.okK,hk,BEq.rfl,Bool.not_true,Bool.false_or,Bool.and_eq_true,decide_eq_true_eq] at this;refine⟨this.1,this.2.1,fun l hl aq=>?_⟩;have h1:=List.all_eq_true.1 this.2.2 l (List.mem_range.2 hl);simp only[aq,BEq.rfl,Bool.not_true,Bool.false_or,Bool.and_eq_true,beq_iff_eq] at h1;rw[h1.1,h1.2];simp
theorem Mt (d:DInfo) {i j:Nat}(h:i<j) (hk:d.k i=2):d.rank i<d.rank j:=by have:=C7 d (show i+1≤j from h);simp only[DInfo.rank,hk,if_true] at this;omega
theorem VP (d:DInfo):∀ j r,r<d.rank j→∃ l,l<j∧d.k l=2∧d.rank l=r
 |0,r,h=>by simp[DInfo.rank] at h
 |j+1,r,h=>by
  simp only[DInfo.rank] at h;split at h
  ·rename_i hk;rcases Nat.lt_or_ge r (d.rank j) with h'|h'
   ·obtain⟨l,h1,h2⟩:=VP d j r h';exact⟨l,by omega,h2⟩
   ·exact⟨j,by omega,hk,by omega⟩
  ·obtain⟨l,h1,h2⟩:=VP d j r h;exact⟨l,by omega,h2⟩
theorem N5 {d:DInfo}{n:Nat}(hd:DOk d n) {A:Nat→Bool}(hc:∀ j,j<n→A j=true→∀ e∈d.ed.getD j [],A e=true):∀ j,j<n→A j=true→∀ i,i<j→d.lt i j=true→A i=true:=by
 intro j;induction j using Nat.strongRecOn with
 |ind j ih =>
  intro hj hA i hi ah;obtain⟨e,he,h⟩:=hd.path j hj i hi ah;have ma:=hd.edge j hj e he;have fM:=hc j hj hA e he;rcases h with rfl|⟨h1,h2⟩
  ·exact fM
  ·exact ih e ma (by omega) fM i h1 h2
def cnt (A:Nat→Bool):Nat→Nat
 |0=>0
 |i+1=>cnt A i+if A i then 0 else 1
theorem AA {A:Nat→Bool}:∀ {n},cnt A n=0→∀ i,i<n→A i=true
 |0,_,i,h=>by omega
 |n+1,hc,i,h=>by
  simp only[cnt] at hc;by_cases hi:i=n
  ·subst hi;split at hc
   ·assumption
   ·omega
  ·exact AA (n:=n) (by omega) i (by omega)
theorem Iq {A B:Nat→Bool}{j:Nat}(hA:A j=false) (hB:B j=true) (h:∀ i,i≠j→A i=B i):∀ n,j<n→cnt A n=cnt B n+1
 |0,hj=>by omega
 |n+1,hj=>by
  simp only[cnt];by_cases aX:j=n
  ·subst aX;have:cnt A j=cnt B j:=by
    have key:∀ m,m≤j→cnt A m=cnt B m:=by
     intro m;induction m with
     |zero=>intro _;rfl
     |succ m ih=>intro hm;simp only[cnt];rw[ih (by omega),h m (by omega)]
    exact key j (Nat.le_refl _)
   simp[hA,hB,this]
  ·have:=Iq hA hB h n (by omega);rw[h n (by omega)];omega
theorem Q20 (o:VOp):o.kind≤2:=by
 unfold VOp.kind;split<;>try omega
 split<;>omega
theorem Q28 {o:VOp}{env:Env}{σ:Heap}{p:Value×Heap}{K:Value→Heap→Prop}(hk:o.kind≠2) (h:Q4 o (Q2 env) σ=some p) (hK:K p.1 p.2):vop S o env σ K:=by
 cases o
 case callF=>exact absurd rfl hk
 case callV=>exact absurd rfl hk
 case ext x =>
  cases x
  case nextMap=>exact absurd rfl hk
  all_goals (simp only[vop];rw[h];exact hK)
 all_goals (simp only[vop];rw[h];exact hK)
theorem GS {o:VOp}{ev:Operand→Value}{σ σ':Heap}{v:Value}(hk:o.kind≠2) (h:Q4 o ev σ=some (v,σ')):σ'=σ:=by have:=PT hk h (Heap.Le.refl σ);rw[h] at this;simp at this;exact this
theorem TZ {env ae:Env}{g:Option (Nat×Bool)}(h:∀ x b,g=some (x,b)→env[x]?=ae[x]?):J2 env g=J2 ae g:=by
 cases g with
 |none=>rfl
 |some p =>obtain⟨x,b⟩:=p;simp only[J2,List.getD_eq_getElem?_getD];rw[h x b rfl]
theorem Rx {env ae:Env}{x:Operand}(h:∀ t,x=.tmp t→env[t]?=ae[t]?):Q2 env x=Q2 ae x:=by
 cases x<;>try rfl
 rename_i t;simp only[Q2,List.getD_eq_getElem?_getD];rw[h t rfl]
structure DInv (B:Nat) (d:DInfo) (lv:List VOper) (env:Env) (tr:Nat→Value) (hp:Nat→Heap) (ρ0:Plc) (σ0:Heap) (w0:World) (A:Nat→Bool) (a:Act) (w:World):Prop where
 closed:∀ j,j<lv.length→A j=true→∀ e∈d.ed.getD j [],A e=true
 run:∃ m ρ,(∀ l,l<lv.length→d.k l=2→(A l=true↔d.rank l<m))∧m≤d.rank lv.length∧HRel ρ (hp m) w∧LRel ρ (hp m).n (EL lv env tr A lv.length) a.tmps.toList∧Mks B a.defers w∧Ext ρ0 σ0 w0 ρ (hp m) w
structure DLink (P:Program) (ops:Array Oper) (pm:List Nat) (d:DInfo) (lv:List VOper):Prop where
 comp:∀ (p:Nat) (v:VOper),lv[p]?=some v→∃ o,ops[pm.getD p 0]?=some o∧J7 P ops o=some v∧d.k p=v.op.kind
 touch:∀ (i j:Nat) (u v:VOper),lv[i]?=some u→lv[j]?=some v→d.touch i j=false→(∀ x,u.dst=some x→x∉KK v)∧(∀ x,v.dst=some x→x∉KK u)
 size:pm.length=lv.length
theorem DLink.of {ops:Array Oper}{vs:List VOper}(h:ops.toList.mapM (J7 P ops)=some vs) {d0:DInfo}{pm:List Nat}(iY:∀ i∈pm,i<vs.length):DLink P ops pm (C_ d0 vs pm) (Vi vs pm):=by
 obtain⟨h1,h2⟩:=XN _ _ _ h;refine⟨fun p v hv=>?_,fun i j u v hu hv ht=>?_,by simp[Vi]⟩
 ·simp only[Vi,List.getElem?_map,Option.map_eq_some_iff] at hv;obtain⟨i,hi,rfl⟩:=hv;have aK:=iY i (List.mem_of_getElem? hi);have sh:i<ops.toList.length:=by omega
  obtain⟨v,hv,hc⟩:=h2 i _ (List.getElem?_eq_getElem sh);have hg:vs.getD i default=v:=by simp[List.getD_eq_getElem?_getD,hv]
  have hp:pm.getD p 0=i:=by simp[List.getD_eq_getElem?_getD,hi]
  refine⟨ops.toList[i],?_,by rw[hg];exact hc,?_⟩
  ·rw[hp];simp
  ·simp[DInfo.k,C_,Vi,List.getD_eq_getElem?_getD,hi]
 ·simp only[DInfo.touch,C_,Q12,List.getD_eq_getElem?_getD,List.getElem?_map,hu,hv,Option.map_some,Option.getD_some,Bool.or_eq_false_iff] at ht;refine⟨fun x hx hm=>?_,fun x hx hm=>?_⟩
  ·have:=ht.1;rw[hx] at this;simp at this;exact this hm
  ·have:=ht.2;rw[hx] at this;simp at this;exact this hm
theorem AE {v:VOper}{x:Nat}(h:v.dst=some x):x∈KK v:=by simp[KK,h]
theorem AI {v:VOper}{x:Nat}(h:Operand.tmp x∈v.op.opds):x∈KK v:=by refine List.mem_append_left _ (List.mem_append_right _ ?_);exact List.mem_filterMap.2 ⟨_,h,rfl⟩
theorem Rs {v:VOper}{x:Nat}{b:Bool}(h:v.guard=some (x,b)):x∈KK v:=by refine List.mem_append_right _ ?_;simp[h]
theorem Hu (hS:OkSpecs P S) {ro:Option Nat}{n:Nat}{ops:Array Oper}{pm:List Nat}{d:DInfo}{lv:List VOper}(hl:DLink P ops pm d lv) (hd:DOk d lv.length) {env:Env}{tr:Nat→Value}{hp:Nat→Heap}
  {bd j:Nat}(hF:DFact S d lv env tr hp bd j)
  {Q:Exit→Act→World→Prop}{ρ0:Plc}{σ0:Heap}{w0:World}{A:Nat→Bool}{a:Act}{w:World}(qB:∀ m,(∀ l,l<lv.length→d.k l=2→(A l=true↔d.rank l<m))→m≤d.rank lv.length→m≤bd) (hI:DInv B d lv env tr hp ρ0 σ0 w0 A a w)
  (aX:j<lv.length) (dq:A j=false) (dt:∀ e∈d.ed.getD j [],A e=true) {A':Nat→Bool}(aY:∀ i,A' i=if i=j then true else A i) {K:Act→World→Prop}(hK:∀ a' w',DInv B d lv env tr hp ρ0 σ0 w0 A' a' w'→K a' w'):wpOpIn (FF ro) n P ops Q (pm.getD j 0) K a w:=by
 obtain⟨v,hv⟩:∃ v,lv[j]?=some v:=⟨_,List.getElem?_eq_getElem aX⟩;obtain⟨o,ho,hc,hk⟩:=hl.comp j v hv;obtain⟨bC,m,ρ,hm,lh,hH,hL,cO,hE⟩:=hI;have cX:∀ i,i<j→d.lt i j=true→A i=true:=by
  intro i hi ah;obtain⟨e,he,h⟩:=hd.path j aX i hi ah;have ma:=hd.edge j aX e he;have fM:A e=true:=dt e he;rcases h with rfl|⟨h1,h2⟩
  ·exact fM
  ·exact N5 hd bC e (by omega) fM i h1 h2
 have dN:∀ i,i<lv.length→j<i→d.lt j i=true→A i=false:=by
  intro i hi aI ah;cases hA:A i with
  |false=>rfl
  |true=>rw[N5 hd bC i hi hA j aI ah] at dq;cases dq
 have eJ:∀ x,x∈KK v→(EL lv env tr A lv.length)[x]?=(EL lv env tr (fun _=>true) j)[x]?:=by
  intro x hx;rw[←Ga lv env tr j lv.length (by omega)];refine MF lv env tr x lv.length fun l aR bq=>?_;cases bS:lv[l]? with
  |none=>rw[bS] at bq;cases bq
  |some u =>
   rw[bS] at bq;rcases Nat.lt_trichotomy l j with h|h|h
   ·have ah:d.lt l j=true:=by
     cases ah:d.lt l j with
     |true=>rfl
     |false=>exact absurd hx ((hl.touch l j u v bS hv (hd.free j aX l h ah).1).1 x bq)
    simp only[h,decide_true];exact cX l h ah
   ·subst h;simp only[Nat.lt_irrefl,decide_false];exact dq
   ·have ah:d.lt j l=true:=by
     cases ah:d.lt j l with
     |true=>rfl
     |false=>exact absurd hx ((hl.touch j l v u hv bS (hd.free l aR j h ah).1).2 x bq)
    have:¬ l<j:=by omega
    simp only[this,decide_false];exact dN l aR h ah
 obtain⟨b,f1,f2,f3,sj,f4⟩:=hF v hv;have hw:J2 (EL lv env tr A lv.length) v.guard=some b:=by rw[TZ (fun x b' hg=>eJ x (Rs hg))];exact f1
 have iM:∀ x∈v.op.opds,Q2 (EL lv env tr A lv.length) x=Q2 (EL lv env tr (fun _=>true) j) x:=fun x hx=>Rx fun t ht=>eJ t (AI (ht▸hx));obtain⟨cW,bq,bt⟩:=D3 hc hL hw;have cP:EL lv env tr A' lv.length=X3 (EL lv env tr A lv.length) v.dst (tr j):=by
  apply List.ext_getElem?;intro x;by_cases hx:v.dst=some x
  ·have h1:(EL lv env tr A' lv.length)[x]?=(EL lv env tr (fun l=>decide (l<j+1)) lv.length)[x]?:=by
    refine MF lv env tr x lv.length fun l aR bb=>?_;rw[aY];by_cases gG:l=j
    ·subst gG;simp
    ·rw[if_neg gG];cases bS:lv[l]? with
     |none=>rw[bS] at bb;cases bb
     |some u =>
      rw[bS] at bb;have iN:=AE hx;rcases Nat.lt_or_ge l j with h|h
      ·have ah:d.lt l j=true:=by
        cases ah:d.lt l j with
        |true=>rfl
        |false=>exact absurd iN ((hl.touch l j u v bS hv (hd.free j aX l h ah).1).1 x bb)
       have:l<j+1:=by omega
       simp only[this,decide_true];exact cX l h ah
      ·have h':j<l:=by omega
       have ah:d.lt j l=true:=by
        cases ah:d.lt j l with
        |true=>rfl
        |false=>exact absurd iN ((hl.touch j l v u hv bS (hd.free l aR j h' ah).1).2 x bb)
       have:¬ l<j+1:=by omega
       simp only[this,decide_false];exact dN l aR h' ah
   rw[h1,Ga lv env tr (j+1) lv.length (by omega)];simp only[EL,if_true,hv,Option.bind_some,hx,X3];rw[List.getElem?_set,List.getElem?_set];simp only[if_true,Ka]
  ·rw[YL _ _ _ hx];refine MF lv env tr x lv.length fun l aR bb=>?_;rw[aY];split
   ·rename_i h;subst h;rw[hv] at bb;exact absurd bb hx
   ·rfl
 have b9:∀ i,i<lv.length→A' i=true→∀ e∈d.ed.getD i [],A' e=true:=by
  intro i hi hA e he;rw[aY] at hA ⊢;split
  ·rfl
  ·by_cases bZ:i=j
   ·subst bZ;exact dt e he
   ·rw[if_neg bZ] at hA;exact bC i hi hA e he
 have jo:d.k j=2→d.rank j=m:=by
  intro aq;have h1:¬ d.rank j<m:=fun h=>by rw[(hm j aX aq).2 h] at dq;cases dq
  by_cases h2:d.rank j=m
  ·exact h2
  ·obtain⟨l,gG,aM,dK⟩:=VP d j m (by omega);have ah:d.lt l j=true:=by
    cases ah:d.lt l j with
    |true=>rfl
    |false=>exact absurd ⟨aM,aq⟩ (hd.free j aX l gG ah).2
   have:=(hm l (by omega) aM).1 (cX l gG ah);omega
 have gf:d.k j=2→∀ l,l<lv.length→d.k l=2→(A' l=true↔d.rank l<m+1):=by
  intro aq l aR aM;rw[aY];have ft:=jo aq;split
  ·rename_i h;subst h;simp;omega
  ·rename_i h;rw[hm l aR aM];have:d.rank l≠m:=by
    rcases Nat.lt_or_ge l j with h'|h'
    ·have:=Mt d h' aM;omega
    ·have:=Mt d (show j<l by omega) aq;omega
   omega
 have ic:d.k j≠2→∀ l,l<lv.length→d.k l=2→(A' l=true↔d.rank l<m):=by intro aq l aR aM;rw[aY,if_neg (by rintro rfl;exact aq aM)];exact hm l aR aM
 have iO:d.k j=2→m+1≤d.rank lv.length:=fun aq=>by have:=Mt d aX aq;have:=jo aq;omega
 unfold wpOpIn;simp only[ho];cases b with
 |false =>
  rw[cW,if_neg (by simp)];obtain⟨g1,g2⟩:=f4 rfl;refine⟨fun f _=>EY _ _,hK _ _ ⟨b9,?_⟩⟩;by_cases aq:d.k j=2
  ·have ft:=jo aq;have hh:hp (m+1)=hp m:=by rw[←ft];exact g2 (hk▸aq)
   refine⟨m+1,ρ,gf aq,iO aq,by rw[hh];exact hH,?_,by rw[X0];exact cO,by rw[hh];exact hE⟩;rw[hh,cP,g1,bq];exact Yx hL JE o.dst
  ·refine⟨m,ρ,ic aq,lh,hH,?_,by rw[X0];exact cO,hE⟩;rw[cP,g1,bq];exact Yx hL JE o.dst
 |true =>
  rw[cW,if_pos rfl];by_cases aq:d.k j=2
  ·have ft:=jo aq;have g1:=f2 rfl (hk▸aq);rw[ft] at g1;rw[←LF iM] at g1;refine Vn hS bt hH hL g1 fun c w' ⟨u,ρ',σ',⟨hu,hσ⟩,dH,fL,bK⟩=>hK _ _ ⟨b9,?_⟩;subst hu;subst hσ;refine⟨m+1,ρ',gf aq,iO aq,fL,?_,by rw[X0];exact cO.ext hH bK,hE.trans bK⟩;rw[cP,bq];exact Yx (bK.lrel hL) dH o.dst
  ·have g2:∃ σ1,Q4 v.op (Q2 (EL lv env tr A lv.length)) (hp m)=some (tr j,σ1):=by
    rw[Dz iM];by_cases aV:d.k j=1
    ·obtain⟨⟨k1,k4⟩,k3,k2⟩:=hd.kmin j aX aV;refine f3 rfl (hk▸aV) m ?_ ?_ (qB m hm lh)
     ·rcases Nat.lt_or_ge m (d.kmin j) with h|h
      ·obtain⟨l,aR,aM,dK⟩:=VP d j m (by omega);have ah:=(k2 l (by omega) aM).1.2 (by omega);have:=(hm l (by omega) aM).1 (cX l aR ah);omega
      ·exact h
     ·rcases Nat.lt_or_ge (d.kmax j) m with h|h
      ·obtain⟨l,aR,aM,dK⟩:=VP d lv.length (d.kmax j) (by omega);have ah:=(k2 l aR aM).2.2 (by omega);have jq:=(hm l aR aM).2 (by omega);rcases Nat.lt_trichotomy j l with h'|h'|h'
       ·rw[dN l aR h' ah] at jq;cases jq
       ·subst h';omega
       ·exfalso;have eX:d.rank l<d.rank j:=Mt d h' aM;omega
      ·exact h
    ·have fZ:v.op.kind=0:=by
      have h2:v.op.kind≤2:=Q20 v.op;omega
     obtain⟨σ1,g1⟩:=sj rfl (by omega) (by omega);exact⟨hp m,Pf fZ g1⟩
   obtain⟨σ1,g2⟩:=g2;have hq:=GS (hk▸aq) g2;subst hq;refine Vn hS (K:=fun v' σ'=>v'=tr j∧σ'=hp m) bt hH hL (Q28 (hk▸aq) g2 ⟨rfl,rfl⟩) fun c w' ⟨u,ρ',σ',⟨hu,hσ⟩,dH,fL,bK⟩=>hK _ _ ⟨b9,?_⟩;subst hu;subst hσ;refine⟨m,ρ',ic aq,lh,fL,?_,by rw[X0];exact cO.ext hH bK,hE.trans bK⟩;rw[cP,bq];exact Yx (bK.lrel hL) dH o.dst
theorem CA (hS:OkSpecs P S) {ro:Option Nat}{n:Nat}{ops:Array Oper}{pm:List Nat}{d:DInfo}{lv:List VOper}(hl:DLink P ops pm d lv) (hd:DOk d lv.length) {env:Env}{tr:Nat→Value}{hp:Nat→Heap}
  {j:Nat}{v:VOper}(hv:lv[j]?=some v) (oZ:v.op.kind=2) (sk:J2 (EL lv env tr (fun _=>true) j) v.guard=some true) {R:Value→Heap→Prop}(fq:vop S v.op (EL lv env tr (fun _=>true) j) (hp (d.rank j)) R)
  {Q:Exit→Act→World→Prop}{ρ0:Plc}{σ0:Heap}{w0:World}{A:Nat→Bool}{a:Act}{w:World}(hI:DInv B d lv env tr hp ρ0 σ0 w0 A a w) (mb:∀ l,j≤l→l<lv.length→A l=false)
  (aX:j<lv.length) (dq:A j=false) (dt:∀ e∈d.ed.getD j [],A e=true) {A':Nat→Bool}(aY:∀ i,A' i=if i=j then true else A i) {K:Act→World→Prop}
  (hK:∀ u σ' a' w',R u σ'→(∀ tr' bp,(∀ l,l<j→tr' l=tr l)→tr' j=u→(∀ r,r≤d.rank j→bp r=hp r)→bp (d.rank j+1)=σ'→DInv B d lv env tr' bp ρ0 σ0 w0 A' a' w')→K a' w'):wpOpIn (FF ro) n P ops Q (pm.getD j 0) K a w:=by
 obtain⟨o,ho,hc,hk⟩:=hl.comp j v hv;obtain⟨bC,m,ρ,hm,lh,hH,hL,cO,hE⟩:=hI;have cX:∀ i,i<j→d.lt i j=true→A i=true:=by
  intro i hi ah;obtain⟨e,he,h⟩:=hd.path j aX i hi ah;have ma:=hd.edge j aX e he;have fM:A e=true:=dt e he;rcases h with rfl|⟨h1,h2⟩
  ·exact fM
  ·exact N5 hd bC e (by omega) fM i h1 h2
 have dN:∀ i,i<lv.length→j<i→d.lt j i=true→A i=false:=by
  intro i hi aI ah;cases hA:A i with
  |false=>rfl
  |true=>rw[N5 hd bC i hi hA j aI ah] at dq;cases dq
 have eJ:∀ x,x∈KK v→(EL lv env tr A lv.length)[x]?=(EL lv env tr (fun _=>true) j)[x]?:=by
  intro x hx;rw[←Ga lv env tr j lv.length (by omega)];refine MF lv env tr x lv.length fun l aR bq=>?_;cases bS:lv[l]? with
  |none=>rw[bS] at bq;cases bq
  |some u =>
   rw[bS] at bq;rcases Nat.lt_trichotomy l j with h|h|h
   ·have ah:d.lt l j=true:=by
     cases ah:d.lt l j with
     |true=>rfl
     |false=>exact absurd hx ((hl.touch l j u v bS hv (hd.free j aX l h ah).1).1 x bq)
    simp only[h,decide_true];exact cX l h ah
   ·subst h;simp only[Nat.lt_irrefl,decide_false];exact dq
   ·have ah:d.lt j l=true:=by
     cases ah:d.lt j l with
     |true=>rfl
     |false=>exact absurd hx ((hl.touch j l v u hv bS (hd.free l aR j h ah).1).2 x bq)
    have:¬ l<j:=by omega
    simp only[this,decide_false];exact dN l aR h ah
 have hw:J2 (EL lv env tr A lv.length) v.guard=some true:=by rw[TZ (fun x b' hg=>eJ x (Rs hg))];exact sk
 have iM:∀ x∈v.op.opds,Q2 (EL lv env tr A lv.length) x=Q2 (EL lv env tr (fun _=>true) j) x:=fun x hx=>Rx fun t ht=>eJ t (AI (ht▸hx));obtain⟨cW,bq,bt⟩:=D3 hc hL hw;have cP:∀ tr:Nat→Value,EL lv env tr A' lv.length=X3 (EL lv env tr A lv.length) v.dst (tr j):=fun tr=>by
  apply List.ext_getElem?;intro x;by_cases hx:v.dst=some x
  ·have h1:(EL lv env tr A' lv.length)[x]?=(EL lv env tr (fun l=>decide (l<j+1)) lv.length)[x]?:=by
    refine MF lv env tr x lv.length fun l aR bb=>?_;rw[aY];by_cases gG:l=j
    ·subst gG;simp
    ·rw[if_neg gG];cases bS:lv[l]? with
     |none=>rw[bS] at bb;cases bb
     |some u =>
      rw[bS] at bb;have iN:=AE hx;rcases Nat.lt_or_ge l j with h|h
      ·have ah:d.lt l j=true:=by
        cases ah:d.lt l j with
        |true=>rfl
        |false=>exact absurd iN ((hl.touch l j u v bS hv (hd.free j aX l h ah).1).1 x bb)
       have:l<j+1:=by omega
       simp only[this,decide_true];exact cX l h ah
      ·have h':j<l:=by omega
       have ah:d.lt j l=true:=by
        cases ah:d.lt j l with
        |true=>rfl
        |false=>exact absurd iN ((hl.touch j l v u hv bS (hd.free l aR j h' ah).1).2 x bb)
       have:¬ l<j+1:=by omega
       simp only[this,decide_false];exact dN l aR h' ah
   rw[h1,Ga lv env tr (j+1) lv.length (by omega)];simp only[EL,if_true,hv,Option.bind_some,hx,X3];rw[List.getElem?_set,List.getElem?_set];simp only[if_true,Ka]
  ·rw[YL _ _ _ hx];refine MF lv env tr x lv.length fun l aR bb=>?_;rw[aY];split
   ·rename_i h;subst h;rw[hv] at bb;exact absurd bb hx
   ·rfl
 have b9:∀ i,i<lv.length→A' i=true→∀ e∈d.ed.getD i [],A' e=true:=by
  intro i hi hA e he;rw[aY] at hA ⊢;split
  ·rfl
  ·by_cases bZ:i=j
   ·subst bZ;exact dt e he
   ·rw[if_neg bZ] at hA;exact bC i hi hA e he
 have jo:d.k j=2→d.rank j=m:=by
  intro aq;have h1:¬ d.rank j<m:=fun h=>by rw[(hm j aX aq).2 h] at dq;cases dq
  by_cases h2:d.rank j=m
  ·exact h2
  ·obtain⟨l,gG,aM,dK⟩:=VP d j m (by omega);have ah:d.lt l j=true:=by
    cases ah:d.lt l j with
    |true=>rfl
    |false=>exact absurd ⟨aM,aq⟩ (hd.free j aX l gG ah).2
   have:=(hm l (by omega) aM).1 (cX l gG ah);omega
 have gf:d.k j=2→∀ l,l<lv.length→d.k l=2→(A' l=true↔d.rank l<m+1):=by
  intro aq l aR aM;rw[aY];have ft:=jo aq;split
  ·rename_i h;subst h;simp;omega
  ·rename_i h;rw[hm l aR aM];have:d.rank l≠m:=by
    rcases Nat.lt_or_ge l j with h'|h'
    ·have:=Mt d h' aM;omega
    ·have:=Mt d (show j<l by omega) aq;omega
   omega
 have ic:d.k j≠2→∀ l,l<lv.length→d.k l=2→(A' l=true↔d.rank l<m):=by intro aq l aR aM;rw[aY,if_neg (by rintro rfl;exact aq aM)];exact hm l aR aM
 have iO:d.k j=2→m+1≤d.rank lv.length:=fun aq=>by have:=Mt d aX aq;have:=jo aq;omega
 unfold wpOpIn;simp only[ho];rw[cW,if_pos rfl];have aq:d.k j=2:=hk.trans oZ;have ft:=jo aq;rw[ft,←LF iM] at fq;refine Vn hS bt hH hL fq fun c w' ⟨u,ρ',σ',hR,dH,fL,bK⟩=>hK u σ' _ _ hR fun tr' bp t1 t2 t3 t4=>⟨b9,m+1,ρ',gf aq,iO aq,?_,?_,?_,?_⟩
 ·rw[←ft,t4];exact fL
 ·have e0:EL lv env tr' A lv.length=EL lv env tr A lv.length:=Q47 lv env lv.length fun l aR hA=>t1 l (by
   rcases Nat.lt_or_ge l j with h|h
   ·exact h
   ·rw[mb l h aR] at hA;cases hA)
  rw[←ft,t4,cP tr',e0,bq,t2];exact Yx (bK.lrel hL) dH o.dst
 ·rw[X0];exact cO.ext hH bK
 ·rw[←ft,t4];exact hE.trans bK
theorem Z1b {ops:Array Oper}{pm:List Nat}{d:DInfo}{lv:List VOper}(_hl:DLink P ops pm d lv) {env:Env}{tr:Nat→Value}{hp:Nat→Heap}{ρ0:Plc}{σ0:Heap}{w0:World}{A:Nat→Bool}{a:Act}{w:World}
  (hI:DInv B d lv env tr hp ρ0 σ0 w0 A a w) (hall:∀ j,j<lv.length→A j=true):Hc B (List.length env) ρ0 σ0 w0 (fun ae σ'=>ae=EL lv env tr (fun _=>true) lv.length∧σ'=hp (d.rank lv.length)) a w:=by
 obtain⟨bC,m,ρ,hm,lh,hH,hL,cO,hE⟩:=hI;have iP:m=d.rank lv.length:=by
  rcases Nat.lt_or_ge m (d.rank lv.length) with h|h
  ·obtain⟨l,h1,h2,h3⟩:=VP d _ _ h;have:=(hm l h1 h2).1 (hall l h1);omega
  ·omega
 subst iP;have e:=Kq lv env (tr:=tr) (tr':=tr) (A:=A) (B:=fun _=>true) lv.length (fun _ _=>rfl) (fun l hl=>hall l hl);exact⟨_,ρ,_,⟨rfl,rfl⟩,Ka _ _ _ _ _,hH,by rw[←e];exact hL,cO,hE⟩
def IB (pm:List Nat) (d:DInfo) (n:Nat):(Nat→Bool)→List Nat→Prop
 |A,[]=>∀ p,p<n→A p=true
 |A,j::rest=>∃ p,p<n∧pm.getD p 0=j∧A p=false∧(∀ e∈d.ed.getD p [],A e=true)∧IB pm d n (fun q=>if q=p then true else A q) rest
theorem Ez (hS:OkSpecs P S) {ro:Option Nat}{n:Nat}{ops:Array Oper}{pm:List Nat}{d:DInfo}{lv:List VOper}(hl:DLink P ops pm d lv) (hd:DOk d lv.length) {env:Env}{K:Env→Heap→Prop}
  {Q:Exit→Act→World→Prop}{ρ0:Plc}{σ0:Heap}{w0:World}{l2:List Nat}(hQ:∀ a w,Hc B (List.length env) ρ0 σ0 w0 K a w→wpOpsIn (FF ro) n P ops Q l2 a w) {nd:List Nat}{i:Nat}{tr:Nat→Value}{hp:Nat→Heap}(sq:Know S d lv env K nd i tr hp) :
  ∀ (l:List Nat) (A:Nat→Bool) (a:Act) (w:World),IB pm d lv.length A l→DInv B d lv env tr hp ρ0 σ0 w0 A a w→(∀ j,i≤j→j<lv.length→A j=false)→(∀ j,j∈nd→j<lv.length→A j=true)→wpOpsIn (FF ro) n P ops Q (l++l2) a w:=by
 induction sq with
 |full hF hK =>
  intro l;induction l with
  |nil =>intro A a w hs hI _ _;obtain⟨ae,ρ',σ',⟨e1,e2⟩,n1⟩:=Z1b hl hI hs;exact hQ a w ⟨ae,ρ',σ',by rw[e1,e2];exact hK,n1⟩
  |cons j rest ih =>
   intro A a w hs hI hA hN;obtain⟨p,bp,rfl,jr,he,aZ⟩:=hs;rw[List.cons_append,wpOpsIn_cons];refine Hu hS hl hd (hF p bp fun h=>?_) (fun m _ h=>h) hI bp jr he (fun _=>rfl) fun a' w' mc=>ih _ a' w' aZ mc (fun j h1 h2=>by omega) (fun j hj eE=>?_)
   ·rw[hN p h bp] at jr;cases jr
   ·split
    ·rfl
    ·exact hN j hj eE
 |part hv hk hw hF jk R fq I T H hT next nP =>
  rename_i nd i tr hp v;have aK:i<lv.length:=by
   rcases Nat.lt_or_ge i lv.length with h|h
   ·exact h
   ·rw[List.getElem?_eq_none h] at hv;cases hv
  intro l;induction l with
  |nil =>intro A a w hs hI hA _;have:=hs i aK;rw[hA i (Nat.le_refl _) aK] at this;cases this
  |cons j rest ih =>
   intro A a w hs hI hA hN;obtain⟨p,bp,rfl,jr,he,aZ⟩:=hs;rw[List.cons_append,wpOpsIn_cons];have iX:d.k i=2:=by obtain⟨_,_,_,h⟩:=hl.comp i v hv;exact h.trans hk
   rcases Nat.lt_trichotomy p i with fU|rfl|fU
   ·refine Hu hS hl hd (hF p fU fun h=>?_) (fun m hm _=>?_) hI bp jr he (fun _=>rfl) fun a' w' mc=>ih _ a' w' aZ mc (fun j h1 h2=>?_) (fun j hj eE=>?_)
    ·rw[hN p h bp] at jr;cases jr
    ·have h1:¬ d.rank i<m:=fun h=>by
      have:=(hm i aK iX).2 h;rw[hA i (Nat.le_refl _) aK] at this;cases this
     omega
    ·rw[if_neg (by omega)];exact hA j h1 h2
    ·split
     ·rfl
     ·exact hN j hj eE
   ·refine CA hS hl hd hv hk hw fq hI hA bp jr he (fun _=>rfl) fun u σ' a' w' hR mc=>?_;obtain⟨q1,q2,q3,q4,q5⟩:=hT u σ' hR;refine nP u σ' hR _ _ a' w' aZ (mc _ _ q2 q3 q4 q5) (fun j h1 h2=>?_) (fun j hj eE=>?_)
    ·rw[if_neg (by omega)];exact hA j (by omega) h2
    ·split
     ·rfl
     ·rename_i aF;rcases List.mem_cons.1 hj with h|h
      ·exact absurd h aF
      ·exact hN j h eE
   ·exfalso;obtain⟨e,u,h1,h2,hu,hn⟩:=jk p fU bp;have jm:=List.getElem?_eq_getElem bp;have ah:d.lt e p=true:=by
     cases h:d.lt e p with
     |true=>rfl
     |false =>
      rcases hn with⟨x,hx,hn⟩|⟨fH,dZ⟩
      ·exact absurd (hn _ jm) ((hl.touch e p u _ hu jm (hd.free p bp e h2 h).1).1 x hx)
      ·obtain⟨_,_,_,q1⟩:=hl.comp e u hu;obtain⟨_,_,_,q2⟩:=hl.comp p _ jm;exact absurd ⟨q1.trans fH,q2.trans (dZ _ jm)⟩ (hd.free p bp e h2 h).2
    have fM:A e=true:=by
     obtain⟨e',qC,h3⟩:=hd.path p bp e h2 ah;have me:=he e' qC;rcases h3 with rfl|⟨h3,h4⟩
     ·exact me
     ·exact N5 hd hI.closed e' (by have:=hd.edge p bp e' qC;omega) me e h3 h4
    rw[hA e h1 (by omega)] at fM;cases fM
def Ku (ops:Array Oper):Array Bool→List Nat→Prop
 |L,[]=>∀ j,j<ops.size→L.getD j false=true
 |L,j::rest=>j∈Region.ready .any ops L∧Ku ops (L.setIfInBounds j true) rest
theorem KL (L:Array Bool) (j i:Nat) (hj:j<L.size):(L.setIfInBounds j true).getD i false=if i=j then true else L.getD i false:=by
 by_cases h:i=j
 ·subst h;simp[hj]
 ·simp[h,Array.getElem?_setIfInBounds_ne (Ne.symm h)]
theorem II {ops:Array Oper}(gH:∀ (j:Nat) (o:Oper),ops[j]?=some o→∀ e∈Be o,e<j) {L:Array Bool}(hs:L.size=ops.size) (h:Region.ready .any ops L=[]):∀ j,j<ops.size→L.getD j false=true:=by
 intro j;induction j using Nat.strongRecOn with
 |ind j ih =>
  intro hj;cases hA:L.getD j false with
  |true=>rfl
  |false =>
   exfalso;have:j∈Region.ready .any ops L:=by
    refine mem_ready.2 ⟨?_,ops[j],Array.getElem?_eq_getElem hj,fun e he hb=>?_⟩
    ·have h1:L.getD j true=L[j]:=by simp[hs,hj]
     have h2:L.getD j false=L[j]:=by simp[hs,hj]
     rw[h1,←h2];exact hA
    ·have:=gH j ops[j] (Array.getElem?_eq_getElem hj) e.on (List.mem_map.2 ⟨e,List.mem_filter.2 ⟨by simpa using he,hb⟩,rfl⟩);exact ih _ this (by omega)
   rw[h] at this;cases this
theorem Hf {ops:Array Oper}{L:Array Bool}(hs:L.size=ops.size) {j:Nat}(h:j∈Region.ready .any ops L):j<ops.size∧L.getD j false=false∧∃ o,ops[j]?=some o∧∀ e∈Be o,L.getD e false=true:=by obtain⟨h1,o,ho,h2⟩:=mem_ready.1 h;have aX:j<ops.size:=(Array.getElem?_eq_some_iff.1 ho).1;refine⟨aX,by simp[hs,aX] at h1 ⊢;exact h1,o,ho,fun e he=>?_⟩;obtain⟨x,hx,rfl⟩:=List.mem_map.1 he;obtain⟨su,sw⟩:=List.mem_filter.1 hx;exact h2 x (by simpa using su) sw
theorem Q0s {ops:Array Oper}(gH:∀ (j:Nat) (o:Oper),ops[j]?=some o→∀ e∈Be o,e<j):∀ (fuel t:Nat) (L:Array Bool),L.size=ops.size→cnt (fun i=>L.getD i false) ops.size≤fuel →
  Ku ops L (Region.linearise.go .any ops fuel t L []):=by
 intro fuel;induction fuel with
 |zero =>intro t L hs hc;simp only[Region.linearise.go,List.reverse_nil,Ku];exact AA (by omega)
 |succ fuel ih =>
  intro t L hs hc;simp only[Region.linearise.go]
  change Ku ops L (match (Region.ready .any ops L)[t % (Region.ready .any ops L).length]? with
   |some i=>Region.linearise.go .any ops fuel (t / (Region.ready .any ops L).length) (L.setIfInBounds i true) [i]
   |none=>[].reverse)
  cases hi:(Region.ready .any ops L)[t % (Region.ready .any ops L).length]? with
  |none =>
   have gI:Region.ready .any ops L=[]:=by
    cases hr:Region.ready .any ops L with
    |nil=>rfl
    |cons x xs =>rw[hr] at hi;have ah:t % (x::xs).length<(x::xs).length:=Nat.mod_lt _ (by simp);simp at hi;simp at ah;omega
   simp only[List.reverse_nil,Ku];exact II gH hs gI
  |some i =>
   simp only[];rw[linearise_go_acc,List.reverse_singleton,List.singleton_append];have jt:=List.mem_of_getElem? hi;obtain⟨aK,mf,_⟩:=Hf hs jt;refine⟨jt,ih _ _ (by simp[hs]) ?_⟩;have gJ:i<L.size:=by rw[hs];exact aK
   have:=Iq (A:=fun i=>L.getD i false) (B:=fun k=>(L.setIfInBounds i true).getD k false) (j:=i) mf (by simp only[KL L i i gJ,if_true]) (fun k hk=>by simp only[KL L i k gJ,if_neg hk]) ops.size aK;omega
theorem A0 {ops:Array Oper}:∀ (l:List Nat) (L:Array Bool),L.size=ops.size→Ku ops L l→l.Nodup∧∀ j,j∈l↔(j<ops.size∧L.getD j false=false):=by
 intro l;induction l with
 |nil=>intro L hs h;exact⟨List.nodup_nil,fun j=>⟨fun h=>(by cases h),fun ⟨h1,h2⟩=>by rw[h j h1] at h2;cases h2⟩⟩
 |cons i l ih =>
  intro L hs h;obtain⟨jt,h'⟩:=h;obtain⟨aK,mf,_⟩:=Hf hs jt;have gJ:i<L.size:=by rw[hs];exact aK
  obtain⟨k1,k2⟩:=ih _ (by simp[hs]) h';refine⟨List.nodup_cons.2 ⟨fun hm=>?_,k1⟩,fun j=>?_⟩
  ·have:=((k2 i).1 hm).2;rw[KL L i i gJ,if_pos rfl] at this;cases this
  ·rw[List.mem_cons,k2 j,KL L i j gJ];by_cases aI:j=i
   ·subst aI;simp[aK,mf]
   ·simp[aI]
structure DBase (ops:Array Oper) (d:DInfo):Prop where
 ed:∀ (j:Nat) (o:Oper),ops[j]?=some o→d.ed.getD j []=Be o
 edge:∀ j,j<ops.size→∀ e∈d.ed.getD j [],e<j
 path:∀ j,j<ops.size→∀ i,i<j→d.lt i j=true→∃ e∈d.ed.getD j [],e=i∨(i<e∧d.lt i e=true)
 up:∀ i j,d.lt i j=true→i<j
 size:d.ks.length=ops.size
theorem CL {ops:Array Oper}{d:DInfo}(hb:DBase ops d) {A:Nat→Bool}(hc:∀ j,j<ops.size→A j=true→∀ e∈d.ed.getD j [],A e=true):∀ j,j<ops.size→A j=true→∀ i,i<j→d.lt i j=true→A i=true:=by
 intro j;induction j using Nat.strongRecOn with
 |ind j ih =>
  intro hj hA i hi ah;obtain⟨e,he,h⟩:=hb.path j hj i hi ah;have ma:=hb.edge j hj e he;have fM:=hc j hj hA e he;rcases h with rfl|⟨h1,h2⟩
  ·exact fM
  ·exact ih e ma (by omega) fM i h1 h2
theorem Q3i {ops:Array Oper}{d:DInfo}(hb:DBase ops d):∀ (l:List Nat) (L:Array Bool),L.size=ops.size→(∀ j,j<ops.size→L.getD j false=true→∀ e∈d.ed.getD j [],L.getD e false=true)→Ku ops L l →
  l.Pairwise fun j i=>d.lt i j=false:=by
 intro l;induction l with
 |nil=>intro L _ _ _;exact List.Pairwise.nil
 |cons j l ih =>
  intro L hs hc h;obtain⟨jt,h'⟩:=h;obtain⟨aK,mf,o,ho,gH⟩:=Hf hs jt;have gJ:j<L.size:=by rw[hs];exact aK
  have cz:∀ k,k<ops.size→(L.setIfInBounds j true).getD k false=true→∀ e∈d.ed.getD k [],(L.setIfInBounds j true).getD e false=true:=by
   intro k hk hA e he;rw[KL L j e gJ];split
   ·rfl
   ·rw[KL L j k gJ] at hA;split at hA
    ·rename_i sy;subst sy;rw[hb.ed _ o ho] at he;exact gH e he
    ·exact hc k hk hA e he
  obtain⟨k1,k2⟩:=A0 l _ (by simp[hs]) h';refine List.Pairwise.cons (fun i hi=>?_) (ih _ (by simp[hs]) cz h');cases ah:d.lt i j with
  |false=>rfl
  |true =>
   exfalso;have bZ:=hb.up i j ah;have hA:(L.setIfInBounds j true).getD j false=true:=by rw[KL L j j gJ,if_pos rfl]
   have:=CL hb cz j aK hA i bZ ah;rw[((k2 i).1 hi).2] at this;cases this
theorem SD (lt:Nat→Nat→Bool):∀ (s l:List Nat) (n:Nat),s.Perm l→l.length≤n→s.Pairwise (fun j i=>lt i j=false)→s∈exts lt n l:=by
 intro s;induction s with
 |nil =>intro l n hp hn _;have:l=[]:=hp.symm.eq_nil;subst this;cases n<;>simp[exts]
 |cons k s ih =>
  intro l n hp hn hs;have hk:k∈l:=hp.mem_iff.1 (by simp);cases l with
  |nil=>cases hk
  |cons x xs =>
   cases n with
   |zero=>simp at hn
   |succ n =>
    simp only[exts];refine List.mem_flatMap.2 ⟨k,hk,?_⟩;obtain⟨h1,h2⟩:=List.pairwise_cons.1 hs;have hall:((x::xs).all fun i=>i==k||!lt i k)=true:=by
     refine List.all_eq_true.2 fun i hi=>?_;have:i∈k::s:=hp.mem_iff.2 hi;rcases List.mem_cons.1 this with rfl|h
     ·simp
     ·simp[h1 i h]
    rw[if_pos hall];refine List.mem_map.2 ⟨s,ih _ n ?_ ?_ h2,rfl⟩
    ·exact(List.cons_perm_iff_perm_erase.1 hp).2
    ·rw[List.length_erase_of_mem hk];simp at hn ⊢;omega
theorem OP {j:Nat}:∀ (a a' b b':List Nat),j∉a→j∉a'→a++j::b=a'++j::b'→a=a':=by
 intro a;induction a with
 |nil =>
  intro a' b b' _ h' h;cases a' with
  |nil=>rfl
  |cons x a'=>simp at h;exact absurd h.1 (by rintro rfl;exact h' (by simp))
 |cons x a ih =>
  intro a' b b' h1 h2 h;cases a' with
  |nil=>simp at h;exact absurd h.1 (by rintro rfl;exact h1 (by simp))
  |cons y a' =>simp at h;obtain⟨rfl,h⟩:=h;rw[ih a' b b' (fun hm=>h1 (by simp[hm])) (fun hm=>h2 (by simp[hm])) h]
theorem AH {ops:Array Oper}{d:DInfo}(hb:DBase ops d):∀ (l:List Nat) (L:Array Bool),L.size=ops.size→Ku ops L l→∀ pre j post,l=pre++j::post→∀ e∈d.ed.getD j [],L.getD e false=true∨e∈pre:=by
 intro l;induction l with
 |nil=>intro L _ _ pre j post h;simp at h
 |cons i l ih =>
  intro L hs h pre j post he e fv;obtain⟨jt,h'⟩:=h;obtain⟨aK,mf,o,ho,gH⟩:=Hf hs jt;have gJ:i<L.size:=by rw[hs];exact aK
  cases pre with
  |nil =>simp at he;obtain⟨rfl,_⟩:=he;rw[hb.ed _ o ho] at fv;exact .inl (gH e fv)
  |cons x pre =>
   simp at he;obtain⟨rfl,he⟩:=he;rcases ih _ (by simp[hs]) h' pre j post he e fv with h1|h1
   ·rw[KL L i e gJ] at h1;split at h1
    ·rename_i cw;subst cw;exact .inr (by simp)
    ·exact .inl h1
   ·exact .inr (by simp[h1])
theorem Lq {d0 d:DInfo}{pm l:List Nat}(N:Nat) (hN:∀ i∈l,i<N) (ib:pm.Nodup) (eB:l.Nodup) (aL:∀ i,i∈pm↔i∈l) (bJ:∀ pre j post,l=pre++j::post→∀ e∈d0.ed.getD j [],e∈l→e∈pre)
  (gH:∀ p,p<pm.length→d.ed.getD p []=Q1j d0 pm p) (hf:pm.filter (fun i=>d0.k i==2)=l.filter (fun i=>d0.k i==2)) :
  ∀ (post pre:List Nat),l=pre++post→IB pm d pm.length (fun q=>pre.contains (pm.getD q N)) post:=by
 intro post;induction post with
 |nil =>
  intro pre hl p hp;have hm:pm.getD p N∈pm:=by simp[List.getD_eq_getElem?_getD,hp]
  have:=(aL _).1 hm;rw[hl,List.append_nil] at this;simpa using this
 |cons j post ih =>
  intro pre hl;have b7:j∈l:=by rw[hl];simp
  have ft:=(aL j).2 b7;have hp:pm.idxOf j<pm.length:=List.idxOf_lt_length_of_mem ft;have qD:pm[pm.idxOf j]'hp=j:=List.getElem_idxOf hp;have hg:∀ z,pm.getD (pm.idxOf j) z=j:=fun z=>by simp[List.getD_eq_getElem?_getD,hp]
  have ju:j∉pre:=fun hm=>by rw[hl] at eB;exact(List.nodup_append.1 eB).2.2 j hm j (by simp) rfl
  refine⟨pm.idxOf j,hp,hg 0,by simp only[hg];simpa using ju,fun e he=>?_,?_⟩
  ·rw[gH _ hp] at he;rcases List.mem_append.1 he with he|he
   ·obtain⟨e0,j5,rfl⟩:=List.mem_map.1 he;rw[hg] at j5;obtain⟨jd,iD⟩:=List.mem_filter.1 j5;have iD:e0∈pm:=by simpa using iD
    have sA:pm.idxOf e0<pm.length:=List.idxOf_lt_length_of_mem iD;have:pm.getD (pm.idxOf e0) N=e0:=by simp[List.getD_eq_getElem?_getD,sA]
    simp only[this];have:=bJ pre j post hl e0 jd ((aL e0).1 iD);simpa using this
   ·split at he
    ·rename_i aq;rw[hg] at aq;obtain⟨hq,hk⟩:=List.mem_filter.1 (List.mem_of_getLast? (Option.mem_toList.1 he));have cU:e<pm.idxOf j:=List.mem_range.1 hq;have hel:e<pm.length:=by omega
     have heq:pm.getD e N=pm[e]'hel:=by simp[List.getD_eq_getElem?_getD,hel]
     have o4:pm.getD e 0=pm[e]'hel:=by simp[List.getD_eq_getElem?_getD,hel]
     rw[o4] at hk;simp only[heq];have cQ:pm=pm.take (pm.idxOf j)++j::pm.drop (pm.idxOf j+1):=by conv=>lhs;rw[←List.take_append_drop (pm.idxOf j) pm,List.drop_eq_getElem_cons hp,qD]
     have o5:j∉pm.take (pm.idxOf j):=by intro hm;have hn:=ib;rw[cQ] at hn;exact(List.nodup_append.1 hn).2.2 j hm j (by simp) rfl
     have sB:(pm.take (pm.idxOf j)).filter (fun i=>d0.k i==2)++j::(pm.drop (pm.idxOf j+1)).filter (fun i=>d0.k i==2)=pre.filter (fun i=>d0.k i==2)++j::post.filter (fun i=>d0.k i==2):=by have h1:=hf;rw[cQ,hl] at h1;simp only[List.filter_append,List.filter_cons,aq,if_true] at h1;exact h1
     have:=OP _ _ _ _ (fun hm=>o5 (List.mem_filter.1 hm).1) (fun hm=>ju (List.mem_filter.1 hm).1) sB;have aK:pm[e]∈(pm.take (pm.idxOf j)).filter (fun i=>d0.k i==2):=List.mem_filter.2 ⟨List.mem_take_iff_getElem.2 ⟨e,by omega,rfl⟩,hk⟩;rw[this] at aK;have:=(List.mem_filter.1 aK).1;simpa using this
    ·cases he
  ·have o6:(fun q=>if q=pm.idxOf j then true else pre.contains (pm.getD q N))=fun q=>(pre++[j]).contains (pm.getD q N):=by
    funext q
    by_cases hq:q=pm.idxOf j
    ·subst hq;simp only[if_true,hg];simp
    ·rw[if_neg hq];have aF:pm.getD q N≠j:=by
      intro he;rcases Nat.lt_or_ge q pm.length with lj|lj
      ·have h1:pm[q]=j:=by simpa [List.getD_eq_getElem?_getD,lj] using he
       exact hq ((List.getElem_inj (h₀:=lj) (h₁:=hp) ib).1 (h1.trans qD.symm))
      ·simp[List.getD_eq_getElem?_getD,List.getElem?_eq_none lj] at he;have:=hN j b7;omega
     rw[Bool.eq_iff_iff];simp only[List.contains_iff_mem,List.mem_append,List.mem_singleton,aF,or_false]
   rw[o6];exact ih (pre++[j]) (by rw[hl];simp)
theorem Fy {ops:Array Oper}{vs:List VOper}(h:ops.toList.mapM (J7 P ops)=some vs) (ai:(Kc ops.toList vs).okB=true):DBase ops (Kc ops.toList vs):=by
 have hlen:vs.length=ops.size:=by have:=(XN _ _ _ h).1;simpa using this
 have jl:(Kc ops.toList vs).ks.length=ops.size:=by simp[Kc,hlen]
 have cI:=ai;unfold DInfo.okB at cI;rw[Bool.and_eq_true,decide_eq_true_eq] at cI;obtain⟨sC,jU⟩:=cI;have h0:∀ j,j<ops.size→(Kc ops.toList vs).okE j=true∧(Kc ops.toList vs).an.getD j 0<2 ^ j∧((List.range j).all fun i=>!((Kc ops.toList vs).lt i j)||((Kc ops.toList vs).ed.getD j []).any (fun e=>e==i||decide (i<e)&&(Kc ops.toList vs).lt i e))=true:=fun j hj=>by have:=List.all_eq_true.1 jU j (List.mem_range.2 (by rw[jl];exact hj));rw[Bool.and_eq_true,Bool.and_eq_true,decide_eq_true_eq] at this;exact this
 have mg:∀ j,j<ops.size→∀ e∈(Kc ops.toList vs).ed.getD j [],e<j:=fun j hj e he=>by have:=List.all_eq_true.1 (h0 j hj).1 e he;simpa using this
 refine⟨fun j o ho=>by simp[Kc,List.getD_eq_getElem?_getD,ho],mg,fun j hj i hi ah=>?_,fun i j ah=>?_,jl⟩
 ·have:=List.all_eq_true.1 (h0 j hj).2.2 i (List.mem_range.2 hi);simp only[ah,Bool.not_true,Bool.false_or,List.any_eq_true,Bool.or_eq_true,Bool.and_eq_true,decide_eq_true_eq,beq_iff_eq] at this;exact this
 ·rcases Nat.lt_or_ge i j with h|h
  ·exact h
  ·exfalso;unfold DInfo.lt at ah;rcases Nat.lt_or_ge j ops.size with hj|hj
   ·have h1:=(h0 j hj).2.1;have h2:(Kc ops.toList vs).an.getD j 0<2 ^ i:=Nat.lt_of_lt_of_le h1 (Nat.pow_le_pow_right (by omega) h);rw[Nat.testBit_lt_two_pow h2] at ah;cases ah
   ·have:(Kc ops.toList vs).an.getD j 0=0:=by
     rw[List.getD_eq_getElem?_getD,List.getElem?_eq_none (by rw[sC,jl];exact hj)];rfl
    rw[this,Nat.zero_testBit] at ah;cases ah
theorem Ao {t:Nat}:∀ (l:List Nat),l.Pairwise (fun j i=>¬ (i<t∧t≤j))→l=l.filter (fun i=>decide (i<t))++l.filter (fun i=>decide (t≤i))
 |[],_=>rfl
 |x::l,h=>by
  obtain⟨h1,h2⟩:=List.pairwise_cons.1 h;have ih:=Ao l h2;by_cases hx:x<t
  ·have lF:¬ t≤x:=by omega
   simp only[List.filter_cons,hx,decide_true,if_true,lF,decide_false,List.cons_append,Bool.false_eq_true,if_false];rw[←ih]
  ·have lF:t≤x:=by omega
   have gI:l.filter (fun i=>decide (i<t))=[]:=List.filter_eq_nil_iff.2 fun i hi=>by have:=h1 i hi;simp;omega
   have hall:l.filter (fun i=>decide (t≤i))=l:=List.filter_eq_self.2 fun i hi=>by have:=h1 i hi;simp;omega
   simp only[List.filter_cons,hx,decide_false,lF,decide_true,if_true,gI,hall];simp
theorem P2 (hS:OkSpecs P S) {ro:Option Nat}{n:Nat}{ops:Array Oper}{vs:List VOper}(cj:ops.toList.mapM (J7 P ops)=some vs) {d0:DInfo}(_hb:DBase ops d0) {l l2 idx pm:List Nat}(eB:l.Nodup) (ah:∀ i∈l,i<ops.size) (o7:∀ i,i∈l↔i∈idx)
  (bJ:∀ pre j post,l=pre++j::post→∀ e∈d0.ed.getD j [],e∈l→e∈pre) (iP:Q6z d0 vs idx (l.filter fun i=>d0.k i==2) pm=true)
  {env:Env}{σ:Heap}{K:Env→Heap→Prop}{ρ:Plc}{w:World}{a:Act}(o8:Zy S ((C_ d0 vs pm).opers (Vi vs pm) 0) env [σ] σ [] K) (hH:HRel ρ σ w) (hL:LRel ρ σ.n env a.tmps.toList) (cO:Mks B a.defers w)
  {Q:Exit→Act→World→Prop}(hQ:∀ a' w',Hc B (List.length env) ρ σ w K a' w'→wpOpsIn (FF ro) n P ops Q l2 a' w'):wpOpsIn (FF ro) n P ops Q (l++l2) a w:=by
 have oA:vs.length=ops.size:=by have:=(XN _ _ _ cj).1;simpa using this
 simp only[Q6z,Bool.and_eq_true,decide_eq_true_eq,List.all_eq_true,List.contains_iff_mem] at iP;obtain⟨m1,m2,m3,m4,m5⟩:=iP;have jv:∀ i,i∈pm↔i∈l:=fun i=>by rw[o7 i];exact⟨fun hi=>m2 i hi,fun hi=>m1 i hi⟩
 have fU:∀ i∈pm,i<vs.length:=fun i hi=>by have:=ah i ((jv i).1 hi);omega
 have hl:DLink P ops pm (C_ d0 vs pm) (Vi vs pm):=DLink.of cj fU;have o9:(Vi vs pm).length=pm.length:=by simp[Vi]
 have jl:(C_ d0 vs pm).ks.length=(Vi vs pm).length:=by simp[C_]
 have hd:=DOk.of m5;rw[jl] at hd;have gH:∀ p,p<pm.length→(C_ d0 vs pm).ed.getD p []=Q1j d0 pm p:=fun p hp=>by simp[C_,List.getD_eq_getElem?_getD,hp]
 have gK:=Lq (d:=C_ d0 vs pm) ops.size ah m3 eB jv bJ gH m4 l [] (by simp);have eW:∀ i v,(Vi vs pm)[i]?=some v→(C_ d0 vs pm).k i=v.op.kind:=fun i v hv=>(hl.comp i v hv).choose_spec.2.2;obtain⟨k,tr,hp,_,_,k2,k3⟩:=Q3p (C_ d0 vs pm) (Vi vs pm) eW env K (Vi vs pm) 0 (by omega) rfl [] (fun _=>undef) (fun _=>σ) [] (fun l hl=>by omega) (fun l hl=>by omega) (by simpa [DInfo.rank,EL] using o8);have o_:hp 0=σ:=k2 0 (by omega);have mh:(fun q=>([]:List Nat).contains (pm.getD q ops.size))=fun _=>false:=by funext q;rfl
 rw[mh] at gK;refine Ez (B:=B) (pm:=pm) hS hl hd hQ k3 l (fun _=>false) a w (by rw[o9];exact gK) ?_ (fun _ _ _=>rfl) (fun j hj=>by cases hj) (ρ0:=ρ) (σ0:=σ) (w0:=w)
 ·refine⟨fun j hj hA=>(by cases hA),0,ρ,fun l aR hk=>by simp,by omega,by rw[o_];exact hH,?_,cO,by rw[o_];exact Ext.refl _ _ _⟩;have e:EL (Vi vs pm) env tr (fun _=>false) (Vi vs pm).length=env:=by
   have:∀ m,EL (Vi vs pm) env tr (fun _=>false) m=env:=by
    intro m;induction m with
    |zero=>rfl
    |succ m ih=>simp only[EL,Bool.false_eq_true,if_false];exact ih
   exact this _
  rw[e,o_];exact hL
theorem Sy (d:DInfo):∀ (lv:List VOper) (i:Nat),(∀ v∈lv,v.op.kind≠2)→∀ (env:Env) (σ:Heap) (pend:List (Nat×(Heap→Prop))) (K:Env→Heap→Prop),PJ S lv env σ K→Zy S (d.opers lv i) env [σ] σ pend K:=by
 intro lv;induction lv with
 |nil=>intro i _ env σ pend K h;exact h
 |cons v rest ih =>
  intro i hk env σ pend K h;have aq:v.op.kind≠2:=hk v (by simp);have dp:∀ u∈rest,u.op.kind≠2:=fun u hu=>hk u (by simp[hu]);simp only[PJ] at h;simp only[DInfo.opers,Zy];cases hw:J2 env v.guard with
  |none=>rw[hw] at h;exact h.elim
  |some b =>
   rw[hw] at h;obtain⟨ht,hf⟩:=h;refine⟨fun e=>?_,fun e=>?_⟩
   ·have ht:=ht e;have fm:∃ p,Q4 v.op (Q2 env) σ=some p∧PJ S rest (X3 env v.dst p.1) p.2 K:=by
     have cm:∀ x:XOp,v.op=.ext x→(∀ y,x≠.nextMap y):=fun x hx y hy=>by rw[hx,hy] at aq;exact aq rfl
     have:=ht;unfold vop at this;split at this
     ·rename_i f bD heq;rw[heq] at aq;exact absurd rfl aq
     ·rename_i f bD heq;rw[heq] at aq;exact absurd rfl aq
     ·rename_i x heq;rw[heq] at aq;exact absurd rfl aq
     ·cases dk:Q4 v.op (Q2 env) σ with
      |none=>rw[dk] at this;exact this.elim
      |some p=>rw[dk] at this;exact⟨p,rfl,this⟩
    obtain⟨p,hp,hr⟩:=fm;have hq:p.2=σ:=GS aq (v:=p.1) (σ':=p.2) hp;rw[hq] at hr;rw[if_neg aq];split
    ·rw[hp];refine⟨fun τ hτ=>?_,ih (i+1) dp _ _ _ _ hr⟩;have:τ=σ:=by
      have:=List.mem_of_mem_drop hτ;simpa using this
     subst this;show Z5 (Q4 v.op (Q2 env) τ) _;rw[hp];rfl
    ·rw[hp];exact ih (i+1) dp _ _ _ _ hr
   ·rw[if_neg aq];exact ih (i+1) dp _ _ _ _ (hf e)
theorem O3 (hS:OkSpecs P S) {ro:Option Nat}{n:Nat}{ops:Array Oper}{vs:List VOper}(cj:ops.toList.mapM (J7 P ops)=some vs) {d0:DInfo}(hb:DBase ops d0) (_hk0:∀ i v,vs[i]?=some v→d0.k i=v.op.kind) {s len:Nat}(hlen:0<len) (k_:s+len≤ops.size) {x:DSeg}(hx:Q7e d0 vs s len=some x)
  {l l2:List Nat}(eB:l.Nodup) (aL:∀ i,i∈l↔(s≤i∧i<s+len)) (bJ:∀ pre j post,l=pre++j::post→∀ e∈d0.ed.getD j [],e∈l→e∈pre) (jx:l.Pairwise fun j i=>d0.lt i j=false)
  {rest:List DSeg}{env:Env}{σ:Heap}{K:Env→Heap→Prop}{ρ:Plc}{w:World}{a:Act}(h:NB S (x::rest) env σ K) (hH:HRel ρ σ w) (hL:LRel ρ σ.n env a.tmps.toList) (cO:Mks B a.defers w)
  {Q:Exit→Act→World→Prop}(hQ:∀ a' w',Hc B (List.length env) ρ σ w (fun env σ=>NB S rest env σ K) a' w'→wpOpsIn (FF ro) n P ops Q l2 a' w'):wpOpsIn (FF ro) n P ops Q (l++l2) a w:=by
 have oA:vs.length=ops.size:=by have:=(XN _ _ _ cj).1;simpa using this
 unfold Q7e at hx;split at hx
 ·rename_i h1;subst h1;obtain rfl:=osj hx;have hs:s<ops.size:=by omega
  have dU:l=[s]:=by
   have hm:∀ i,i∈l↔i=s:=fun i=>by rw[aL i];omega
   have hp:l.Perm [s]:=(List.perm_ext_iff_of_nodup eB (by simp)).2 fun i=>by rw[hm i];simp
   exact List.perm_singleton.1 hp
  subst dU;obtain⟨v,hv,hc⟩:=(XN _ _ _ cj).2 s ops[s] (by simp[hs]);have hg:vs.getD s default=v:=by simp[List.getD_eq_getElem?_getD,hv]
  simp only[NB,hg] at h;simp only[PJ] at h;rw[List.singleton_append,wpOpsIn_cons];unfold wpOpIn;rw[Array.getElem?_eq_getElem hs];simp only;cases hw:J2 env v.guard with
  |none=>rw[hw] at h;exact h.elim
  |some b =>
   rw[hw] at h;obtain⟨ht,hf⟩:=h;obtain⟨cW,bq,bt⟩:=D3 hc hL hw;rw[cW];cases b with
   |false =>rw[if_neg (by simp)];refine⟨fun f _=>EY _ _,hQ _ _ ⟨_,ρ,σ,hf rfl,Zx _ _ _,hH,by rw[bq];exact Yx hL JE _,by rw[X0];exact cO,Ext.refl _ _ _⟩⟩
   |true =>rw[if_pos rfl];refine Vn hS bt hH hL (ht rfl) fun c w' ⟨u,ρ',σ',hK,dH,fL,hE⟩=>?_;exact hQ _ _ ⟨_,ρ',σ',hK,Zx _ _ _,fL,by rw[bq];exact Yx (hE.lrel hL) dH _,by rw[X0];exact cO.ext hH hE,hE⟩
 ·rename_i fH;simp only at hx;split at hx
  ·rename_i hP;obtain rfl:=osj hx;simp only[NB] at h;have mi:(l.filter fun i=>d0.k i==2).Perm ((List.range' s len).filter fun i=>d0.k i==2):=by
    refine (List.Perm.filter _ ?_);refine (List.perm_ext_iff_of_nodup eB List.nodup_range').2 fun j=>?_;rw[aL j,List.mem_range'_1]
   have hs:=SD d0.lt _ _ len mi (by
    refine Nat.le_trans (List.length_filter_le _ _) (by simp)) (jx.filter _)
   have iP:=List.all_eq_true.1 hP _ (List.mem_map.2 ⟨_,hs,rfl⟩);have o8:=h _ (List.mem_map.2 ⟨_,List.mem_map.2 ⟨_,hs,rfl⟩,rfl⟩);exact P2 hS cj hb eB (fun i hi=>by have:=(aL i).1 hi;omega) (fun i=>by rw[aL i,List.mem_range'_1]) bJ iP o8 hH hL cO (fun a' w' hn=>by
    obtain⟨ae,ρ',σ',⟨aP,σ2,hD,hR⟩,n1,n2,n3,n4,n5⟩:=hn;obtain⟨ρ2,d1,d2,d3⟩:=hD ρ w ρ' w' a'.tmps.toList hH n5 n2 n3;exact hQ a' w' ⟨aP,ρ2,σ2,hR,(d1.1.trans n3.1.symm).trans n1,d2,d1,n4,d3⟩)
  ·cases hx
theorem F7 (hS:OkSpecs P S) {ro:Option Nat}{n:Nat}{ops:Array Oper}{vs:List VOper}(cj:ops.toList.mapM (J7 P ops)=some vs) {d0:DInfo}(hb:DBase ops d0) (fZ:∀ i v,vs[i]?=some v→d0.k i=v.op.kind)
  {Q:Exit→Act→World→Prop}{K:Env→Heap→Prop}:∀ (f s:Nat) (aN:List DSeg),O5 d0 vs f s=some aN→s≤ops.size→∀ (l:List Nat),l.Nodup→(∀ i,i∈l↔(s≤i∧i<ops.size)) →
   (∀ pre j post,l=pre++j::post→∀ e∈d0.ed.getD j [],e∈l→e∈pre)→(l.Pairwise fun j i=>d0.lt i j=false) →
   ∀ (env:Env) (σ:Heap) (ρ:Plc) (w:World) (a:Act),NB S aN env σ K→HRel ρ σ w→LRel ρ σ.n env a.tmps.toList→Mks B a.defers w→(∀ a' w',Hc B (List.length env) ρ σ w K a' w'→Q .normal a' w') →
   wpOpsIn (FF ro) n P ops Q l a w:=by
 intro f
 have fin:∀ (s:Nat) (aN:List DSeg),s=d0.ks.length→[]=aN→∀ (l:List Nat),(∀ i,i∈l↔(s≤i∧i<ops.size))→∀ (env:Env) (σ:Heap) (ρ:Plc) (w:World) (a:Act),NB S aN env σ K→HRel ρ σ w→LRel ρ σ.n env a.tmps.toList→Mks B a.defers w→(∀ a' w',Hc B (List.length env) ρ σ w K a' w'→Q .normal a' w') →
   wpOpsIn (FF ro) n P ops Q l a w:=by
  intro s aN hs d_ l aL env σ ρ w a h hH hL cO hQ;subst d_;have:l=[]:=by
   cases l with
   |nil=>rfl
   |cons x l =>have:=(aL x).1 (by simp);rw[hs,hb.size] at this;omega
  subst this;exact hQ a w ⟨env,ρ,σ,h,rfl,hH,hL,cO,Ext.refl _ _ _⟩
 induction f with
 |zero =>
  intro s aN d_ hs l eB aL bJ jx env σ ρ w a h hH hL cO hQ;simp only[O5] at d_;split at d_
  ·rename_i he;exact fin s aN he (osj d_) l aL env σ ρ w a h hH hL cO hQ
  ·cases d_
 |succ f ih =>
  intro s aN d_ hs l eB aL bJ jx env σ ρ w a h hH hL cO hQ;simp only[O5] at d_;split at d_
  ·rename_i he;exact fin s aN he (osj d_) l aL env σ ρ w a h hH hL cO hQ
  ·rename_i aF;split at d_
   ·cases d_
   ·rename_i t ht;have pc:=List.find?_some ht;have mj:=List.mem_range'_1.1 (List.mem_of_find?_eq_some ht);rw[hb.size] at mj;split at d_
    ·rename_i x r hx hr;obtain rfl:=osj d_;have ah:∀ i p,i<t→t≤p→p<ops.size→d0.lt i p=true:=fun i p hi hp ib=>by
      have h1:=List.all_eq_true.1 pc p (List.mem_range'_1.2 ⟨hp,by rw[hb.size];omega⟩);exact List.all_eq_true.1 h1 i (List.mem_range.2 hi)
     have pg:l.Pairwise (fun j i=>¬ (i<t∧t≤j)):=by refine (List.pairwise_iff_forall_sublist.2 fun {j i} iK=>?_);rintro⟨h1,h2⟩;have hj:j∈l:=iK.subset (by simp);have h3:=(List.pairwise_iff_forall_sublist.1 jx) iK;rw[ah i j h1 h2 ((aL j).1 hj).2] at h3;cases h3
     have cQ:=Ao l pg;have ic:∀ i,i∈l.filter (fun i=>decide (i<t))↔(s≤i∧i<s+(t-s)):=fun i=>by rw[List.mem_filter,aL i,decide_eq_true_eq];omega
     have gf:∀ i,i∈l.filter (fun i=>decide (t≤i))↔(t≤i∧i<ops.size):=fun i=>by rw[List.mem_filter,aL i,decide_eq_true_eq];omega
     rw[cQ];refine O3 hS cj hb fZ (by omega) (by omega) hx (eB.filter _) ic ?_ (jx.filter _) h hH hL cO ?_
     ·intro pre j post he e fv hel;refine bJ pre j (post++l.filter (fun i=>decide (t≤i))) ?_ e fv (List.mem_filter.1 hel).1;exact cQ.trans (by rw[he,List.append_assoc];rfl)
     ·intro a' w' ⟨ae,ρ',σ',k1,k0,k2,k3,k4,k5⟩;refine ih t r hr (by omega) _ (eB.filter _) gf ?_ (jx.filter _) ae σ' ρ' w' a' k1 k2 k3 k4 ?_
      ·intro pre j post he e fv hel;have:=bJ (l.filter (fun i=>decide (i<t))++pre) j post (cQ.trans (by rw[he,List.append_assoc])) e fv (List.mem_filter.1 hel).1;rcases List.mem_append.1 this with h1|h1
       ·have h2:=(List.mem_filter.1 h1).2;have h3:=(List.mem_filter.1 hel).2;simp at h2 h3;omega
       ·exact h1
      ·intro a2 w2 ⟨aP,ρ2,σ2,m1,m0,m2,m3,m4,m5⟩;exact hQ a2 w2 ⟨aP,ρ2,σ2,m1,m0.trans k0,m2,m3,m4,k5.trans m5⟩
    ·cases d_
theorem Fl (hm:P.follows .mixedOrders=true) (hS:OkSpecs P S) {ro:Option Nat}{n:Nat}{id:Nat}{ops:Array Oper}{vs:List VOper}(cj:ops.toList.mapM (J7 P ops)=some vs) {aN:List DSeg}(ai:Q1z (Kc ops.toList vs) vs=some aN)
  {env:Env}{σ:Heap}{K:Env→Heap→Prop}{ρ:Plc}{w:World}{a:Act}(h:NB S aN env σ K) (hH:HRel ρ σ w) (hL:LRel ρ σ.n env a.tmps.toList) (cO:Mks B a.defers w)
  {Q:Exit→Act→World→Prop}(hQ:∀ a' w',Hc B (List.length env) ρ σ w K a' w'→Q .normal a' w'):(Code.region id ops true).wpIn (FF ro) n P Q a w:=by
 unfold Q1z at ai;split at ai
 ·rename_i hB;have hb:=Fy cj hB;have eW:∀ i v,vs[i]?=some v→(Kc ops.toList vs).k i=v.op.kind:=fun i v hv=>by
   simp[DInfo.k,Kc,List.getD_eq_getElem?_getD,hv]
  generalize oQ:Kc ops.toList vs=d0 at *
  refine wpIn_region_draw fun t=>?_;simp only[Region.schedule,hm,Bool.true_or,if_true];have fx:∀ (j:Nat) (o:Oper),ops[j]?=some o→∀ e∈Be o,e<j:=fun j o ho e he=>hb.edge j (Array.getElem?_eq_some_iff.1 ho).1 e (by rw[hb.ed j o ho];exact he);have hall:∀ i,(Array.replicate ops.size false).getD i false=false:=fun i=>by rw[Array.getD_eq_getD_getElem?,Array.getElem?_replicate];split<;>rfl
  have fW:=Q0s fx ops.size t (Array.replicate ops.size false) (by simp) (by
   have:∀ m,cnt (fun i=>(Array.replicate ops.size false).getD i false) m≤m:=by
    intro m;induction m with
    |zero=>exact Nat.le_refl _
    |succ m ih=>simp only[cnt];split<;>omega
   exact this _)
  change wpOpsIn _ _ _ _ _ (Region.linearise.go .any ops ops.size t (Array.replicate ops.size false) []) _ _;generalize Region.linearise.go .any ops ops.size t (Array.replicate ops.size false) []=l at *
  obtain⟨iJ,aL⟩:=A0 l _ (by simp) fW;have jx:=Q3i hb l _ (by simp) (fun j _ hA=>by rw[hall] at hA;cases hA) fW;have bJ:=AH hb l _ (by simp) fW;refine F7 hS cj hb eW _ 0 aN ai (by omega) l iJ (fun i=>by rw[aL i,hall];simp) (fun pre j post he e fv _=>?_) jx env σ ρ _ a h hH.drew hL (cO.ext hH (Ext.drew _ _ _)) (fun a' w' hn=>?_)
  ·rcases bJ pre j post he e fv with h1|h1
   ·rw[hall] at h1;cases h1
   ·exact h1
  ·obtain⟨ae,ρ',σ',n0,n1,n2,n3,n4,n5⟩:=hn;exact hQ a' w' ⟨ae,ρ',σ',n0,n1,n2,n3,n4,(Ext.drew _ _ _).trans n5⟩
 ·cases ai
theorem LV (hm:P.follows .mixedOrders=true) (hS:OkSpecs P S) {ro:Option Nat}{n:Nat}{id:Nat}{ops:Array Oper}{vs:List VOper}(cj:ops.toList.mapM (J7 P ops)=some vs) (ai:Mu (Kc ops.toList vs) vs=true)
  {env:Env}{σ:Heap}{K:Env→Heap→Prop}{ρ:Plc}{w:World}{a:Act}(h:PJ S vs env σ K) (hH:HRel ρ σ w) (hL:LRel ρ σ.n env a.tmps.toList) (cO:Mks B a.defers w)
  {Q:Exit→Act→World→Prop}(hQ:∀ a' w',Hc B (List.length env) ρ σ w K a' w'→Q .normal a' w'):(Code.region id ops true).wpIn (FF ro) n P Q a w:=by
 simp only[Mu,Bool.and_eq_true] at ai;obtain⟨hB,ke,iY⟩:=ai;have hb:=Fy cj hB;have oA:vs.length=ops.size:=by have:=(XN _ _ _ cj).1;simpa using this
 have aq:∀ v∈vs,v.op.kind≠2:=fun v hv=>by have:=List.all_eq_true.1 ke v hv;simpa using this
 have eW:∀ i v,vs[i]?=some v→(Kc ops.toList vs).k i=v.op.kind:=fun i v hv=>by simp[DInfo.k,Kc,List.getD_eq_getElem?_getD,hv]
 generalize oQ:Kc ops.toList vs=d0 at *
 refine wpIn_region_draw fun t=>?_;simp only[Region.schedule,hm,Bool.true_or,if_true];have fx:∀ (j:Nat) (o:Oper),ops[j]?=some o→∀ e∈Be o,e<j:=fun j o ho e he=>hb.edge j (Array.getElem?_eq_some_iff.1 ho).1 e (by rw[hb.ed j o ho];exact he);have hall:∀ i,(Array.replicate ops.size false).getD i false=false:=fun i=>by rw[Array.getD_eq_getD_getElem?,Array.getElem?_replicate];split<;>rfl
 have fW:=Q0s fx ops.size t (Array.replicate ops.size false) (by simp) (by
  have:∀ m,cnt (fun i=>(Array.replicate ops.size false).getD i false) m≤m:=by
   intro m;induction m with
   |zero=>exact Nat.le_refl _
   |succ m ih=>simp only[cnt];split<;>omega
  exact this _)
 change wpOpsIn _ _ _ _ _ (Region.linearise.go .any ops ops.size t (Array.replicate ops.size false) []) _ _;generalize Region.linearise.go .any ops ops.size t (Array.replicate ops.size false) []=l at *
 obtain⟨iJ,aL⟩:=A0 l _ (by simp) fW;have bJ:=AH hb l _ (by simp) fW;have ah:∀ i∈l,i<ops.size:=fun i hi=>((aL i).1 hi).1;have gI:l.filter (fun i=>d0.k i==2)=[]:=List.filter_eq_nil_iff.2 fun i hi=>by have aK:=ah i hi;have qE:vs[i]?=some vs[i]:=List.getElem?_eq_getElem (by omega);rw[eW i _ qE];simpa using aq _ (List.mem_of_getElem? qE)
 have nQ:Vi vs (List.range' 0 d0.ks.length)=vs:=by
  apply List.ext_getElem?;intro i;unfold Vi;rw[List.getElem?_map];rcases Nat.lt_or_ge i vs.length with hi|hi
  ·rw[List.getElem?_range' (by rw[hb.size];omega),List.getElem?_eq_getElem hi];simp[List.getD_eq_getElem?_getD,hi]
  ·rw[List.getElem?_eq_none (by simp[hb.size];omega),List.getElem?_eq_none hi];rfl
 have hd:=Sy (S:=S) (C_ d0 vs (List.range' 0 d0.ks.length)) vs 0 aq env σ [] K h;rw[←List.append_nil l];refine P2 hS cj hb iJ ah (fun i=>by rw[aL i,hall,List.mem_range'_1,hb.size];simp) (fun pre j post he e fv _=>?_) (idx:=List.range' 0 d0.ks.length) (pm:=List.range' 0 d0.ks.length) (by rw[gI];exact iY) (by rw[nQ];exact hd) hH.drew hL (cO.ext hH (Ext.drew _ _ _)) (fun a' w' hn=>?_)
 ·rcases bJ pre j post he e fv with h1|h1
  ·rw[hall] at h1;cases h1
  ·exact h1
 ·obtain⟨ae,ρ',σ',n0,n1,n2,n3,n4,n5⟩:=hn;exact hQ a' w' ⟨ae,ρ',σ',n0,n1,n2,n3,n4,(Ext.drew _ _ _).trans n5⟩
theorem Cb (hS:OkSpecs P S) {id:Nat}{ops:Array Oper}{lv:List VOper}(bS:ops.toList.mapM (J7 P ops)=some lv):Sound P S (.region id ops false) (.region lv):=by intro B cJ ro n Q env σ ρ w a h hH hL hd hR Q' hQ;simp only[vwp] at h;refine wpIn_region ?_;rw[List.range_eq_range',←Array.length_toList,wpOpsIn_eq_wpListIn ops.toList 0 (by simp)];exact EE hS ops Q' ops.toList lv bS env σ _ ρ w a h hH hL hd (fun a' w' hn=>hQ .normal a' w' hn)
theorem cond_true {v:Value}{A B:Prop}(h:Iu v A B):∃ t,v=.bool t∧(t=true→A)∧(t=false→B):=by
 unfold Iu at h;split at h
 ·exact⟨_,rfl,h⟩
 ·exact h.elim
theorem EH {c:Code}{vc:VCode}(ih:Sound P S c vc):Sound P S (.loop c) (.loop vc):=by
 intro B cJ ro n Q env σ ρ w a h hH hL hd hR Q' hQ;simp only[vwp] at h;obtain⟨live,I,n0,h0,kf⟩:=h;refine wpIn_loop_ghost (fun k a' w'=>Hc B (List.length env) ρ σ w (fun ae σ'=>I k (H9 live ae) σ') a' w') n0 ⟨env,ρ,σ,h0,rfl,hH,hL,hd,Ext.refl _ _ _⟩ ?_;rintro k a1 w1 ⟨bg,ρ1,σ1,k1,k0,k2,k3,k4,k5⟩;have hlen:List.length (Xp live (H9 live bg) (List.replicate env.length poison))=List.length env:=by rw[RR];simp
 refine ih cJ ro n _ _ σ1 ρ1 w1 a1 (kf k (H9 live bg) σ1 k1) k2 (EI live bg _ _ k3 (ER _ (by rw[←k3.1,k0]))) k4 (hR.ext k5) _ ?_;rintro e a2 w2 ⟨aP,ρ2,σ2,m1,m0,m2,m3,m4,m5⟩;rw[hlen] at m0;cases e with
 |normal =>obtain⟨n',lf,hI⟩:=m1;exact⟨n',lf,aP,ρ2,σ2,hI,m0,m2,m3,m4,k5.trans m5⟩
 |_=>exact hQ _ a2 w2 ⟨aP,ρ2,σ2,m1,m0,m2,m3,m4,k5.trans m5⟩
theorem Dg (c:Code):Sound P S c .bad:=by intro B cJ ro n Q env σ ρ w a h;exact h.elim
theorem Ev (hm:P.follows .mixedOrders=true) (hS:OkSpecs P S):∀ (c:Code) (vc:VCode),comp P c=some vc→Sound P S c vc:=by
 intro c;induction c with
 |skip =>intro vc hc;simp[comp] at hc;subst hc;intro B cJ ro n Q env σ ρ w a h hH hL hd hR Q' hQ;exact wpIn_skip (hQ _ _ _ ⟨env,ρ,σ,h,rfl,hH,hL,hd,Ext.refl _ _ _⟩)
 |region id ops dr =>
  intro vc hc;cases dr with
  |false =>simp only[comp,Option.bind_eq_bind,Option.bind_eq_some_iff] at hc;obtain⟨lv,bS,hc⟩:=hc;simp at hc;subst hc;exact Cb hS bS
  |true =>
   simp only[comp,Option.bind_eq_bind,Option.bind_eq_some_iff] at hc;obtain⟨lv,bS,hc⟩:=hc;split at hc
   ·rename_i ai;simp at hc;subst hc;intro B cJ ro n Q env σ ρ w a h hH hL hd hR Q' hQ;exact LV hm hS bS ai h hH hL hd (fun a' w' hn=>hQ .normal a' w' hn)
   split at hc
   ·rename_i aN ai;simp at hc;subst hc;intro B cJ ro n Q env σ ρ w a h hH hL hd hR Q' hQ;exact Fl hm hS bS ai h hH hL hd (fun a' w' hn=>hQ .normal a' w' hn)
   ·simp at hc;subst hc;exact Dg _
 |seq x y iQ ml =>
  intro vc hc;simp only[comp,Option.bind_eq_bind,Option.bind_eq_some_iff] at hc;obtain⟨vx,hx,vy,hy,hc⟩:=hc;simp at hc;subst hc;intro B cJ ro n Q env σ ρ w a h hH hL hd hR Q' hQ;simp only[vwp] at h;refine wpIn_seq (iQ vx hx cJ ro n _ env σ ρ w a h hH hL hd hR _ ?_);rintro e a1 w1 ⟨bg,ρ1,σ1,k1,k0,k2,k3,k4,k5⟩;cases e with
  |normal =>refine ml vy hy cJ ro n _ bg σ1 ρ1 w1 a1 k1 k2 k3 k4 (hR.ext k5) _ ?_;rintro e2 a2 w2 ⟨aP,ρ2,σ2,m1,m0,m2,m3,m4,m5⟩;exact hQ e2 a2 w2 ⟨aP,ρ2,σ2,m1,m0.trans k0,m2,m3,m4,k5.trans m5⟩
  |_=>exact hQ _ a1 w1 ⟨bg,ρ1,σ1,k1,k0,k2,k3,k4,k5⟩
 |cond c x y iQ ml =>
  intro vc hc;simp only[comp] at hc;split at hc
  ·rename_i ai;simp only[Option.bind_eq_bind,Option.bind_eq_some_iff] at hc;obtain⟨vx,hx,vy,hy,hc⟩:=hc;simp at hc;subst hc;intro B cJ ro n Q env σ ρ w a h hH hL hd hR Q' hQ;simp only[vwp] at h;obtain⟨t,ht,h1,h2⟩:=cond_true h;have hv:=XL hL ai;rw[ht] at hv;refine wpIn_cond_split hv.bool_inv (fun e=>?_) (fun e=>?_)
   ·exact iQ vx hx cJ ro n Q env σ ρ w a (h1 e) hH hL hd hR Q' hQ
   ·exact ml vy hy cJ ro n Q env σ ρ w a (h2 e) hH hL hd hR Q' hQ
  ·simp at hc;subst hc;exact Dg _
 |block id x iQ =>
  intro vc hc;simp only[comp,Option.bind_eq_bind,Option.bind_eq_some_iff] at hc;obtain⟨vx,hx,hc⟩:=hc;simp at hc;subst hc;intro B cJ ro n Q env σ ρ w a h hH hL hd hR Q' hQ;simp only[vwp] at h;refine wpIn_block (iQ vx hx cJ ro n _ env σ ρ w a h hH hL hd hR _ ?_);rintro e a1 w1 ⟨bg,ρ1,σ1,k1,k0,k2,k3,k4,k5⟩;cases e with
  |exit gj =>
   simp only[Ac] at k1;simp only[Exit.inBlock];split at k1
   ·rename_i he;rw[if_pos he];exact hQ _ a1 w1 ⟨bg,ρ1,σ1,k1,k0,k2,k3,k4,k5⟩
   ·rename_i he;rw[if_neg he];exact hQ _ a1 w1 ⟨bg,ρ1,σ1,k1,k0,k2,k3,k4,k5⟩
  |_=>exact hQ _ a1 w1 ⟨bg,ρ1,σ1,k1,k0,k2,k3,k4,k5⟩
 |loop x iQ =>intro vc hc;simp only[comp,Option.bind_eq_bind,Option.bind_eq_some_iff] at hc;obtain⟨vx,hx,hc⟩:=hc;simp at hc;subst hc;exact EH (iQ vx hx)
 |rangeFunc g ps x y iQ ml =>
  intro vc hc;simp only[comp] at hc;split at hc
  ·rename_i ai;simp only[Option.bind_eq_bind,Option.bind_eq_some_iff] at hc;obtain⟨vx,hx,vy,hy,hc⟩:=hc;simp at hc;subst hc;exact CW hS (iQ vx hx) (ml vy hy) g ai ps
  ·simp at hc;subst hc;exact Dg _
 |exit id =>intro vc hc;simp[comp] at hc;subst hc;intro B cJ ro n Q env σ ρ w a h hH hL hd hR Q' hQ;exact wpIn_exit (hQ _ _ _ ⟨env,ρ,σ,h,rfl,hH,hL,hd,Ext.refl _ _ _⟩)
 |ret =>intro vc hc;simp[comp] at hc;subst hc;intro B cJ ro n Q env σ ρ w a h hH hL hd hR Q' hQ;exact wpIn_ret (hQ _ _ _ ⟨env,ρ,σ,h,rfl,hH,hL,hd,Ext.refl _ _ _⟩)
 |_ =>intro vc hc;simp[comp] at hc;subst hc;exact Dg _
end
end Go.V
namespace Go.V
open Go
inductive Ren (n:Nat) (π:Nat→Nat):Value→Value→Prop
 |plain (v:Value) (h:QO v=true):Ren n π v v
 |poison (c:Value):Ren n π poison c
 |glob (g o s:Nat):Ren n π (.pointer (some ⟨g,o,some s⟩)) (.pointer (some ⟨g,o,some s⟩))
 |ptr (i o:Nat) (hi:i<n):Ren n π (.pointer (some ⟨i,o,none⟩)) (.pointer (some ⟨π i,o,none⟩))
 |sl (i o len cap:Nat) (hi:i<n):Ren n π (.slice (some ⟨i,o,none⟩) len cap) (.slice (some ⟨π i,o,none⟩) len cap)
 |map (i:Nat) (hi:i<n):Ren n π (.map (some i)) (.map (some (π i)))
 |iface (t:TypeId) (v c:Value) (h:Ren n π v c):Ren n π (.iface t v) (.iface t c)
 |yield (i:Nat) (hi:i<n):Ren n π (.func (.yield i) #[] #[]) (.func (.yield (π i)) #[] #[])
 |func (fn:FuncId) (fs gs cs ds:Array Value) (hf:fs.size=gs.size) (hc:cs.size=ds.size)
   (h1:∀ i (h1:i<fs.size) (h2:i<gs.size),Ren n π fs[i] gs[i]) (h2:∀ i (h1:i<cs.size) (h2:i<ds.size),Ren n π cs[i] ds[i]):Ren n π (.func (.func fn) fs cs) (.func (.func fn) gs ds)
 |agg (cs ds:Array Value) (hc:cs.size=ds.size) (h:∀ i (h1:i<cs.size) (h2:i<ds.size),Ren n π cs[i] ds[i]):Ren n π (.agg cs) (.agg ds)
 |tuple (cs ds:Array Value) (hc:cs.size=ds.size) (h:∀ i (h1:i<cs.size) (h2:i<ds.size),Ren n π cs[i] ds[i]):Ren n π (.tuple cs) (.tuple ds)
def LRen (n:Nat) (π:Nat→Nat) (vs cs:List Value):Prop:=vs.length=cs.length∧∀ (i:Nat) (v c:Value),vs[i]?=some v→cs[i]?=some c→Ren n π v c
theorem Ren.rel {ρ:Plc}{nf n':Nat}{π:Nat→Nat}{v' v:Value}(h:Ren n' π v' v):∀ {c:Value},VRel ρ nf v c→VRel (fun i=>if i<n' then ρ (π i) else none) n' v' c:=by
 induction h with
 |plain v h =>intro c hv;have:c=v:=KG h hv;subst this;exact XY h
 |poison c=>intro c _;exact .poison _
 |glob g o s=>intro c hv;cases hv;exact .glob _ _ _
 |ptr i o hi =>intro c hv;obtain⟨a,rfl,_,h⟩:=hv.ptr_inv';exact .ptr _ _ _ hi fun p hp=>h p (by simpa [hi] using hp)
 |sl i o len cap hi =>intro c hv;obtain⟨a,ao,rfl,_,h⟩:=hv.sl_inv;exact .sl _ _ _ _ _ _ hi fun p hp=>h p (by simpa [hi] using hp)
 |map i hi =>
  intro c hv;cases hv with
  |map _ r _ h=>exact .map _ _ hi fun p hp=>h p (by simpa [hi] using hp)
 |yield i hi =>
  intro c hv;cases hv with
  |yield _ r _ h=>exact .yield _ _ hi fun p hp=>h p (by simpa [hi] using hp)
 |iface t v c h ih =>
  intro c hv;cases hv with
  |iface _ _ _ h=>exact .iface _ _ _ (ih h)
 |func fn fs gs cs ds hf hc h1 h2 jN jO =>
  intro c hv;cases hv with
  |func _ _ uK _ ds' kg cz ie lk =>exact .func _ _ _ _ _ (hf.trans kg) (hc.trans cz) (fun i k1 k2=>jN i k1 (by omega) (ie i (by omega) k2)) (fun i k1 k2=>jO i k1 (by omega) (lk i (by omega) k2))
 |agg cs ds hc h ih =>
  intro c hv;cases hv with
  |agg _ ds' cz h'=>exact .agg _ _ (hc.trans cz) fun i k1 k2=>ih i k1 (by omega) (h' i (by omega) k2)
 |tuple cs ds hc h ih =>
  intro c hv;cases hv with
  |tuple _ ds' cz h'=>exact .tuple _ _ (hc.trans cz) fun i k1 k2=>ih i k1 (by omega) (h' i (by omega) k2)
theorem VRel.ren {ρ:Plc}{n n':Nat}{π:Nat→Nat}(hn:n≤n') (hπ:∀ i,i<n→π i=i) {v c:Value}(h:VRel ρ n v c):Ren n' π v v:=by
 induction h with
 |poison c=>exact .poison _
 |bool b=>exact .plain _ rfl
 |int k x=>exact .plain _ rfl
 |string s=>exact .plain _ rfl
 |nilPtr=>exact .plain _ rfl
 |nilSl=>exact .plain _ rfl
 |nilMap=>exact .plain _ rfl
 |nilFunc=>exact .plain _ rfl
 |nilIface=>exact .plain _ rfl
 |glob g o s=>exact .glob _ _ _
 |ptr i o a hi h=>have:=Ren.ptr (n:=n') (π:=π) i o (by omega);rwa [hπ i hi] at this
 |sl i o len cap a ao hi h=>have:=Ren.sl (n:=n') (π:=π) i o len cap (by omega);rwa [hπ i hi] at this
 |map i r hi h=>have:=Ren.map (n:=n') (π:=π) i (by omega);rwa [hπ i hi] at this
 |yield i r hi h=>have:=Ren.yield (n:=n') (π:=π) i (by omega);rwa [hπ i hi] at this
 |iface t v c _ ih=>exact .iface _ _ _ ih
 |func fn fs gs cs ds hf hc _ _ jN jO=>exact .func _ _ _ _ _ rfl rfl (fun i k1 _=>jN i k1 (by omega)) (fun i k1 _=>jO i k1 (by omega))
 |agg cs ds hc _ ih=>exact .agg _ _ rfl fun i k1 _=>ih i k1 (by omega)
 |tuple cs ds hc _ ih=>exact .tuple _ _ rfl fun i k1 _=>ih i k1 (by omega)
theorem LRen.rel {ρ:Plc}{nf n':Nat}{π:Nat→Nat}{cK vs:List Value}(h:LRen n' π cK vs) {cs:List Value}(hL:LRel ρ nf vs cs):LRel (fun i=>if i<n' then ρ (π i) else none) n' cK cs:=by
 refine⟨h.1.trans hL.1,fun i v c hv hc=>?_⟩;have ah:i<vs.length:=by rw[←h.1];exact(List.getElem?_eq_some_iff.1 hv).1
 exact(h.2 i v _ hv (List.getElem?_eq_getElem ah)).rel (hL.2 i _ c (List.getElem?_eq_getElem ah) hc)
theorem LRel.ren {ρ:Plc}{n n':Nat}{π:Nat→Nat}(hn:n≤n') (hπ:∀ i,i<n→π i=i) {vs cs:List Value}(h:LRel ρ n vs cs):LRen n' π vs vs :=
 ⟨rfl,fun i v u hv hu=>by
  obtain rfl:v=u:=osj (hv.symm.trans hu);obtain⟨c,_,hc⟩:=h.get hv;exact hc.ren hn hπ⟩
def ORen (n:Nat) (π:Nat→Nat):VObj→VObj→Prop
 |.map es clock,.map fs ki=>clock=ki∧es.length=fs.length∧∀ (k:Nat) (a b:JA),es[k]?=some a→fs[k]?=some b→a.1=b.1∧a.2.2=b.2.2∧Ren n π a.2.1 b.2.1
 |.iter m since seen last,.iter m' kj mn mq=>m'=π m∧m<n∧since=kj∧seen=mn∧last=mq
 |.lp env r st pend,.lp ae r' ld bI=>LRen n π env ae∧r=r'∧st=ld∧pend=bI
 |_,_=>False
theorem ORen.rel {ρ:Plc}{nf n':Nat}{π:Nat→Nat}{o' o:VObj}(h:ORen n' π o' o) {O:Obj}(hO:ORel ρ nf o O):ORel (fun i=>if i<n' then ρ (π i) else none) n' o' O:=by
 cases o'<;>cases o<;>try exact h.elim
 ·obtain⟨rfl,hl,hk⟩:=h;obtain⟨entries,h1,h2,h3⟩:=hO;refine⟨entries,h1,by rw[hl];exact h2,fun k a ha=>?_⟩;have aM:=(List.getElem?_eq_some_iff.1 ha).1;rw[hl] at aM;obtain⟨e,he,h4,h5,h6⟩:=h3 k _ (List.getElem?_eq_getElem aM);obtain⟨k1,k2,k3⟩:=hk k a _ ha (List.getElem?_eq_getElem aM);exact⟨e,he,h4.trans k1.symm,h5.trans k2.symm,k3.rel h6⟩
 ·obtain⟨rfl,hm,rfl,rfl,rfl⟩:=h;obtain⟨rm,h1,h2⟩:=hO;exact⟨rm,h1,(Ren.map _ hm).rel h2⟩
 ·obtain⟨hl,rfl,rfl,rfl⟩:=h;exact⟨hO.1,hl.rel hO.2⟩
theorem ORel.ren {ρ:Plc}{n n':Nat}{π:Nat→Nat}(hn:n≤n') (hπ:∀ i,i<n→π i=i) {o:VObj}{O:Obj}(h:ORel ρ n o O):ORen n' π o o:=by
 cases o with
 |map es clock =>obtain⟨entries,h1,h2,h3⟩:=h;refine⟨rfl,rfl,fun k a b ha hb=>?_⟩;obtain rfl:a=b:=osj (ha.symm.trans hb);obtain⟨e,_,_,_,hv⟩:=h3 k a ha;exact⟨rfl,rfl,hv.ren hn hπ⟩
 |iter m since seen last =>
  obtain⟨rm,h1,h2⟩:=h;cases h2 with
  |map _ _ hi _=>exact⟨(hπ m hi).symm,by omega,rfl,rfl,rfl⟩
 |lp env r st pend=>exact⟨h.2.ren hn hπ,rfl,rfl,rfl⟩
def BRen (n:Nat) (π:Nat→Nat):Blk→Blk→Prop
 |.cells c esz wr tight,.cells d mr jY gL=>esz=mr∧wr=jY∧tight=gL∧LRen n π c d
 |.obj o wr,.obj o' jY=>wr=jY∧ORen n π o o'
 |_,_=>False
theorem BRen.wr {n:Nat}{π:Nat→Nat}{b c:Blk}(h:BRen n π b c):b.wr=c.wr:=by cases b<;>cases c<;>first|(exact h.elim)|exact h.2.1|exact h.1
theorem BRen.rel {ρ:Plc}{nf n':Nat}{π:Nat→Nat}{p:Pl}{w:World}{b' b:Blk}(h:BRen n' π b' b) (hB:BRel ρ nf p w b):BRel (fun i=>if i<n' then ρ (π i) else none) n' p w b':=by
 cases b' with
 |cells c esz wr tight =>
  cases b with
  |cells d mr jY gL =>
   obtain⟨rfl,rfl,rfl,hl⟩:=h;obtain⟨h1,h2,h3,h4,h5,h6⟩:=hB;refine⟨h1,h2,by rw[hl.1];exact h3,h4,fun k v hk=>?_,h6⟩;have aM:k<d.length:=by rw[←hl.1];exact(List.getElem?_eq_some_iff.1 hk).1
   obtain⟨u,hu,hv⟩:=h5 k _ (List.getElem?_eq_getElem aM);exact⟨u,hu,(hl.2 k v _ hk (List.getElem?_eq_getElem aM)).rel hv⟩
  |obj _ _=>exact h.elim
 |obj o wr =>
  cases b with
  |cells _ _ _ _=>exact h.elim
  |obj o' jY =>obtain⟨rfl,ho⟩:=h;obtain⟨h0,O,h1,h2⟩:=hB;exact⟨h0,O,h1,ho.rel h2⟩
def VObj.plain:VObj→Bool
 |.map es _=>es.all fun kv=>QO kv.2.1
 |_=>false
def Blk.plain:Blk→Bool
 |.cells c _ _ _=>c.all QO
 |.obj o _=>o.plain
theorem LRen.plain {n:Nat}{π:Nat→Nat}{c:List Value}(h:c.all QO=true):LRen n π c c :=
 ⟨rfl,fun i v u hv hu=>by
  obtain rfl:v=u:=osj (hv.symm.trans hu);exact .plain _ (List.all_eq_true.1 h v (List.mem_of_getElem? hv))⟩
theorem BRen.plain {n:Nat}{π:Nat→Nat}{b:Blk}(h:b.plain=true):BRen n π b b:=by
 cases b with
 |cells c esz wr tight=>exact⟨rfl,rfl,rfl,LRen.plain h⟩
 |obj o wr =>
  cases o with
  |map es clock =>refine⟨rfl,rfl,rfl,fun k a b ha hb=>?_⟩;obtain rfl:a=b:=osj (ha.symm.trans hb);exact⟨rfl,rfl,.plain _ (List.all_eq_true.1 h a (List.mem_of_getElem? ha))⟩
  |_=>cases h
theorem BRel.ren {ρ:Plc}{n n':Nat}{π:Nat→Nat}(hn:n≤n') (hπ:∀ i,i<n→π i=i) {p:Pl}{w:World}{b:Blk}(h:BRel ρ n p w b):BRen n' π b b:=by
 cases b with
 |cells c esz wr tight =>refine⟨rfl,rfl,rfl,rfl,fun i v u hv hu=>?_⟩;obtain rfl:v=u:=osj (hv.symm.trans hu);obtain⟨_,_,sD⟩:=h.2.2.2.2.1 i v hv;exact sD.ren hn hπ
 |obj o wr =>obtain⟨_,O,_,ho⟩:=h;exact⟨rfl,ho.ren hn hπ⟩
def DropTo (σ0:Heap) (v:Value) (σf:Heap) (v':Value) (σ':Heap):Prop :=
 ∀ ρ0 w0 ρ w c,HRel ρ0 σ0 w0→Ext ρ0 σ0 w0 ρ σf w→HRel ρ σf w→VRel ρ σf.n v c→∃ ρ',VRel ρ' σ'.n v' c∧HRel ρ' σ' w∧Ext ρ0 σ0 w0 ρ' σ' w
theorem DropTo.refl (σ0:Heap) (v:Value) (σf:Heap):DropTo σ0 v σf v σf:=fun _ _ ρ _ _ _ hE hH hv=>⟨ρ,hv,hH,hE⟩
theorem DropTo.rename {σ0 σf σ':Heap}{v v':Value}(π:Nat→Nat) (h1:σ0.n≤σ'.n)
  (h2:∀ i,i<σ0.n→π i=i∧σ'.get i=σf.get i∧(σf.get i=σ0.get i∨∃ b,σf.get i=some b∧b.plain=true))
  (h3:∀ i,σ0.n≤i→i<σ'.n→σ0.n≤π i∧∃ b' b,σ'.get i=some b'∧σf.get (π i)=some b∧BRen σ'.n π b' b)
  (h4:∀ i j,σ0.n≤i→i<σ'.n→σ0.n≤j→j<σ'.n→π i=π j→i=j) (h5:Ren σ'.n π v' v):DropTo σ0 v σf v' σ':=by
 intro ρ0 w0 ρ w c fp hE hH hv;have hπ:∀ i,i<σ0.n→π i=i:=fun i hi=>(h2 i hi).1;have aC:∀ i b',σ'.get i=some b'→∃ b,σf.get (π i)=some b∧BRen σ'.n π b' b:=fun i b' hb=>by
  have hi:=σ'.lt hb;rcases Nat.lt_or_ge i σ0.n with ah|a_
  ·obtain⟨k1,k2,k3⟩:=h2 i ah;rw[k1];rw[k2] at hb;refine⟨b',hb,?_⟩;rcases k3 with k3|⟨b,k3,k4⟩
   ·rw[k3] at hb;obtain⟨p,_,hB⟩:=fp.live i b' hb;exact hB.ren h1 hπ
   ·rw[k3] at hb;obtain rfl:=osj hb;exact BRen.plain k4
  ·obtain⟨_,b1,b,k1,k2,k3⟩:=h3 i a_ hi;rw[k1] at hb;obtain rfl:=osj hb;exact⟨b,k2,k3⟩
 have ec:∀ i j,i<σ'.n→j<σ'.n→π i=π j→i=j:=fun i j hi hj he=>by
  rcases Nat.lt_or_ge i σ0.n with ah|a_<;>rcases Nat.lt_or_ge j σ0.n with bM|gM
  ·rw[hπ i ah,hπ j bM] at he;exact he
  ·have:=(h3 j gM hj).1;rw[hπ i ah] at he;omega
  ·have:=(h3 i a_ hi).1;rw[hπ j bM] at he;omega
  ·exact h4 i j a_ hi gM hj he
 have hX:Ext ρ0 σ0 w0 (fun i=>if i<σ'.n then ρ (π i) else none) σ' w:=by
  refine⟨hE.os,hE.tape,hE.output,hE.size,hE.keep,?_,h1,fun i hi p hp=>?_⟩
  ·rintro B hB ⟨i,p,b,hp,hb,hw,rfl⟩;change (if i<σ'.n then ρ (π i) else none)=some p at hp;split at hp
   ·obtain⟨b0,bc,bV⟩:=aC i b hb;exact hE.wr _ hB ⟨π i,p,b0,hp,bc,by rw[←bV.wr];exact hw,rfl⟩
   ·cases hp
  ·change (if i<σ'.n then ρ (π i) else none)=some p at hp;split at hp
   ·rw[hπ i hi] at hp;exact hE.pl i hi p hp
   ·cases hp
 refine⟨fun i=>if i<σ'.n then ρ (π i) else none,h5.rel hv,fp.ext ⟨fun i b' hb=>?_,fun i hi=>?_,fun i p hp=>?_,fun i j p q b bZ hp hq hb hw hx=>?_⟩ hX,hX⟩
 ·obtain⟨b,bc,bV⟩:=aC i b' hb;obtain⟨p,hp,hB⟩:=hH.live _ b bc;exact⟨p,by simp[σ'.lt hb,hp],bV.rel hB⟩
 ·show (if i<σ'.n then ρ (π i) else none)=none;split
  ·rename_i ah;rcases Nat.lt_or_ge i σ0.n with bM|a_
   ·obtain⟨k1,k2,_⟩:=h2 i bM;rw[k1];exact hH.dead i (by rw[←k2];exact hi)
   ·obtain⟨_,b1,b,k1,_⟩:=h3 i a_ ah;rw[k1] at hi;cases hi
  ·rfl
 ·change (if i<σ'.n then ρ (π i) else none)=some p at hp;split at hp
  ·exact hH.lt _ p hp
  ·cases hp
 ·change (if i<σ'.n then ρ (π i) else none)=some p at hp;change (if j<σ'.n then ρ (π j) else none)=some q at hq;split at hp
  ·rename_i hi;split at hq
   ·rename_i hj;obtain⟨b0,bc,bV⟩:=aC i b hb;exact hH.sep (π i) (π j) p q b0 (fun e=>bZ (ec i j hi hj e)) hp hq bc (by rw[←bV.wr];exact hw) hx
   ·cases hq
  ·cases hp
def Agree (σ0 σf:Heap):Prop:=∀ i,i<σ0.n→σf.get i=σ0.get i
theorem Agree.refl (σ:Heap):Agree σ σ:=fun _ _=>rfl
theorem Agree.push {σ0 σ:Heap}(h:Agree σ0 σ) (hn:σ0.n≤σ.n) (b:Blk):Agree σ0 (σ.push b):=fun i hi=>(Heap.get_push_lt σ b (by omega)).trans (h i hi)
theorem Agree.trans {σ0 σ1 σ2:Heap}(h:Agree σ0 σ1) (k:Agree σ1 σ2) (hn:σ0.n≤σ1.n):Agree σ0 σ2:=fun i hi=>(k i (by omega)).trans (h i hi)
section
variable {P:Program}{S:VSpecs}
def Vu (tmps:Array Value):ResultVar→Sem Value
 |.tmp t=>pure (tmps.getD t undef)
 |.cell a t=>do loadVar t (←asAddr (tmps.getD a undef))
theorem RB (fn:Func) (tmps:Array Value):results fn tmps=(do
  let vs ←fn.results.mapM (Vu tmps)
  pure (if h:vs.size=1 then vs[0] else .tuple vs)):=by
 unfold results;congr 1
theorem Sb {ρ:Plc}{σ:Heap}{w:World}{env:Env}{tmps:Array Value}(hH:HRel ρ σ w) (hL:LRel ρ σ.n env tmps.toList) {r:ResultVar}{vr:VResult}
  (hc:JF P r=some vr) {v:Value}(h:Jv env σ vr=some v):∃ c,VRel ρ σ.n v c∧(Vu tmps r).run P w=.ok c w:=by
 have af:∀ t,VRel ρ σ.n (env.getD t undef) (tmps.getD t undef):=fun t=>XL (a:=⟨tmps,[]⟩) hL (x:=.tmp t) rfl;cases r with
 |tmp t =>simp[JF] at hc;subst hc;simp only[Jv,Option.some.injEq] at h;subst h;exact⟨_,af t,rfl⟩
 |cell a t =>
  simp only[JF] at hc;split at hc
  ·rename_i i d hi hu;simp at hc;subst hc;simp only[Jv,Option.map_eq_some_iff] at h;obtain⟨p,hp,rfl⟩:=h;simp only[Q4,Q2] at hp;have ha:=af a;split at hp
   ·rename_i g o s h1;rw[h1] at ha;split at hp
    ·rename_i c hb;split at hp
     ·rename_i hall;split at hp
      ·rename_i v0 hv;simp at hp;subst hp;obtain⟨u,cf,hr⟩:=C6 hH hi hu hb hall hv ha;refine⟨u,cf,?_⟩;have:=hr w (Like.refl ρ w);have mu:tmps.getD a undef=.pointer (some ⟨g,o,none⟩):=by
        generalize tmps.getD a undef=c at ha;cases ha;rfl
       rw[mu] at this;simp only[Instr.loadAt,Instr.sureAddr,Sem.run_bind,Sem.run_pure,Result.andThen_ok] at this;simp only[Vu,mu,asAddr,Sem.run_bind,Sem.run_pure,Result.andThen_ok];exact this
      ·cases hp
     ·cases hp
    ·cases hp
   ·rename_i i' o h1;rw[h1] at ha;split at hp
    ·rename_i c esz wr tight hb;split at hp
     ·rename_i v0 hv;simp at hp;subst hp;obtain⟨u,cf,hr⟩:=AJ hH hi hu hb hv ha;refine⟨u,cf,?_⟩;have:=hr w (Like.refl ρ w);obtain⟨ad,mu,_⟩:=ha.ptr_inv';rw[mu] at this;simp only[Instr.loadAt,Instr.sureAddr,Sem.run_bind,Sem.run_pure,Result.andThen_ok] at this;simp only[Vu,mu,asAddr,Sem.run_bind,Sem.run_pure,Result.andThen_ok];exact this
     ·cases hp
    ·cases hp
   ·cases hp
  ·cases hc
theorem Cz {α:Type}{ρ:Plc}{n:Nat}(g:α→Sem Value) (w:World) (f:α→Option Value):∀ (l:List α) (vs:List Value),l.mapM f=some vs →
  (∀ a∈l,∀ v,f a=some v→∃ c,VRel ρ n v c∧(g a).run P w=.ok c w)→∃ cs,LRel ρ n vs cs∧(l.mapM g).run P w=.ok cs w:=by
 intro l;induction l with
 |nil=>intro vs h _;simp at h;subst h;exact⟨[],LRel.nil _ _,rfl⟩
 |cons a l ih =>
  intro vs h hg;rw[List.mapM_cons] at h;cases hf:f a with
  |none=>simp[hf] at h
  |some v =>
   cases hm:l.mapM f with
   |none=>simp[hf,hm] at h
   |some cK =>simp[hf,hm] at h;subst h;obtain⟨c,eS,gg⟩:=hg a (by simp) v hf;obtain⟨cs,ph,iR⟩:=ih cK hm (fun b hb=>hg b (by simp[hb]));refine⟨c::cs,LRel.cons eS ph,?_⟩;rw[List.mapM_cons];simp[gg,iR]
theorem TI {ρ:Plc}{σ:Heap}{w:World}{env:Env}{tmps:Array Value}(hH:HRel ρ σ w) (hL:LRel ρ σ.n env tmps.toList) {fn:Func}{rs:List VResult}
  (hc:VQ P fn.results.toList=some rs) {v:Value}(h:Xk env σ rs=some v):∃ c,VRel ρ σ.n v c∧(results fn tmps).run P w=.ok c w:=by
 unfold VQ at hc;have hall:∀ vs,rs.mapM (Jv env σ)=some vs→∃ cs,LRel ρ σ.n vs cs∧(fn.results.mapM (Vu tmps)).run P w=.ok cs.toArray w:=by
  intro vs cj;have mv:fn.results.toList.mapM (fun r=>(JF P r).bind (Jv env σ))=some vs:=by
   have:∀ (l:List ResultVar) (rs:List VResult) (vs:List Value),l.mapM (JF P)=some rs→rs.mapM (Jv env σ)=some vs→l.mapM (fun r=>(JF P r).bind (Jv env σ))=some vs:=by
    intro l;induction l with
    |nil=>intro rs vs h1 h2;simp at h1;subst h1;simpa using h2
    |cons r l ih =>
     intro rs vs h1 h2;rw[List.mapM_cons] at h1;cases hg:JF P r with
     |none=>simp[hg] at h1
     |some x =>
      cases hm:l.mapM (JF P) with
      |none=>simp[hg,hm] at h1
      |some bj =>
       simp[hg,hm] at h1;subst h1;rw[List.mapM_cons] at h2;cases hx:Jv env σ x with
       |none=>simp[hx] at h2
       |some y =>
        cases gf:bj.mapM (Jv env σ) with
        |none=>simp[hx,gf] at h2
        |some cK =>simp[hx,gf] at h2;subst h2;rw[List.mapM_cons];simp[hg,hx,ih bj cK hm gf]
   exact this _ _ _ hc cj
  obtain⟨cs,k1,k2⟩:=Cz (P:=P) (ρ:=ρ) (n:=σ.n) (Vu tmps) w _ _ _ mv (fun r _ v hv=>by
   cases hr:JF P r with
   |none=>rw[hr] at hv;cases hv
   |some vr=>rw[hr] at hv;exact Sb hH hL hr hv)
  refine⟨cs,k1,?_⟩;rw[Array.mapM_eq_mapM_toList];simp[k2]
 unfold Xk at h;split at h
 ·rename_i r;obtain⟨cs,k1,k2⟩:=hall [v] (by simp[h]);have cA:cs.length=1:=by rw[←k1.1];rfl
  obtain⟨c,rfl⟩:=List.length_eq_one_iff.1 cA;refine⟨c,k1.2 0 v c rfl rfl,?_⟩;rw[RB];simp only[Sem.run_bind];rw[k2];simp
 ·rename_i aF;simp only[Option.map_eq_some_iff] at h;obtain⟨vs,cj,rfl⟩:=h;obtain⟨cs,k1,k2⟩:=hall vs cj;refine⟨.tuple cs.toArray,VRel.tuple_of k1,?_⟩;have hl:cs.length≠1:=by
   rw[←k1.1,(XN _ _ _ cj).1];intro e;obtain⟨r,hr⟩:=List.length_eq_one_iff.1 e;exact aF r hr
  rw[RB];simp only[Sem.run_bind];rw[k2];simp[hl]
theorem C5 {ρ:Plc}{n:Nat}(k:Nat):LRel ρ n (List.replicate k undef) (List.replicate k undef) :=
 ⟨rfl,fun i v c hv hc=>by
  obtain rfl:v=c:=osj (hv.symm.trans hc);have:=List.mem_of_getElem? hv;rw[List.mem_replicate] at this;rw[this.2];exact JE⟩
theorem H2 {w:World}{D:Nat}{ds:List Deferred}(h:w.heap[D]?=some (.deferred (some ds))):(Instr.takeDeferred D).run P w=.ok ds (Pv w D (.deferred none)):=by simp[Instr.takeDeferred,Qw h (fun _ _ _ e=>by cases e),QV h (fun _ _ _ e=>by cases e)]
theorem Ext.mark {ρ0 ρ:Plc}{σ0 σ:Heap}{w0 w:World}(hE:Ext ρ0 σ0 w0 ρ σ w) {D:Nat}(hD:w0.heap.size≤D) (O:Obj):Ext ρ0 σ0 w0 ρ σ (Pv w D O) :=
 ⟨hE.os,hE.tape,hE.output,by rw[Gk];exact hE.size,fun B hB hW=>(YA w D O B (by omega)).trans (hE.keep B hB hW),hE.wr,hE.n,hE.pl⟩
theorem HRel.mark {ρ:Plc}{σ:Heap}{w:World}(hH:HRel ρ σ w) {D:Nat}{d:Option (List Deferred)}(hD:w.heap[D]?=some (.deferred d)) (O:Obj):HRel ρ σ (Pv w D O) :=
 hH.world (by rw[Gk];exact Nat.le_refl _) (fun i p hp=>YA w D O p.blk (hH.not_deferred hD i p hp)) fun g cs hg=>YA w D O g fun e=>by obtain⟨⟨e',f,h1⟩,_⟩:=hH.tab g cs hg;rw[e,hD] at h1;cases h1
theorem L8 {fn:Func}{tmps:Array Value}{R:Ending→World→Prop}{ρ0:Plc}{σ0:Heap}{w0:World}{ρ:Plc}{σ:Heap}
  (pj:∀ w,HRel ρ σ w→Ext ρ0 σ0 w0 ρ σ w→∃ v,(results fn tmps).run P w=.ok v w∧R (.returned v) w) :
  ∀ (Ds:List Nat) (w:World),Ds.Nodup→(∀ D∈Ds,w0.heap.size≤D∧w.heap[D]?=some (.deferred (some [])))→HRel ρ σ w→Ext ρ0 σ0 w0 ρ σ w →
   LeavesInM Fence.wide 0 P fn tmps R (Ds.map fun D=>⟨.collected D,#[]⟩) .returning w:=by
 intro Ds;induction Ds with
 |nil=>intro w _ _ hH hE;exact pj w hH hE
 |cons D Ds ih =>intro w iJ hall hH hE;obtain⟨h1,h2⟩:=List.nodup_cons.1 iJ;obtain⟨h3,h4⟩:=hall D (by simp);refine⟨by simp,.inl ⟨D,_,rfl,H2 h4,ih _ h2 (fun E bK=>?_) (hH.mark h4 _) (hE.mark h3 _)⟩⟩;obtain⟨k1,k2⟩:=hall E (by simp[bK]);exact⟨k1,by rw[YA _ _ _ _ (by rintro rfl;exact h1 bK)];exact k2⟩
theorem Br (hm:P.follows .mixedOrders=true) (hS:OkSpecs P S) {f:FuncId}{fn:Func}{c:Code}{vc:VCode}{rs:List VResult}(hf:P.funcs[f]?=some fn) (hb:fn.body=some c) (hc:comp P c=some vc) (hr:VQ P fn.results.toList=some rs)
  {args:List Value}{σ:Heap}{R:Value→Heap→Prop}(h:vwp S vc none (Q5g rs fun v σf=>∃ v' σ',DropTo σ v σf v' σ'∧R v' σ') (args++List.replicate (fn.ntmps-args.length) undef) σ):VCallsTo P f args σ R:=by
 intro ρ w aw hH hL;refine callsIn_wide.1 (callsIn_of_wp_marks (n:=0) hf hb trivial (Ev hm hS c vc hc (B:=w.heap.size) none none 0 _ _ σ ρ w _ h hH ?_ (Mks.nil (Nat.le_refl _)) (.inl ⟨rfl,rfl⟩) _ ?_) rfl)
 ·have hl:args.length=aw.size:=by have:=hL.1;simpa using this
  have:=hL.append (C5 (ρ:=ρ) (n:=σ.n) (fn.ntmps-args.length));simpa [hl] using this
 ·intro e a' w' ⟨ae,ρ',σ',k1,_,k2,k3,⟨_,Ds,k4,k6,k7⟩,k5⟩;have fin:(Z5 (Xk ae σ' rs) fun v=>∃ v' aJ,DropTo σ v σ' v' aJ∧R v' aJ)→LeavesInM Fence.wide 0 P fn a'.tmps (fun e w'=>∃ c,e=.returned c∧Got ρ σ w R c w') a'.defers .returning w':=by
   intro hk;rw[k4];refine L8 (fun w1 hU eT=>?_) Ds w' k6 k7 k2 k5;cases hv:Xk ae σ' rs with
   |none=>rw[hv] at hk;exact hk.elim
   |some v =>rw[hv] at hk;obtain⟨v',aJ,hd,hR⟩:=hk;obtain⟨c,eS,gg⟩:=TI hU k3 hr hv;obtain⟨dQ,j1,j2,j3⟩:=hd ρ w ρ' w1 c hH eT hU eS;exact⟨c,gg,c,rfl,v',dQ,aJ,hR,j1,j2,j3⟩
  cases e with
  |normal=>exact fin k1
  |ret=>exact fin k1
  |_=>exact k1.elim
end
end Go.V
namespace Go.V
open Go
def Fun (P:Program) (f:FuncId) (vc:VCode) (rs:List VResult) (nt:Nat):Prop :=
 ∃ fn,P.funcs[f]?=some fn∧fn.body.bind (comp P)=some vc∧VQ P fn.results.toList=some rs∧fn.ntmps=nt∧(fn.name=="runtime.NumGoroutine")=false
def Q6w (σ:Heap) (rs:List VResult) (R:Value→Heap→Prop):Exit→Env→Heap→Prop:=Q5g rs fun v σf=>∃ v' σ',DropTo σ v σf v' σ'∧R v' σ'
section
variable {P:Program}{S:VSpecs}{f:FuncId}{vc:VCode}{rs:List VResult}{nt:Nat}
theorem Fun.calls (h:Fun P f vc rs nt) (hm:P.follows .mixedOrders=true) (hS:OkSpecs P S) {args:List Value}{σ:Heap}{R:Value→Heap→Prop}
  (hw:vwp S vc none (Q6w σ rs R) (args++List.replicate (nt-args.length) undef) σ):VCalled P f args σ R:=by
 obtain⟨fn,h1,h2,h3,h4,h5⟩:=h;cases hb:fn.body with
 |none=>rw[hb] at h2;cases h2
 |some c =>rw[hb] at h2;exact VCallsTo.called ⟨fn,h1,by rw[hb];rfl,h5⟩ (Br hm hS h1 hb h2 h3 (by rw[h4];exact hw))
theorem Fun.enterable (h:Fun P f vc rs nt):Xg P f:=by
 obtain⟨fn,h1,h2,h3,h4,h5⟩:=h;refine⟨fn,h1,?_,h5⟩;cases hb:fn.body with
 |none=>rw[hb] at h2;cases h2
 |some c=>rfl
theorem Fun.callsTo (h:Fun P f vc rs nt) (hm:P.follows .mixedOrders=true) (hS:OkSpecs P S) {args:List Value}{σ:Heap}{R:Value→Heap→Prop}
  (hw:vwp S vc none (Q6w σ rs R) (args++List.replicate (nt-args.length) undef) σ):VCallsTo P f args σ R:=by
 obtain⟨fn,h1,h2,h3,h4,h5⟩:=h;cases hb:fn.body with
 |none=>rw[hb] at h2;cases h2
 |some c =>rw[hb] at h2;exact Br hm hS h1 hb h2 h3 (by rw[h4];exact hw)
noncomputable def Q1 (P:Program):VSpecs where
 fn f:=some fun args σ K=>VCalled P f args σ K
 yl i:=some fun args σ K=>HI P i args σ K
 it f:=@ite _ (Xg P f) (Classical.propDecidable _) (some fun i Y args σ K=>KZ P i Y→VCallsTo P f args σ K) none
theorem C9 : OkSpecs P (Q1 P) :=
  ⟨fun f s h => by obtain rfl := osj h; exact fun args σ K h => h,
   fun f s h => by obtain rfl := osj h; exact fun args σ K h => h,
   fun f T h => by
    simp only [Q1] at h;split at h
    · rename_i he; obtain rfl := osj h; exact ⟨he, fun i Y hY args σ K h => h hY⟩
    · cases h⟩
end
end Go.V
namespace Go.V
open Go
inductive EB where
 |cells (c:List Value) (esz:El) (wr tight:Bool)
 |map (es:List JA) (clock:Nat) (wr:Bool)
 |iter (m since:Nat) (seen:List Nat) (last:Nat)
 |lp (st:LoopState) (pend:Option Code)
inductive GT (α:Type) where
 |nil
 |node (v:α) (l r:GT α)
noncomputable def GT.get {α:Type}(d:α) (t:GT α):Nat→α :=
 GT.rec (motive:=fun _=>Nat→α) (fun _=>d)
  (fun v _ _ gl gr i=>Bool.rec (motive:=fun _=>α) (Bool.rec (motive:=fun _=>α) (gr (i / 2-1)) (gl (i / 2)) (Nat.beq (i % 2) 1)) v (Nat.beq i 0)) t
noncomputable def GT.set {α:Type}(d:α) (f:Nat):GT α→Nat→α→GT α :=
 Nat.rec (motive:=fun _=>GT α→Nat→α→GT α) (fun t _ _=>t)
  (fun _ ih t i b=>GT.rec (motive:=fun _=>GT α)
   (Bool.rec (motive:=fun _=>GT α) (Bool.rec (motive:=fun _=>GT α) (.node d .nil (ih .nil (i / 2-1) b)) (.node d (ih .nil (i / 2) b) .nil) (Nat.beq (i % 2) 1)) (.node b .nil .nil) (Nat.beq i 0))
   (fun v l r _ _=>Bool.rec (motive:=fun _=>GT α) (Bool.rec (motive:=fun _=>GT α) (.node v l (ih r (i / 2-1) b)) (.node v (ih l (i / 2) b) r) (Nat.beq (i % 2) 1)) (.node b l r) (Nat.beq i 0)) t) f
theorem GT.get_node {α:Type}(d v:α) (l r:GT α) (k:Nat):(GT.node v l r).get d k=if k=0 then v else if k % 2=1 then l.get d (k / 2) else r.get d (k / 2-1):=by
 show (Bool.rec (motive:=fun _=>α) (Bool.rec (motive:=fun _=>α) (r.get d (k / 2-1)) (l.get d (k / 2)) (Nat.beq (k % 2) 1)) v (Nat.beq k 0))=_;by_cases h0:k=0
 ·subst h0;rfl
 ·have:Nat.beq k 0=false:=by
   cases h:Nat.beq k 0 with
   |false=>rfl
   |true=>exact absurd (Nat.eq_of_beq_eq_true h) h0
  rw[this,if_neg h0];by_cases h1:k % 2=1
  ·rw[if_pos h1,h1];rfl
  ·have:Nat.beq (k % 2) 1=false:=by
    cases h:Nat.beq (k % 2) 1 with
    |false=>rfl
    |true=>exact absurd (Nat.eq_of_beq_eq_true h) h1
   rw[this,if_neg h1]
theorem GT.set_node {α:Type}(d v:α) (f:Nat) (l r:GT α) (i:Nat) (b:α):(GT.node v l r).set d (f+1) i b=if i=0 then .node b l r else if i % 2=1 then .node v (l.set d f (i / 2) b) r else .node v l (r.set d f (i / 2-1) b):=by
 show (Bool.rec (motive:=fun _=>GT α) (Bool.rec (motive:=fun _=>GT α) (.node v l (r.set d f (i / 2-1) b)) (.node v (l.set d f (i / 2) b) r) (Nat.beq (i % 2) 1)) (.node b l r) (Nat.beq i 0))=_;by_cases h0:i=0
 ·subst h0;rfl
 ·have:Nat.beq i 0=false:=by
   cases h:Nat.beq i 0 with
   |false=>rfl
   |true=>exact absurd (Nat.eq_of_beq_eq_true h) h0
  rw[this,if_neg h0];by_cases h1:i % 2=1
  ·rw[if_pos h1,h1];rfl
  ·have:Nat.beq (i % 2) 1=false:=by
    cases h:Nat.beq (i % 2) 1 with
    |false=>rfl
    |true=>exact absurd (Nat.eq_of_beq_eq_true h) h1
   rw[this,if_neg h1]
theorem GT.set_nil {α:Type}(d:α) (f i:Nat) (b:α):(GT.nil:GT α).set d (f+1) i b=(GT.node d .nil .nil).set d (f+1) i b:=rfl
theorem GT.get_set {α:Type}(d:α):∀ (f:Nat) (t:GT α) (i:Nat) (b:α) (j:Nat),i+1<2 ^ f→(t.set d f i b).get d j=if j=i then b else t.get d j:=by
 intro f;induction f with
 |zero=>intro t i b j h;simp at h
 |succ f ih =>
  intro t i b j h;have hp:2 ^ (f+1)=2*2 ^ f:=by rw[Nat.pow_succ];omega
  have fN:∀ v l r,((GT.node v l r).set d (f+1) i b).get d j=if j=i then b else (GT.node v l r).get d j:=by
   intro v l r;rw[GT.set_node];by_cases hi:i=0
   ·subst hi;rw[if_pos rfl,GT.get_node,GT.get_node];split<;>rfl
   ·rw[if_neg hi];by_cases ho:i % 2=1
    ·rw[if_pos ho,GT.get_node,GT.get_node,ih _ _ _ _ (by omega)];by_cases g7:j=0
     ·subst g7;rw[if_pos rfl,if_neg (Ne.symm hi),if_pos rfl]
     ·rw[if_neg g7,if_neg g7];by_cases gN:j % 2=1
      ·rw[if_pos gN,if_pos gN];by_cases aI:j=i
       ·subst aI;simp
       ·rw[if_neg aI,if_neg (by omega)]
      ·rw[if_neg gN,if_neg gN,if_neg (by rintro rfl;exact gN ho)]
    ·rw[if_neg ho,GT.get_node,GT.get_node,ih _ _ _ _ (by omega)];by_cases g7:j=0
     ·subst g7;rw[if_pos rfl,if_neg (Ne.symm hi),if_pos rfl]
     ·rw[if_neg g7,if_neg g7];by_cases gN:j % 2=1
      ·rw[if_pos gN,if_pos gN,if_neg (by rintro rfl;exact ho gN)]
      ·rw[if_neg gN,if_neg gN];by_cases aI:j=i
       ·subst aI;simp
       ·rw[if_neg aI,if_neg (by omega)]
  cases t with
  |node v l r=>exact fN v l r
  |nil =>
   rw[GT.set_nil,fN d .nil .nil,GT.get_node];split
   ·rfl
   ·split
    ·rfl
    ·split<;>rfl
structure CH where
 t:GT (Option EB)
 n:Nat
noncomputable def CH.get (h:CH) (i:Nat):Option EB:=Bool.rec (motive:=fun _=>Option EB) none (h.t.get none i) (Nat.blt i h.n)
noncomputable def CH.upd (h:CH) (i:Nat) (b:EB):CH:=⟨h.t.set none 32 i (some b),h.n⟩
noncomputable def CH.kill (h:CH) (i:Nat):CH:=⟨h.t.set none 32 i none,h.n⟩
noncomputable def CH.push (h:CH) (b:EB):CH:=⟨h.t.set none 32 h.n (some b),h.n+1⟩
def CH.room (h:CH):Bool:=Nat.ble h.n 1000000000
def CH.empty:CH:=⟨.nil,0⟩
theorem CH.get_lt {h:CH}{i:Nat}(hi:i<h.n):h.get i=h.t.get none i:=by unfold CH.get;rw[show Nat.blt i h.n=true from Nat.ble_eq_true_of_le hi]
theorem CH.get_ge {h:CH}{i:Nat}(hi:h.n≤i):h.get i=none:=by
 unfold CH.get;cases hb:Nat.blt i h.n with
 |false=>rfl
 |true=>have:=Nat.le_of_ble_eq_true hb;omega
theorem CH.get_upd {h:CH}{i:Nat}{b:EB}(hi:i<h.n) (hs:h.n≤1000000001) (j:Nat):(h.upd i b).get j=if j=i then some b else h.get j:=by
 rcases Nat.lt_or_ge j h.n with hj|hj
 ·rw[CH.get_lt (h:=h.upd i b) hj,CH.get_lt hj];exact GT.get_set none 32 _ _ _ _ (by omega)
 ·rw[CH.get_ge (h:=h.upd i b) hj,CH.get_ge hj,if_neg (by omega)]
theorem CH.get_kill {h:CH}{i:Nat}(hi:i<h.n) (hs:h.n≤1000000001) (j:Nat):(h.kill i).get j=if j=i then none else h.get j:=by
 rcases Nat.lt_or_ge j h.n with hj|hj
 ·rw[CH.get_lt (h:=h.kill i) hj,CH.get_lt hj];exact GT.get_set none 32 _ _ _ _ (by omega)
 ·rw[CH.get_ge (h:=h.kill i) hj,CH.get_ge hj];simp
theorem CH.get_push {h:CH}{b:EB}(hs:h.n≤1000000001) (j:Nat):(h.push b).get j=if j=h.n then some b else h.get j:=by
 rcases Nat.lt_or_ge j (h.n+1) with hj|hj
 ·rw[CH.get_lt (h:=h.push b) hj];show (h.t.set none 32 h.n (some b)).get none j=_;rw[GT.get_set none 32 _ _ _ _ (by omega)];split
  ·rfl
  ·rw[CH.get_lt (by omega)]
 ·rw[CH.get_ge (h:=h.push b) hj,CH.get_ge (by omega),if_neg (by omega)]
def EB.to (q:Env×Loop):EB→Blk
 |.cells c e w t=>.cells c e w t
 |.map es cl w=>.obj (.map es cl) w
 |.iter m s sn l=>.obj (.iter m s sn l) true
 |.lp st pend=>.obj (.lp q.1 q.2 st pend) true
structure CSim (rs:Nat→Env×Loop) (h:CH) (σ:Heap):Prop where
 n:h.n=σ.n
 sm:h.n≤1000000001
 get:∀ i,σ.get i=(h.get i).map (EB.to (rs i))
theorem CSim.cells {rs:Nat→Env×Loop}{h:CH}{σ:Heap}(hs:CSim rs h σ) {i:Nat}{c:List Value}{e:El}{w t:Bool}(hg:h.get i=some (.cells c e w t)):σ.get i=some (.cells c e w t):=by rw[hs.get,hg];rfl
theorem CSim.map {rs:Nat→Env×Loop}{h:CH}{σ:Heap}(hs:CSim rs h σ) {i:Nat}{es:List JA}{cl:Nat}{w:Bool}(hg:h.get i=some (.map es cl w)):σ.get i=some (.obj (.map es cl) w):=by rw[hs.get,hg];rfl
theorem CSim.iter {rs:Nat→Env×Loop}{h:CH}{σ:Heap}(hs:CSim rs h σ) {i m s:Nat}{sn:List Nat}{l:Nat}(hg:h.get i=some (.iter m s sn l)):σ.get i=some (.obj (.iter m s sn l) true):=by rw[hs.get,hg];rfl
theorem CSim.lp {rs:Nat→Env×Loop}{h:CH}{σ:Heap}(hs:CSim rs h σ) {i:Nat}{st:LoopState}{pend:Option Code}(hg:h.get i=some (.lp st pend)):σ.get i=some (.obj (.lp (rs i).1 (rs i).2 st pend) true):=by rw[hs.get,hg];rfl
theorem CSim.lt {rs:Nat→Env×Loop}{h:CH}{σ:Heap}(hs:CSim rs h σ) {i:Nat}{b:EB}(hg:h.get i=some b):i<h.n:=by
 have:σ.get i=some (b.to (rs i)):=by rw[hs.get,hg];rfl
 rw[hs.n];exact σ.lt this
theorem CSim.upd {rs:Nat→Env×Loop}{h:CH}{σ:Heap}(hs:CSim rs h σ) {i:Nat}(hi:i<h.n) {b:EB}{b':Blk}(hb:b.to (rs i)=b'):CSim rs (h.upd i b) (σ.upd i b'):=by
 refine⟨hs.n,hs.sm,fun j=>?_⟩;rw[CH.get_upd hi hs.sm];show (if j=i∧i<σ.n then some b' else σ.get j)=_;by_cases hj:j=i
 ·subst hj;rw[if_pos ⟨rfl,by rw[←hs.n];exact hi⟩,if_pos rfl,←hb];rfl
 ·rw[if_neg (fun e=>hj e.1),if_neg hj];exact hs.get j
theorem CSim.kill {rs:Nat→Env×Loop}{h:CH}{σ:Heap}(hs:CSim rs h σ) {i:Nat}(hi:i<h.n):CSim rs (h.kill i) (σ.kill i):=by
 refine⟨hs.n,hs.sm,fun j=>?_⟩;rw[CH.get_kill hi hs.sm];show (if j=i then none else σ.get j)=_;by_cases hj:j=i
 ·rw[if_pos hj,if_pos hj];rfl
 ·rw[if_neg hj,if_neg hj];exact hs.get j
theorem CSim.push {rs:Nat→Env×Loop}{h:CH}{σ:Heap}(hs:CSim rs h σ) (hr:h.room=true) {b:EB}{b':Blk}(hb:b.to (rs h.n)=b'):CSim rs (h.push b) (σ.push b'):=by
 have hr:h.n≤1000000000:=Nat.le_of_ble_eq_true hr;refine⟨by show h.n+1=σ.n+1;rw[hs.n],by show h.n+1≤_;omega,fun j=>?_⟩;rw[CH.get_push hs.sm];show (if j=σ.n then some b' else σ.get j)=_;rw[←hs.n];by_cases hj:j=h.n
 ·subst hj;rw[if_pos rfl,if_pos rfl,←hb];rfl
 ·rw[if_neg hj,if_neg hj];exact hs.get j
theorem CSim.rs {rs bj:Nat→Env×Loop}{h:CH}{σ:Heap}(hs:CSim rs h σ) (hr:∀ i,i<h.n→bj i=rs i):CSim bj h σ :=
 ⟨hs.n,hs.sm,fun i=>by
  rw[hs.get];cases hg:h.get i with
  |none=>rfl
  |some b=>rw[hr i (hs.lt hg)]⟩
noncomputable def CH.sl (σ:CH) (esz:Nat):Value→Option (List Value)
 |.slice none 0 0=>some []
 |.slice (some ⟨i,o,none⟩) n _ =>
  match σ.get i with
  |some (.cells c e _ _)=>if e.sz=esz∧o+n*esz≤c.length then some ((c.drop o).take (n*esz)) else none
  |_=>none
 |_=>none
noncomputable def CH.mapAt (σ:CH) (m:Nat):Option (List JA×Nat×Bool):=match σ.get m with
 |some (.map es clock wr)=>some (es,clock,wr)
 |_=>none
noncomputable def UM (σ:CH) (b:EB) (v:Value):Option (Value×CH):=if σ.room=true then some (v,σ.push b) else none
noncomputable def R_ (esz:El) (bytes:Nat) (σ:CH) (s:Value) (m:Nat) (xs:List Value):Option (Value×CH) :=
 match s with
 |.slice none 0 0 =>
  if m=0 then some (s,σ) else
  if m*bytes≤2 ^ 46 then UM σ (.cells xs esz true false) (.slice (some ⟨σ.n,0,none⟩) m m) else none
 |.slice (some ⟨i,o,none⟩) n cap =>
  match σ.get i with
  |some (.cells c e wr tight) =>
   if e=esz∧n≤cap∧o+n*esz.sz≤c.length then
    if m=0 then some (s,σ) else
    if n+m≤cap then
     (if wr=true∧o+(n+m)*esz.sz≤c.length then some (.slice (some ⟨i,o,none⟩) (n+m) cap,σ.upd i (.cells (Qm c (o+n*esz.sz) xs) e wr tight)) else none)
    else if (n+m)*bytes≤2 ^ 46 then
     (if tight then UM σ (.cells ((c.drop o).take (n*esz.sz)++xs) esz true false) (.slice (some ⟨σ.n,0,none⟩) (n+m) (n+m))
     else if wr then UM (σ.kill i) (.cells ((c.drop o).take (n*esz.sz)++xs) esz true false) (.slice (some ⟨σ.n,0,none⟩) (n+m) (n+m))
     else none)
    else none
   else none
  |_=>none
 |_=>none
noncomputable def Aj (size:Nat) (σ:CH) (s:Value) (l h:Nat) (m:Option Nat):Option (Value×CH) :=
 match s with
 |.slice none 0 0=>if l=0∧h=0∧(m.getD 0)=0 then some (.slice none 0 0,σ) else none
 |.slice (some ⟨i,o,none⟩) _ cap =>
  match σ.get i with
  |some (.cells _ e _ _) =>
   match m with
   |none=>if e.sz=size∧l≤h∧h≤cap then some (.slice (some ⟨i,o+l*size,none⟩) (h-l) (cap-l),σ) else none
   |some m =>
    if e.sz=size∧l≤h∧h≤m∧m≤cap then
     if m=l then UM σ (.cells [] e false true) (.slice (some ⟨σ.n,0,none⟩) 0 0)
     else some (.slice (some ⟨i,o+l*size,none⟩) (h-l) (m-l),σ)
    else none
  |_=>none
 |_=>none
noncomputable def Q22:Nat→Value→Value→CH→Option Bool
 |0,.pointer none,.pointer none,_=>some true
 |0,.pointer none,.pointer (some _),_=>some false
 |0,.pointer (some _),.pointer none,_=>some false
 |0,.pointer (some ⟨i,o,none⟩),.pointer (some ⟨j,q,none⟩),σ=>if i=j∧o=q∧(σ.get i).isSome=true then some true else none
 |1,.slice none _ _,.slice none _ _,_=>some true
 |1,.slice none _ _,.slice (some _) _ _,_=>some false
 |1,.slice (some _) _ _,.slice none _ _,_=>some false
 |2,.map none,.map none,_=>some true
 |2,.map none,.map (some _),_=>some false
 |2,.map (some _),.map none,_=>some false
 |3,.nilFunc,.nilFunc,_=>some true
 |3,.nilFunc,.func _ _ _,_=>some false
 |3,.func _ _ _,.nilFunc,_=>some false
 |_,_,_,_=>none
noncomputable def XA (o:XOp) (ev:Operand→Value) (σ:CH):Option (Value×CH) :=
 match o with
 |.eqAgg neg s x y=>match ev x,ev y with
  |.agg a,.agg b=>if fits s a.toList=true∧fits s b.toList=true then some (.bool (if neg then !(Ql a.toList b.toList) else Ql a.toList b.toList),σ) else none
  |_,_=>none
 |.eqNil kd neg x y=>match Q22 kd (ev x) (ev y) σ with|some b=>some (.bool (if neg then !b else b),σ)|none=>none
 |.makeMap=>UM σ (.map [] 0 true) (.map (some σ.n))
 |.lookup mk z ok x i =>
  let k:=ev i
  if Zs mk k then
   match ev x with
   |.map none=>some (if ok then .tuple #[z,.bool false] else z,σ)
   |.map (some m)=>match σ.mapAt m with
    |some (es,_,_)=>if es.all (fun e=>Zs mk e.1) then
      (match Qg k es with
      |some e=>some (if ok then .tuple #[e.2.1,.bool true] else e.2.1,σ)
      |none=>some (if ok then .tuple #[z,.bool false] else z,σ)) else none
    |none=>none
   |_=>none
  else none
 |.mapUpdate mk m k v=>match ev m with
  |.map (some i)=>match σ.mapAt i with
   |some (es,clock,true)=>if Zs mk (ev k)&&es.all (fun e=>Zs mk e.1) then some (undef,σ.upd i (.map (Qv (ev k) (ev v) clock es).1 (Qv (ev k) (ev v) clock es).2 true)) else none
   |_=>none
  |_=>none
 |.delete mk m k=>match ev m with
  |.map (some i)=>match σ.mapAt i with
   |some (es,clock,true)=>if Zs mk (ev k)&&es.all (fun e=>Zs mk e.1) then some (.tuple #[],σ.upd i (.map (KF (ev k) es) clock true)) else none
   |_=>none
  |_=>none
 |.lenMap x=>match ev x with
  |.map none=>some (.int .i64 0,σ)
  |.map (some m)=>match σ.mapAt m with
   |some (es,_,_)=>some (.int .i64 es.length,σ)
   |none=>none
  |_=>none
 |.rangeMap x=>match ev x with
  |.map (some m)=>match σ.mapAt m with
   |some (_,clock,_)=>UM σ (.iter m clock [] clock) (.pointer (some ⟨σ.n,0,none⟩))
   |none=>none
  |_=>none
 |.entry x=>match ev x with
  |.pointer (some ⟨i,0,none⟩)=>match σ.get i with
   |some (.iter m _ seen last)=>match σ.mapAt m,seen.getLast? with
    |some (es,clock,_),some b=>if clock=last then (match es.find? (fun e=>e.2.2==b) with|some e=>if KS e.1 then some (.tuple #[e.1,e.2.1],σ) else none|none=>none) else none
    |_,_=>none
   |_=>none
  |_=>none
 |.copy size d s=>match ev d,ev s with
  |.slice db dn _,.slice sb sn sc =>
   if min sn dn=0 then some (.int .i64 0,σ) else
   match db,σ.sl size (.slice sb (min sn dn) sc) with
   |some ⟨i,o,none⟩,some xs=>match σ.get i with
    |some (.cells c e wr tight)=>if wr=true∧e.sz=size∧o+xs.length≤c.length∧xs.all cellOk=true then some (.int .i64 (min sn dn:Nat),σ.upd i (.cells (Qm c o xs) e wr tight)) else none
    |_=>none
   |_,_=>none
  |_,_=>none
 |.clear z x=>match ev x with
  |.slice b n _ =>
   if n=0 then some (.tuple #[],σ) else
   match b with
   |some ⟨i,o,none⟩=>match σ.get i with
    |some (.cells c e wr tight)=>if wr=true∧o+n*z.length≤c.length∧z.all cellOk=true then some (.tuple #[],σ.upd i (.cells (Qm c o (Hm n z)) e wr tight)) else none
    |_=>none
   |_=>none
  |_=>none
 |.toUnsafe x=>match ev x with
  |.pointer none=>some (.pointer none,σ)
  |.pointer (some ⟨i,o,none⟩)=>match σ.get i with
   |some (.cells c _ _ _)=>if o<c.length then some (.pointer (some ⟨i,o,none⟩),σ) else none
   |_=>none
  |_=>none
 |.fromUnsafe u size x=>match ev x with
  |.pointer none=>some (.pointer none,σ)
  |.pointer (some ⟨i,o,none⟩)=>match σ.get i with
   |some (.cells c e true true)=>if o=0∧e.ty=u∧size≤c.length then some (.pointer (some ⟨i,o,none⟩),σ) else none
   |_=>none
  |_=>none
 |.sliceData x=>match ev x with
  |.slice none _ _=>some (.pointer none,σ)
  |.slice (some ⟨i,o,none⟩) _ cap=>if cap≠0∧(σ.get i).isSome=true then some (.pointer (some ⟨i,o,none⟩),σ) else none
  |_=>none
 |.unsafeStr e x n=>match ev x,ev n with
  |.pointer p,.int .i64 k =>
   if k=0 then some (.string ⟨#[]⟩,σ) else
   match p with
   |some ⟨i,o,none⟩=>match σ.get i with
    |some (.cells c el true tight) =>
     if 0<k∧k≤2 ^ 62∧el.ty=e∧o+k.toNat≤c.length then
      (match Bb ((c.drop o).take k.toNat) with
      |some s=>some (.string s,σ.upd i (.cells c el false tight))
      |none=>none) else none
    |_=>none
   |_=>none
  |_,_=>none
 |.bytesStr x=>match ev x with
  |.slice a n c=>match σ.sl 1 (.slice a n c) with
   |some xs=>match Bb xs with|some s=>some (.string s,σ)|none=>none
   |none=>none
  |_=>none
 |.strBytes e x=>match ev x with
  |.string s=>if s.size≤2 ^ 62 then UM σ (.cells (s.data.toList.map fun b=>.int .u8 b.toNat) ⟨1,e⟩ true false) (.slice (some ⟨σ.n,0,none⟩) s.size s.size) else none
  |_=>none
 |_=>none
def Heap.empty:Heap:=⟨fun _=>none,0,fun _ _=>rfl⟩
noncomputable def Ob (o:VOp) (ev:Operand→Value) (σ:CH):Option (Value×CH) :=
 match o with
 |.alloc t z=>UM σ (.cells z ⟨z.length,t⟩ true true) (.pointer (some ⟨σ.n,0,none⟩))
 |.box t x=>match YF (ev x) with
  |some vs=>UM σ (.cells vs ⟨vs.length,t⟩ true true) (.pointer (some ⟨σ.n,0,none⟩))
  |none=>none
 |.buildSlice esz z len parts=>match UF (Hm len z) (parts.map fun p=>(p.1*esz.sz,esz.sz,ev p.2)) with
  |some cs=>UM σ (.cells cs esz true true) (.slice (some ⟨σ.n,0,none⟩) len len)
  |none=>none
 |.load agg size a=>match ev a with
  |.pointer (some ⟨g,o,some _⟩)=>(match Oc g with
   |some c=>if c.all QO then (match XF agg size c o with|some v=>some (v,σ)|none=>none) else none
   |none=>none)
  |.pointer (some ⟨i,o,none⟩)=>match σ.get i with
   |some (.cells c _ _ _)=>match XF agg size c o with|some v=>some (v,σ)|none=>none
   |_=>none
  |_=>none
 |.store size a v=>match ev a,YF (ev v) with
  |.pointer (some ⟨i,o,none⟩),some vs=>match σ.get i with
   |some (.cells c e wr tight)=>if wr=true∧vs.length=size∧o+size≤c.length∧vs.all cellOk=true then some (undef,σ.upd i (.cells (Qm c o vs) e wr tight)) else none
   |_=>none
  |_,_=>none
 |.slice size x lo hi mx =>
  match ev x with
  |.slice a n cap =>
   match Jp ev lo 0,Jp ev hi n,mx with
   |some l,some h,none=>Aj size σ (.slice a n cap) l h none
   |some l,some h,some _=>match Jp ev mx 0,hi with
    |some m,some _=>Aj size σ (.slice a n cap) l h (some m)
    |_,_=>none
   |_,_,_=>none
  |_=>none
 |.makeSlice esz bytes z l c =>
  match ev l,ev c with
  |.int _ a,.int _ b=>if 0≤a∧a≤b∧b*bytes≤2 ^ 46∧b≤2 ^ 46 then UM σ (.cells (Hm b.toNat z) esz true true) (.slice (some ⟨σ.n,0,none⟩) a.toNat b.toNat) else none
  |_,_=>none
 |.append esz bytes s x =>
  match σ.sl esz.sz (ev x),ev x with
  |some xs,.slice _ m _=>if xs.all cellOk then R_ esz bytes σ (ev s) m xs else none
  |_,_=>none
 |.ext o=>XA o ev σ
 |o=>if o.kind=0 then (match Q4 o ev Heap.empty with|some p=>some (p.1,σ)|none=>none) else none
def ESnd (rs:Nat→Env×Loop) (h:CH) (_σ:Heap) (r:Option (Value×Heap)) (p:Value×CH):Prop:=h.n≤p.2.n∧∃ σ',r=some (p.1,σ')∧CSim rs p.2 σ'
theorem ESnd.same {rs:Nat→Env×Loop}{h:CH}{σ:Heap}(hs:CSim rs h σ) {r:Option (Value×Heap)}{v:Value}(hr:r=some (v,σ)):ESnd rs h σ r (v,h):=⟨Nat.le_refl _,σ,hr,hs⟩
theorem ESnd.upd {rs:Nat→Env×Loop}{h:CH}{σ:Heap}(hs:CSim rs h σ) {r:Option (Value×Heap)}{v:Value}{i:Nat}{b:EB}{b0:EB}(hg:h.get i=some b0) {b':Blk}(hb:b.to (rs i)=b') (hr:r=some (v,σ.upd i b')):ESnd rs h σ r (v,h.upd i b):=by have hi:=hs.lt hg;have nR:=hs.sm;exact⟨Nat.le_refl _,_,hr,hs.upd hi hb⟩
theorem ESnd.push {rs:Nat→Env×Loop}{h:CH}{σ:Heap}(hs:CSim rs h σ) {r:Option (Value×Heap)}{v:Value}{p:Value×CH}{b:EB}(hp:UM h b v=some p) {b':Blk}(hb:b.to (rs h.n)=b') (hr:r=some (v,σ.push b')):ESnd rs h σ r p:=by
 unfold UM at hp;split at hp
 ·rename_i aT;obtain rfl:=osj hp;have nR:=hs.sm;exact⟨Nat.le_succ _,_,hr,hs.push aT hb⟩
 ·cases hp
theorem CSim.sl {rs:Nat→Env×Loop}{h:CH}{σ:Heap}(hs:CSim rs h σ) {esz:Nat}{v:Value}{xs:List Value}(hx:h.sl esz v=some xs):σ.sl esz v=some xs:=by
 unfold CH.sl at hx;unfold Heap.sl;split at hx
 ·exact hx
 ·rename_i i o n c;split at hx
  ·rename_i cs e wr t hb;simp only[hs.cells hb];exact hx
  ·cases hx
 ·cases hx
theorem CSim.mapAt {rs:Nat→Env×Loop}{h:CH}{σ:Heap}(hs:CSim rs h σ) {m:Nat}{x:List JA×Nat×Bool}(hx:h.mapAt m=some x):σ.mapAt m=some x∧h.get m=some (.map x.1 x.2.1 x.2.2):=by
 unfold CH.mapAt at hx;unfold Heap.mapAt;split at hx
 ·rename_i es clock wr hb;obtain rfl:=osj hx;exact⟨by simp only[hs.map hb],hb⟩
 ·cases hx
theorem CE {rs:Nat→Env×Loop}{h:CH}{σ:Heap}(hs:CSim rs h σ) {kd:Nat}{a b:Value}{r:Bool}(hx:Q22 kd a b h=some r):Jj kd a b σ=some r:=by
 unfold Q22 at hx;unfold Jj
 split at hx<;>first
  |exact hx
  |(cases hx;done)
  |skip
 rename_i i o j q;split at hx
 ·rename_i hc;obtain⟨h1,h2,h3⟩:=hc;have cz:i=j∧o=q∧(σ.get i).isSome=true:=⟨h1,h2,by rw[hs.get];simpa using h3⟩;simp only[if_pos cz];exact hx
 ·cases hx
theorem SK {rs:Nat→Env×Loop}{h:CH}{σ:Heap}(hs:CSim rs h σ) {esz:El}{bytes:Nat}{s:Value}{m:Nat}{xs:List Value}{p:Value×CH}(hx:R_ esz bytes h s m xs=some p):ESnd rs h σ (WM esz bytes σ s m xs) p:=by
 unfold R_ at hx;unfold WM;split at hx
 ·split at hx
  ·rename_i hm;simp only[if_pos hm];obtain rfl:=osj hx;exact .same hs rfl
  ·rename_i hm;simp only[if_neg hm];split at hx
   ·rename_i hb;simp only[if_pos hb];rw[hs.n] at hx;exact .push hs hx rfl rfl
   ·cases hx
 ·rename_i i o n cap;split at hx
  ·rename_i c e wr tight hg;have nR:=hs.sm;have hi:=hs.lt hg;simp only[hs.cells hg];split at hx
   ·rename_i h1;simp only[if_pos h1];split at hx
    ·rename_i h2;simp only[if_pos h2];obtain rfl:=osj hx;exact .same hs rfl
    ·rename_i h2;simp only[if_neg h2];split at hx
     ·rename_i h3;simp only[if_pos h3];split at hx
      ·rename_i h4;simp only[if_pos h4];obtain rfl:=osj hx;exact .upd hs hg rfl rfl
      ·cases hx
     ·rename_i h3;simp only[if_neg h3];split at hx
      ·rename_i h4;simp only[if_pos h4];split at hx
       ·rename_i h5;simp only[if_pos h5];rw[hs.n] at hx;exact .push hs hx rfl rfl
       ·rename_i h5;simp only[if_neg h5];split at hx
        ·rename_i h6;simp only[if_pos h6];rw[hs.n] at hx;have hk:=hs.kill hi;obtain⟨k1,σ',k2,k3⟩:=ESnd.push (r:=some (.slice (some ⟨σ.n,0,none⟩) (n+m) (n+m),(σ.kill i).push (.cells ((c.drop o).take (n*esz.sz)++xs) esz true false))) hk hx rfl rfl;exact⟨k1,σ',k2,k3⟩
        ·cases hx
      ·cases hx
   ·cases hx
  ·cases hx
 ·cases hx
theorem Bo {rs:Nat→Env×Loop}{h:CH}{σ:Heap}(hs:CSim rs h σ) {size:Nat}{s:Value}{l k:Nat}{m:Option Nat}{p:Value×CH}(hx:Aj size h s l k m=some p):ESnd rs h σ (Y7 size σ s l k m) p:=by
 unfold Aj at hx;unfold Y7;split at hx
 ·split at hx
  ·rename_i hm;simp only[if_pos hm];obtain rfl:=osj hx;exact .same hs rfl
  ·cases hx
 ·rename_i i o n cap;split at hx
  ·rename_i c e wr tight hg;simp only[hs.cells hg];split at hx
   ·split at hx
    ·rename_i h1;simp only[if_pos h1];obtain rfl:=osj hx;exact .same hs rfl
    ·cases hx
   ·split at hx
    ·rename_i h1;simp only[if_pos h1];split at hx
     ·rename_i h2;simp only[if_pos h2];rw[hs.n] at hx;exact .push hs hx rfl rfl
     ·rename_i h2;simp only[if_neg h2];obtain rfl:=osj hx;exact .same hs rfl
    ·cases hx
  ·cases hx
 ·cases hx
theorem HG {rs:Nat→Env×Loop}{h:CH}{σ:Heap}(hs:CSim rs h σ) {o:XOp}{ev:Operand→Value}{p:Value×CH}(hx:XA o ev h=some p):ESnd rs h σ (Zi o ev σ) p:=by
 cases o
 case eqAgg neg s x y =>
  simp only[XA] at hx;simp only[Zi];split at hx
  ·rename_i a b ha hb;split at hx
   ·rename_i hc;rw[ha,hb];simp only;rw[if_pos hc];obtain rfl:=osj hx;exact .same hs rfl
   ·cases hx
  ·cases hx
 case eqNil kd neg x y =>
  simp only[XA] at hx;simp only[Zi];split at hx
  ·rename_i b hb;rw[CE hs hb];obtain rfl:=osj hx;exact .same hs rfl
  ·cases hx
 case makeMap =>
  simp only[XA] at hx;simp only[Zi];rw[hs.n] at hx;exact .push hs hx rfl rfl
 case lookup mk z ok x i =>
  simp only[XA] at hx;simp only[Zi];generalize ev x=q0 at hx ⊢;generalize ev i=q1 at hx ⊢;split at hx
  ·rename_i hk;simp only[if_pos hk];split at hx
   ·obtain rfl:=osj hx;exact .same hs rfl
   ·rename_i m hm;split at hx
    ·rename_i es cl wr fX;obtain⟨k1,k2⟩:=hs.mapAt fX;simp only[k1];split at hx
     ·rename_i hall;simp only[if_pos hall];split at hx
      ·rename_i e hf;simp only[hf];obtain rfl:=osj hx;exact .same hs rfl
      ·rename_i hf;simp only[hf];obtain rfl:=osj hx;exact .same hs rfl
     ·cases hx
    ·cases hx
   ·cases hx
  ·cases hx
 case mapUpdate mk m k v =>
  simp only[XA] at hx;simp only[Zi];generalize ev m=q0 at hx ⊢;split at hx
  ·rename_i i hi;split at hx
   ·rename_i es cl fX;obtain⟨k1,k2⟩:=hs.mapAt fX;simp only[k1];split at hx
    ·rename_i hc;simp only[if_pos hc];obtain rfl:=osj hx;exact .upd hs k2 rfl rfl
    ·cases hx
   ·cases hx
  ·cases hx
 case delete mk m k =>
  simp only[XA] at hx;simp only[Zi];generalize ev m=q0 at hx ⊢;split at hx
  ·rename_i i hi;split at hx
   ·rename_i es cl fX;obtain⟨k1,k2⟩:=hs.mapAt fX;simp only[k1];split at hx
    ·rename_i hc;simp only[if_pos hc];obtain rfl:=osj hx;exact .upd hs k2 rfl rfl
    ·cases hx
   ·cases hx
  ·cases hx
 case mapEntry=>cases hx
 case entryStore=>cases hx
 case lenMap x =>
  simp only[XA] at hx;simp only[Zi];generalize ev x=q0 at hx ⊢;split at hx
  ·obtain rfl:=osj hx;exact .same hs rfl
  ·split at hx
   ·rename_i es cl wr fX;obtain⟨k1,k2⟩:=hs.mapAt fX;simp only[k1];obtain rfl:=osj hx;exact .same hs rfl
   ·cases hx
  ·cases hx
 case rangeMap x =>
  simp only[XA] at hx;simp only[Zi];generalize ev x=q0 at hx ⊢;split at hx
  ·split at hx
   ·rename_i es cl wr fX;obtain⟨k1,k2⟩:=hs.mapAt fX;simp only[k1];rw[hs.n] at hx;exact .push hs hx rfl rfl
   ·cases hx
  ·cases hx
 case nextMap=>cases hx
 case entry x =>
  simp only[XA] at hx;simp only[Zi];generalize ev x=q0 at hx ⊢;split at hx
  ·split at hx
   ·rename_i m since seen last hg;simp only[hs.iter hg];split at hx
    ·rename_i es clock wr b fX di;obtain⟨k1,_⟩:=hs.mapAt fX;simp only[k1,di];split at hx
     ·rename_i hc;rw[if_pos hc];split at hx
      ·rename_i e hf;split at hx
       ·rename_i hp;rw[hf];simp only[hp,if_true];obtain rfl:=osj hx;exact .same hs rfl
       ·cases hx
      ·cases hx
     ·cases hx
    ·cases hx
   ·cases hx
  ·cases hx
 case copy size d s =>
  simp only[XA] at hx;simp only[Zi];generalize ev d=q0 at hx ⊢;generalize ev s=q1 at hx ⊢;split at hx
  ·rename_i db dn dc sb sn sc h1 h2;split at hx
   ·rename_i hm;simp only[if_pos hm];obtain rfl:=osj hx;exact .same hs rfl
   ·rename_i hm;simp only[if_neg hm];split at hx
    ·rename_i i o xs bz;simp only[hs.sl bz];split at hx
     ·rename_i c e wr tight hg;simp only[hs.cells hg];split at hx
      ·rename_i hc;simp only[if_pos hc];obtain rfl:=osj hx;exact .upd hs hg rfl rfl
      ·cases hx
     ·cases hx
    ·cases hx
  ·cases hx
 case clear z x =>
  simp only[XA] at hx;simp only[Zi];generalize ev x=q0 at hx ⊢;split at hx
  ·rename_i b n cap;split at hx
   ·rename_i hm;simp only[if_pos hm];obtain rfl:=osj hx;exact .same hs rfl
   ·rename_i hm;simp only[if_neg hm];split at hx
    ·rename_i i o;split at hx
     ·rename_i c e wr tight hg;simp only[hs.cells hg];split at hx
      ·rename_i hc;simp only[if_pos hc];obtain rfl:=osj hx;exact .upd hs hg rfl rfl
      ·cases hx
     ·cases hx
    ·cases hx
  ·cases hx
 case toUnsafe x =>
  simp only[XA] at hx;simp only[Zi];generalize ev x=q0 at hx ⊢;split at hx
  ·obtain rfl:=osj hx;exact .same hs rfl
  ·split at hx
   ·rename_i c e wr tight hg;simp only[hs.cells hg];split at hx
    ·rename_i hc;simp only[if_pos hc];obtain rfl:=osj hx;exact .same hs rfl
    ·cases hx
   ·cases hx
  ·cases hx
 case fromUnsafe u size x =>
  simp only[XA] at hx;simp only[Zi];generalize ev x=q0 at hx ⊢;split at hx
  ·obtain rfl:=osj hx;exact .same hs rfl
  ·split at hx
   ·rename_i c e hg;simp only[hs.cells hg];split at hx
    ·rename_i hc;simp only[if_pos hc];obtain rfl:=osj hx;exact .same hs rfl
    ·cases hx
   ·cases hx
  ·cases hx
 case sliceData x =>
  simp only[XA] at hx;simp only[Zi];generalize ev x=q0 at hx ⊢;split at hx
  ·obtain rfl:=osj hx;exact .same hs rfl
  ·rename_i i o n cap;split at hx
   ·rename_i hc;simp only[if_pos (show cap≠0∧(σ.get i).isSome=true from ⟨hc.1,by rw[hs.get];simpa using hc.2⟩)];obtain rfl:=osj hx;exact .same hs rfl
   ·cases hx
  ·cases hx
 case unsafeStr e x n =>
  simp only[XA] at hx;simp only[Zi];generalize ev x=q0 at hx ⊢;generalize ev n=q1 at hx ⊢;split at hx
  ·rename_i q k h1 h2;split at hx
   ·rename_i hk;simp only[if_pos hk];obtain rfl:=osj hx;exact .same hs rfl
   ·rename_i hk;simp only[if_neg hk];split at hx
    ·rename_i i o;split at hx
     ·rename_i c el tight hg;simp only[hs.cells hg];split at hx
      ·rename_i hc;simp only[if_pos hc];split at hx
       ·rename_i u hu;simp only[hu];obtain rfl:=osj hx;exact .upd hs hg rfl rfl
       ·cases hx
      ·cases hx
     ·cases hx
    ·cases hx
  ·cases hx
 case bytesStr x =>
  simp only[XA] at hx;simp only[Zi];generalize ev x=q0 at hx ⊢;split at hx
  ·split at hx
   ·rename_i xs bz;simp only[hs.sl bz];split at hx
    ·rename_i u hu;simp only[hu];obtain rfl:=osj hx;exact .same hs rfl
    ·cases hx
   ·cases hx
  ·cases hx
 case strBytes e x =>
  simp only[XA] at hx;simp only[Zi];generalize ev x=q0 at hx ⊢;split at hx
  ·split at hx
   ·rename_i h1;simp only[if_pos h1];rw[hs.n] at hx;exact .push hs hx rfl rfl
   ·cases hx
  ·cases hx
theorem FX {rs:Nat→Env×Loop}{h:CH}{σ:Heap}(hs:CSim rs h σ) {o:VOp}{ev:Operand→Value}{p:Value×CH}
  (hx:(if o.kind=0 then (match Q4 o ev Heap.empty with|some p=>some (p.1,h)|none=>none) else none)=some p):ESnd rs h σ (Q4 o ev σ) p:=by
 split at hx
 ·rename_i hk;split at hx
  ·rename_i q hq;obtain rfl:=osj hx;exact .same hs (Pf hk (v:=q.1) (σ1:=q.2) hq)
  ·cases hx
 ·cases hx
theorem Wd {rs:Nat→Env×Loop}{h:CH}{σ:Heap}(hs:CSim rs h σ) {o:VOp}{ev:Operand→Value}{p:Value×CH}(hx:Ob o ev h=some p):ESnd rs h σ (Q4 o ev σ) p:=by
 cases o
 case alloc t z =>
  simp only[Ob] at hx;simp only[Q4];rw[hs.n] at hx;exact .push hs hx rfl rfl
 case box t x =>
  simp only[Ob] at hx;simp only[Q4];generalize YF (ev x)=q0 at hx ⊢;split at hx
  ·rw[hs.n] at hx;exact .push hs hx rfl rfl
  ·cases hx
 case buildSlice esz z len parts =>
  simp only[Ob] at hx;simp only[Q4];generalize UF (Hm len z) (parts.map fun p=>(p.1*esz.sz,esz.sz,ev p.2))=q0 at hx ⊢;split at hx
  ·rw[hs.n] at hx;exact .push hs hx rfl rfl
  ·cases hx
 case load agg size a =>
  simp only[Ob] at hx;simp only[Q4];generalize ev a=q0 at hx ⊢;split at hx
  ·split at hx
   ·rename_i c hg;split at hx
    ·rename_i hall;simp only[hg,if_pos hall];split at hx
     ·rename_i u hu;simp only[hu];obtain rfl:=osj hx;exact .same hs rfl
     ·cases hx
    ·cases hx
   ·cases hx
  ·split at hx
   ·rename_i c e wr tight hg;simp only[hs.cells hg];split at hx
    ·rename_i u hu;simp only[hu];obtain rfl:=osj hx;exact .same hs rfl
    ·cases hx
   ·cases hx
  ·cases hx
 case store size a v =>
  simp only[Ob] at hx;simp only[Q4];generalize YF (ev v)=q0 at hx ⊢;generalize ev a=q1 at hx ⊢;split at hx
  ·rename_i i o vs h1 h2;split at hx
   ·rename_i c e wr tight hg;simp only[hs.cells hg];split at hx
    ·rename_i hc;simp only[if_pos hc];obtain rfl:=osj hx;exact .upd hs hg rfl rfl
    ·cases hx
   ·cases hx
  ·cases hx
 case slice size x lo hi mx =>
  simp only[Ob] at hx;simp only[Q4];generalize ev x=q0 at hx ⊢;split at hx
  ·rename_i a n cap;dsimp only;generalize Jp ev lo 0=q1 at hx ⊢;generalize Jp ev hi n=q2 at hx ⊢;split at hx
   ·exact Bo hs hx
   ·rename_i l k m;dsimp only;generalize Jp ev (some m) 0=q3 at hx ⊢;split at hx
    ·exact Bo hs hx
    ·cases hx
   ·cases hx
  ·cases hx
 case makeSlice esz bytes z l c =>
  simp only[Ob] at hx;simp only[Q4];generalize ev l=q0 at hx ⊢;generalize ev c=q1 at hx ⊢;split at hx
  ·split at hx
   ·rename_i hc;simp only[if_pos hc];rw[hs.n] at hx;exact .push hs hx rfl rfl
   ·cases hx
  ·cases hx
 case append esz bytes s x =>
  simp only[Ob] at hx;simp only[Q4];generalize ev x=q0 at hx ⊢;split at hx
  ·rename_i bz;simp only[hs.sl bz];split at hx
   ·rename_i hc;simp only[if_pos hc];exact SK hs hx
   ·cases hx
  ·cases hx
 case ext o=>exact HG hs hx
 all_goals exact FX hs hx
def F3 (k:IntKind) (n:Int):Int:=match n with
 |.ofNat x=>match Nat.ble x 127 with
  |true=>.ofNat x
  |false=>k.wrap (.ofNat x)
 |.negSucc x=>k.wrap (.negSucc x)
theorem AX (k:IntKind) (n:Int):F3 k n=k.wrap n:=by
 cases n with
 |negSucc x=>rfl
 |ofNat x =>
  simp only[F3];split
  ·rename_i h;have hx:x≤127:=Nat.le_of_ble_eq_true h;show (x:Int)=k.wrap (x:Int);cases k<;>simp[IntKind.wrap,IntKind.bits,IntKind.signed]<;>omega
  ·rfl
def Q3c (c a b:Value):Option Value:=match c with|.bool t=>some (if t then a else b)|_=>none
def Q1b (op:BinOp) (x y:Value):Option Value:=match x,y with|.int k a,.int k' b=>if k=k' then some (.int k (match op with|.add=>F3 k (a+b)|.sub=>F3 k (a-b)|_=>F3 k (a*b))) else none|_,_=>none
def Q9h (op:BinOp) (x y:Value):Option Value:=match x,y with|.int k a,.int k' b=>if k=k'∧b≠0 then some (.int k (Q2n op k a b)) else none|_,_=>none
def Q5o (op:BinOp) (x y:Value):Option Value:=match x,y with|.int k a,.int k' b=>if k=k' then some (.int k (H7 op k a b)) else none|_,_=>none
def Q0o (op:BinOp) (x y:Value):Option Value:=match x,y with|.int k a,.int _ b=>if 0≤b then some (.int k (Bn op k a b)) else none|_,_=>none
def Z00 (op:BinOp) (x y:Value):Option Value:=match x,y with|.int k a,.int k' b=>if k=k' then some (.bool (Q3o op a b)) else none|_,_=>none
def Q9f (op:BinOp) (x y:Value):Option Value:=match x,y with
  |.string a,.string b=>match op with
   |.add=>if a.size+b.size≤2 ^ 62 then some (.string (a++b)) else none
   |.eql=>some (.bool (a.data.toList==b.data.toList))
   |.neq=>some (.bool (!(a.data.toList==b.data.toList)))
   |.lss=>some (.bool (Op.bytesLess a.data.toList b.data.toList))
   |_=>none
  |_,_=>none
def Q9b (neg:Bool) (x y:Value):Option Value:=match x,y with|.bool a,.bool b=>some (.bool (if neg then !(a==b) else (a==b)))|_,_=>none
def pUn (op:UnOp) (x:Value):Option Value:=match op,x with
  |.not,.bool b=>some (.bool (!b))
  |.neg,.int k n=>some (.int k (k.wrap (0-n)))
  |.xor,.int k n=>some (.int k (H7 .xor k (if k.signed then -1 else k.max) n))
  |_,_=>none
def Q0w (k:IntKind) (x:Value):Option Value:=match x with|.int _ n=>some (.int k (F3 k n))|_=>none
def Q0p (x:Value):Option Value:=match x with|.string s=>some (.string s)|_=>none
def Q0q (z:List Value) (l:List (Nat×Nat×Value)):Option Value:=match UF z l with|some cs=>some (.agg cs.toArray)|none=>none
def Rm (off:Nat) (a:Value):Option Value:=match a with
  |.pointer (some ⟨i,o,none⟩)=>some (.pointer (some ⟨i,o+off,none⟩))
  |_=>none
def Q0x (agg:Bool) (off size:Nat) (x:Value):Option Value:=match x with
  |.agg cs=>XF agg size cs.toList off
  |_=>none
def R1 (size:Nat) (x i:Value):Option Value:=match x,i with
  |.slice (some ⟨b,o,none⟩) n _,.int _ k=>if 0≤k∧k<n then some (.pointer (some ⟨b,o+k.toNat*size,none⟩)) else none
  |_,_=>none
def Gl (len size:Nat) (x i:Value):Option Value:=match x,i with
  |.pointer (some ⟨g,o,some s⟩),.int _ k=>if 0≤k∧k<len then some (.pointer (some ⟨g,o+k.toNat*size,some s⟩)) else none
  |.pointer (some ⟨b,o,none⟩),.int _ k=>if 0≤k∧k<len then some (.pointer (some ⟨b,o+k.toNat*size,none⟩)) else none
  |_,_=>none
def LR (x i:Value):Option Value:=match x,i with
  |.string s,.int _ k=>if 0≤k then (match s.data.toList[k.toNat]? with|some b=>some (.int .u8 b.toNat)|none=>none) else none
  |_,_=>none
def C8 (len:Nat) (agg:Bool) (size:Nat) (x i:Value):Option Value:=match x,i with
  |.agg cs,.int _ k=>if 0≤k∧k<len then XF agg size cs.toList (k.toNat*size) else none
  |_,_=>none
def Lh (ev:Operand→Value) (x:Value) (lo hi:Option Operand):Option Value:=match x with
  |.string s =>
   match Jp ev lo 0,Jp ev hi s.size with
   |some l,some h=>if l≤h∧h≤s.size then some (.string (s.extract l h)) else none
   |_,_=>none
  |_=>none
def Z0o (x:Value):Option Value:=match x with|.slice _ n _=>some (.int .i64 n)|_=>none
def Ij (x:Value):Option Value:=match x with|.string s=>some (.int .i64 s.size)|_=>none
def Q4x (x y z w:Value):Option Value:=match x,y,z,w with|.int k a,.int k2 b,.int k3 c,.int k4 d=>if k=k2∧k=k3∧k=k4 then some (.int k (Fo (Fo (Fo a b) c) d)) else none|_,_,_,_=>none
def Q9g (x y:Value):Option Value:=match x,y with|.int k a,.int k' b=>if k=k' then some (.int k (if b > a then b else a)) else none|_,_=>none
def Z0t (x y:Value):Option Value:=match x,y with|.int k a,.int k' b=>if k=k' then some (.int k (if b<a then b else a)) else none|_,_=>none
def Q0y (t:TypeId) (x:Value):Option Value:=match x with|.chan _=>none|v=>some (.iface t v)
def A_ (i:Nat) (x:Value):Option Value:=match x with
  |.tuple vs=>vs.toList[i]?
  |_=>none
def Ch (x:Value):Option Value:=match x with
  |.pointer (some a)=>some (.pointer (some a))
  |.func (.func f) first cap=>some (.func (.func f) first cap)
  |_=>none
def ppp (r:Option Value) (σ:CH):Option (Value×CH):=match r with|some v=>some (v,σ)|none=>none
noncomputable def Z1a (t:Nat) (x:Value) (σ:CH):Option (Value×CH):=match YF x with
  |some vs=>UM σ (.cells vs ⟨vs.length,t⟩ true true) (.pointer (some ⟨σ.n,0,none⟩))
  |none=>none
noncomputable def CR (esz:El) (z:List Value) (len:Nat) (l:List (Nat×Nat×Value)) (σ:CH):Option (Value×CH):=match UF (Hm len z) l with
  |some cs=>UM σ (.cells cs esz true true) (.slice (some ⟨σ.n,0,none⟩) len len)
  |none=>none
noncomputable def Q43 (agg:Bool) (size:Nat) (a:Value) (σ:CH):Option (Value×CH):=match a with
  |.pointer (some ⟨g,o,some _⟩)=>(match Oc g with
   |some c=>if c.all QO then (match XF agg size c o with|some v=>some (v,σ)|none=>none) else none
   |none=>none)
  |.pointer (some ⟨i,o,none⟩)=>match σ.get i with
   |some (.cells c _ _ _)=>match XF agg size c o with|some v=>some (v,σ)|none=>none
   |_=>none
  |_=>none
def stL (c:List Value) (o:Nat) (vs:List Value):List Value:=match vs with
 |[v]=>c.set o v
 |vs=>c.take o++(vs++c.drop (o+vs.length))
theorem Ay:∀ (vs a b c:List Value),vs.length=b.length→Qm (a++(b++c)) a.length vs=a++(vs++c)
 |[],a,b,c,h=>by have:b=[]:=List.eq_nil_of_length_eq_zero (by simpa using h.symm);subst this;rfl
 |v::vs,a,[],c,h=>by simp at h
 |v::vs,a,x::b,c,h=>by
  simp only[Qm];have e:(a++(x::b++c)).set a.length v=(a++[v])++(b++c):=by simp
  rw[e];have:=Ay vs (a++[v]) b c (by simpa using h);rw[List.length_append,List.length_singleton] at this;rw[this];simp
theorem Q64 {c:List Value}{o:Nat}{vs:List Value}(h:o+vs.length≤c.length):stL c o vs=Qm c o vs:=by
 unfold stL;split
 ·rfl
 ·have h1:c=c.take o++((c.drop o).take vs.length++c.drop (o+vs.length)):=by
   rw[←List.drop_drop,List.take_append_drop,List.take_append_drop]
  have h2:(c.take o).length=o:=by simp;omega
  have:=Ay vs (c.take o) ((c.drop o).take vs.length) (c.drop (o+vs.length)) (by simp;omega);rw[h2,←h1] at this;exact this.symm
noncomputable def Q10 (size:Nat) (a v:Value) (σ:CH):Option (Value×CH):=match a,YF v with
  |.pointer (some ⟨i,o,none⟩),some vs=>match σ.get i with
   |some (.cells c e wr tight)=>if wr=true∧vs.length=size∧o+size≤c.length∧vs.all cellOk=true then some (undef,σ.upd i (.cells (stL c o vs) e wr tight)) else none
   |_=>none
  |_,_=>none
noncomputable def F9 (esz:El) (bytes:Nat) (z:List Value) (l c:Value) (σ:CH):Option (Value×CH) :=
  match l,c with
  |.int _ a,.int _ b=>if 0≤a∧a≤b∧b*bytes≤2 ^ 46∧b≤2 ^ 46 then UM σ (.cells (Hm b.toNat z) esz true true) (.slice (some ⟨σ.n,0,none⟩) a.toNat b.toNat) else none
  |_,_=>none
noncomputable def Z18 (esz:El) (bytes:Nat) (s x:Value) (σ:CH):Option (Value×CH) :=
  match σ.sl esz.sz x,x with
  |some xs,.slice _ m _=>if xs.all cellOk then R_ esz bytes σ s m xs else none
  |_,_=>none
noncomputable def CT (o:VOp) (ev:Operand→Value) (σ:CH):Option (Value×CH) :=
 match o with
 |.move x=>some (ev x,σ)
 |.pick c a b=>ppp (Q3c (ev c) (ev a) (ev b)) σ
 |.arith op x y=>ppp (Q1b op (ev x) (ev y)) σ
 |.div op x y=>ppp (Q9h op (ev x) (ev y)) σ
 |.bits op x y=>ppp (Q5o op (ev x) (ev y)) σ
 |.shift op x y=>ppp (Q0o op (ev x) (ev y)) σ
 |.cmp op x y=>ppp (Z00 op (ev x) (ev y)) σ
 |.str op x y=>ppp (Q9f op (ev x) (ev y)) σ
 |.eqB n x y=>ppp (Q9b n (ev x) (ev y)) σ
 |.un op x=>ppp (pUn op (ev x)) σ
 |.convI k x=>ppp (Q0w k (ev x)) σ
 |.convS x=>ppp (Q0p (ev x)) σ
 |.build z parts=>ppp (Q0q z (parts.map fun p=>(p.1,p.2.1,ev p.2.2))) σ
 |.fieldAddr off a=>ppp (Rm off (ev a)) σ
 |.field agg off size x=>ppp (Q0x agg off size (ev x)) σ
 |.indexAddr size x i=>ppp (R1 size (ev x) (ev i)) σ
 |.indexAddrArr len size x i=>ppp (Gl len size (ev x) (ev i)) σ
 |.indexStr x i=>ppp (LR (ev x) (ev i)) σ
 |.indexArr len agg size x i=>ppp (C8 len agg size (ev x) (ev i)) σ
 |.sliceStr x lo hi=>ppp (Lh ev (ev x) lo hi) σ
 |.len x=>ppp (Z0o (ev x)) σ
 |.lenStr x=>ppp (Ij (ev x)) σ
 |.max x y=>ppp (Q9g (ev x) (ev y)) σ
 |.max4 x y z w=>ppp (Q4x (ev x) (ev y) (ev z) (ev w)) σ
 |.min x y=>ppp (Z0t (ev x) (ev y)) σ
 |.makeFunc fn first cap=>some (.func fn (first.map ev).toArray (cap.map ev).toArray,σ)
 |.iface t x=>ppp (Q0y t (ev x)) σ
 |.extract x i=>ppp (A_ i (ev x)) σ
 |.nilCheck x=>ppp (Ch (ev x)) σ
 |.alloc t z=>UM σ (.cells z ⟨z.length,t⟩ true true) (.pointer (some ⟨σ.n,0,none⟩))
 |.box t x=>Z1a t (ev x) σ
 |.buildSlice esz z len parts=>CR esz z len (parts.map fun p=>(p.1*esz.sz,esz.sz,ev p.2)) σ
 |.load agg size a=>Q43 agg size (ev a) σ
 |.store size a v=>Q10 size (ev a) (ev v) σ
 |.slice size x lo hi mx=>Ob (.slice size x lo hi mx) ev σ
 |.makeSlice esz bytes z l c=>F9 esz bytes z (ev l) (ev c) σ
 |.append esz bytes s x=>Z18 esz bytes (ev s) (ev x) σ
 |.ext o=>XA o ev σ
 |_=>none
theorem Iy {rs:Nat→Env×Loop}{h:CH}{σ:Heap}(hs:CSim rs h σ) {r:Option Value}{r':Option (Value×Heap)}{p:Value×CH}(hr:∀ v,r=some v→r'=some (v,σ)) (hx:ppp r h=some p):ESnd rs h σ r' p:=by
 unfold ppp at hx;split at hx
 ·rename_i v;obtain rfl:=osj hx;exact .same hs (hr v rfl)
 ·cases hx
theorem YD {rs:Nat→Env×Loop}{h:CH}{σ:Heap}(hs:CSim rs h σ) {o:VOp}{ev:Operand→Value}{p:Value×CH}(hx:CT o ev h=some p):ESnd rs h σ (Q4 o ev σ) p:=by
 cases o
 case move x=>exact .same hs (by obtain rfl:=osj hx;rfl) |> fun (h:ESnd rs _ σ (Q4 (.move x) ev σ) (ev x,_))=>by obtain rfl:=osj hx;exact h
 case makeFunc fn a b=>obtain rfl:=osj hx;exact .same hs rfl
 case alloc t z=>exact Wd (o:=.alloc t z) hs hx
 case box t x=>exact Wd (o:=.box t x) hs hx
 case buildSlice a b c d=>exact Wd (o:=.buildSlice a b c d) hs hx
 case load a b c=>exact Wd (o:=.load a b c) hs hx
 case store size a v =>
  simp only[CT] at hx;simp only[Q4];unfold Q10 at hx;generalize YF (ev v)=q0 at hx ⊢;generalize ev a=q1 at hx ⊢;split at hx
  ·rename_i i o vs;split at hx
   ·rename_i c e wr tight hg;simp only[hs.cells hg];split at hx
    ·rename_i hc;simp only[if_pos hc];rw[Q64 (by omega)] at hx;obtain rfl:=osj hx;exact .upd hs hg rfl rfl
    ·cases hx
   ·cases hx
  ·cases hx
 case slice a b c d e=>exact Wd (o:=.slice a b c d e) hs hx
 case makeSlice a b c d e=>exact Wd (o:=.makeSlice a b c d e) hs hx
 case append a b c d=>exact Wd (o:=.append a b c d) hs hx
 case ext o=>exact HG hs hx
 case callF=>cases hx
 case callV=>cases hx
 case bad=>cases hx
 all_goals refine Iy hs (fun v hv=>?_) hx
 case arith op x y =>
  simp only[Q4];generalize ev x=a at hv ⊢;generalize ev y=b at hv ⊢;unfold Q1b at hv;split at hv
  ·split at hv
   ·rename_i hk;simp only[if_pos hk];obtain rfl:=osj hv;cases op<;>simp only[Bp,AX]
   ·cases hv
  ·cases hv
 case convI k x =>
  simp only[Q4];generalize ev x=a at hv ⊢;unfold Q0w at hv;split at hv
  ·obtain rfl:=osj hv;simp only[AX]
  ·cases hv
 case pick c a b =>
  simp only[Q4];generalize ev c=q0 at hv ⊢;generalize ev a=q1 at hv ⊢;generalize ev b=q2 at hv ⊢;unfold Q3c at hv
  (repeat' split at hv)<;>first|(cases hv;done)|(obtain rfl:=osj hv;first|rfl|(simp_all;done)|(simp_all;intros;omega))
 case div op x y =>
  simp only[Q4];generalize ev x=q0 at hv ⊢;generalize ev y=q1 at hv ⊢;unfold Q9h at hv
  (repeat' split at hv)<;>first|(cases hv;done)|(obtain rfl:=osj hv;first|rfl|(simp_all;done)|(simp_all;intros;omega))
 case bits op x y =>
  simp only[Q4];generalize ev x=q0 at hv ⊢;generalize ev y=q1 at hv ⊢;unfold Q5o at hv
  (repeat' split at hv)<;>first|(cases hv;done)|(obtain rfl:=osj hv;first|rfl|(simp_all;done)|(simp_all;intros;omega))
 case shift op x y =>
  simp only[Q4];generalize ev x=q0 at hv ⊢;generalize ev y=q1 at hv ⊢;unfold Q0o at hv
  (repeat' split at hv)<;>first|(cases hv;done)|(obtain rfl:=osj hv;first|rfl|(simp_all;done)|(simp_all;intros;omega))
 case cmp op x y =>
  simp only[Q4];generalize ev x=q0 at hv ⊢;generalize ev y=q1 at hv ⊢;unfold Z00 at hv
  (repeat' split at hv)<;>first|(cases hv;done)|(obtain rfl:=osj hv;first|rfl|(simp_all;done)|(simp_all;intros;omega))
 case eqB n x y =>
  simp only[Q4];generalize ev x=q0 at hv ⊢;generalize ev y=q1 at hv ⊢;unfold Q9b at hv
  (repeat' split at hv)<;>first|(cases hv;done)|(obtain rfl:=osj hv;first|rfl|(simp_all;done)|(simp_all;intros;omega))
 case un op x =>
  simp only[Q4];generalize ev x=q0 at hv ⊢;unfold pUn at hv
  (repeat' split at hv)<;>first|(cases hv;done)|(obtain rfl:=osj hv;first|rfl|(simp_all;done)|(simp_all;intros;omega))
 case convS x =>
  simp only[Q4];generalize ev x=q0 at hv ⊢;unfold Q0p at hv
  (repeat' split at hv)<;>first|(cases hv;done)|(obtain rfl:=osj hv;first|rfl|(simp_all;done)|(simp_all;intros;omega))
 case fieldAddr off a =>
  simp only[Q4];generalize ev a=q0 at hv ⊢;unfold Rm at hv
  (repeat' split at hv)<;>first|(cases hv;done)|(obtain rfl:=osj hv;first|rfl|(simp_all;done)|(simp_all;intros;omega))
 case indexAddr size x i =>
  simp only[Q4];generalize ev x=q0 at hv ⊢;generalize ev i=q1 at hv ⊢;unfold R1 at hv
  (repeat' split at hv)<;>first|(cases hv;done)|(obtain rfl:=osj hv;first|rfl|(simp_all;done)|(simp_all;intros;omega))
 case indexAddrArr len size x i =>
  simp only[Q4];generalize ev x=q0 at hv ⊢;generalize ev i=q1 at hv ⊢;unfold Gl at hv
  (repeat' split at hv)<;>first|(cases hv;done)|(obtain rfl:=osj hv;first|rfl|(simp_all;done)|(simp_all;intros;omega))
 case len x =>
  simp only[Q4];generalize ev x=q0 at hv ⊢;unfold Z0o at hv
  (repeat' split at hv)<;>first|(cases hv;done)|(obtain rfl:=osj hv;first|rfl|(simp_all;done)|(simp_all;intros;omega))
 case lenStr x =>
  simp only[Q4];generalize ev x=q0 at hv ⊢;unfold Ij at hv
  (repeat' split at hv)<;>first|(cases hv;done)|(obtain rfl:=osj hv;first|rfl|(simp_all;done)|(simp_all;intros;omega))
 case max4 x y z w =>
  simp only[Q4];generalize ev x=q0 at hv ⊢;generalize ev y=q1 at hv ⊢;generalize ev z=q2 at hv ⊢;generalize ev w=q3 at hv ⊢;unfold Q4x at hv
  (repeat' split at hv)<;>first|(cases hv;done)|(rename_i oW;obtain⟨rfl,rfl,rfl⟩:=oW;obtain rfl:=osj hv;simp_all;done)
 case max x y =>
  simp only[Q4];generalize ev x=q0 at hv ⊢;generalize ev y=q1 at hv ⊢;unfold Q9g at hv
  (repeat' split at hv)<;>first|(cases hv;done)|(obtain rfl:=osj hv;first|rfl|(simp_all;done)|(simp_all;intros;omega))
 case min x y =>
  simp only[Q4];generalize ev x=q0 at hv ⊢;generalize ev y=q1 at hv ⊢;unfold Z0t at hv
  (repeat' split at hv)<;>first|(cases hv;done)|(obtain rfl:=osj hv;first|rfl|(simp_all;done)|(simp_all;intros;omega))
 case nilCheck x =>
  simp only[Q4];generalize ev x=q0 at hv ⊢;unfold Ch at hv
  (repeat' split at hv)<;>first|(cases hv;done)|(obtain rfl:=osj hv;first|rfl|(simp_all;done)|(simp_all;intros;omega))
 case str op x y =>
  simp only[Q4];generalize ev x=q0 at hv ⊢;generalize ev y=q1 at hv ⊢;unfold Q9f at hv
  (repeat' split at hv)<;>first|(cases hv;done)|(obtain rfl:=osj hv;first|rfl|(simp_all;done)|(simp_all;intros;omega))
 case build z parts =>
  simp only[Q4];unfold Q0q at hv;split at hv
  ·rename_i cs hc;rw[hc];obtain rfl:=osj hv;rfl
  ·cases hv
 case field agg off size x =>
  simp only[Q4];generalize ev x=q0 at hv ⊢;unfold Q0x at hv;split at hv
  ·dsimp only;rw[hv]
  ·cases hv
 case indexStr x i =>
  simp only[Q4];generalize ev x=q0 at hv ⊢;generalize ev i=q1 at hv ⊢;unfold LR at hv;split at hv
  ·split at hv
   ·rename_i hc;simp only[if_pos hc];split at hv
    ·rename_i b hb;simp only[hb];obtain rfl:=osj hv;rfl
    ·cases hv
   ·cases hv
  ·cases hv
 case indexArr len agg size x i =>
  simp only[Q4];generalize ev x=q0 at hv ⊢;generalize ev i=q1 at hv ⊢;unfold C8 at hv;split at hv
  ·split at hv
   ·rename_i hc;simp only[if_pos hc,hv]
   ·cases hv
  ·cases hv
 case sliceStr x lo hi =>
  simp only[Q4];generalize ev x=q0 at hv ⊢;unfold Lh at hv;split at hv
  ·rename_i s;split at hv
   ·rename_i l h h1 h2;split at hv
    ·rename_i hc;simp only[h1,h2,if_pos hc];obtain rfl:=osj hv;rfl
    ·cases hv
   ·cases hv
  ·cases hv
 case iface t x =>
  simp only[Q4];generalize ev x=q0 at hv ⊢;unfold Q0y at hv;split at hv
  ·cases hv
  ·rename_i aF;obtain rfl:=osj hv;split
   ·exact absurd rfl (aF _)
   ·rfl
 case extract x i =>
  simp only[Q4];generalize ev x=q0 at hv ⊢;unfold A_ at hv;split at hv
  ·dsimp only;rw[hv]
  ·cases hv
end Go.V
namespace Go.V
open Go
inductive Sh (a m d:Nat):Value→Value→Prop
 |plain (v:Value) (h:QO v=true):Sh a m d v v
 |ptr (i o:Nat) (h:a≤i) (hi:i<m):Sh a m d (.pointer (some ⟨i,o,none⟩)) (.pointer (some ⟨d+(i-a),o,none⟩))
 |sl (i o len cap:Nat) (h:a≤i) (hi:i<m):Sh a m d (.slice (some ⟨i,o,none⟩) len cap) (.slice (some ⟨d+(i-a),o,none⟩) len cap)
 |agg (cs ds:Array Value) (hc:cs.size=ds.size) (h:∀ i (h1:i<cs.size) (h2:i<ds.size),Sh a m d cs[i] ds[i]):Sh a m d (.agg cs) (.agg ds)
 |tuple (cs ds:Array Value) (hc:cs.size=ds.size) (h:∀ i (h1:i<cs.size) (h2:i<ds.size),Sh a m d cs[i] ds[i]):Sh a m d (.tuple cs) (.tuple ds)
theorem Sh.rel {ρ ρ':Plc}{a m d n':Nat}(hn:d+(m-a)≤n') (hρ:∀ i,a≤i→i<m→ρ' (d+(i-a))=ρ i) {v v':Value}(h:Sh a m d v v') :
  ∀ {c:Value},VRel ρ m v c→VRel ρ' n' v' c:=by
 induction h with
 |plain v h =>intro c hv;have:c=v:=KG h hv;subst this;exact XY h
 |ptr i o h hi =>intro c hv;obtain⟨a',rfl,_,bp⟩:=hv.ptr_inv';exact .ptr _ _ _ (by omega) fun p hp=>bp p (by rw[←hρ i h hi];exact hp)
 |sl i o len cap h hi =>intro c hv;obtain⟨a',ao,rfl,_,bp⟩:=hv.sl_inv;exact .sl _ _ _ _ _ _ (by omega) fun p hp=>bp p (by rw[←hρ i h hi];exact hp)
 |agg cs ds hc h ih =>
  intro c hv;cases hv with
  |agg _ ds' cz h'=>exact .agg _ _ (hc.symm.trans cz) fun i k1 k2=>ih i (by omega) k1 (h' i (by omega) k2)
 |tuple cs ds hc h ih =>
  intro c hv;cases hv with
  |tuple _ ds' cz h'=>exact .tuple _ _ (hc.symm.trans cz) fun i k1 k2=>ih i (by omega) k1 (h' i (by omega) k2)
theorem BRel.any {ρ ρ':Plc}{n n':Nat}{p:Pl}{w:World}{c:List Value}{esz:El}{wr tight:Bool}(hp:c.all QO=true) (h:BRel ρ n p w (.cells c esz wr tight)) :
  BRel ρ' n' p w (.cells c esz wr tight):=by
 obtain⟨h1,h2,h3,h4,h5,h6⟩:=h;refine⟨h1,h2,h3,h4,fun k v hk=>?_,h6⟩;obtain⟨u,hu,hv⟩:=h5 k v hk;have aO:QO v=true:=List.all_eq_true.1 hp v (List.mem_of_getElem? hk);obtain rfl:u=v:=KG aO hv;exact⟨u,hu,XY aO⟩
theorem BRel.asRo {ρ ρ':Plc}{n n':Nat}{p:Pl}{w:World}{c:List Value}{esz:El}{wr tight:Bool}(hp:c.all QO=true) (h:BRel ρ n p w (.cells c esz wr tight)) :
  BRel ρ' n' p w (.cells c esz false tight):=by
 obtain⟨h1,h2,h3,h4,h5,h6⟩:=BRel.any (ρ':=ρ') (n':=n') hp h;exact⟨h1,h2,h3,h4,h5,fun h=>by cases h⟩
structure PB where
 c:List Value
 esz:El
 tight:Bool
def PB.blk (wr:Bool) (b:PB):Blk:=.cells b.c b.esz wr b.tight
def XS (bl fr:List PB):Heap where
 get i:=if i<bl.length then (bl[i]?).map (PB.blk false) else (fr[i-bl.length]?).map (PB.blk true)
 n:=bl.length+fr.length
 wf i h:=by rw[if_neg (by omega),List.getElem?_eq_none (by omega)];rfl
def W5 (σ:Heap) (fr:List PB):Heap where
 get i:=if i<σ.n then σ.get i else (fr[i-σ.n]?).map (PB.blk true)
 n:=σ.n+fr.length
 wf i h:=by rw[if_neg (by omega),List.getElem?_eq_none (by omega)];rfl
theorem VCalled.localize {P:Program}{f:FuncId}{gO args:List Value}{bl fr:List PB}{vm v:Value}{σ:Heap}{π:Nat→Nat}{K:Value→Heap→Prop}
  (hm:VCalled P f gO (XS bl []) fun u τ=>u=vm∧τ=XS bl fr)
  (gm:∀ b∈bl,b.c.all QO=true) (cC:∀ b∈fr,b.c.all QO=true)
  (hπ:∀ i b,bl[i]?=some b→∃ wr,σ.get (π i)=some (b.blk wr))
  (ax:LRen bl.length π gO args) (hv:Sh bl.length (bl.length+fr.length) σ.n vm v) (hK:K v (W5 σ fr)):VCalled P f args σ K:=by
 intro ρ w aw hH hL;have bF:∀ B,¬ Wr (fun i=>if i<bl.length then ρ (π i) else none) (XS bl []) B:=by
  rintro B ⟨i,p,b,_,hb,hw,_⟩;have hi:i<bl.length:=by have:=(XS bl []).lt hb;simpa [XS] using this
  simp only[XS,if_pos hi] at hb;cases dO:bl[i]? with
  |none=>rw[dO] at hb;cases hb
  |some b0=>rw[dO] at hb;obtain rfl:=osj hb;cases hw
 have sE:HRel (fun i=>if i<bl.length then ρ (π i) else none) (XS bl []) w:=by
  refine⟨⟨fun i b hb=>?_,fun i hi=>?_,fun i p hp=>?_,fun i j p q b _ hp _ hb hw _=>(bF _ ⟨i,p,b,hp,hb,hw,rfl⟩).elim⟩,fun g cs hg=>⟨(hH.tab g cs hg).1,bF g⟩⟩
  ·have hi:i<bl.length:=by have:=(XS bl []).lt hb;simpa [XS] using this
   simp only[XS,if_pos hi] at hb;cases dO:bl[i]? with
   |none=>rw[dO] at hb;cases hb
   |some b0 =>rw[dO] at hb;obtain rfl:=osj hb;obtain⟨wr,hg⟩:=hπ i b0 dO;obtain⟨p,hp,hB⟩:=hH.live _ _ hg;exact⟨p,by simp[hi,hp],BRel.asRo (gm b0 (List.mem_of_getElem? dO)) hB⟩
  ·by_cases h:i<bl.length
   ·simp only[XS,if_pos h,List.getElem?_eq_getElem h] at hi;cases hi
   ·simp[h]
  ·skip
   split at hp
   ·exact hH.lt _ p hp
   ·cases hp
 have sF:LRel (fun i=>if i<bl.length then ρ (π i) else none) (XS bl []).n gO aw.toList:=by have:=ax.rel hL;simpa [XS] using this
 have lift:∀ c w',Got (fun i=>if i<bl.length then ρ (π i) else none) (XS bl []) w (fun u τ=>u=vm∧τ=XS bl fr) c w'→Got ρ σ w K c w':=by
  rintro c w' ⟨_,ρm,_,⟨rfl,rfl⟩,dY,gP,hE⟩;have du:∀ B,B<w.heap.size→w'.heap[B]?=w.heap[B]?:=fun B hB=>hE.keep B hB (bF B);have fy:∀ i p,bl.length≤i→ρm i=some p→w.heap.size≤p.blk:=fun i p hi hp=>by
   rcases Nat.lt_or_ge p.blk w.heap.size with h|h
   ·refine (bF _ (hE.wr p.blk h ?_)).elim;have gA:=gP.idlt hp;cases hb:(XS bl fr).get i with
    |none=>rw[gP.dead i hb] at hp;cases hp
    |some b =>
     refine⟨i,p,b,hp,hb,?_,rfl⟩;simp only[XS,if_neg (Nat.not_lt.2 hi)] at hb;cases dO:fr[i-bl.length]? with
     |none=>rw[dO] at hb;cases hb
     |some b0=>rw[dO] at hb;obtain rfl:=osj hb;rfl
   ·exact h
  have hρ:∀ i,σ.n≤i→(if i<σ.n then ρ i else if i<σ.n+fr.length then ρm (bl.length+(i-σ.n)) else none)=if i<σ.n+fr.length then ρm (bl.length+(i-σ.n)) else none:=fun i hi=>if_neg (by omega)
  have hX:Ext ρ σ w (fun i=>if i<σ.n then ρ i else if i<σ.n+fr.length then ρm (bl.length+(i-σ.n)) else none) (W5 σ fr) w':=by
   refine⟨hE.os,hE.tape,hE.output,hE.size,fun B hB _=>du B hB,?_,by simp[W5],fun i hi p hp=>?_⟩
   ·rintro B hB ⟨i,p,b,hp,hb,hw,rfl⟩
    replace hp:(if i<σ.n then ρ i else if i<σ.n+fr.length then ρm (bl.length+(i-σ.n)) else none)=some p:=hp
    by_cases hi:i<σ.n
    ·rw[if_pos hi] at hp;simp only[W5,if_pos hi] at hb;exact⟨i,p,b,hp,hb,hw,rfl⟩
    ·rw[if_neg hi] at hp;split at hp
     ·have:=fy _ p (by omega) hp;omega
     ·cases hp
   ·skip
    rwa [if_pos hi] at hp
  refine⟨v,fun i=>if i<σ.n then ρ i else if i<σ.n+fr.length then ρm (bl.length+(i-σ.n)) else none,W5 σ fr,hK,?_,hH.ext ⟨fun i b hb=>?_,fun i hi=>?_,fun i p hp=>?_,fun i j p q b bZ hp hq hb hw hx=>?_⟩ hX,hX⟩
  ·refine hv.rel (by simp[W5]) (fun i h1 h2=>?_) dY;rw[if_neg (by omega),if_pos (by omega)];congr 1;omega
  ·by_cases hi:i<σ.n
   ·simp only[W5,if_pos hi] at hb;obtain⟨p,hp,hB⟩:=hH.live i b hb;exact⟨p,by simp[hi,hp],hB.mono (by simp[W5]) (fun j hj q hq=>by simpa [hj] using hq) (du _ (hH.lt i p hp))⟩
   ·simp only[W5,if_neg hi] at hb;cases dO:fr[i-σ.n]? with
    |none=>rw[dO] at hb;cases hb
    |some b0 =>
     rw[dO] at hb;obtain rfl:=osj hb;have ah:i-σ.n<fr.length:=(List.getElem?_eq_some_iff.1 dO).1;obtain⟨p,hp,hB⟩:=gP.live (bl.length+(i-σ.n)) (b0.blk true) (by
      show (if _ then _ else _)=_;rw[if_neg (by omega),show bl.length+(i-σ.n)-bl.length=i-σ.n by omega,dO];rfl)
     exact⟨p,by rw[if_neg hi,if_pos (by omega)];exact hp,BRel.any (cC b0 (List.mem_of_getElem? dO)) hB⟩
  ·by_cases h:i<σ.n
   ·simp only[W5,if_pos h] at hi;rw[if_pos h];exact hH.dead i hi
   ·simp only[W5,if_neg h] at hi;rw[if_neg h];split
    ·rename_i h2;have ah:i-σ.n<fr.length:=by omega
     rw[List.getElem?_eq_getElem ah] at hi;cases hi
    ·rfl
  ·skip
   split at hp
   ·exact Nat.lt_of_lt_of_le (hH.lt i p hp) hE.size
   ·split at hp
    ·exact gP.lt _ p hp
    ·cases hp
  ·skip
   by_cases hi:i<σ.n<;>by_cases hj:j<σ.n
   ·rw[if_pos hi] at hp;rw[if_pos hj] at hq;simp only[W5,if_pos hi] at hb;exact hH.sep i j p q b bZ hp hq hb hw hx
   ·rw[if_pos hi] at hp;rw[if_neg hj] at hq;split at hq
    ·have h1:=hH.lt i p hp;have h2:=fy _ q (by omega) hq;omega
    ·cases hq
   ·rw[if_neg hi] at hp;rw[if_pos hj] at hq;split at hp
    ·have h1:=hH.lt j q hq;have h2:=fy _ p (by omega) hp;omega
    ·cases hp
   ·rw[if_neg hi] at hp;rw[if_neg hj] at hq;split at hp
    ·split at hq
     ·simp only[W5,if_neg hi] at hb;refine gP.sep (bl.length+(i-σ.n)) (bl.length+(j-σ.n)) p q b (by omega) hp hq ?_ hw hx;show (if _ then _ else _)=_;rw[if_neg (by omega),show bl.length+(i-σ.n)-bl.length=i-σ.n by omega];exact hb
     ·cases hq
    ·cases hp
 rcases hm _ w aw sE sF with⟨h1,h2⟩|⟨c,h1,h2⟩
 ·refine .inl ⟨h1,?_⟩;exact h2.mono fun e w' he=>by
   obtain⟨c,rfl,hc⟩:=he;exact⟨c,rfl,lift c w' hc⟩
 ·refine .inr ⟨c,lift c w h1,fun w' cN=>h2 w' ⟨cN.1,fun i p hp=>?_,cN.tab⟩⟩
  replace hp:(if i<bl.length then ρ (π i) else none)=some p:=hp
  split at hp
  ·exact cN.2 _ p hp
  ·cases hp
end Go.V
namespace Go.V
open Go
def IS {α:Type}(p:α→α→Bool):List α→List α→Bool
 |[],[]=>true
 |a::l,b::m=>p a b&&IS p l m
 |_,_=>false
theorem VS {α:Type}{p:α→α→Bool}(hp:∀ a b,p a b=true→a=b):∀ l m,IS p l m=true→l=m
 |[],[],_=>rfl
 |a::l,b::m,h=>by simp only[IS,Bool.and_eq_true] at h;rw[hp a b h.1,VS hp l m h.2]
 |[],_::_,h=>by cases h
 |_::_,[],h=>by cases h
def AF:Nat→Value→Value→Bool
 |0,_,_=>false
 |f+1,a,b=>match a,b with
  |.bool x,.bool y=>x==y
  |.int k x,.int k' y=>decide (k=k')&&decide (x=y)
  |.string s,.string t=>decide (s.data.toList=t.data.toList)
  |.pointer none,.pointer none=>true
  |.pointer (some ⟨i,o,none⟩),.pointer (some ⟨j,q,none⟩)=>Nat.beq i j&&Nat.beq o q
  |.slice none l c,.slice none l' c'=>Nat.beq l l'&&Nat.beq c c'
  |.slice (some ⟨i,o,none⟩) l c,.slice (some ⟨j,q,none⟩) l' c'=>Nat.beq i j&&(Nat.beq o q&&(Nat.beq l l'&&Nat.beq c c'))
  |.map x,.map y=>decide (x=y)
  |.chan none,.chan none=>true
  |.nilFunc,.nilFunc=>true
  |.nilIface,.nilIface=>true
  |.func (.func g) fs cs,.func (.func g') qF cs'=>decide (g=g')&&(IS (AF f) fs.toList qF.toList&&IS (AF f) cs.toList cs'.toList)
  |.iface t v,.iface t' v'=>decide (t=t')&&AF f v v'
  |.agg cs,.agg ds=>IS (AF f) cs.toList ds.toList
  |.tuple cs,.tuple ds=>IS (AF f) cs.toList ds.toList
  |_,_=>false
theorem Rh {α:Type}{a b:Array α}(h:a.toList=b.toList):a=b:=by cases a;cases b;simp at h;rw[h]
theorem M_:∀ (f:Nat) (a b:Value),AF f a b=true→a=b:=by
 intro f;induction f with
 |zero=>intro a b h;cases h
 |succ f ih =>
  intro a b h;unfold AF at h
  split at h<;>first
   |(cases h;done)
   |rfl
   |(simp at h;subst h;rfl)
   |(simp at h;obtain⟨rfl,rfl⟩:=h;rfl)
   |(simp at h;obtain⟨rfl,rfl,rfl,rfl⟩:=h;rfl)
   |skip
  ·rename_i s t;have h:=of_decide_eq_true h;have:=Rh h;cases s;cases t;simp at this;rw[this]
  ·rename_i g fs cs g' qF cs';simp only[Bool.and_eq_true,decide_eq_true_eq] at h;obtain⟨rfl,h1,h2⟩:=h;rw[Rh (VS ih _ _ h1),Rh (VS ih _ _ h2)]
  ·rename_i t v t' v';simp only[Bool.and_eq_true,decide_eq_true_eq] at h;obtain⟨rfl,h1⟩:=h;rw[ih _ _ h1]
  ·rw[Rh (VS ih _ _ h)]
  ·rw[Rh (VS ih _ _ h)]
def EB.beq:EB→EB→Bool
 |.cells c e w t,.cells c' e' w' t'=>decide (e=e')&&(w==w'&&(t==t'&&IS (AF 20) c c'))
 |.map es cl w,.map bH sG w'=>Nat.beq cl sG&&(w==w'&&IS (fun a b=>AF 20 a.1 b.1&&(AF 20 a.2.1 b.2.1&&Nat.beq a.2.2 b.2.2)) es bH)
 |.iter m s sn l,.iter m' s' sH l'=>Nat.beq m m'&&(Nat.beq s s'&&(Nat.beq l l'&&decide (sn=sH)))
 |.lp .ready none,.lp .ready none=>true
 |.lp .busy none,.lp .busy none=>true
 |_,_=>false
theorem EB.beq_eq {a b:EB}(h:a.beq b=true):a=b:=by
 unfold EB.beq at h
 split at h<;>first
  |(cases h;done)
  |rfl
  |skip
 ·simp only[Bool.and_eq_true,decide_eq_true_eq,beq_iff_eq] at h;obtain⟨rfl,rfl,rfl,h⟩:=h;rw[VS (M_ 20) _ _ h]
 ·simp only[Bool.and_eq_true,beq_iff_eq,Nat.beq_eq] at h;obtain⟨rfl,rfl,h⟩:=h;rw[VS (fun a b h=>by
   simp only[Bool.and_eq_true,Nat.beq_eq] at h;obtain⟨a1,a2,a3⟩:=a;obtain⟨b1,b2,b3⟩:=b;obtain⟨h1,h2,h3⟩:=h;simp at h1 h2 h3;rw[M_ _ _ _ h1,M_ _ _ _ h2,h3]) _ _ h]
 ·simp only[Bool.and_eq_true,decide_eq_true_eq,Nat.beq_eq] at h;obtain⟨rfl,rfl,rfl,rfl⟩:=h;rfl
noncomputable def CH.newOk (h h':CH):Bool:=Nat.ble h.n h'.n&&(h'.room&&(List.range' h.n (h'.n-h.n)).all fun i=>match h'.get i with
 |some (.lp _ _)=>false
 |_=>true)
structure AnsOps (A:Type) where
 fail:A
 both:A→A→A
structure Good {A:Type}(R:AnsOps A) (G:A→Prop):Prop where
 fail:¬ G R.fail
 both:∀ a b,G (R.both a b)→G a∧G b
def VI:AnsOps Bool:=⟨false,and⟩
theorem E5:Good VI (·=true):=⟨by simp[VI],fun a b h=>by simpa [VI] using h⟩
noncomputable def AN:AnsOps (Option (Value×CH)):=⟨none,fun _ _=>none⟩
theorem Q1y (x:Value×CH):Good AN (·=some x):=⟨by simp[AN],fun a b h=>by simp[AN] at h⟩
noncomputable def CH.same (h h':CH):Bool:=Nat.beq h.n h'.n&&(List.range h.n).all fun i=>match h.get i,h'.get i with
 |none,none=>true
 |some a,some b=>a.beq b
 |_,_=>false
def EB.plainE:EB→Bool
 |.cells c _ _ _=>c.all QO
 |.map es _ _=>es.all fun kv=>QO kv.2.1
 |_=>false
noncomputable def CH.keepOk (h h':CH):Bool:=Nat.ble h.n h'.n&&(List.range h.n).all fun i=>match h.get i,h'.get i with
 |none,none=>true
 |some a,some b=>b.plainE||a.beq b
 |_,_=>false
def gcI (n0:Nat) (refs:List Nat) (i:Nat):Nat×List Nat :=
 if i<n0 then (i,refs) else if refs.contains i=true then (n0+refs.idxOf i,refs) else (n0+refs.length,refs++[i])
def Ox (g:List Nat→Value→Option (Value×List Nat)):List Value→List Nat→Option (List Value×List Nat)
 |[],refs=>some ([],refs)
 |v::vs,refs=>match g refs v with
  |none=>none
  |some p=>match Ox g vs p.2 with
   |none=>none
   |some q=>some (p.1::q.1,q.2)
def gcX (n0:Nat):Nat→List Nat→Value→Option (Value×List Nat)
 |0,_,_=>none
 |f+1,refs,v=>match v with
  |.pointer (some ⟨i,o,none⟩)=>some (.pointer (some ⟨(gcI n0 refs i).1,o,none⟩),(gcI n0 refs i).2)
  |.slice (some ⟨i,o,none⟩) l c=>some (.slice (some ⟨(gcI n0 refs i).1,o,none⟩) l c,(gcI n0 refs i).2)
  |.map (some i)=>some (.map (some (gcI n0 refs i).1),(gcI n0 refs i).2)
  |.chan none=>some (.chan none,refs)
  |.iface t u=>match gcX n0 f refs u with
   |some p=>some (.iface t p.1,p.2)
   |none=>none
  |.agg cs=>match Ox (gcX n0 f) cs.toList refs with
   |some p=>some (.agg p.1.toArray,p.2)
   |none=>none
  |.tuple cs=>match Ox (gcX n0 f) cs.toList refs with
   |some p=>some (.tuple p.1.toArray,p.2)
   |none=>none
  |.func (.func g) fs cs=>match Ox (gcX n0 f) fs.toList refs with
   |some p=>match Ox (gcX n0 f) cs.toList p.2 with
    |some q=>some (.func (.func g) p.1.toArray q.1.toArray,q.2)
    |none=>none
   |none=>none
  |v=>if QO v=true then some (v,refs) else none
def Q6u (n0:Nat):List JA→List Nat→Option (List JA×List Nat)
 |[],refs=>some ([],refs)
 |e::es,refs=>match gcX n0 8 refs e.2.1 with
  |none=>none
  |some p=>match Q6u n0 es p.2 with
   |none=>none
   |some q=>some ((e.1,p.1,e.2.2)::q.1,q.2)
def gcB (n0:Nat) (refs:List Nat):EB→Option (EB×List Nat)
 |.cells c e w t=>match Ox (gcX n0 8) c refs with
  |some p=>some (.cells p.1 e w t,p.2)
  |none=>none
 |.map es cl w=>match Q6u n0 es refs with
  |some p=>some (.map p.1 cl w,p.2)
  |none=>none
 |_=>none
noncomputable def OJ (h':CH) (n0:Nat):Nat→Nat→List Nat→CH→Option (CH×List Nat)
 |0,_,_,_=>none
 |f+1,k,refs,acc=>if refs.length≤k then (if k=refs.length then some (acc,refs) else none) else match h'.get (refs.getD k 0) with
  |none=>none
  |some b=>match gcB n0 refs b with
   |none=>none
   |some p=>if acc.room=true then OJ h' n0 f (k+1) p.2 (acc.push p.1) else none
noncomputable def Q16 (h h':CH) (refs:List Nat):Option (CH×List Nat) :=
 if h.keepOk h'=true then OJ h' h.n 100000 0 refs ⟨h'.t,h.n⟩ else none
noncomputable def Lf (h h':CH) (v:Value):Option (Value×CH):=match gcX h.n 8 [] v with
 |none=>none
 |some p=>match Q16 h h' p.2 with
  |none=>none
  |some q=>some (p.1,q.1)
noncomputable def joinOps:AnsOps (Option (Value×CH)):=⟨none,fun a b=>match a with
 |some x=>match b with
  |some y=>if AF 20 x.1 y.1=true∧x.2.same y.2=true then some x else none
  |none=>none
 |none=>none⟩
structure ET where
 t:GT Value
 m:Nat
noncomputable def ET.get (e:ET) (i:Nat):Value:=Bool.rec (motive:=fun _=>Value) undef (e.t.get undef i) (Nat.blt i e.m)
noncomputable def ET.set (e:ET) (i:Nat) (v:Value):ET:=Bool.rec (motive:=fun _=>ET) e ⟨e.t.set undef 32 i v,e.m⟩ (Nat.blt i e.m)
noncomputable def ET.put (e:ET) (d:Option Nat) (v:Value):ET:=Option.rec (motive:=fun _=>ET) e (fun d=>e.set d v) d
noncomputable def etL (l:List Value):Nat→GT Value→GT Value:=List.rec (motive:=fun _=>Nat→GT Value→GT Value) (fun _ t=>t) (fun v _ ih i t=>ih (i+1) (t.set undef 32 i v)) l
noncomputable def ET.of (args:List Value) (nt:Nat):ET:=⟨etL args 0 .nil,args.length+(nt-args.length)⟩
noncomputable def MM (e:ET) (x:Operand):Value:=Operand.rec (motive:=fun _=>Value) (fun t=>e.get t) (fun v=>v) (fun g=>.pointer (some ⟨g,0,some 0⟩)) (fun f=>.func (.func f) #[] #[]) x
noncomputable def Q0v (e:ET) (ps:List Nat):List Value→ET:=List.rec (motive:=fun _=>ET→List Value→ET) (fun e _=>e) (fun p _ ih e vs=>List.rec (motive:=fun _=>ET) e (fun v vs _=>ih (e.set p v) vs) vs) ps e
noncomputable def O7 (e:ET) (g:Option (Nat×Bool)):Option Bool:=match g with
 |none=>some true
 |some (d,want)=>match e.get d with
  |.bool b=>some (b==want)
  |.tuple _=>some false
  |_=>none
noncomputable def ET.list (e:ET):List Value:=(List.range e.m).map e.get
noncomputable def Q53 (h h':CH) (e:ET):Option (Value×CH):=Lf h h' (.tuple e.list.toArray)
structure RCtx where
 ps:List Nat
 a:VCode
 b:VCode
 env:ET
abbrev Ys:=List (Nat×RCtx)
def Ys.find:Ys→Nat→Option RCtx
 |[],_=>none
 |(j,c)::l,i=>if Nat.beq i j=true then some c else Ys.find l i
structure Memo where
 args:List Value
 bl:List PB
 v:Value
 fr:List PB
def Q6r (g:Value→Option Value):List Value→Option (List Value)
 |[]=>some []
 |v::vs=>match g v with
  |none=>none
  |some u=>match Q6r g vs with
   |none=>none
   |some us=>some (u::us)
def shX (a m d:Nat):Nat→Value→Option Value
 |0,_=>none
 |f+1,v=>match v with
  |.pointer (some ⟨i,o,none⟩)=>if a≤i∧i<m then some (.pointer (some ⟨d+(i-a),o,none⟩)) else none
  |.slice (some ⟨i,o,none⟩) l c=>if a≤i∧i<m then some (.slice (some ⟨d+(i-a),o,none⟩) l c) else none
  |.agg cs=>match Q6r (shX a m d f) cs.toList with
   |some p=>some (.agg p.toArray)
   |none=>none
  |.tuple cs=>match Q6r (shX a m d f) cs.toList with
   |some p=>some (.tuple p.toArray)
   |none=>none
  |v=>if QO v=true then some v else none
noncomputable def Q7r (h:CH) (i:Nat) (b:PB):Bool:=match h.get i with
 |some (.cells c e _ t)=>decide (e=b.esz)&&(t==b.tight&&IS (AF 20) c b.c)
 |_=>false
noncomputable def Ih (h:CH):List Nat→List PB→Bool
 |[],[]=>true
 |i::l,b::m=>Q7r h i b&&Ih h l m
 |_,_=>false
noncomputable def Nm:List PB→CH→CH
 |[],h=>h
 |b::l,h=>Nm l (h.push (.cells b.c b.esz true b.tight))
noncomputable def AU (h:CH) (args:List Value) (refs:List Nat):List Memo→Option Memo
 |[]=>none
 |m::ms=>if (IS (AF 20) args m.args&&Ih h refs m.bl)=true then some m else AU h args refs ms
noncomputable def Sn (h:CH) (args:List Value) (ms:List Memo):Option (Value×CH) :=
 match Ox (gcX 0 8) args [] with
 |none=>none
 |some p=>match AU h p.1 p.2 ms with
  |none=>none
  |some m=>match Nat.ble (h.n+m.fr.length) 1000000000 with
   |false=>none
   |true=>match shX m.bl.length (m.bl.length+m.fr.length) h.n 8 m.v with
    |some v=>some (v,Nm m.fr h)
    |none=>none
inductive FEnt where
 |code (vc:VCode) (rs:List VResult) (nt:Nat)
 |codeJ (vc:VCode) (rs:List VResult) (nt:Nat)
 |codeM (vc:VCode) (rs:List VResult) (nt:Nat) (ms:List Memo)
 |same
abbrev Tab:=FuncId→Option FEnt
abbrev Q2x:=∀ {A:Type},AnsOps A→Ys→VCode→Option Nat→ET→CH→(Exit→ET→CH→A)→A
noncomputable def PV (env:ET) (σ:CH):VResult→Option Value
 |.tmp t=>some (env.get t)
 |.cell a agg size=>match Q43 agg size (env.get a) σ with|some p=>some p.1|none=>none
noncomputable def Di (env:ET) (σ:CH):List VResult→Option (List Value)
 |[]=>some []
 |r::rs=>match PV env σ r with
  |none=>none
  |some v=>match Di env σ rs with
   |none=>none
   |some vs=>some (v::vs)
noncomputable def Ng (env:ET) (σ:CH) (rs:List VResult):Option Value :=
 match rs with
 |[r]=>PV env σ r
 |rs=>match Di env σ rs with|some vs=>some (.tuple vs.toArray)|none=>none
section
variable (T:Tab) (ev:Q2x) {A:Type}(R:AnsOps A) (ys:Ys)
noncomputable def Q17 (fail:A) (rs:List VResult) (k:Value→CH→A):Exit→ET→CH→A:=fun e env h'=>match e with
  |.normal=>(match Ng env h' rs with|some v=>k v h'|none=>fail)
  |.ret=>(match Ng env h' rs with|some v=>k v h'|none=>fail)
  |_=>fail
noncomputable def CV (f:FuncId) (args:List Value) (h:CH) (k:Value→CH→A):A :=
 match T f with
 |some (.code vc rs nt)=>match Nat.ble (ET.of args nt).m 1000000 with
  |true=>ev R ys vc none (ET.of args nt) h (Q17 R.fail rs k)
  |false=>R.fail
 |some (.codeJ vc rs nt)=>match Nat.ble (ET.of args nt).m 1000000 with
  |true=>(match ev joinOps ys vc none (ET.of args nt) h (Q17 none rs fun v h'=>Lf h h' v) with
   |some x=>if x.2.room=true∧Nat.ble h.n x.2.n=true then k x.1 x.2 else R.fail
   |none=>R.fail)
  |false=>R.fail
 |some (.codeM vc rs nt ms)=>match Sn h args ms with
  |some p=>k p.1 p.2
  |none=>match Nat.ble (ET.of args nt).m 1000000 with
   |true=>ev R ys vc none (ET.of args nt) h (Q17 R.fail rs k)
   |false=>R.fail
 |some .same=>match args with
  |[v]=>k v h
  |_=>R.fail
 |none=>R.fail
noncomputable def I_ (i:Nat) (k:Value→CH→A):Exit→ET→CH→A:=fun e _ h =>
 match h.get i with
 |some (.lp .busy none)=>match e with
  |.normal=>k (.bool true) (h.upd i (.lp .ready none))
  |.ret=>k (.bool false) (h.upd i (.lp .done (some .ret)))
  |.exit id=>k (.bool false) (h.upd i (.lp .done (some (.exit id))))
  |_=>R.fail
 |_=>R.fail
noncomputable def Q0t (c:RCtx) (i:Nat) (k:Value→CH→A):Exit→ET→CH→A:=fun e bg h1=>match e with
 |.normal=>(match h1.get i with
  |some (.lp .ready none)=>ev R ys c.b (some i) bg (h1.upd i (.lp .busy none)) (I_ R i k)
  |_=>R.fail)
 |_=>R.fail
noncomputable def I0 (i:Nat) (args:List Value) (h:CH) (k:Value→CH→A):A :=
 match ys.find i with
 |some c=>match h.get i with
  |some (.lp .ready none)=>if args.length=c.ps.length then ev R ys c.a (some i) (Q0v c.env c.ps args) h (Q0t ev R ys c i k) else R.fail
  |_=>R.fail
 |none=>R.fail
noncomputable def M9 (i m since clock:Nat) (seen:List Nat) (h:CH) (k:Value→CH→A):List JA→Option A
 |[]=>none
 |e::es=>if seen.contains e.2.2=true then M9 i m since clock seen h k es
  else match M9 i m since clock seen h k es with
   |none=>some (k (.tuple #[.bool true,e.1,e.2.1]) (h.upd i (.iter m since (seen++[e.2.2]) clock)))
   |some a=>some (R.both (k (.tuple #[.bool true,e.1,e.2.1]) (h.upd i (.iter m since (seen++[e.2.2]) clock))) a)
noncomputable def Q1k (x:Value) (h:CH) (k:Value→CH→A):A :=
 match x with
 |.pointer (some ⟨i,0,none⟩)=>match h.get i with
  |some (.iter m since seen last)=>match h.mapAt m with
   |some (es,clock,_) =>
    if (seen.isEmpty||es.isEmpty||es.any (fun e=>decide (e.2.2<last)))=true∧es.all (fun e=>KS e.1)=true then
     (match M9 R i m since clock seen h k es with
     |none=>if es.all (fun e=>seen.contains e.2.2||decide (since≤e.2.2))=true then k (.tuple #[.bool false]) h else R.fail
     |some a=>if es.all (fun e=>seen.contains e.2.2||decide (since≤e.2.2))=true then R.both (k (.tuple #[.bool false]) h) a else a)
    else R.fail
   |none=>R.fail
  |_=>R.fail
 |_=>R.fail
noncomputable def Q0z (f:Value) (args:List Value) (h:CH) (k:Value→CH→A):A:=match f with
  |.func (.func g) first cap=>CV T ev R ys g (first.toList++args++cap.toList) h k
  |.func (.yield i) _ _=>I0 ev R ys i args h k
  |_=>R.fail
noncomputable def FZ (r:Option (Value×CH)) (k:Value→CH→A):A:=match r with
  |some p=>k p.1 p.2
  |none=>R.fail
noncomputable def Q2f (o:VOp) (env:ET) (h:CH) (k:Value→CH→A):A :=
 match o with
 |.callF f args=>CV T ev R ys f (args.map (MM env)) h k
 |.callV f args=>Q0z T ev R ys (MM env f) (args.map (MM env)) h k
 |.ext (.nextMap x)=>Q1k R (MM env x) h k
 |o=>FZ R (CT o (MM env) h) k
noncomputable def IZ (l:List VOper):ET→CH→(ET→CH→A)→A :=
 List.rec (motive:=fun _=>ET→CH→(ET→CH→A)→A) (fun env h k=>k env h)
  (fun o _ ih env h k=>match O7 env o.guard with
   |none=>R.fail
   |some true=>Q2f T ev R ys o.op env h fun v h'=>ih (env.put o.dst v) h' k
   |some false=>ih (env.put o.dst undef) h k) l
noncomputable def At (op:VOp) (ev:Operand→Value) (v:Value) (h:CH):Bool:=match CT op ev h with
 |some q=>AF 20 q.1 v
 |none=>false
def IA (r:Nat) (h:CH):List (Nat×(CH→Bool))→Bool
 |[]=>true
 |c::l=>(!(Nat.ble r c.1)||c.2 h)&&IA r h l
noncomputable def M5:List DOper→ET→List CH→CH→List (Nat×(CH→Bool))→(ET→CH→A)→A
 |[],env,_,h,_,k=>k env h
 |o::rest,env,hs,h,pend,k=>match O7 env o.guard with
  |none=>R.fail
  |some true=>if o.kind=2 then
    (match Q2f T ev AN ys o.op env h (fun v h'=>some (v,h')) with
    |some p=>if h.newOk p.2=true∧IA hs.length p.2 pend=true then M5 rest (env.put o.dst p.1) (hs++[p.2]) p.2 pend k else R.fail
    |none=>R.fail)
   else if o.kind=1 then
    (match CT o.op (MM env) h with
    |some p=>if (hs.drop o.kmin).all (At o.op (MM env) p.1)=true then
      M5 rest (env.put o.dst p.1) hs h (if hs.length≤o.kmax then (o.kmax,At o.op (MM env) p.1)::pend else pend) k else R.fail
    |none=>R.fail)
   else match CT o.op (MM env) h with
    |some p=>M5 rest (env.put o.dst p.1) hs h pend k
    |none=>R.fail
  |some false=>if o.kind=2 then
    (if IA hs.length h pend=true then M5 rest (env.put o.dst undef) (hs++[h]) h pend k else R.fail)
   else M5 rest (env.put o.dst undef) hs h pend k
noncomputable def Q2e (env:ET) (h:CH) (a:List DOper):Option (Value×CH):=M5 T ev joinOps ys a env [h] h [] fun env h'=>Q53 h h' env
noncomputable def Av (env:ET) (h:CH):List (List DOper)→Option (Value×CH)
 |[]=>none
 |[a]=>Q2e T ev ys env h a
 |a::b::r=>joinOps.both (Q2e T ev ys env h a) (Av env h (b::r))
noncomputable def Pc:List DSeg→ET→CH→(ET→CH→A)→A
 |[],env,h,k=>k env h
 |.one o::rest,env,h,k=>IZ T ev R ys [o] env h fun env h=>Pc rest env h k
 |.alts [a]::rest,env,h,k=>M5 T ev R ys a env [h] h [] fun env h=>Pc rest env h k
 |.alts l::rest,env,h,k=>match Av T ev ys env h l with
  |some x=>(match x.1 with
   |.tuple vs=>if x.2.room=true∧Nat.ble h.n x.2.n=true∧vs.toList.length=env.m then Pc rest (ET.of vs.toList 0) x.2 k else R.fail
   |_=>R.fail)
  |none=>R.fail
noncomputable def Q19 (h:CH):Option Nat→Bool
 |none=>true
 |some i=>match h.get i with
  |some (.lp _ _)=>true
  |_=>false
def Q2h:LoopState→Bool
 |.busy=>false
 |_=>true
noncomputable def Q3e (env:ET) (i:Nat) (k:Exit→ET→CH→A):Value→CH→A:=fun _ h =>
 match h.get i with
 |some (.lp st pend)=>if Q2h st=true then (match pend with
   |none=>k .normal env (h.kill i)
   |some .ret=>k .ret env (h.kill i)
   |some (.exit id)=>k (.exit id) env (h.kill i)
   |some _=>R.fail) else R.fail
 |_=>R.fail
noncomputable def Q41 (kb k:Exit→ET→CH→A):Exit→ET→CH→A:=fun e env h=>match e with
 |.normal=>kb .normal env h
 |e=>k e env h
noncomputable def IV (id:Nat) (k:Exit→ET→CH→A):Exit→ET→CH→A:=fun e env h=>match e with
 |.exit gj=>if gj=id then k .normal env h else k (.exit gj) env h
 |e=>k e env h
noncomputable def Q2b (v:Value) (a b:A):A:=match v with
 |.bool true=>a
 |.bool false=>b
 |_=>R.fail
noncomputable def FR (g:Value) (ps:List Nat) (a b:VCode) (ro:Option Nat) (env:ET) (h:CH) (k:Exit→ET→CH→A):A:=match g with
 |.func (.func f) first cap=>match T f with
  |some (.code _ _ _)=>if Q19 h ro=true∧h.room=true then
    CV T ev R ((h.n,⟨ps,a,b,env⟩)::ys) f (first.toList++[.func (.yield h.n) #[] #[]]++cap.toList) (h.push (.lp .ready none)) (Q3e R env h.n k)
   else R.fail
  |_=>R.fail
 |_=>R.fail
noncomputable def LP (c:VCode):Option Nat→ET→CH→(Exit→ET→CH→A)→A :=
 VCode.rec (motive:=fun _=>Option Nat→ET→CH→(Exit→ET→CH→A)→A)
  (fun _ env h k=>k .normal env h)
  (fun ops _ env h k=>IZ T ev R ys ops env h (k .normal))
  (fun aN _ env h k=>Pc T ev R ys aN env h (k .normal))
  (fun g ps a b _ _ ro env h k=>FR T ev R ys (MM env g) ps a b ro env h k)
  (fun _ _ eK ef ro env h k=>eK ro env h (Q41 (fun _ ae h'=>ef ro ae h' k) k))
  (fun c _ _ eK ef ro env h k=>Q2b R (MM env c) (eK ro env h k) (ef ro env h k))
  (fun id _ ih ro env h k=>ih ro env h (IV id k))
  (fun b ih ro env h k=>ih ro env h (Q41 (fun _ ae h'=>ev R ys (.loop b) ro ae h' k) k))
  (fun id _ env h k=>k (.exit id) env h)
  (fun _ env h k=>k .ret env h)
  (fun _ _ _ _=>R.fail) c
end
noncomputable def SY (T:Tab) (n:Nat):Q2x :=
 Nat.rec (motive:=fun _=>Q2x) (fun R _ _ _ _ _ _=>R.fail) (fun _ ih {_} R ys c ro env h k=>LP T ih R ys c ro env h k) n
end Go.V