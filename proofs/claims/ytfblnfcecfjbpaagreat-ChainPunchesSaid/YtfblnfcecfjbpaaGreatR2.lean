/- A framework for walks, contracts of functions, and their proofs: part 2. -/
import Derived.RangeFuncLeaves
import Derived.RangeFuncCalls
import Derived.OrdersIn
import Derived.TacticsIn
import Derived.Sort.LoopGhostIn
import Derived.Deep.LoopGhost
import Derived.Test.YtfblnfcecfjbpaaGreatR1
noncomputable section
namespace Go.V
open Go
section
variable {P:Program}{S:VSpecs}{B:Nat}
def FF:Option Nat→Fence
 |none=>Fence.wide
 |some l=>Fence.wide.inRound l
theorem Ew (ro:Option Nat) (f:FuncId):(FF ro).fn f:=by cases ro<;>trivial
theorem Rm (ro:Option Nat):(FF ro).depth=none:=by cases ro<;>rfl
theorem Q0x (ro:Option Nat):(FF ro).round=ro:=by cases ro<;>rfl
theorem A5 {ro:Option Nat}{n:Nat}{f:FuncId}{args:Array Value}{w:World}{R:Ending→World→Prop}(h:Calls P f args w R):CallsIn (FF ro) n P f args w R:=by
 cases ro with
 |none=>exact callsIn_wide.2 h
 |some l=>exact CallsIn.inRound l (callsIn_wide.2 h)
theorem CJ {ro:Option Nat}{n m:Nat}{l:Nat}{f:FuncId}{tmps:Array Value}{eQ body:Code}{w:World}{R:Ending→World→Prop}(h:RoundIn Fence.wide m P l f tmps eQ body w R):RoundIn (FF ro) n P l f tmps eQ body w R:=by refine⟨Ew _ _,fun c cs _=>?_⟩;obtain⟨e,w',r,s⟩:=h.2 c cs (room_wide _);refine⟨e,w',r,?_⟩;cases ro<;>exact s
def Got (ρ:Plc) (σ:Heap) (w:World) (R:Value→Heap→Prop) (c:Value) (w':World):Prop :=
 ∃ v ρ' σ',R v σ'∧VRel ρ' σ'.n v c∧HRel ρ' σ' w'∧Ext ρ σ w ρ' σ' w'
def VCallsTo (P:Program) (f:FuncId) (args:List Value) (σ:Heap) (R:Value→Heap→Prop):Prop :=
 ∀ ρ w (ax:Array Value),HRel ρ σ w→LRel ρ σ.n args ax.toList→Calls P f ax w fun e w'=>∃ c,e=.returned c∧Got ρ σ w R c w'
def VCalled (P:Program) (f:FuncId) (args:List Value) (σ:Heap) (R:Value→Heap→Prop):Prop :=
 ∀ ρ w (ax:Array Value),HRel ρ σ w→LRel ρ σ.n args ax.toList →
  ((∀ w,(callFunc f ax).run P w=.ok (.enter f ax) w)∧Calls P f ax w fun e w'=>∃ c,e=.returned c∧Got ρ σ w R c w') ∨
  (∃ c,Got ρ σ w R c w∧∀ w',Like ρ w w'→(callFunc f ax).run P w'=.ok (.value c) w')
def BY (P:Program) (i:Nat) (args:List Value) (σ:Heap) (R:Value→Heap→Prop):Prop :=
 ∀ ρ w (ax:Array Value),HRel ρ σ w→LRel ρ σ.n args ax.toList →
  ∃ p,ρ i=some p∧∃ fn tmps eQ body,(Instr.yield p.blk ax).run P w=.ok (.round p.blk fn tmps eQ body) w ∧
   RoundIn Fence.wide 0 P p.blk fn tmps eQ body w fun e w'=>∃ c,e=.returned c∧Got ρ σ w R c w'
def X6 (P:Program) (f:FuncId):Prop:=∃ fn,P.funcs[f]?=some fn∧fn.body.isSome=true∧(fn.name=="runtime.NumGoroutine")=false
def Q83 (P:Program) (f:FuncId) (s:Tk):Prop:=∀ args σ K,s args σ K→VCalled P f args σ K
def KQ (P:Program) (i:Nat) (s:Tk):Prop:=∀ args σ K,s args σ K→BY P i args σ K
def Q8p (P:Program) (f:FuncId) (T:Nat→Tk→Tk):Prop:=X6 P f∧∀ i Y,KQ P i Y→∀ args σ K,T i Y args σ K→VCallsTo P f args σ K
structure OkSpecs (P:Program) (S:VSpecs):Prop where
 fn:∀ f s,S.fn f=some s→Q83 P f s
 yl:∀ i s,S.yl i=some s→KQ P i s
 it:∀ f T,S.it f=some T→Q8p P f T
theorem Nd {f:FuncId}(h:X6 P f) (args:Array Value) (w:World):(callFunc f args).run P w=.ok (.enter f args) w:=by
 obtain⟨fn,h1,h2,h3⟩:=h;have h4:¬ fn.body=none:=fun e=>by rw[e] at h2;cases h2
 have h5:¬ fn.name="runtime.NumGoroutine":=fun e=>by rw[e] at h3;simp at h3
 simp[callFunc,h1,h4,h5]
theorem VCallsTo.called {f:FuncId}{args:List Value}{σ:Heap}{R:Value→Heap→Prop}(he:X6 P f) (h:VCallsTo P f args σ R):VCalled P f args σ R :=
 fun ρ w ax hH hL=>.inl ⟨fun w=>Nd he ax w,h ρ w ax hH hL⟩
theorem Got.mono {ρ:Plc}{σ:Heap}{w:World}{R R':Value→Heap→Prop}{c:Value}{w':World}(h:Got ρ σ w R c w') (hr:∀ v σ',R v σ'→R' v σ'):Got ρ σ w R' c w' :=
 let ⟨v,ρ',σ',h1,h2⟩:=h;⟨v,ρ',σ',hr _ _ h1,h2⟩
theorem VCallsTo.mono {f:FuncId}{args:List Value}{σ:Heap}{R R':Value→Heap→Prop}(h:VCallsTo P f args σ R) (hr:∀ v σ',R v σ'→R' v σ'):VCallsTo P f args σ R' :=
 fun ρ w ax hH hL=>(h ρ w ax hH hL).mono fun _ _ ⟨c,he,hg⟩=>⟨c,he,hg.mono hr⟩
theorem Yq {ρ:Plc}{n:Nat}{env:Env}{a:Act}(h:LRel ρ n env a.tmps.toList) {v c:Value}(hv:VRel ρ n v c) (d:Option Nat):LRel ρ n (JS env d v) (a.put d c).tmps.toList:=by
 cases d with
 |none=>exact h
 |some d=>simp only[JS,Act.put,Array.toList_setIfInBounds];exact h.set d hv
theorem Zp (env:Env) (d:Option Nat) (v:Value):List.length (JS env d v)=List.length env:=by cases d<;>simp[JS]
theorem JT (a:Act) (d:Option Nat) (c:Value):(a.put d c).defers=a.defers:=by cases d<;>rfl
theorem Gv {ρ:Plc}{n:Nat}{env:Env}{a:Act}{ops:Array Oper}{o:Oper}{vo:VOper}(hc:J0 P ops o=some vo) (hL:LRel ρ n env a.tmps.toList) {b:Bool}(h:Z_ env vo.guard=some b) :
  Region.wanted o (yielded ops a.tmps)=b∧vo.dst=o.dst∧Kf P o.op=vo.op:=by
 unfold J0 at hc;simp only[Option.bind_eq_bind] at hc;cases hg:o.guard with
 |none =>simp[hg] at hc;subst hc;simp[Z_] at h;subst h;simp[Region.wanted,hg]
 |some jw =>
  obtain⟨j,want⟩:=jw;simp[hg] at hc;cases hj:ops[j]? with
  |none=>simp[hj] at hc
  |some oj =>
   cases hd:oj.dst with
   |none=>simp[hj,hd] at hc
   |some d =>
    simp[hj,hd] at hc;subst hc;refine⟨?_,rfl,rfl⟩;simp only[Z_] at h;simp only[Region.wanted,hg,yielded,hj,Option.bind_some,hd];have hlen:List.length env=a.tmps.size:=by have:=hL.1;rw[Array.length_toList] at this;exact this
    rcases Nat.lt_or_ge d (List.length env) with ai|bI
    ·have bW:d<a.tmps.size:=by rw[←hlen];exact ai
     have hr:=hL.2 d env[d] a.tmps[d] (List.getElem?_eq_getElem ai) (by simp[bW]);have he:env.getD d undef=env[d]:=by simp[List.getD,ai]
     rw[he] at h;simp only[Array.getElem?_eq_getElem bW];split at h
     ·rename_i b' heq;rw[heq] at hr;rw[hr.bool_inv];simp at h;simp[←h]
     ·rename_i vs heq;rw[heq] at hr;obtain⟨ds,hds,_⟩:=hr.tuple_inv;rw[hds];simp at h;subst h;simp
     ·cases h
    ·have he:env.getD d undef=undef:=by simp[List.getD,List.getElem?_eq_none bI]
     rw[he] at h;have:a.tmps[d]?=none:=Array.getElem?_eq_none (by rw[←hlen];exact bI);simp only[this];simp[undef] at h;subst h;simp
theorem OT {o:Oper}{vo:VOp}(hc:KY P o.op=some vo) {ρ:Plc}{σ:Heap}{env:Env}{a:Act}(hL:LRel ρ σ.n env a.tmps.toList) {K:Value→Heap→Prop}
  (aB:(∃ f bL,vo=.callF f bL)∨(∃ f bL,vo=.callV f bL)) {σ0:Heap}(h:vop S vo env σ0 K) :
  (∃ f args ax,vcall S f args σ0 K∧LRel ρ σ.n args ax.toList∧∀ w,(execOp a.eval o).run P w=(callFunc f ax).run P w) ∨
  (∃ i r args ax,Af S i args σ0 K∧VRel ρ σ.n (.func (.yield i) #[] #[]) (.func (.yield r) #[] #[])∧LRel ρ σ.n args ax.toList∧∀ w,(execOp a.eval o).run P w=(Instr.yield r ax).run P w):=by
 have a9:=hc;cases dU:KY P o.op with
 |none=>rw[dU] at hc;cases hc
 |some rX =>
  clear dU hc rX;obtain⟨dst,op,ty,pos,after,guard⟩:=o;simp only at a9;unfold KY at a9;split at a9
  ·cases a9
  rename_i ah;simp only[Bool.not_eq_true,Bool.not_eq_false'] at ah;cases op
  case call c =>
   simp only[Op.operands] at ah a9;split at a9
   ·rename_i f aG;simp at a9;subst a9;simp only[vop] at h;have aw:(c.args.toList).all JW=true:=by
     simp only[Call.operands,aG,Array.toList_append,List.all_append,Bool.and_eq_true] at ah;exact ah.2
    refine .inl ⟨f,_,c.args.map a.eval,h,by have:=RN (fun x hx=>XS hL hx) aw;simpa using this,fun w=>?_⟩;simp[execOp,resolve,aG,Act.eval,Deferred.ofValue,invoke]
   ·rename_i fo aA aG;simp at a9;subst a9;simp only[vop] at h;simp only[Call.operands,aG,Array.toList_append,List.all_append,Bool.and_eq_true] at ah;have hf:=XS hL (x:=fo) (by simpa using ah.1);have has:=RN (fun x hx=>XS hL hx) ah.2;split at h
    ·rename_i g first cap heq
     rw[heq] at hf;cases jA:a.eval fo with
     |func fn gs ds =>
      rw[jA] at hf;cases hf with
      |func _ _ _ _ _ h1 h2 h3 h4 =>
       refine .inl ⟨g,_,gs++c.args.map a.eval++ds,h,?_,fun w=>?_⟩
       ·have eA:=LRel.of_array h1 h3;have cA:=LRel.of_array h2 h4;have:=(eA.append has).append cA;simpa using this
       ·simp[execOp,resolve,aG,jA,Deferred.ofValue,invoke]
     |_=>rw[jA] at hf;cases hf
    ·rename_i i first cap heq
     rw[heq] at hf;have hinv:∀ c,VRel ρ σ.n (.func (.yield i) first cap) c→∃ r,c=.func (.yield r) #[] #[]∧VRel ρ σ.n (.func (.yield i) #[] #[]) (.func (.yield r) #[] #[]):=by
      intro c h;cases h with
      |yield _ r hi hr=>exact⟨r,rfl,.yield i r hi hr⟩
     obtain⟨r,jA,hv⟩:=hinv _ hf;refine .inr ⟨i,r,_,c.args.map a.eval,h,hv,by simpa using has,fun w=>?_⟩;simp[execOp,resolve,aG,jA,Deferred.ofValue,invoke]
    ·cases h
   all_goals
    repeat' first
     |(cases a9;done)
     |(simp at a9;subst a9;rcases aB with⟨f,bL,h⟩|⟨f,bL,h⟩<;>cases h;done)
     |split at a9
   all_goals
    simp only[Option.bind_eq_bind,Option.bind_eq_some_iff] at a9;obtain⟨_,_,_,_,a9⟩:=a9;split at a9<;>simp at a9;subst a9;rcases aB with⟨f,bL,h⟩|⟨f,bL,h⟩<;>cases h
  all_goals simp only[Op.operands] at ah a9
  all_goals
   repeat' first
    |(cases a9;done)
    |(simp at a9;subst a9;rcases aB with⟨f,bL,h⟩|⟨f,bL,h⟩<;>cases h;done)
    |split at a9
  all_goals simp only[Option.bind_eq_bind,Option.bind_eq_some_iff,reduceCtorEq,and_false,exists_false] at a9
  all_goals first
   |(obtain⟨_,_,a9⟩:=a9;simp at a9;subst a9;rcases aB with⟨f,bL,h⟩|⟨f,bL,h⟩<;>cases h;done)
   |(obtain⟨_,_,_,_,a9⟩:=a9;simp at a9;subst a9;rcases aB with⟨f,bL,h⟩|⟨f,bL,h⟩<;>cases h;done)
   |(obtain⟨_,_,_,_,_,_,a9⟩:=a9;simp at a9;subst a9;rcases aB with⟨f,bL,h⟩|⟨f,bL,h⟩<;>cases h;done)
   |(obtain⟨d,_,a9⟩:=a9;cases d<;>simp at a9<;>subst a9<;>rcases aB with⟨f,bL,h⟩|⟨f,bL,h⟩<;>cases h;done)
   |(obtain⟨_,_,_,_,a9⟩:=a9;split at a9<;>simp at a9;subst a9;rcases aB with⟨f,bL,h⟩|⟨f,bL,h⟩<;>cases h;done)
   |(obtain⟨_,_,a9⟩:=a9;split at a9<;>simp at a9;subst a9;rcases aB with⟨f,bL,h⟩|⟨f,bL,h⟩<;>cases h;done)
theorem NG {o:Op}{vo:VOp}(h:Kf P o=vo) (hv:vo≠.bad):KY P o=some vo∨∃ x,Tu P o=some x∧vo=.ext x:=by
 unfold Kf at h;split at h
 ·rename_i v fP;subst h;exact .inl fP
 ·split at h
  ·rename_i x hx;exact .inr ⟨x,hx,h.symm⟩
  ·exact absurd h.symm hv
theorem AN {o:Op}{x:XOp}(h:KY P o=some (.ext x)):False:=by
 unfold KY at h
 repeat' first
  |contradiction
  |(cases h;done)
  |(simp at h;done)
  |(rw[Option.bind_eq_bind,Option.bind_eq_some_iff] at h;obtain⟨_,_,h⟩:=h)
  |split at h
theorem RC {o:Op}{vo:VOp}(h:Kf P o=vo) (hv:vo≠.bad) (c:Call):o≠.defer c:=by
 rintro rfl;rcases NG h hv with h|⟨x,h,_⟩
 ·unfold KY at h;split at h<;>simp at h
 ·unfold Tu at h;split at h<;>simp at h
theorem E8 {o:Oper}{x:Operand}(hc:Tu P o.op=some (.nextMap x)) {ρ:Plc}{σ:Heap}{w:World}{env:Env}{ev:Operand→Value}(hH:HRel ρ σ w) (hE:∀ x,JW x=true→VRel ρ σ.n (Q3 env x) (ev x))
  {K:Value→Heap→Prop}(h:CD (Q3 env x) σ K):∃ c w',(execOp ev o).run P w=.ok (.value c) w'∧Got ρ σ w K c w':=by
 obtain⟨dst,op,ty,pos,after,guard⟩:=o;simp only at hc;unfold Tu at hc;split at hc
 ·cases hc
 rename_i ah;simp only[Bool.not_eq_true,Bool.not_eq_false'] at ah;have bD:op=.next x false:=by
  cases op
  case next y b=>cases b<;>simp at hc;subst hc;rfl
  all_goals
   simp only at hc
   repeat' first
    |contradiction
    |(obtain⟨_,h⟩:=E5 hc;cases h;done)
    |(cases hc;done)
    |(simp at hc;done)
    |(rw[Option.bind_eq_bind,Option.bind_eq_some_iff] at hc;obtain⟨_,_,hc⟩:=hc)
    |split at hc
 subst bD;clear hc;simp[Op.operands] at ah;have hx:=hE x ah;unfold CD at h;split at h
 ·rename_i i br;rw[br] at hx;split at h
  ·rename_i m since seen last hb;split at h
   ·rename_i es clock wr aE;obtain⟨h1,ae,h2,h3⟩:=h;obtain⟨p,hp,⟨_,eE⟩,O,hO,rm,rfl,oi⟩:=hH.live i _ hb;obtain⟨q,entries,gH,cw,aD,aF⟩:=X5 hH aE oi;simp at gH;subst gH;obtain⟨_,_,cg⟩:=hx.ptr_inv hp;rw[eE,Nat.zero_add] at cg;have gu:(getObj p.blk).run P w=.ok (.mapIter (some q.blk) since seen.toArray last) w:=Qu hO (fun _ _ _ e=>by cases e);have cZ:(getObj q.blk).run P w=.ok (.map entries clock) w:=Qu aD (fun _ _ _ e=>by cases e);let left:=entries.filter fun e=>!seen.toArray.contains e.born;let aV:=left.filter (·.born<since);let new:=left.filter (·.born≥since);let bE:Array (Option MapEntry):=(if aV.isEmpty then #[none] else #[])++(aV++new).map some;have bA:0<bE.size:=by
     by_cases ho:aV.isEmpty=true
     ·simp only[bE,ho,if_true,Array.size_append];show 0<1+_;omega
     ·have:aV.size≠0:=fun e=>ho (by simp[Array.isEmpty,e]);simp only[bE,Array.size_append,Array.size_map];omega
    obtain⟨k,w1,hk,eF,o_⟩:∃ k w1,k<bE.size∧(choose (.mapNext bE.size)).run P w=.ok k w1∧(w1=w∨w1=w.drew):=by
     rw[run_choose_drew];by_cases hf:(Question.mapNext bE.size).forced=true
     ·exact⟨0,w,bA,by rw[if_pos hf],.inl rfl⟩
     ·refine⟨_,w.drew,?_,by rw[if_neg hf],.inr rfl⟩;exact Nat.mod_lt _ bA
    have ic:HRel ρ σ w1:=by rcases o_ with rfl|rfl;exact hH;exact hH.drew
    have fl:Ext ρ σ w ρ σ w1:=by rcases o_ with rfl|rfl;exact Ext.refl _ _ _;exact Ext.drew _ _ _
    have rY:w1.heap[p.blk]?=some (.mapIter (some q.blk) since seen.toArray last):=by rcases o_ with rfl|rfl<;>exact hO
    have ak:¬ ((!seen.toArray.isEmpty&&!entries.isEmpty&&entries.all (fun e=>decide (e.born≥last)))=true):=by
     intro hh;simp only[Bool.and_eq_true] at hh;obtain⟨⟨h4,h5⟩,h6⟩:=hh;simp only[Bool.or_eq_true] at h1;rcases h1 with (h1|h1)|h1
     ·rw[List.isEmpty_iff] at h1;subst h1;simp at h4
     ·rw[List.isEmpty_iff] at h1;subst h1;have:entries=#[]:=by have:=aF.1;simpa using this
      subst this;simp at h5
     ·obtain⟨kv,dk,ai⟩:=List.any_eq_true.1 h1;obtain⟨j,hj⟩:=List.mem_iff_getElem?.1 dk;have cf:j<entries.toList.length:=by rw[aF.1];exact(List.getElem?_eq_some_iff.1 hj).1
      have he:=aF.2 j entries.toList[j] kv (List.getElem?_eq_getElem cf) hj;have:=Array.all_eq_true'.1 h6 entries.toList[j] (by rw[←Array.mem_toList_iff];exact List.getElem_mem cf);have h7:=he.2.1;simp at this ai;simp at h7;omega
    have aX:∀ r,(match bE[k]? with
      |some (some e)=>(do setObj p.blk (.mapIter (some q.blk) since (seen.toArray.push e.born) clock);pure (Value.tuple #[.bool true,e.key,e.val]):Sem Value)
      |some none=>pure (.tuple #[.bool false])
      |none=>stuck "Next: no such candidate").run P w1=r→(Instr.next (ev x) false ty).run P w=r:=by
     intro r hr;rw[←hr];simp only[Instr.next,cg,Sem.run_bind,gu,cZ,Result.andThen_ok];rw[if_neg ak];simp only[Sem.run_bind];change ((choose (Question.mapNext bE.size)).run P w).andThen _=_;rw[eF];rfl
    have hval:∀ c w',(Instr.next (ev x) false ty).run P w=.ok c w'→(execOp ev ⟨dst,.next x false,ty,pos,after,guard⟩).run P w=.ok (.value c) w':=fun c w' h=>by simp[execOp,h]
    have eP:bE[k]?=some bE[k]:=Array.getElem?_eq_getElem hk;cases hx:bE[k] with
    |none =>
     rw[hx] at eP;have aL:none∈bE:=hx▸Array.getElem_mem hk;have hold:aV.isEmpty=true:=by
      cases ho:aV.isEmpty with
      |true=>rfl
      |false=>simp[bE,ho] at aL
     refine⟨_,w1,hval _ _ (aX _ (by rw[eP];rfl)),_,ρ,σ,h2 ?_,VRel.tuple_of (LRel.cons (.bool _) (LRel.nil _ _)),ic,fl⟩;refine List.all_eq_true.2 fun kv dk=>?_;obtain⟨j,hj⟩:=List.mem_iff_getElem?.1 dk;have cf:j<entries.toList.length:=by rw[aF.1];exact(List.getElem?_eq_some_iff.1 hj).1
     have he:=aF.2 j entries.toList[j] kv (List.getElem?_eq_getElem cf) hj;cases rZ:seen.contains kv.2.2 with
     |true=>rfl
     |false =>
      simp only[Bool.false_or,decide_eq_true_eq];rcases Nat.lt_or_ge kv.2.2 since with ai|bI
      ·exfalso;have:entries.toList[j]∈aV:=by
        simp only[aV,left,Array.mem_filter,decide_eq_true_eq];refine⟨⟨by rw[←Array.mem_toList_iff];exact List.getElem_mem cf,?_⟩,by rw[he.2.1];exact ai⟩;rw[he.2.1];simpa using rZ
       rw[Array.isEmpty_iff] at hold;rw[hold] at this;simp at this
      ·exact bI
    |some e =>
     rw[hx] at eP;have aL:some e∈bE:=hx▸Array.getElem_mem hk;have mC:e∈left:=by
      have h4:e∈aV++new:=by
       simp only[bE,Array.mem_append,Array.mem_map] at aL;rcases aL with aL|⟨a,ha,oe⟩
       ·split at aL<;>simp at aL
       ·simp at oe;subst oe;simpa using ha
      rcases Array.mem_append.1 h4 with h4|h4
      ·exact(Array.mem_filter.1 h4).1
      ·exact(Array.mem_filter.1 h4).1
     obtain⟨hel,lP⟩:=Array.mem_filter.1 mC;rw[←Array.mem_toList_iff] at hel;obtain⟨j,hj⟩:=List.mem_iff_getElem?.1 hel;have cf:j<es.length:=by rw[←aF.1];exact(List.getElem?_eq_some_iff.1 hj).1
     have he:=aF.2 j e es[j] hj (List.getElem?_eq_getElem cf);have ka:=h3 es[j] (List.getElem_mem cf) (by rw[←he.2.1];simpa using lP);obtain⟨k1,k2⟩:=ic.setObj (o':=.iter m since (seen++[es[j].2.2]) clock) (O':=.mapIter (some q.blk) since (seen.toArray.push e.born) clock) hp hb ⟨q.blk,by rw[he.2.1];simp,oi⟩;have aS:VRel ρ σ.n es[j].1 e.key:=by rw[he.1];exact KZ (List.all_eq_true.1 ae _ (List.getElem_mem cf))
     refine⟨_,_,hval _ _ (aX _ (by
      rw[eP];simp only[Sem.run_bind,QL rY (fun _ _ _ e=>by cases e),Result.andThen_ok,Sem.run_pure])),_,ρ,_,ka,VRel.tuple_of (LRel.cons (.bool _) (LRel.cons aS (LRel.cons he.2.2 (LRel.nil _ _)))),k1,fl.trans k2⟩
   ·exact h.elim
  ·exact h.elim
 ·exact h.elim
theorem Fb (hS:OkSpecs P S) {f:FuncId}{args:List Value}{σ:Heap}{K:Value→Heap→Prop}(h:vcall S f args σ K):VCalled P f args σ K:=by
 unfold vcall at h;split at h
 ·rename_i s hs;exact hS.fn f s hs _ _ _ h
 ·exact h.elim
theorem AS (hS:OkSpecs P S) {i:Nat}{args:List Value}{σ:Heap}{K:Value→Heap→Prop}(h:Af S i args σ K):BY P i args σ K:=by
 unfold Af at h;split at h
 ·rename_i s hs;exact hS.yl i s hs _ _ _ h
 ·exact h.elim
theorem FN {o:Oper}{vo:VOp}(hc:Kf P o.op=vo) {ρ:Plc}{σ:Heap}{w:World}{env:Env}{a:Act}(hH:HRel ρ σ w) (hL:LRel ρ σ.n env a.tmps.toList) {v:Value}{σ':Heap}
  (h:Q6 vo (Q3 env) σ=some (v,σ')):Sj P ρ σ w v σ' (execOp a.eval o):=by
 cases hq:vo.quiet with
 |false=>exact Q0j hc hq hH (fun x hx=>XS hL hx) h
 |true =>obtain⟨rfl,c,dZ,hr⟩:=I0 hc hq hH (fun x hx=>XS hL hx) h;exact⟨c,w,ρ,.inl (hr w (Like.refl ρ w)),dZ,hH,Ext.refl _ _ _⟩
theorem V8 (hS:OkSpecs P S) {ro:Option Nat}{n:Nat}{o:Oper}{vo:VOp}(bD:Kf P o.op=vo) {ρ:Plc}{σ:Heap}{w:World}{env:Env}{a:Act}(hH:HRel ρ σ w) (hL:LRel ρ σ.n env a.tmps.toList)
  {K:Value→Heap→Prop}(h:vop S vo env σ K) {next:Act→World→Prop}{Q':Exit→Act→World→Prop}(hn:∀ c w',Got ρ σ w K c w'→next (a.put o.dst c) w'):o.wpIn (FF ro) n P a w next Q':=by
 refine⟨fun f _=>Ew _ _,?_⟩;have cD:vo≠.bad:=by rintro rfl;exact h.elim
 rw[Oper.semAt_eq _ _ _ (RC bD cD)];by_cases aB:(∃ f bL,vo=.callF f bL)∨(∃ f bL,vo=.callV f bL)
 ·have hc:KY P o.op=some vo:=by
   rcases NG bD cD with hc|⟨x,_,hx⟩
   ·exact hc
   ·subst hx;rcases aB with⟨f,bL,hh⟩|⟨f,bL,hh⟩<;>cases hh
  rcases OT (S:=S) hc hL aB h with⟨f,args,ax,hv,mn,hr⟩|⟨i,r,args,ax,hv,cE,mn,hr⟩
  ·rcases Fb hS hv ρ w ax hH mn with⟨h1,h2⟩|⟨c,hg,h2⟩
   ·rw[hr,h1];exact⟨(fun hd=>by rw[Rm] at hd;cases hd),(A5 h2).mono fun e w' ⟨c,he,hg⟩=>by subst he;exact hn c w' hg⟩
   ·rw[hr,h2 w (Like.refl ρ w)];exact hn c w hg
  ·obtain⟨p,hp,fn,tmps,eQ,body,h1,h2⟩:=AS hS hv ρ w ax hH mn;have r4:r=p.blk:=by
    cases cE with
    |yield _ _ _ hh=>exact hh p hp
   rw[hr,r4,h1];exact⟨(fun hd=>by rw[Rm] at hd;cases hd),(CJ h2).mono fun e w' ⟨c,he,hg⟩=>by subst he;exact hn c w' hg⟩
 ·by_cases ek:∃ x,vo=.ext (.nextMap x)
  ·obtain⟨x,rfl⟩:=ek;have hc:Tu P o.op=some (.nextMap x):=by
    rcases NG bD cD with hc|⟨y,hy,hx⟩
    ·have:=AN hc;exact this.elim
    ·cases hx;exact hy
   obtain⟨c,w',hr,hg⟩:=E8 hc hH (fun x hx=>XS hL hx) h;rw[hr];exact hn c w' hg
  ·have fC:∃ v σ',Q6 vo (Q3 env) σ=some (v,σ')∧K v σ':=by
    unfold vop at h;split at h
    ·exact absurd (.inl ⟨_,_,rfl⟩) aB
    ·exact absurd (.inr ⟨_,_,rfl⟩) aB
    ·exact absurd ⟨_,rfl⟩ ek
    ·cases dH:Q6 vo (Q3 env) σ with
     |none=>rw[dH] at h;exact h.elim
     |some p=>rw[dH] at h;exact⟨p.1,p.2,rfl,h⟩
   obtain⟨v,σ',dH,hK⟩:=fC;obtain⟨c,w',ρ',aX,dZ,fX,hE⟩:=FN bD hH hL dH;have hg:Got ρ σ w K c w':=⟨v,ρ',σ',hK,dZ,fX,hE⟩;rcases aX with aX|⟨aX,rfl⟩
   ·rw[aX];exact hn c w' hg
   ·rw[aX];exact hn undef w' hg
def Mks (B:Nat) (ds:List Deferred) (w:World):Prop:=B≤w.heap.size∧∃ Ds:List Nat,ds=Ds.map (fun D=>⟨.collected D,#[]⟩)∧Ds.Nodup∧∀ D∈Ds,B≤D∧w.heap[D]?=some (.deferred (some []))
theorem Mks.nil {w:World}(h:B≤w.heap.size):Mks B [] w:=⟨h,[],rfl,List.nodup_nil,fun _ h=>by cases h⟩
theorem Mks.ext {ds:List Deferred}{ρ ρ':Plc}{σ σ':Heap}{w w':World}(h:Mks B ds w) (hH:HRel ρ σ w) (hE:Ext ρ σ w ρ' σ' w'):Mks B ds w':=by
 obtain⟨h0,Ds,h1,h2,h3⟩:=h;refine⟨Nat.le_trans h0 hE.size,Ds,h1,h2,fun D hD=>⟨(h3 D hD).1,?_⟩⟩;have hb:=(h3 D hD).2;have ai:D<w.heap.size:=by
  rcases Nat.lt_or_ge D w.heap.size with h'|h'
  ·exact h'
  ·rw[Array.getElem?_eq_none h'] at hb;cases hb
 rw[hE.keep D ai (fun ⟨i,p,b,hp,_,_,r6⟩=>hH.not_deferred hb i p hp r6)];exact hb
def BE (B m:Nat) (ρ:Plc) (σ:Heap) (w:World) (K:Env→Heap→Prop) (a':Act) (w':World):Prop :=
 ∃ af ρ' σ',K af σ'∧List.length af=m∧HRel ρ' σ' w'∧LRel ρ' σ'.n af a'.tmps.toList∧Mks B a'.defers w'∧Ext ρ σ w ρ' σ' w'
theorem Ev (hS:OkSpecs P S) {ro:Option Nat}{n:Nat}(ops:Array Oper) (Q:Exit→Act→World→Prop):∀ (l:List Oper) (lv:List VOper),l.mapM (J0 P ops)=some lv →
  ∀ (env:Env) (σ:Heap) (K:Env→Heap→Prop) (ρ:Plc) (w:World) (a:Act),PM S lv env σ K→HRel ρ σ w→LRel ρ σ.n env a.tmps.toList→Mks B a.defers w →
  (∀ a' w',BE B (List.length env) ρ σ w K a' w'→Q .normal a' w')→wpListIn (FF ro) n P ops Q l a w:=by
 intro l;induction l with
 |nil =>intro lv bP env σ K ρ w a h hH hL hd hQ;simp at bP;subst bP;exact hQ a w ⟨env,ρ,σ,h,rfl,hH,hL,hd,Ext.refl _ _ _⟩
 |cons o l ih =>
  intro lv bP env σ K ρ w a h hH hL hd hQ;rw[List.mapM_cons] at bP;cases a9:J0 P ops o with
  |none=>simp[a9] at bP
  |some vo =>
   cases iM:l.mapM (J0 P ops) with
   |none=>simp[a9,iM] at bP
   |some qs =>
    simp[a9,iM] at bP;subst bP;simp only[PM] at h;cases hw:Z_ env vo.guard with
    |none=>rw[hw] at h;exact h.elim
    |some b =>
     rw[hw] at h;obtain⟨dp,bB,bD⟩:=Gv a9 hL hw;obtain⟨ht,hf⟩:=h;simp only[wpListIn];rw[dp];cases b with
     |false =>rw[if_neg (by simp)];exact⟨fun f _=>Ew _ _,ih qs iM (JS env vo.dst undef) σ K ρ w _ (hf rfl) hH (by rw[bB];exact Yq hL Jm o.dst) (by rw[JT];exact hd) (fun a' w' hn=>hQ a' w' (by rw[Zp] at hn;exact hn))⟩
     |true =>
      rw[if_pos rfl];refine V8 hS bD hH hL (ht rfl) fun c w' ⟨v,ρ',σ',hK,dZ,fX,hE⟩=>?_
      exact ih qs iM (JS env vo.dst v) σ' K ρ' w' _ hK fX (by rw[bB];exact Yq (hE.lrel hL) dZ o.dst) (by rw[JT];exact hd.ext hH hE)
       (fun a' n9 ⟨mD,eu,aC,k1,k0,k2,k3,k4,k5⟩=>hQ a' n9 ⟨mD,eu,aC,k1,by rw[k0,Zp],k2,k3,k4,hE.trans k5⟩)
theorem RY:∀ (l:List Nat) (vs:List Value) (env:Env),(Xn l vs env).length=env.length:=by
 intro l;induction l with
 |nil=>intro vs env;cases vs<;>rfl
 |cons i l ih =>
  intro vs env;cases vs with
  |nil=>rfl
  |cons v vs=>simp only[Xn];rw[ih];simp
theorem Es {ρ:Plc}{n:Nat}:∀ (l:List Nat) (env base:Env) (cs:List Value),LRel ρ n env cs→LRel ρ n base cs→LRel ρ n (Xn l (BH l env) base) cs:=by
 intro l;induction l with
 |nil=>intro env base cs _ hb;exact hb
 |cons i l ih =>
  intro env base cs he hb;simp only[BH,List.map_cons,Xn];refine ih env _ cs he ?_;refine⟨by simp[hb.1],fun j v c hv hc=>?_⟩;by_cases b8:i=j
  ·subst b8;rcases Nat.lt_or_ge i (List.length base) with ai|bI
   ·rw[List.getElem?_set_self ai] at hv;obtain rfl:=osj hv;have bW:i<List.length env:=by rw[he.1,←hb.1];exact ai
    have:env.getD i poison=env[i]:=by simp[List.getD,bW]
    rw[this];exact he.2 i _ c (List.getElem?_eq_getElem bW) hc
   ·rw[List.getElem?_eq_none (by simp;exact bI)] at hv;cases hv
  ·rw[List.getElem?_set_ne b8] at hv;exact hb.2 j v c hv hc
theorem ES {ρ:Plc}{n:Nat}(cs:List Value) {m:Nat}(h:m=cs.length):LRel ρ n (List.replicate m poison) cs :=
 ⟨by simp[h],fun i v c hv _=>by
  have:=List.mem_of_getElem? hv;rw[List.mem_replicate] at this;rw[this.2];exact .poison c⟩
def RoRel (cT ro:Option Nat) (ρ:Plc) (n:Nat):Prop:=(cT=none∧ro=none)∨∃ i l,cT=some i∧ro=some l∧i<n∧∀ p,ρ i=some p→p.blk=l
theorem RoRel.ext {cT ro:Option Nat}{ρ ρ':Plc}{σ σ':Heap}{w w':World}(h:RoRel cT ro ρ σ.n) (hE:Ext ρ σ w ρ' σ' w'):RoRel cT ro ρ' σ'.n:=by
 rcases h with h|⟨i,l,h1,h2,h3,h4⟩
 ·exact .inl h
 ·exact .inr ⟨i,l,h1,h2,Nat.lt_of_lt_of_le h3 hE.n,fun p hp=>h4 p (hE.pl i h3 p hp)⟩
def Sound (P:Program) (S:VSpecs) (c:Code) (vc:VCode):Prop :=
 ∀ ⦃B:Nat⦄ (cT ro:Option Nat) (n:Nat) (Q:Exit→Env→Heap→Prop) (env:Env) (σ:Heap) (ρ:Plc) (w:World) (a:Act),vwp S vc cT Q env σ→HRel ρ σ w→LRel ρ σ.n env a.tmps.toList→Mks B a.defers w→RoRel cT ro ρ σ.n →
  ∀ (Q':Exit→Act→World→Prop),(∀ e a' w',BE B (List.length env) ρ σ w (Q e) a' w'→Q' e a' w')→c.wpIn (FF ro) n P Q' a w
theorem Oa {ρ:Plc}{n:Nat}:∀ (ps:List Nat) (vs cs:List Value) (env:Env) (tmps:Array Value),LRel ρ n env tmps.toList→LRel ρ n vs cs →
  LRel ρ n (H6 env ps vs) ((ps.zip cs).foldl (fun (tmps:Array Value) (q:Nat×Value)=>tmps.setIfInBounds q.1 q.2) tmps).toList:=by
 intro ps;induction ps with
 |nil=>intro vs cs env tmps h _;cases vs<;>exact h
 |cons p ps ih =>
  intro vs cs env tmps h hv;cases vs with
  |nil =>
   cases cs with
   |nil=>exact h
   |cons _ _=>have:=hv.1;simp at this
  |cons v vs =>
   cases cs with
   |nil=>have:=hv.1;simp at this
   |cons c cs =>simp only[H6,List.zip_cons_cons,List.foldl_cons];refine ih vs cs _ _ ?_ ⟨by have:=hv.1;simpa using this,fun i a b ha hb=>hv.2 (i+1) a b (by simpa using ha) (by simpa using hb)⟩;rw[Array.toList_setIfInBounds];exact h.set p (hv.2 0 v c rfl rfl)
theorem Xj {w:World}{l:Nat}{r:Loop}(h:w.heap[l]?=some (.loop r)):(Instr.getLoop l).run P w=.ok r w:=by simp[Instr.getLoop,Qu h (fun _ _ _ e=>by cases e)]
theorem NU {ρ:Plc}{σ:Heap}{w:World}(hH:HRel ρ σ w) {i:Nat}{env:Env}{r:Loop}{st:LoopState}{pend:Option Code}{wr:Bool}(h:σ.get i=some (.obj (.lp env r st pend) wr)) :
  ∃ p,ρ i=some p∧w.heap[p.blk]?=some (.loop {r with state:=st,pending:=pend})∧LRel ρ σ.n env r.tmps.toList:=by
 obtain⟨p,hp,_,O,h1,rfl,h2⟩:=hH.live i _ h;exact⟨p,hp,h1,h2⟩
theorem LU {ρ:Plc}{σ:Heap}{w:World}(hH:HRel ρ σ w) {i:Nat}{env:Env}{r:Loop}{st:LoopState}{pend:Option Code}{p:Pl}(hp:ρ i=some p) (h:σ.get i=some (.obj (.lp env r st pend) true)) (lQ:LoopState) (bR:Option Code) :
  HRel ρ (σ.upd i (.obj (.lp env r lQ bR) true)) (Hc w p.blk (.loop {r with state:=lQ,pending:=bR})) ∧
  Ext ρ σ w ρ (σ.upd i (.obj (.lp env r lQ bR) true)) (Hc w p.blk (.loop {r with state:=lQ,pending:=bR})):=by
 obtain⟨p',bg,h1,h2⟩:=NU hH h;exact hH.setObj hp h ⟨rfl,h2⟩
theorem Cp {eQ body:Code}{va vb:VCode}(ha:Sound P S eQ va) (hb:Sound P S body vb) (ps:List Nat) (env:Env) (r:Loop) (fp:r.assign=eQ) (dI:r.body=body) (iR:r.params.toList=ps) (i:Nat) :
  KQ P i (Ah (vwp S va (some i)) (vwp S vb (some i)) ps env r i):=by
 intro args σ K h ρ w ax hH hL;obtain⟨h1,h2,h3⟩:=h;obtain⟨p,hp,aD,kG⟩:=NU hH h1;refine⟨p,hp,r.fn,(r.params.zip ax).foldl (fun tmps (t,a)=>tmps.setIfInBounds t a) r.tmps,r.assign,r.body,?_,?_⟩
 ·have aI:ax.size=r.params.size:=by
   have h4:=hL.1;have:r.params.size=ps.length:=by rw[←iR];simp
   simp at h4;omega
  simp[Instr.yield,Xj aD,aI]
 ·refine roundIn_of_wpIn (F:=Fence.wide) trivial ?_;rw[fp,dI];refine ha (some i) (some p.blk) 0 _ _ σ ρ w _ h3 hH ?_ (Mks.nil (Nat.le_refl _)) (.inr ⟨i,p.blk,rfl,rfl,σ.lt h1,fun q hq=>by rw[hp] at hq;obtain rfl:=osj hq;rfl⟩) _ ?_
  ·have:=Oa ps args ax.toList env r.tmps kG hL;rw[←iR,←Array.toList_zip,Array.foldl_toList] at this;rw[iR] at this;exact this
  ·intro e a1 w1 ⟨bp,ρ1,σ1,k1,k0,k2,k3,k4,k5⟩;cases e with
   |normal =>
    obtain⟨k6,k7⟩:=k1;obtain⟨p1,iS,jB,qt⟩:=NU k2 k6;have lK:p1=p:=by have:=k5.pl i (σ.lt h1) p1 iS;rw[hp] at this;exact(osj this).symm
    subst lK;obtain⟨j1,j2⟩:=LU k2 iS k6 .busy none;refine⟨_,by simp[Instr.beginRound,Xj jB,QL jB (fun _ _ _ e=>by cases e)];rfl,?_⟩;refine hb (some i) (some p1.blk) 0 _ _ _ ρ1 _ a1 k7 j1 k3 (k4.ext k2 j2) (.inr ⟨i,p1.blk,rfl,rfl,σ1.lt k6,fun q hq=>by rw[iS] at hq;obtain rfl:=osj hq;rfl⟩) _ ?_;intro e2 a2 w2 ⟨aQ,ρ2,σ2,m1,m0,m2,m3,m4,m5⟩;obtain⟨m6,m7⟩:=m1;obtain⟨p2,de,en,qu⟩:=NU m2 m6;have lK:p2=p1:=by have h8:=m5.pl i (by rw[Heap.upd_n];exact σ1.lt k6) p2 de;rw[iS] at h8;exact(osj h8).symm
    subst lK;cases e2 with
    |normal =>obtain⟨q1,q2⟩:=LU m2 de m6 .ready none;refine⟨.bool true,_,?_,_,rfl,.bool true,ρ2,_,m7,.bool _,q1,k5.trans (j2.trans (m5.trans q2))⟩;simp[Instr.endRound,Xj en,QL en (fun _ _ _ e=>by cases e)]
    |ret =>obtain⟨q1,q2⟩:=LU m2 de m6 .done (some .ret);refine⟨.bool false,_,?_,_,rfl,.bool false,ρ2,_,m7,.bool _,q1,k5.trans (j2.trans (m5.trans q2))⟩;simp[Instr.endRound,Xj en,QL en (fun _ _ _ e=>by cases e)]
    |exit id =>obtain⟨q1,q2⟩:=LU m2 de m6 .done (some (.exit id));refine⟨.bool false,_,?_,_,rfl,.bool false,ρ2,_,m7,.bool _,q1,k5.trans (j2.trans (m5.trans q2))⟩;simp[Instr.endRound,Xj en,QL en (fun _ _ _ e=>by cases e)]
    |goto l=>exact m7.elim
    |panic ch=>exact m7.elim
    |outgrown=>exact m7.elim
   |exit id=>exact k1.elim
   |goto l=>exact k1.elim
   |ret=>exact k1.elim
   |panic ch=>exact k1.elim
   |outgrown=>exact k1.elim
theorem Heap.ext' {σ σ':Heap}(h:∀ j,σ.get j=σ'.get j) (hn:σ.n=σ'.n):σ=σ':=by obtain⟨g,n,wf⟩:=σ;obtain⟨g',n',tR⟩:=σ';have hg:g=g':=funext h;have oq:n=n':=hn;subst hg;subst oq;rfl
theorem Mks.push {ds:List Deferred}{w:World}(h:Mks B ds w):Mks B ({target:=.collected w.heap.size,args:=#[]}::ds) (w.alloc (.deferred (some []))):=by
 obtain⟨h0,Ds,h1,h2,h3⟩:=h;have ai:∀ D∈Ds,D<w.heap.size:=fun D hD=>by
  rcases Nat.lt_or_ge D w.heap.size with h'|h'
  ·exact h'
  ·have:=(h3 D hD).2;rw[Array.getElem?_eq_none h'] at this;cases this
 refine⟨by rw[World.size_alloc];omega,w.heap.size::Ds,by rw[h1];rfl,List.nodup_cons.2 ⟨fun hh=>Nat.lt_irrefl _ (ai _ hh),h2⟩,fun D hD=>?_⟩;rcases List.mem_cons.1 hD with rfl|hD
 ·refine⟨h0,?_⟩;show (w.heap.push _)[w.heap.size]?=_;simp
 ·refine⟨(h3 D hD).1,?_⟩;show (w.heap.push _)[D]?=_;rw[Array.getElem?_push,if_neg (by have:=ai D hD;omega)];exact(h3 D hD).2
theorem Ext.alloc_other {ρ:Plc}{σ:Heap}(w:World) (O:Obj):Ext ρ σ w ρ σ (w.alloc O) :=
 ⟨rfl,rfl,rfl,by have:=World.size_alloc w O;omega,fun B hB _=>by show (w.heap.push _)[B]?=_;rw[Array.getElem?_push,if_neg (by omega)],fun _ _ h=>h,Nat.le_refl _,fun _ _ _ h=>h⟩
theorem HRel.alloc_other {ρ:Plc}{σ:Heap}{w:World}(h:HRel ρ σ w) (O:Obj):HRel ρ σ (w.alloc O) :=
 h.world (by have:=World.size_alloc w O;omega) (fun i p hp=>by show (w.heap.push _)[p.blk]?=_;rw[Array.getElem?_push,if_neg (by have:=h.lt i p hp;omega)]) fun g cs hg=>by show (w.heap.push _)[g]?=_;rw[Array.getElem?_push,if_neg (by have:=h.tab.lt hg;omega)]
theorem Cb {cT ro:Option Nat}{ρ:Plc}{σ:Heap}{w:World}{a:Act}{env:Env}(hH:HRel ρ σ w) (hL:LRel ρ σ.n env a.tmps.toList) (hd:Mks B a.defers w) (hR:RoRel cT ro ρ σ.n) (aM:Z45 σ cT) (fn:FuncId) (ps:Array Nat) (eQ body:Code) :
  ∃ (r:Loop) (mark:List Deferred) (w1:World) (ρ1:Plc),(Instr.enterLoop fn a.tmps ps eQ body ro).run P w=.ok (w1.heap.size-1,mark) w1∧r.assign=eQ∧r.body=body∧r.params=ps ∧
   HRel ρ1 (σ.push (.obj (.lp env r .ready none) true)) w1∧Ext ρ σ w ρ1 (σ.push (.obj (.lp env r .ready none) true)) w1∧Mks B (mark++a.defers) w1 ∧
   (∀ p,ρ1 σ.n=some p→p.blk=w1.heap.size-1):=by
 rcases hR with⟨rfl,rfl⟩|⟨i,l,rfl,rfl,hi,gK⟩
 ·let w0:=w.alloc (.deferred (some []));have fD:HRel ρ σ w0:=hH.alloc_other _;have pa:Ext ρ σ w ρ σ w0:=Ext.alloc_other _ _;let r:Loop:={state:=.ready,pending:=none,fn,tmps:=a.tmps,params:=ps,assign:=eQ,body:=body,defers:=w.heap.size};obtain⟨ρ1,h1,h2,h3⟩:=fD.newObj (.lp env r .ready none) (.loop r) ⟨rfl,hL⟩;have aI:(w0.alloc (.loop r)).heap.size-1=w0.heap.size:=by have:=World.size_alloc w0 (.loop r);omega
  refine⟨r,[{target:=.collected w.heap.size,args:=#[]}],w0.alloc (.loop r),ρ1,?_,rfl,rfl,rfl,h2,pa.trans h3,?_,fun p hp=>?_⟩
  ·rw[aI];simp[Instr.enterLoop];exact⟨(World.size_alloc w _).symm,rfl⟩
  ·exact(hd.push).ext fD h3
  ·rw[h1] at hp;obtain rfl:=osj hp;rw[aI]
 ·obtain⟨r7,r0,st,pend,hb⟩:=aM;obtain⟨p,hp,aD,_⟩:=NU hH hb;have aT:=gK p hp;subst aT;let r:Loop:={state:=.ready,pending:=none,fn,tmps:=a.tmps,params:=ps,assign:=eQ,body:=body,defers:=r0.defers};obtain⟨ρ1,h1,h2,h3⟩:=hH.newObj (.lp env r .ready none) (.loop r) ⟨rfl,hL⟩;have aI:(w.alloc (.loop r)).heap.size-1=w.heap.size:=by have:=World.size_alloc w (.loop r);omega
  refine⟨r,[],w.alloc (.loop r),ρ1,?_,rfl,rfl,rfl,h2,h3,?_,fun p hp=>?_⟩
  ·rw[aI];simp[Instr.enterLoop,Xj aD];rfl
  ·exact hd.ext hH h3
  ·rw[h1] at hp;obtain rfl:=osj hp;rw[aI]
theorem CA (hS:OkSpecs P S) {eQ body:Code}{va vb:VCode}(ha:Sound P S eQ va) (hb:Sound P S body vb) (g:Operand) (hg:JW g=true) (ps:Array Nat):Sound P S (.rangeFunc g ps eQ body) (.rangeF g ps.toList va vb):=by
 intro B cT ro n Q env σ ρ w a h hH hL hd hR Q' hQ;simp only[vwp,LA] at h;have gf:=XS hL hg;split at h
 ·rename_i f first cap bI
  rw[bI] at gf;split at h
  ·rename_i T hT;obtain⟨aM,h⟩:=h;refine wpIn_rangeFunc fun fn _=>?_;obtain⟨r,mark,w1,ρ1,he,fp,dI,iR,ic,fl,pb,eA⟩:=Cb (P:=P) hH hL hd hR aM fn ps eQ body;obtain⟨gL,mE⟩:=hS.it f T hT;obtain⟨gs,ds,ot,kf,jo⟩:∃ gs ds,a.eval g=.func (.func f) gs ds∧LRel ρ σ.n first.toList gs.toList∧LRel ρ σ.n cap.toList ds.toList:=by
    cases ot:a.eval g with
    |func tS gs ds =>
     rw[ot] at gf;cases gf with
     |func _ _ _ _ _ k1 k2 k3 k4=>exact⟨gs,ds,rfl,LRel.of_array k1 k3,LRel.of_array k2 k4⟩
    |_=>rw[ot] at gf;cases gf
   have hY:KQ P σ.n (Ah (vwp S va (some σ.n)) (vwp S vb (some σ.n)) ps.toList env r σ.n):=Cp ha hb ps.toList env r fp dI (by rw[iR]) σ.n;have kH:=mE σ.n _ hY _ _ _ (h r) ρ1 w1 (gs++#[.func (.yield (w1.heap.size-1)) #[] #[]]++ds) ic (by
    have k1:=fl.lrel kf;have k2:=fl.lrel jo;have k3:LRel ρ1 (σ.push (.obj (.lp env r .ready none) true)).n [.func (.yield σ.n) #[] #[]] [.func (.yield (w1.heap.size-1)) #[] #[]] :=
     LRel.cons (.yield _ _ (by simp) (fun p hp=>(eA p hp).symm)) (LRel.nil _ _)
    have:=(k1.append k3).append k2;simpa using this)
   refine⟨w1.heap.size-1,mark,w1,{target:=.fn (.func f) ds,args:=gs++#[.func (.yield (w1.heap.size-1)) #[] #[]]},w1,f,gs++#[.func (.yield (w1.heap.size-1)) #[] #[]]++ds,w1,?_,?_,fun _ _=>Ew _ _,?_,(fun hh=>by rw[Rm] at hh;cases hh),?_⟩
   ·rw[Q0x];exact he
   ·simp[resolve,ot,Deferred.ofValue];rfl
   ·simp only[invoke];exact Nd gL _ _
   ·refine (A5 kH).mono fun e w3 ⟨c,r8,v,ρ3,σ3,k1,k2,k3,k4⟩=>?_;subst r8;unfold Q10 at k1;split at k1
    ·rename_i af r' st pend mi;obtain⟨bc,k1⟩:=k1;obtain⟨p3,qv,gM,qw⟩:=NU k3 mi;have aT:p3.blk=w1.heap.size-1:=eA p3 (k4.pl σ.n (by simp) p3 qv);obtain⟨q1,q2⟩:=LU k3 qv mi .exhausted pend;rw[aT] at gM q1 q2;obtain⟨q3,q4⟩:=q1.kill σ.n;have fm:(σ3.upd σ.n (.obj (.lp af r' .exhausted pend) true)).kill σ.n=σ3.kill σ.n:=by
      apply Heap.ext'
      ·intro j;by_cases hj:j=σ.n
       ·subst hj;rw[Heap.get_kill_self,Heap.get_kill_self]
       ·rw[Heap.get_kill_ne _ hj,Heap.get_kill_ne _ hj,Heap.get_upd_ne _ _ hj]
      ·rfl
     rw[fm] at q3 q4;have jC:=fl.trans (k4.trans (q2.trans q4));have cj:=pb.ext ic (k4.trans (q2.trans q4));refine⟨pend,_,by simp[Instr.endLoop,Xj gM,QL gM (fun _ _ _ e=>by cases e),bc];rfl,?_⟩;have ek:∀ K:Env→Heap→Prop,K env (σ3.kill σ.n)→BE B (List.length env) ρ σ w K {a with defers:=mark++a.defers} (Hc w3 (w1.heap.size-1) (.loop {r' with state:=.exhausted,pending:=pend})):=fun K hK =>
      ⟨env,_,_,hK,rfl,q3,jC.lrel hL,cj,jC⟩
     cases pend with
     |none=>exact hQ _ _ _ (ek _ k1)
     |some c =>
      cases c with
      |ret=>exact wpIn_ret (hQ _ _ _ (ek _ k1))
      |exit id=>exact wpIn_exit (hQ _ _ _ (ek _ k1))
      |_=>exact k1.elim
    ·exact k1.elim
  ·exact h.elim
 ·exact h.elim
end
end Go.V
namespace Go.V
open Go
theorem WT {ev fq:Operand→Value}(x:Option Operand) (d:Nat) (h:∀ y∈x.toList,ev y=fq y):Jc ev x d=Jc fq x d:=by
 cases x with
 |none=>rfl
 |some y=>simp only[Jc];rw[h y (by simp)]
theorem AX {o:XOp}{ev fq:Operand→Value}{σ:Heap}(h:∀ x∈o.opds,ev x=fq x):Zj o ev σ=Zj o fq σ:=by cases o<;>simp only[XOp.opds,List.mem_cons,List.not_mem_nil,or_false,forall_eq_or_imp,forall_eq] at h<;>simp only[Zj]<;>(try simp only[h])
theorem Dz {o:VOp}{ev fq:Operand→Value}{σ:Heap}(h:∀ x∈o.opds,ev x=fq x):Q6 o ev σ=Q6 o fq σ:=by
 cases o
 case build z ps =>
  have:(ps.map fun p=>(p.1,p.2.1,ev p.2.2))=ps.map fun p=>(p.1,p.2.1,fq p.2.2):=List.map_congr_left fun p hp=>by rw[h p.2.2 (List.mem_map.2 ⟨p,hp,rfl⟩)]
  simp only[Q6,this]
 case buildSlice e z n ps =>
  have:(ps.map fun p=>(p.1*e.sz,e.sz,ev p.2))=ps.map fun p=>(p.1*e.sz,e.sz,fq p.2):=List.map_congr_left fun p hp=>by rw[h p.2 (List.mem_map.2 ⟨p,hp,rfl⟩)]
  simp only[Q6,this]
 case makeFunc fn a b =>
  have h1:a.map ev=a.map fq:=List.map_congr_left fun x hx=>h x (List.mem_append_left _ hx);have h2:b.map ev=b.map fq:=List.map_congr_left fun x hx=>h x (List.mem_append_right _ hx);simp only[Q6,h1,h2]
 case slice size x lo hi mx =>
  have h1:=WT lo 0 (fun y hy=>h y (by simp[VOp.opds] at *;exact .inr (.inl hy)));have h2:∀ n,Jc ev hi n=Jc fq hi n:=fun n=>WT hi n (fun y hy=>h y (by simp[VOp.opds] at *;exact .inr (.inr (.inl hy))));have h3:=WT mx 0 (fun y hy=>h y (by simp[VOp.opds] at *;exact .inr (.inr (.inr hy))));have h4:=h x (by simp[VOp.opds]);simp only[Q6,h4];cases fq x<;>simp only[h1,h2,h3]
 case sliceStr x lo hi =>
  have h1:=WT lo 0 (fun y hy=>h y (by simp[VOp.opds] at *;exact .inr (.inl hy)));have h2:∀ n,Jc ev hi n=Jc fq hi n:=fun n=>WT hi n (fun y hy=>h y (by simp[VOp.opds] at *;exact .inr (.inr hy)));have h4:=h x (by simp[VOp.opds]);simp only[Q6,h4];cases fq x<;>simp only[h1,h2]
 case ext o=>exact AX h
 all_goals
  simp only[VOp.opds,List.mem_cons,List.not_mem_nil,or_false,forall_eq_or_imp,forall_eq] at h;simp only[Q6];try simp only[h]
theorem Lm {S:VSpecs}{o:VOp}{env af:Env}{σ:Heap}{K:Value→Heap→Prop}(h:∀ x∈o.opds,Q3 env x=Q3 af x):vop S o env σ K=vop S o af σ K:=by
 cases o
 case callF f bL =>
  have:bL.map (Q3 env)=bL.map (Q3 af):=List.map_congr_left h;simp only[vop,this]
 case callV f bL =>
  have h1:Q3 env f=Q3 af f:=h f (by simp[VOp.opds]);have h2:bL.map (Q3 env)=bL.map (Q3 af):=List.map_congr_left fun x hx=>h x (by simp[VOp.opds,hx]);simp only[vop,h1,h2]
 case ext o =>
  by_cases hx:∃ x,o=.nextMap x
  ·obtain⟨x,rfl⟩:=hx;have h1:Q3 env x=Q3 af x:=h x (by simp[VOp.opds,XOp.opds]);simp only[vop,h1]
  ·have e1:=Dz (σ:=σ) h;cases o<;>first|exact absurd ⟨_,rfl⟩ hx|(simp only[vop];rw[e1])
 all_goals
  have e1:=Dz (σ:=σ) h;simp only[vop];rw[e1]
theorem Heap.Le.refl (σ:Heap):σ.Le σ:=⟨Nat.le_refl _,fun _ _ h=>h⟩
theorem Heap.Le.trans {σ σ' aC:Heap}(h:σ.Le σ') (k:σ'.Le aC):σ.Le aC:=⟨Nat.le_trans h.1 k.1,fun i b hb=>k.2 i b (h.2 i b hb)⟩
theorem Z0v {σ σ':Heap}(h:σ.Le σ') {esz:Nat}{v:Value}{xs:List Value}(hx:σ.sl esz v=some xs):σ'.sl esz v=some xs:=by
 unfold Heap.sl at hx ⊢;split at hx
 ·exact hx
 ·rename_i i o n c;split at hx
  ·rename_i cs e wr t hb;simp only[h.2 i _ hb];exact hx
  ·cases hx
 ·cases hx
theorem Sf {σ σ':Heap}(h:σ.Le σ') {m:Nat}{x:List Jr×Nat×Bool}(hx:σ.mapAt m=some x):σ'.mapAt m=some x:=by
 unfold Heap.mapAt at hx ⊢;split at hx
 ·rename_i es clock wr hb;simp only[h.2 m _ hb];exact hx
 ·cases hx
theorem A_ {σ σ':Heap}(h:σ.Le σ') {kd:Nat}{a b:Value}{r:Bool}(hx:J5 kd a b σ=some r):J5 kd a b σ'=some r:=by
 unfold J5 at hx ⊢
 split at hx<;>first
  |exact hx
  |(cases hx;done)
  |skip
 rename_i i o j q;split at hx
 ·rename_i hc;obtain⟨h1,h2,h3⟩:=hc;obtain⟨b,hb⟩:=Option.isSome_iff_exists.1 h3;rw[if_pos ⟨h1,h2,by rw[h.2 _ _ hb];rfl⟩];exact hx
 ·cases hx
theorem Lr {neg:Bool}{s:List MK}{x y:Operand}{ev:Operand→Value}{σ σ' σ1:Heap}{v:Value}(h:Zj (.eqAgg neg s x y) ev σ=some (v,σ1)):Zj (.eqAgg neg s x y) ev σ'=some (v,σ'):=by
 simp only[Zj] at h ⊢;split at h
 ·split at h
  ·rename_i hc;rw[if_pos hc];simp at h;obtain⟨rfl,_⟩:=h;rfl
  ·cases h
 ·cases h
theorem F_ {o:XOp}{ev:Operand→Value}{σ σ' σ1:Heap}{v:Value}(hk:(VOp.ext o).kind≠2) (h:Zj o ev σ=some (v,σ1)) (hl:σ.Le σ'):Zj o ev σ'=some (v,σ'):=by
 cases o<;>simp only[VOp.kind,VOp.quiet,XOp.quiet] at hk<;>try (exact absurd rfl hk)
 case eqAgg neg s x y=>exact Lr h
 case eqNil kd neg x y =>
  simp only[Zj] at h ⊢;split at h
  ·rename_i r hr;rw[A_ hl hr];simp at h;obtain⟨rfl,_⟩:=h;rfl
  ·cases h
 case lookup mk z ok x i =>
  simp only[Zj] at h ⊢;split at h
  ·rename_i bM;rw[if_pos bM];split at h
   ·simp at h;obtain⟨rfl,_⟩:=h;rfl
   ·rename_i m tT;split at h
    ·rename_i es clock wr hm;simp only[Sf hl hm];split at h
     ·rename_i ae;rw[if_pos ae];split at h<;>(rename_i hf;simp at h;obtain⟨rfl,_⟩:=h;rfl)
     ·cases h
    ·cases h
   ·cases h
  ·cases h
 case lenMap x =>
  simp only[Zj] at h ⊢;split at h
  ·simp at h;obtain⟨rfl,_⟩:=h;rfl
  ·split at h
   ·rename_i es clock wr hm;simp only[Sf hl hm];simp at h;obtain⟨rfl,_⟩:=h;rfl
   ·cases h
  ·cases h
 case entry x =>
  simp only[Zj] at h ⊢;split at h
  ·rename_i i hx;split at h
   ·rename_i m since seen last wr hb;simp only[hl.2 i _ hb];split at h
    ·rename_i es clock kA b hm dF;simp only[Sf hl hm,dF];split at h
     ·rename_i cy;rw[if_pos cy];split at h
      ·rename_i e hf;split at h
       ·rename_i hp;rw[if_pos hp];simp at h;obtain⟨rfl,_⟩:=h;rfl
       ·cases h
      ·cases h
     ·cases h
    ·cases h
   ·cases h
  ·cases h
 case toUnsafe x =>
  simp only[Zj] at h ⊢;split at h
  ·simp at h;obtain⟨rfl,_⟩:=h;rfl
  ·rename_i i o hx;split at h
   ·rename_i c e wr t hb;simp only[hl.2 i _ hb];split at h
    ·rename_i hc;rw[if_pos hc];simp at h;obtain⟨rfl,_⟩:=h;rfl
    ·cases h
   ·cases h
  ·cases h
 case fromUnsafe u sz x =>
  simp only[Zj] at h ⊢;split at h
  ·simp at h;obtain⟨rfl,_⟩:=h;rfl
  ·rename_i i o hx;split at h
   ·rename_i c e hb;simp only[hl.2 i _ hb];split at h
    ·rename_i hc;rw[if_pos hc];simp at h;obtain⟨rfl,_⟩:=h;rfl
    ·cases h
   ·cases h
  ·cases h
 case sliceData x =>
  simp only[Zj] at h ⊢;split at h
  ·simp at h;obtain⟨rfl,_⟩:=h;rfl
  ·rename_i i o n cap hx;split at h
   ·rename_i hc;obtain⟨h1,h2⟩:=hc;obtain⟨b,hb⟩:=Option.isSome_iff_exists.1 h2;rw[if_pos ⟨h1,by rw[hl.2 _ _ hb];rfl⟩];simp at h;obtain⟨rfl,_⟩:=h;rfl
   ·cases h
  ·cases h
 case bytesStr x =>
  simp only[Zj] at h ⊢;split at h
  ·rename_i a n c hx;split at h
   ·rename_i xs bt;simp only[Z0v hl bt];split at h
    ·rename_i s hs;simp at h;obtain⟨rfl,_⟩:=h;rfl
    ·cases h
   ·cases h
  ·cases h
theorem Ha {o:VOp}{ev:Operand → Value}{σ σ' σ1:Heap}{v:Value}(hk:o.kind = 0) (h:Q6 o ev σ = some (v, σ1)):Q6 o ev σ' = some (v, σ'):=by
  cases o
  case ext o =>
    cases o <;> first | (simp [VOp.kind, VOp.quiet, XOp.quiet] at hk; done) | skip
    case eqAgg neg s x y => exact Lr h
  case slice size x lo hi mx => cases mx <;> simp [VOp.kind, VOp.quiet] at hk
  case build z ps =>
    simp only [Q6] at h ⊢;split at h
    · simp at h; obtain ⟨rfl, _⟩:=h; rfl
    · cases h
  all_goals first
    | (simp [VOp.kind, VOp.quiet] at hk; done)
    | skip
  all_goals
    simp only [Q6] at h ⊢
    (repeat' split at h) <;> first
      | (cases h; done)
      | (rename_i pc; obtain ⟨rfl, rfl, rfl⟩:=pc; simp_all; done)
      | (simp_all; done)
      | (simp_all
         obtain ⟨rfl, _⟩:=h
         first
          | rw [if_neg (by omega)]
          | rw [if_pos (by omega)])
theorem P7 {o:VOp}{ev:Operand→Value}{σ σ' σ1:Heap}{v:Value}(hk:o.kind≠2) (h:Q6 o ev σ=some (v,σ1)) (hl:σ.Le σ'):Q6 o ev σ'=some (v,σ'):=by
 cases o
 case ext o=>exact F_ hk h hl
 case load agg size a =>
  simp only[Q6] at h ⊢;split at h
  ·split at h
   ·split at h
    ·rename_i ae;rw[if_pos ae];split at h
     ·simp at h;obtain⟨rfl,_⟩:=h;rfl
     ·cases h
    ·cases h
   ·cases h
  ·rename_i i o hx;split at h
   ·rename_i c e wr t hb;simp only[hl.2 i _ hb];split at h
    ·rename_i u hu;simp at h;obtain⟨rfl,_⟩:=h;rfl
    ·cases h
   ·cases h
  ·cases h
 case slice size x lo hi mx =>
  cases mx with
  |some m=>simp[VOp.kind,VOp.quiet] at hk
  |none =>
   simp only[Q6] at h ⊢;split at h
   ·rename_i a n cap hx;split at h
    ·rename_i l k eA cA;unfold Yh at h ⊢;split at h
     ·rename_i heq;split at h
      ·rename_i hc;rw[if_pos hc];simp at h;obtain⟨rfl,_⟩:=h;rfl
      ·cases h
     ·rename_i i o n' au heq;split at h
      ·rename_i c e wr t hb;simp only[hl.2 i _ hb];simp only at h;split at h
       ·rename_i hc;rw[if_pos hc];simp at h;obtain⟨rfl,_⟩:=h;rfl
       ·cases h
      ·cases h
     ·cases h
    ·rename_i hm;cases hm
    ·cases h
   ·cases h
 all_goals first
  |(exact absurd rfl hk)
  |(exact Ha rfl h)
section
variable {P:Program}{S:VSpecs}{B:Nat}
def EL (lv:List VOper) (env:Env) (tr:Nat→Value) (A:Nat→Bool):Nat→Env
 |0=>env
 |i+1=>if A i then JS (EL lv env tr A i) ((lv[i]?).bind (·.dst)) (tr i) else EL lv env tr A i
theorem YM (lv:List VOper) (env:Env) (tr:Nat→Value) (A:Nat→Bool):∀ i,List.length (EL lv env tr A i)=List.length env
 |0=>rfl
 |i+1=>by
  simp only[EL];split
  ·rw[Zp];exact YM lv env tr A i
  ·exact YM lv env tr A i
theorem Kv (lv:List VOper) (env:Env) {tr tr':Nat→Value}{A B:Nat→Bool}:∀ i,(∀ l,l<i→tr l=tr' l)→(∀ l,l<i→A l=B l)→EL lv env tr A i=EL lv env tr' B i
 |0,_,_=>rfl
 |i+1,h,h'=>by simp only[EL];rw[Kv lv env i (fun l hl=>h l (by omega)) (fun l hl=>h' l (by omega)),h i (by omega),h' i (by omega)]
theorem YY (env:Env) (d:Option Nat) (v:Value) {x:Nat}(h:d≠some x):(JS env d v)[x]?=env[x]?:=by
 cases d with
 |none=>rfl
 |some d=>simp only[JS];rw[List.getElem?_set_ne (by rintro rfl;exact h rfl)]
theorem Q78 (lv:List VOper) (env:Env) {tr tr':Nat→Value}{A:Nat→Bool}:∀ i,(∀ l,l<i→A l=true→tr l=tr' l)→EL lv env tr A i=EL lv env tr' A i
 |0,_=>rfl
 |i+1,h=>by
  simp only[EL];rw[Q78 lv env i fun l hl hA=>h l (by omega) hA];split
  ·rename_i hA;rw[h i (by omega) hA]
  ·rfl
theorem G6 (lv:List VOper) (env:Env) (tr:Nat→Value) {A B:Nat→Bool}(x:Nat):∀ i,(∀ l,l<i→(lv[l]?).bind (·.dst)=some x→A l=B l)→(EL lv env tr A i)[x]?=(EL lv env tr B i)[x]?
 |0,_=>rfl
 |i+1,h=>by
  have ih:=G6 lv env tr x i (fun l hl hd=>h l (by omega) hd);by_cases hd:(lv[i]?).bind (·.dst)=some x
  ·have kI:=h i (by omega) hd;simp only[EL];rw[kI];split
   ·rw[hd];simp only[JS,List.getElem?_set];rw[YM,YM];rfl
   ·exact ih
  ·simp only[EL]
   split<;>split<;>first
    |exact ih
    |(rw[YY _ _ _ hd];exact ih)
    |(rw[YY _ _ _ hd,YY _ _ _ hd];exact ih)
theorem GO (lv:List VOper) (env:Env) (tr:Nat→Value) (j:Nat):∀ i,j≤i→EL lv env tr (fun l=>decide (l<j)) i=EL lv env tr (fun _=>true) j
 |0,h=>by
  obtain rfl:j=0:=by omega
  rfl
 |i+1,h=>by
  by_cases hj:j=i+1
  ·subst hj;exact Kv lv env _ (fun _ _=>rfl) (fun l hl=>by simp[hl])
  ·simp only[EL];rw[if_neg (by simp;omega)];exact GO lv env tr j i (by omega)
def DFact (S:VSpecs) (d:DInfo) (lv:List VOper) (env:Env) (tr:Nat→Value) (hp:Nat→Heap) (u:Nat) (i:Nat):Prop :=
 ∀ v,lv[i]?=some v→∃ b,Z_ (EL lv env tr (fun _=>true) i) v.guard=some b ∧
  (b=true→v.op.kind=2→vop S v.op (EL lv env tr (fun _=>true) i) (hp (d.rank i)) (fun v' σ'=>v'=tr i∧σ'=hp (d.rank i+1))) ∧
  (b=true→v.op.kind=1→∀ r,d.kmin i≤r→r≤d.kmax i→r≤u→∃ σ',Q6 v.op (Q3 (EL lv env tr (fun _=>true) i)) (hp r)=some (tr i,σ')) ∧
  (b=true→v.op.kind≠1→v.op.kind≠2→∃ σ',Q6 v.op (Q3 (EL lv env tr (fun _=>true) i)) (hp (d.rank i))=some (tr i,σ')) ∧
  (b=false→tr i=undef∧(v.op.kind=2→hp (d.rank i+1)=hp (d.rank i)))
def Q74 (d:DInfo) (lv:List VOper) (env:Env) (tr:Nat→Value) (i:Nat) (pend:List (Nat×(Heap→Prop))):Prop :=
 ∀ l,l<i→∀ v,lv[l]?=some v→Z_ (EL lv env tr (fun _=>true) l) v.guard=some true→v.op.kind=1→d.rank i+1≤d.kmax l→(d.kmax l,JQ v.op (Q3 (EL lv env tr (fun _=>true) l)) (tr l))∈pend
inductive Know (S:VSpecs) (d:DInfo) (lv:List VOper) (env:Env) (K:Env→Heap→Prop):List Nat→Nat→(Nat→Value)→(Nat→Heap)→Prop
 |full {nd:List Nat}{tr:Nat→Value}{hp:Nat→Heap}(hF:∀ l,l<lv.length→l∉nd→DFact S d lv env tr hp (d.rank lv.length) l) (hK:K (EL lv env tr (fun _=>true) lv.length) (hp (d.rank lv.length))):Know S d lv env K nd lv.length tr hp
 |part {nd:List Nat}{i:Nat}{tr:Nat→Value}{hp:Nat→Heap}{v:VOper}(hv:lv[i]?=some v) (hk:v.op.kind=2) (hw:Z_ (EL lv env tr (fun _=>true) i) v.guard=some true)
   (hF:∀ l,l<i→l∉nd→DFact S d lv env tr hp (d.rank i) l) (jD:∀ j,i<j→j<lv.length→∃ e u,i≤e∧e<j∧lv[e]?=some u∧((∃ x,u.dst=some x∧∀ v,lv[j]?=some v→x∈Kp v)∨(u.op.kind=2∧∀ v,lv[j]?=some v→v.op.kind=2)))
   (R:Value→Heap→Prop) (fE:vop S v.op (EL lv env tr (fun _=>true) i) (hp (d.rank i)) R)
   (I:∀ u σ',R u σ'→Nat) (T:∀ u σ',R u σ'→Nat→Value) (H:∀ u σ',R u σ'→Nat→Heap)
   (hT:∀ u σ' h,i<I u σ' h∧(∀ l,l<i→T u σ' h l=tr l)∧T u σ' h i=u∧(∀ r,r≤d.rank i→H u σ' h r=hp r)∧H u σ' h (d.rank i+1)=σ')
   (next:∀ u σ' h,Know S d lv env K (i::nd) (I u σ' h) (T u σ' h) (H u σ' h)):Know S d lv env K nd i tr hp
theorem Sw {r:Nat}{σ:Heap}:∀ {l:List (Nat×(Heap→Prop))},JO r σ l→∀ c∈l,r≤c.1→c.2 σ
 |[],_,_,h=>by cases h
 |x::l,h,c,hc=>by
  rcases List.mem_cons.1 hc with rfl|hc
  ·exact h.1
  ·exact Sw h.2 c hc
theorem Hp {op:VOp}{ev:Operand→Value}{v:Value}{τ:Heap}(h:JQ op ev v τ):∃ σ',Q6 op ev τ=some (v,σ'):=by
 unfold JQ at h;cases hv:Q6 op ev τ with
 |none=>rw[hv] at h;exact h.elim
 |some q =>rw[hv] at h;have h:q.1=v:=h;exact⟨q.2,by rw[←h]⟩
theorem DFact.congr {d:DInfo}{lv:List VOper}{env:Env}{tr tr':Nat→Value}{hp bg:Nat→Heap}{u u' l:Nat}(h:DFact S d lv env tr hp u l) (ht:∀ k,k≤l→tr' k=tr k) (hh:∀ r,r≤u→bg r=hp r) (hr:d.rank l≤u) (h2:∀ v,lv[l]?=some v→v.op.kind=2→d.rank l+1≤u)
  (hu:∀ v,lv[l]?=some v→Z_ (EL lv env tr (fun _=>true) l) v.guard=some true→v.op.kind=1→∀ r,u<r→r≤u'→r≤d.kmax l→∃ σ',Q6 v.op (Q3 (EL lv env tr (fun _=>true) l)) (bg r)=some (tr l,σ')):DFact S d lv env tr' bg u' l:=by
 intro v hv;obtain⟨b,f1,f2,f3,f4,f5⟩:=h v hv;have e:=Kv lv env (tr:=tr') (tr':=tr) (A:=fun _=>true) (B:=fun _=>true) l (fun k hk=>ht k (by omega)) (fun _ _=>rfl);rw[e,ht l (Nat.le_refl _),hh _ hr];refine⟨b,f1,fun hb hk=>?_,fun hb hk r r1 r2 r3=>?_,f4,fun hb=>⟨(f5 hb).1,fun hk=>?_⟩⟩
 ·rw[hh _ (h2 v hv hk)];exact f2 hb hk
 ·rcases Nat.lt_or_ge u r with ai|bI
  ·subst hb;exact hu v hv f1 hk r ai r3 r2
  ·rw[hh r bI];exact f3 hb hk r r1 r2 bI
 ·rw[hh _ (h2 v hv hk)];exact(f5 hb).2 hk
theorem TI:∀ (d:DInfo) (rest:List VOper) (i:Nat) (xs:List Nat),waits xs (d.opers rest i)=true→∀ (k:Nat) (v:VOper),rest[k]?=some v→v.op.kind=2∨(∃ x∈xs,x∈Kp v)∨∃ (e:Nat) (u:VOper) (x:Nat),e<k∧rest[e]?=some u∧u.dst=some x∧x∈Kp v
 |d,[],i,xs,_,k,v,hv=>by simp at hv
 |d,o::rest,i,xs,h,k,v,hv=>by
  simp only[DInfo.opers,waits,Bool.and_eq_true,Bool.or_eq_true,List.any_eq_true,beq_iff_eq] at h;obtain⟨h1,h2⟩:=h;cases k with
  |zero =>
   obtain rfl:o=v:=by simpa using hv
   rcases h1 with h1|⟨x,hx,bt⟩
   ·exact .inl h1
   refine .inr (.inl ⟨x,by simpa using bt,?_⟩);simp only[Kp,List.mem_append] at hx ⊢;rcases hx with hx|hx
   ·exact .inl (.inr hx)
   ·exact .inr hx
  |succ k =>
   rcases TI d rest (i+1) _ h2 k v (by simpa using hv) with h3|⟨y,hy,qx⟩|⟨e,u,y,he,hu,hd,hn⟩
   ·exact .inl h3
   ·rcases List.mem_append.1 hy with hy|hy
    ·exact .inr (.inr ⟨0,o,y,by omega,rfl,by simpa using hy,qx⟩)
    ·exact .inr (.inl ⟨y,hy,qx⟩)
   ·exact .inr (.inr ⟨e+1,u,y,by omega,by simpa using hu,hd,hn⟩)
theorem Lf (d:DInfo) {i j:Nat}(h:i≤j):d.rank i≤d.rank j:=by
 induction j with
 |zero =>
  obtain rfl:i=0:=by omega
  exact Nat.le_refl _
 |succ j ih =>
  by_cases b8:i=j+1
  ·subst b8;exact Nat.le_refl _
  ·have:=ih (by omega);simp only[DInfo.rank];split<;>omega
theorem Q7f (d:DInfo) (lv:List VOper) (jE:∀ i v,lv[i]?=some v→d.k i=v.op.kind) (env:Env) (K:Env→Heap→Prop):∀ (rest:List VOper) (i:Nat),i≤lv.length→lv.drop i=rest→∀ (nd:List Nat) (tp:Nat→Value) (hq:Nat→Heap) (pend:List (Nat×(Heap→Prop))),
  (∀ l,l<i→l∉nd→DFact S d lv env tp hq (d.rank i) l)→Q74 d lv env tp i pend →
  Zr S (d.opers rest i) (EL lv env tp (fun _=>true) i) ((List.range (d.rank i+1)).map hq) (hq (d.rank i)) pend K →
  ∃ k tr hp,i≤k∧(∀ l,l<i→tr l=tp l)∧(∀ r,r≤d.rank i→hp r=hq r)∧Know S d lv env K nd k tr hp:=by
 intro rest;induction rest with
 |nil =>
  intro i gK hi nd tp hq pend hF hP h;have hl:lv.length≤i:=by simpa using hi
  obtain rfl:i=lv.length:=by omega
  simp only[DInfo.opers,Zr] at h;exact⟨_,tp,hq,Nat.le_refl _,fun _ _=>rfl,fun _ _=>rfl,.full hF h⟩
 |cons v rest ih =>
  intro i gK hi nd tp hq pend hF hP h;have ai:i<lv.length:=by
   rcases Nat.lt_or_ge i lv.length with h'|h'
   ·exact h'
   ·rw[List.drop_eq_nil_of_le h'] at hi;cases hi
  have hv:lv[i]?=some v:=by have:=congrArg List.head? hi;rw[List.head?_drop] at this;simpa using this
  have dJ:lv.drop (i+1)=rest:=by have:=congrArg List.tail hi;simpa using this
  have hk:=jE i v hv;have fp:v.op.kind=2→d.rank (i+1)=d.rank i+1:=fun e=>by simp only[DInfo.rank,hk,e,if_true]
  have ie:v.op.kind≠2→d.rank (i+1)=d.rank i:=fun e=>by simp only[DInfo.rank,hk,e,if_false]
  have dm:∀ l,l<i→d.rank l≤d.rank i∧∀ w,lv[l]?=some w→w.op.kind=2→d.rank l+1≤d.rank i:=fun l hl=>by have h1:=Lf d (show l+1≤i by omega);refine⟨by simp only[DInfo.rank] at h1;split at h1<;>omega,fun w hw h2=>?_⟩;simp only[DInfo.rank,jE l w hw,h2,if_true] at h1;exact h1
  simp only[DInfo.opers,Zr] at h;have hlen:((List.range (d.rank i+1)).map hq).length=d.rank i+1:=by simp
  cases hw:Z_ (EL lv env tp (fun _=>true) i) v.guard with
  |none=>rw[hw] at h;exact h.elim
  |some b =>
   rw[hw] at h;obtain⟨ht,hf⟩:=h
   have go:∀ (il:List Nat) (u:Value) (σ':Heap) (bR:List (Nat×(Heap→Prop))),(∀ l,l∈nd→l∈il) →
     Zr S (d.opers rest (i+1)) (JS (EL lv env tp (fun _=>true) i) v.dst u) (if v.op.kind=2 then (List.range (d.rank i+1)).map hq++[σ'] else (List.range (d.rank i+1)).map hq) (if v.op.kind=2 then σ' else hq (d.rank i)) bR K →
     (v.op.kind=2→JO (d.rank i+1) σ' pend)→(∀ c∈pend,c∈bR) →
     (b=true→v.op.kind=1→d.rank i+1≤d.kmax i→(d.kmax i,JQ v.op (Q3 (EL lv env tp (fun _=>true) i)) u)∈bR) →
     (i∉il→∀ tr hp,(∀ l,l<i→tr l=tp l)→tr i=u→(∀ r,r≤d.rank i→hp r=hq r)→(v.op.kind=2→hp (d.rank i+1)=σ')→DFact S d lv env tr hp (d.rank (i+1)) i) →
     ∃ k tr hp,i<k∧(∀ l,l<i→tr l=tp l)∧tr i=u∧(∀ r,r≤d.rank i→hp r=hq r)∧(v.op.kind=2→hp (d.rank i+1)=σ')∧Know S d lv env K il k tr hp:=by
    intro il u σ' bR iT h jF eG iq mF;let gw:Nat→Value:=fun l=>if l=i then u else tp l
    let cw:Nat→Heap:=fun r=>if v.op.kind=2∧r=d.rank i+1 then σ' else hq r
    have et:∀ l,l<i→gw l=tp l:=fun l hl=>by simp[gw];intro e;omega
    have ei:gw i=u:=by simp[gw]
    have eh:∀ r,r≤d.rank i→cw r=hq r:=fun r hr=>by simp only[cw];rw[if_neg (by omega)]
    have pg:v.op.kind=2→cw (d.rank i+1)=σ':=fun aq=>by simp[cw,aq]
    have e1:EL lv env gw (fun _=>true) (i+1)=JS (EL lv env tp (fun _=>true) i) v.dst u:=by simp only[EL,if_true];rw[Kv lv env (tr:=gw) (tr':=tp) i et (fun _ _=>rfl),hv,ei];rfl
    have e2:(List.range (d.rank (i+1)+1)).map cw=if v.op.kind=2 then (List.range (d.rank i+1)).map hq++[σ'] else (List.range (d.rank i+1)).map hq:=by
     simp only[DInfo.rank,hk];split
     ·rename_i aq;rw[List.range_succ,List.map_append];congr 1
      ·exact List.map_congr_left fun r hr=>eh r (by have:=List.mem_range.1 hr;omega)
      ·simp[cw,aq]
     ·rename_i aq;exact List.map_congr_left fun r hr=>by simp[cw,aq]
    have e3:cw (d.rank (i+1))=if v.op.kind=2 then σ' else hq (d.rank i):=by simp only[DInfo.rank,hk];split<;>rename_i aq<;>simp[cw,aq]
    have r9:∀ l,l<i+1→l∉il→DFact S d lv env gw cw (d.rank (i+1)) l:=fun l hl fF=>by
     by_cases gN:l=i
     ·subst gN;exact mF fF gw cw et ei eh pg
     ·have gN:l<i:=by omega
      refine (hF l gN fun h=>fF (iT l h)).congr (fun k hk=>et k (by omega)) eh (dm l gN).1 (dm l gN).2 fun w df kJ bG r r1 r2 r3=>?_;by_cases aq:v.op.kind=2
      ·rw[fp aq] at r2;obtain rfl:r=d.rank i+1:=by omega
       rw[pg aq];exact Hp (Sw (jF aq) _ (hP l gN w df kJ bG (by omega)) (by simpa using r3))
      ·rw[ie aq] at r2;omega
    have r_:Q74 d lv env gw (i+1) bR:=fun l hl w df kJ bG oo=>by
     by_cases gN:l=i
     ·subst gN;rw[hv] at df;obtain rfl:=osj df;have e:=Kv lv env (tr:=gw) (tr':=tp) (A:=fun _=>true) (B:=fun _=>true) l et (fun _ _=>rfl);rw[e] at kJ ⊢;rw[hw] at kJ;obtain rfl:b=true:=by simpa using kJ
      rw[ei];exact iq rfl bG (by rw[ie (by omega)] at oo;exact oo)
     ·have gN:l<i:=by omega
      have e:=Kv lv env (tr:=gw) (tr':=tp) (A:=fun _=>true) (B:=fun _=>true) l (fun k hk=>et k (by omega)) (fun _ _=>rfl);rw[e] at kJ ⊢;rw[et l gN];have hle:d.rank i≤d.rank (i+1):=by simp only[DInfo.rank];split<;>omega
      exact eG _ (hP l gN w df kJ bG (by omega))
    obtain⟨k,tr,hp,k0,k1,k2,k3⟩:=ih (i+1) (by omega) dJ il gw cw bR r9 r_ (by rw[e1,e2,e3];exact h);have hle:d.rank i≤d.rank (i+1):=by simp only[DInfo.rank];split<;>omega
    exact⟨k,tr,hp,by omega,fun l hl=>by rw[k1 l (by omega),et l hl],by rw[k1 i (by omega),ei],fun r hr=>by rw[k2 r (by omega),eh r hr],fun aq=>by rw[k2 _ (by rw[fp aq];exact Nat.le_refl _),pg aq],k3⟩
   have weak:∀ {il:List Nat}{u:Value}{σ':Heap},(∃ k tr hp,i<k∧(∀ l,l<i→tr l=tp l)∧tr i=u∧(∀ r,r≤d.rank i→hp r=hq r)∧(v.op.kind=2→hp (d.rank i+1)=σ')∧Know S d lv env K il k tr hp)→∃ k tr hp,i≤k∧(∀ l,l<i→tr l=tp l)∧(∀ r,r≤d.rank i→hp r=hq r)∧Know S d lv env K il k tr hp:=by rintro il u σ' ⟨k,tr,hp,h0,h1,_,h2,_,h3⟩;exact⟨k,tr,hp,by omega,h1,h2,h3⟩
   have fact:∀ {u:Value}{σ':Heap},(b=true→v.op.kind=1→∀ r,d.kmin i≤r→r≤d.rank i→JQ v.op (Q3 (EL lv env tp (fun _=>true) i)) u (hq r))→(b=true→v.op.kind≠1→v.op.kind≠2→∃ aC,Q6 v.op (Q3 (EL lv env tp (fun _=>true) i)) (hq (d.rank i))=some (u,aC))→(b=false→u=undef∧(v.op.kind=2→σ'=hq (d.rank i)))→(b=true→v.op.kind=2→vop S v.op (EL lv env tp (fun _=>true) i) (hq (d.rank i)) (fun v' aC=>v'=u∧aC=σ')) →
     ∀ tr hp,(∀ l,l<i→tr l=tp l)→tr i=u→(∀ r,r≤d.rank i→hp r=hq r)→(v.op.kind=2→hp (d.rank i+1)=σ')→DFact S d lv env tr hp (d.rank (i+1)) i:=by
    intro u σ' g1 g2 g3 k5 tr hp k1 k2 k3 k4 v' fP;rw[hv] at fP;obtain rfl:=osj fP;have e:=Kv lv env (tr:=tr) (tr':=tp) (A:=fun _=>true) (B:=fun _=>true) i k1 (fun _ _=>rfl);rw[e,k2,k3 _ (Nat.le_refl _)];refine⟨b,hw,fun hb aq=>by rw[k4 aq];exact k5 hb aq,fun hb bG r r1 r2 r3=>?_,g2,fun hb=>⟨(g3 hb).1,fun aq=>by rw[k4 aq];exact(g3 hb).2 aq⟩⟩;rw[ie (by omega)] at r3;rw[k3 r r3];exact Hp (g1 hb bG r r1 r3)
   cases b with
   |false =>
    have hf:=hf rfl;by_cases aq:v.op.kind=2
    ·rw[if_pos aq] at hf;obtain⟨iS,hf⟩:=hf;exact weak (go nd undef (hq (d.rank i)) pend (fun _ h=>h) (by rw[if_pos aq,ite_self];exact hf) (fun _=>by rw[hlen] at iS;exact iS) (fun _ h=>h) (fun h=>by cases h) (fun _=>fact (fun h=>by cases h) (fun h=>by cases h) (fun _=>⟨rfl,fun _=>rfl⟩) (fun h=>by cases h)))
    ·rw[if_neg aq] at hf;exact weak (go nd undef (hq (d.rank i)) pend (fun _ h=>h) (by rw[if_neg aq,ite_self];exact hf) (fun h=>absurd h aq) (fun _ h=>h) (fun h=>by cases h) (fun _=>fact (fun h=>by cases h) (fun h=>by cases h) (fun _=>⟨rfl,fun _=>rfl⟩) (fun h=>by cases h)))
   |true =>
    have ht:=ht rfl;by_cases aq:v.op.kind=2
    ·rw[if_pos aq] at ht;rw[hlen] at ht;rcases ht with⟨u,σ',h1,h2,h3⟩|⟨gg,fE⟩
     ·exact weak (go nd u σ' pend (fun _ h=>h) (by rw[if_pos aq,if_pos aq];exact h3) (fun _=>h2) (fun _ h=>h) (fun _ hk=>by omega) (fun _=>fact (fun _ hk=>by omega) (fun _ _ hk=>absurd aq hk) (fun h=>by cases h) (fun _ _=>h1)))
     ·have nx:∀ u σ',(JO (d.rank i+1) σ' pend∧Zr S (d.opers rest (i+1)) (JS (EL lv env tp (fun _=>true) i) v.dst u) ((List.range (d.rank i+1)).map hq++[σ']) σ' pend K) →
        ∃ k tr hp,i<k∧(∀ l,l<i→tr l=tp l)∧tr i=u∧(∀ r,r≤d.rank i→hp r=hq r)∧(v.op.kind=2→hp (d.rank i+1)=σ')∧Know S d lv env K (i::nd) k tr hp:=fun u σ' ⟨h2,h3⟩ =>
       go (i::nd) u σ' pend (fun _ h=>List.mem_cons_of_mem _ h) (by rw[if_pos aq,if_pos aq];exact h3) (fun _=>h2) (fun _ h=>h) (fun _ hk=>by omega) (fun h=>absurd List.mem_cons_self h)
      refine⟨i,tp,hq,Nat.le_refl _,fun _ _=>rfl,fun _ _=>rfl,.part hv aq hw hF (fun j hj a7=>?_) _ fE (fun u σ' h=>(nx u σ' h).choose) (fun u σ' h=>(nx u σ' h).choose_spec.choose) (fun u σ' h=>(nx u σ' h).choose_spec.choose_spec.choose) (fun u σ' h=>?_) (fun u σ' h=>?_)⟩
      ·obtain⟨n,hn⟩:∃ n,j=i+1+n:=⟨j-(i+1),by omega⟩;subst hn;have sd:∀ k w,lv[i+1+k]?=some w→rest[k]?=some w:=fun k w df=>by
        rw[←dJ,List.getElem?_drop];exact df
       have ph:∀ k w,rest[k]?=some w→lv[i+1+k]?=some w:=fun k w df=>by rw[←dJ,List.getElem?_drop] at df;exact df
       have ou:=List.getElem?_eq_getElem a7;rcases TI d rest (i+1) _ gg n _ (sd n _ ou) with mG|⟨x,hx,iU⟩|⟨e,u,x,he,hu,hd,iU⟩
       ·exact⟨i,v,Nat.le_refl _,by omega,hv,.inr ⟨aq,fun w df=>by rw[ou] at df;obtain rfl:=osj df;exact mG⟩⟩
       ·exact⟨i,v,Nat.le_refl _,by omega,hv,.inl ⟨x,by simpa using hx,fun w df=>by rw[ou] at df;obtain rfl:=osj df;exact iU⟩⟩
       ·exact⟨i+1+e,u,by omega,by omega,ph e u hu,.inl ⟨x,hd,fun w df=>by rw[ou] at df;obtain rfl:=osj df;exact iU⟩⟩
      ·obtain⟨q1,q2,q3,q4,q5,_⟩:=(nx u σ' h).choose_spec.choose_spec.choose_spec;exact⟨q1,q2,q3,q4,q5 aq⟩
      ·exact(nx u σ' h).choose_spec.choose_spec.choose_spec.2.2.2.2.2
    ·rw[if_neg aq] at ht;by_cases bG:v.op.kind=1
     ·rw[if_pos bG] at ht;cases dH:Q6 v.op (Q3 (EL lv env tp (fun _=>true) i)) (hq (d.rank i)) with
      |none=>rw[dH] at ht;exact ht.elim
      |some p =>
       rw[dH] at ht;obtain⟨g1,g2⟩:=ht;refine weak (go nd p.1 (hq (d.rank i)) _ (fun _ h=>h) (by rw[if_neg aq,ite_self];exact g2) (fun h=>absurd h aq) (fun c hc=>?_) (fun _ _ hr=>?_) (fun _=>fact (fun _ _ r se sg=>?_) (fun _ hk=>absurd bG hk) (fun h=>by cases h) (fun _ hk=>absurd hk aq)))
       ·split
        ·exact List.mem_cons_of_mem _ hc
        ·exact hc
       ·rw[if_pos (by rw[hlen];exact hr)];simp
       ·refine g1 _ ?_;rw[List.mem_iff_getElem?];refine⟨r-d.kmin i,?_⟩;rw[List.getElem?_drop,List.getElem?_map,List.getElem?_range (by omega)];simp;congr 1;omega
     ·rw[if_neg bG] at ht;cases dH:Q6 v.op (Q3 (EL lv env tp (fun _=>true) i)) (hq (d.rank i)) with
      |none=>rw[dH] at ht;exact ht.elim
      |some p =>rw[dH] at ht;exact weak (go nd p.1 (hq (d.rank i)) pend (fun _ h=>h) (by rw[if_neg aq,ite_self];exact ht) (fun h=>absurd h aq) (fun _ h=>h) (fun _ hk=>absurd hk bG) (fun _=>fact (fun _ hk=>absurd hk bG) (fun _ _ _=>⟨p.2,dH⟩) (fun h=>by cases h) (fun _ hk=>absurd hk aq)))
structure DOk (d:DInfo) (n:Nat):Prop where
 edge:∀ j,j<n→∀ e∈d.ed.getD j [],e<j
 path:∀ j,j<n→∀ i,i<j→d.lt i j=true→∃ e∈d.ed.getD j [],e=i∨(i<e∧d.lt i e=true)
 free:∀ j,j<n→∀ i,i<j→d.lt i j=false→d.touch i j=false∧¬(d.k i=2∧d.k j=2)
 kmin:∀ j,j<n→d.k j=1→(d.kmin j≤d.rank j∧d.rank j≤d.kmax j)∧d.kmax j≤d.rank n∧∀ l,l<n→d.k l=2→((d.lt l j=true↔d.rank l<d.kmin j)∧(d.lt j l=true↔d.kmax j≤d.rank l))
theorem DOk.of {d:DInfo}(h:d.ok=true):DOk d d.ks.length:=by
 have h0:∀ j,j<d.ks.length→d.okE j=true∧d.okP j=true∧d.okK j=true:=fun j hj=>by have:=List.all_eq_true.1 h j (List.mem_range.2 hj);simpa [Bool.and_eq_true] using this
 refine⟨fun j hj e he=>?_,fun j hj i hi ai=>?_,fun j hj i hi ai=>?_,fun j hj hk=>?_⟩
 ·have:=List.all_eq_true.1 (h0 j hj).1 e he;simpa using this
 ·have:=List.all_eq_true.1 (h0 j hj).2.1 i (List.mem_range.2 hi);simp only[ai,if_true,List.any_eq_true,Bool.or_eq_true,Bool.and_eq_true,decide_eq_true_eq,beq_iff_eq] at this;exact this
 ·have:=List.all_eq_true.1 (h0 j hj).2.1 i (List.mem_range.2 hi);simp[ai] at this;exact⟨this.1,fun hk=>this.2.elim (fun h=>h hk.1) (fun h=>h hk.2)⟩
 ·have:=(h0 j hj).2.2;simp only[DInfo.okK,hk,BEq.rfl,Bool.not_true,Bool.false_or,Bool.and_eq_true,decide_eq_true_eq] at this;refine⟨this.1,this.2.1,fun l hl aq=>?_⟩;have h1:=List.all_eq_true.1 this.2.2 l (List.mem_range.2 hl);simp only[aq,BEq.rfl,Bool.not_true,Bool.false_or,Bool.and_eq_true,beq_iff_eq] at h1;rw[h1.1,h1.2];simp
theorem G4 (d:DInfo) {i j:Nat}(h:i<j) (hk:d.k i=2):d.rank i<d.rank j:=by have:=Lf d (show i+1≤j from h);simp only[DInfo.rank,hk,if_true] at this;omega
theorem VP (d:DInfo):∀ j r,r<d.rank j→∃ l,l<j∧d.k l=2∧d.rank l=r
 |0,r,h=>by simp[DInfo.rank] at h
 |j+1,r,h=>by
  simp only[DInfo.rank] at h;split at h
  ·rename_i hk;rcases Nat.lt_or_ge r (d.rank j) with h'|h'
   ·obtain⟨l,h1,h2⟩:=VP d j r h';exact⟨l,by omega,h2⟩
   ·exact⟨j,by omega,hk,by omega⟩
  ·obtain⟨l,h1,h2⟩:=VP d j r h;exact⟨l,by omega,h2⟩
theorem UH {d:DInfo}{n:Nat}(hd:DOk d n) {A:Nat→Bool}(hc:∀ j,j<n→A j=true→∀ e∈d.ed.getD j [],A e=true):∀ j,j<n→A j=true→∀ i,i<j→d.lt i j=true→A i=true:=by
 intro j;induction j using Nat.strongRecOn with
 |ind j ih =>
  intro hj hA i hi ai;obtain⟨e,he,h⟩:=hd.path j hj i hi ai;have mH:=hd.edge j hj e he;have fY:=hc j hj hA e he;rcases h with rfl|⟨h1,h2⟩
  ·exact fY
  ·exact ih e mH (by omega) fY i h1 h2
def cnt (A:Nat→Bool):Nat→Nat
 |0=>0
 |i+1=>cnt A i+if A i then 0 else 1
theorem Aw {A:Nat→Bool}:∀ {n},cnt A n=0→∀ i,i<n→A i=true
 |0,_,i,h=>by omega
 |n+1,hc,i,h=>by
  simp only[cnt] at hc;by_cases hi:i=n
  ·subst hi;split at hc
   ·assumption
   ·omega
  ·exact Aw (n:=n) (by omega) i (by omega)
theorem F6 {A B:Nat→Bool}{j:Nat}(hA:A j=false) (hB:B j=true) (h:∀ i,i≠j→A i=B i):∀ n,j<n→cnt A n=cnt B n+1
 |0,hj=>by omega
 |n+1,hj=>by
  simp only[cnt];by_cases a7:j=n
  ·subst a7;have:cnt A j=cnt B j:=by
    have key:∀ m,m≤j→cnt A m=cnt B m:=by
     intro m;induction m with
     |zero=>intro _;rfl
     |succ m ih=>intro hm;simp only[cnt];rw[ih (by omega),h m (by omega)]
    exact key j (Nat.le_refl _)
   simp[hA,hB,this]
  ·have:=F6 hA hB h n (by omega);rw[h n (by omega)];omega
theorem Q45 (o:VOp):o.kind≤2:=by
 unfold VOp.kind;split<;>try omega
 split<;>omega
theorem Q5n {o:VOp}{env:Env}{σ:Heap}{p:Value×Heap}{K:Value→Heap→Prop}(hk:o.kind≠2) (h:Q6 o (Q3 env) σ=some p) (hK:K p.1 p.2):vop S o env σ K:=by
 cases o
 case callF=>exact absurd rfl hk
 case callV=>exact absurd rfl hk
 case ext x =>
  cases x
  case nextMap=>exact absurd rfl hk
  all_goals (simp only[vop];rw[h];exact hK)
 all_goals (simp only[vop];rw[h];exact hK)
theorem Dc {o:VOp}{ev:Operand→Value}{σ σ':Heap}{v:Value}(hk:o.kind≠2) (h:Q6 o ev σ=some (v,σ')):σ'=σ:=by have:=P7 hk h (Heap.Le.refl σ);rw[h] at this;simp at this;exact this
theorem TO {env af:Env}{g:Option (Nat×Bool)}(h:∀ x b,g=some (x,b)→env[x]?=af[x]?):Z_ env g=Z_ af g:=by
 cases g with
 |none=>rfl
 |some p =>obtain⟨x,b⟩:=p;simp only[Z_,List.getD_eq_getElem?_getD];rw[h x b rfl]
theorem TH {env af:Env}{x:Operand}(h:∀ t,x=.tmp t→env[t]?=af[t]?):Q3 env x=Q3 af x:=by
 cases x<;>try rfl
 rename_i t;simp only[Q3,List.getD_eq_getElem?_getD];rw[h t rfl]
structure DInv (B:Nat) (d:DInfo) (lv:List VOper) (env:Env) (tr:Nat→Value) (hp:Nat→Heap) (ρ0:Plc) (σ0:Heap) (w0:World) (A:Nat→Bool) (a:Act) (w:World):Prop where
 closed:∀ j,j<lv.length→A j=true→∀ e∈d.ed.getD j [],A e=true
 run:∃ m ρ,(∀ l,l<lv.length→d.k l=2→(A l=true↔d.rank l<m))∧m≤d.rank lv.length∧HRel ρ (hp m) w∧LRel ρ (hp m).n (EL lv env tr A lv.length) a.tmps.toList∧Mks B a.defers w∧Ext ρ0 σ0 w0 ρ (hp m) w
structure DLink (P:Program) (ops:Array Oper) (pm:List Nat) (d:DInfo) (lv:List VOper):Prop where
 comp:∀ (p:Nat) (v:VOper),lv[p]?=some v→∃ o,ops[pm.getD p 0]?=some o∧J0 P ops o=some v∧d.k p=v.op.kind
 touch:∀ (i j:Nat) (u v:VOper),lv[i]?=some u→lv[j]?=some v→d.touch i j=false→(∀ x,u.dst=some x→x∉Kp v)∧(∀ x,v.dst=some x→x∉Kp u)
 size:pm.length=lv.length
theorem DLink.of {ops:Array Oper}{vs:List VOper}(h:ops.toList.mapM (J0 P ops)=some vs) {d0:DInfo}{pm:List Nat}(jm:∀ i∈pm,i<vs.length):DLink P ops pm (Ca d0 vs pm) (Vb vs pm):=by
 obtain⟨h1,h2⟩:=W1 _ _ _ h;refine⟨fun p v hv=>?_,fun i j u v hu hv ht=>?_,by simp[Vb]⟩
 ·simp only[Vb,List.getElem?_map,Option.map_eq_some_iff] at hv;obtain⟨i,hi,rfl⟩:=hv;have aM:=jm i (List.mem_of_getElem? hi);have iV:i<ops.toList.length:=by omega
  obtain⟨v,hv,hc⟩:=h2 i _ (List.getElem?_eq_getElem iV);have hg:vs.getD i default=v:=by simp[List.getD_eq_getElem?_getD,hv]
  have hp:pm.getD p 0=i:=by simp[List.getD_eq_getElem?_getD,hi]
  refine⟨ops.toList[i],?_,by rw[hg];exact hc,?_⟩
  ·rw[hp];simp
  ·simp[DInfo.k,Ca,Vb,List.getD_eq_getElem?_getD,hi]
 ·simp only[DInfo.touch,Ca,Q3n,List.getD_eq_getElem?_getD,List.getElem?_map,hu,hv,Option.map_some,Option.getD_some,Bool.or_eq_false_iff] at ht;refine⟨fun x hx hm=>?_,fun x hx hm=>?_⟩
  ·have:=ht.1;rw[hx] at this;simp at this;exact this hm
  ·have:=ht.2;rw[hx] at this;simp at this;exact this hm
theorem Al {v:VOper}{x:Nat}(h:v.dst=some x):x∈Kp v:=by simp[Kp,h]
theorem Ab {v:VOper}{x:Nat}(h:Operand.tmp x∈v.op.opds):x∈Kp v:=by refine List.mem_append_left _ (List.mem_append_right _ ?_);exact List.mem_filterMap.2 ⟨_,h,rfl⟩
theorem R3 {v:VOper}{x:Nat}{b:Bool}(h:v.guard=some (x,b)):x∈Kp v:=by refine List.mem_append_right _ ?_;simp[h]
theorem HD (hS:OkSpecs P S) {ro:Option Nat}{n:Nat}{ops:Array Oper}{pm:List Nat}{d:DInfo}{lv:List VOper}(hl:DLink P ops pm d lv) (hd:DOk d lv.length) {env:Env}{tr:Nat→Value}{hp:Nat→Heap}
  {bd j:Nat}(hF:DFact S d lv env tr hp bd j)
  {Q:Exit→Act→World→Prop}{ρ0:Plc}{σ0:Heap}{w0:World}{A:Nat→Bool}{a:Act}{w:World}(sh:∀ m,(∀ l,l<lv.length→d.k l=2→(A l=true↔d.rank l<m))→m≤d.rank lv.length→m≤bd) (hI:DInv B d lv env tr hp ρ0 σ0 w0 A a w)
  (a7:j<lv.length) (dK:A j=false) (dL:∀ e∈d.ed.getD j [],A e=true) {A':Nat→Bool}(a8:∀ i,A' i=if i=j then true else A i) {K:Act→World→Prop}(hK:∀ a' w',DInv B d lv env tr hp ρ0 σ0 w0 A' a' w'→K a' w'):wpOpIn (FF ro) n P ops Q (pm.getD j 0) K a w:=by
 obtain⟨v,hv⟩:∃ v,lv[j]?=some v:=⟨_,List.getElem?_eq_getElem a7⟩;obtain⟨o,ho,hc,hk⟩:=hl.comp j v hv;obtain⟨bK,m,ρ,hm,mI,hH,hL,dt,hE⟩:=hI;have dq:∀ i,i<j→d.lt i j=true→A i=true:=by
  intro i hi ai;obtain⟨e,he,h⟩:=hd.path j a7 i hi ai;have mH:=hd.edge j a7 e he;have fY:A e=true:=dL e he;rcases h with rfl|⟨h1,h2⟩
  ·exact fY
  ·exact UH hd bK e (by omega) fY i h1 h2
 have eo:∀ i,i<lv.length→j<i→d.lt j i=true→A i=false:=by
  intro i hi aJ ai;cases hA:A i with
  |false=>rfl
  |true=>rw[UH hd bK i hi hA j aJ ai] at dK;cases dK
 have e9:∀ x,x∈Kp v→(EL lv env tr A lv.length)[x]?=(EL lv env tr (fun _=>true) j)[x]?:=by
  intro x hx;rw[←GO lv env tr j lv.length (by omega)];refine G6 lv env tr x lv.length fun l aR bB=>?_;cases bP:lv[l]? with
  |none=>rw[bP] at bB;cases bB
  |some u =>
   rw[bP] at bB;rcases Nat.lt_trichotomy l j with h|h|h
   ·have ai:d.lt l j=true:=by
     cases ai:d.lt l j with
     |true=>rfl
     |false=>exact absurd hx ((hl.touch l j u v bP hv (hd.free j a7 l h ai).1).1 x bB)
    simp only[h,decide_true];exact dq l h ai
   ·subst h;simp only[Nat.lt_irrefl,decide_false];exact dK
   ·have ai:d.lt j l=true:=by
     cases ai:d.lt j l with
     |true=>rfl
     |false=>exact absurd hx ((hl.touch j l v u hv bP (hd.free l aR j h ai).1).2 x bB)
    have:¬ l<j:=by omega
    simp only[this,decide_false];exact eo l aR h ai
 obtain⟨b,f1,f2,f3,si,f4⟩:=hF v hv;have hw:Z_ (EL lv env tr A lv.length) v.guard=some b:=by rw[TO (fun x b' hg=>e9 x (R3 hg))];exact f1
 have iW:∀ x∈v.op.opds,Q3 (EL lv env tr A lv.length) x=Q3 (EL lv env tr (fun _=>true) j) x:=fun x hx=>TH fun t ht=>e9 t (Ab (ht▸hx));obtain⟨dp,bB,bD⟩:=Gv hc hL hw;have dg:EL lv env tr A' lv.length=JS (EL lv env tr A lv.length) v.dst (tr j):=by
  apply List.ext_getElem?;intro x;by_cases hx:v.dst=some x
  ·have h1:(EL lv env tr A' lv.length)[x]?=(EL lv env tr (fun l=>decide (l<j+1)) lv.length)[x]?:=by
    refine G6 lv env tr x lv.length fun l aR bm=>?_;rw[a8];by_cases gh:l=j
    ·subst gh;simp
    ·rw[if_neg gh];cases bP:lv[l]? with
     |none=>rw[bP] at bm;cases bm
     |some u =>
      rw[bP] at bm;have iX:=Al hx;rcases Nat.lt_or_ge l j with h|h
      ·have ai:d.lt l j=true:=by
        cases ai:d.lt l j with
        |true=>rfl
        |false=>exact absurd iX ((hl.touch l j u v bP hv (hd.free j a7 l h ai).1).1 x bm)
       have:l<j+1:=by omega
       simp only[this,decide_true];exact dq l h ai
      ·have h':j<l:=by omega
       have ai:d.lt j l=true:=by
        cases ai:d.lt j l with
        |true=>rfl
        |false=>exact absurd iX ((hl.touch j l v u hv bP (hd.free l aR j h' ai).1).2 x bm)
       have:¬ l<j+1:=by omega
       simp only[this,decide_false];exact eo l aR h' ai
   rw[h1,GO lv env tr (j+1) lv.length (by omega)];simp only[EL,if_true,hv,Option.bind_some,hx,JS];rw[List.getElem?_set,List.getElem?_set];simp only[if_true,YM]
  ·rw[YY _ _ _ hx];refine G6 lv env tr x lv.length fun l aR bm=>?_;rw[a8];split
   ·rename_i h;subst h;rw[hv] at bm;exact absurd bm hx
   ·rfl
 have ck:∀ i,i<lv.length→A' i=true→∀ e∈d.ed.getD i [],A' e=true:=by
  intro i hi hA e he;rw[a8] at hA ⊢;split
  ·rfl
  ·by_cases b8:i=j
   ·subst b8;exact dL e he
   ·rw[if_neg b8] at hA;exact bK i hi hA e he
 have jG:d.k j=2→d.rank j=m:=by
  intro aq;have h1:¬ d.rank j<m:=fun h=>by rw[(hm j a7 aq).2 h] at dK;cases dK
  by_cases h2:d.rank j=m
  ·exact h2
  ·obtain⟨l,gh,a_,dm⟩:=VP d j m (by omega);have ai:d.lt l j=true:=by
    cases ai:d.lt l j with
    |true=>rfl
    |false=>exact absurd ⟨a_,aq⟩ (hd.free j a7 l gh ai).2
   have:=(hm l (by omega) a_).1 (dq l gh ai);omega
 have iu:d.k j=2→∀ l,l<lv.length→d.k l=2→(A' l=true↔d.rank l<m+1):=by
  intro aq l aR a_;rw[a8];have fG:=jG aq;split
  ·rename_i h;subst h;simp;omega
  ·rename_i h;rw[hm l aR a_];have:d.rank l≠m:=by
    rcases Nat.lt_or_ge l j with h'|h'
    ·have:=G4 d h' a_;omega
    ·have:=G4 d (show j<l by omega) aq;omega
   omega
 have mJ:d.k j≠2→∀ l,l<lv.length→d.k l=2→(A' l=true↔d.rank l<m):=by intro aq l aR a_;rw[a8,if_neg (by rintro rfl;exact aq a_)];exact hm l aR a_
 have iY:d.k j=2→m+1≤d.rank lv.length:=fun aq=>by have:=G4 d a7 aq;have:=jG aq;omega
 unfold wpOpIn;simp only[ho];cases b with
 |false =>
  rw[dp,if_neg (by simp)];obtain⟨g1,g2⟩:=f4 rfl;refine⟨fun f _=>Ew _ _,hK _ _ ⟨ck,?_⟩⟩;by_cases aq:d.k j=2
  ·have fG:=jG aq;have hh:hp (m+1)=hp m:=by rw[←fG];exact g2 (hk▸aq)
   refine⟨m+1,ρ,iu aq,iY aq,by rw[hh];exact hH,?_,by rw[JT];exact dt,by rw[hh];exact hE⟩;rw[hh,dg,g1,bB];exact Yq hL Jm o.dst
  ·refine⟨m,ρ,mJ aq,mI,hH,?_,by rw[JT];exact dt,hE⟩;rw[dg,g1,bB];exact Yq hL Jm o.dst
 |true =>
  rw[dp,if_pos rfl];by_cases aq:d.k j=2
  ·have fG:=jG aq;have g1:=f2 rfl (hk▸aq);rw[fG] at g1;rw[←Lm iW] at g1;refine V8 hS bD hH hL g1 fun c w' ⟨u,ρ',σ',⟨hu,hσ⟩,dZ,fX,bV⟩=>hK _ _ ⟨ck,?_⟩;subst hu;subst hσ;refine⟨m+1,ρ',iu aq,iY aq,fX,?_,by rw[JT];exact dt.ext hH bV,hE.trans bV⟩;rw[dg,bB];exact Yq (bV.lrel hL) dZ o.dst
  ·have g2:∃ σ1,Q6 v.op (Q3 (EL lv env tr A lv.length)) (hp m)=some (tr j,σ1):=by
    rw[Dz iW];by_cases bG:d.k j=1
    ·obtain⟨⟨k1,k4⟩,k3,k2⟩:=hd.kmin j a7 bG;refine f3 rfl (hk▸bG) m ?_ ?_ (sh m hm mI)
     ·rcases Nat.lt_or_ge m (d.kmin j) with h|h
      ·obtain⟨l,aR,a_,dm⟩:=VP d j m (by omega);have ai:=(k2 l (by omega) a_).1.2 (by omega);have:=(hm l (by omega) a_).1 (dq l aR ai);omega
      ·exact h
     ·rcases Nat.lt_or_ge (d.kmax j) m with h|h
      ·obtain⟨l,aR,a_,dm⟩:=VP d lv.length (d.kmax j) (by omega);have ai:=(k2 l aR a_).2.2 (by omega);have jH:=(hm l aR a_).2 (by omega);rcases Nat.lt_trichotomy j l with h'|h'|h'
       ·rw[eo l aR h' ai] at jH;cases jH
       ·subst h';omega
       ·exfalso;have fp:d.rank l<d.rank j:=G4 d h' a_;omega
      ·exact h
    ·have ij:v.op.kind=0:=by
      have h2:v.op.kind≤2:=Q45 v.op;omega
     obtain⟨σ1,g1⟩:=si rfl (by omega) (by omega);exact⟨hp m,Ha ij g1⟩
   obtain⟨σ1,g2⟩:=g2;have hq:=Dc (hk▸aq) g2;subst hq;refine V8 hS (K:=fun v' σ'=>v'=tr j∧σ'=hp m) bD hH hL (Q5n (hk▸aq) g2 ⟨rfl,rfl⟩) fun c w' ⟨u,ρ',σ',⟨hu,hσ⟩,dZ,fX,bV⟩=>hK _ _ ⟨ck,?_⟩;subst hu;subst hσ;refine⟨m,ρ',mJ aq,mI,fX,?_,by rw[JT];exact dt.ext hH bV,hE.trans bV⟩;rw[dg,bB];exact Yq (bV.lrel hL) dZ o.dst
theorem Ct (hS:OkSpecs P S) {ro:Option Nat}{n:Nat}{ops:Array Oper}{pm:List Nat}{d:DInfo}{lv:List VOper}(hl:DLink P ops pm d lv) (hd:DOk d lv.length) {env:Env}{tr:Nat→Value}{hp:Nat→Heap}
  {j:Nat}{v:VOper}(hv:lv[j]?=some v) (pj:v.op.kind=2) (sj:Z_ (EL lv env tr (fun _=>true) j) v.guard=some true) {R:Value→Heap→Prop}(fE:vop S v.op (EL lv env tr (fun _=>true) j) (hp (d.rank j)) R)
  {Q:Exit→Act→World→Prop}{ρ0:Plc}{σ0:Heap}{w0:World}{A:Nat→Bool}{a:Act}{w:World}(hI:DInv B d lv env tr hp ρ0 σ0 w0 A a w) (mK:∀ l,j≤l→l<lv.length→A l=false)
  (a7:j<lv.length) (dK:A j=false) (dL:∀ e∈d.ed.getD j [],A e=true) {A':Nat→Bool}(a8:∀ i,A' i=if i=j then true else A i) {K:Act→World→Prop}
  (hK:∀ u σ' a' w',R u σ'→(∀ tr' bg,(∀ l,l<j→tr' l=tr l)→tr' j=u→(∀ r,r≤d.rank j→bg r=hp r)→bg (d.rank j+1)=σ'→DInv B d lv env tr' bg ρ0 σ0 w0 A' a' w')→K a' w'):wpOpIn (FF ro) n P ops Q (pm.getD j 0) K a w:=by
 obtain⟨o,ho,hc,hk⟩:=hl.comp j v hv;obtain⟨bK,m,ρ,hm,mI,hH,hL,dt,hE⟩:=hI;have dq:∀ i,i<j→d.lt i j=true→A i=true:=by
  intro i hi ai;obtain⟨e,he,h⟩:=hd.path j a7 i hi ai;have mH:=hd.edge j a7 e he;have fY:A e=true:=dL e he;rcases h with rfl|⟨h1,h2⟩
  ·exact fY
  ·exact UH hd bK e (by omega) fY i h1 h2
 have eo:∀ i,i<lv.length→j<i→d.lt j i=true→A i=false:=by
  intro i hi aJ ai;cases hA:A i with
  |false=>rfl
  |true=>rw[UH hd bK i hi hA j aJ ai] at dK;cases dK
 have e9:∀ x,x∈Kp v→(EL lv env tr A lv.length)[x]?=(EL lv env tr (fun _=>true) j)[x]?:=by
  intro x hx;rw[←GO lv env tr j lv.length (by omega)];refine G6 lv env tr x lv.length fun l aR bB=>?_;cases bP:lv[l]? with
  |none=>rw[bP] at bB;cases bB
  |some u =>
   rw[bP] at bB;rcases Nat.lt_trichotomy l j with h|h|h
   ·have ai:d.lt l j=true:=by
     cases ai:d.lt l j with
     |true=>rfl
     |false=>exact absurd hx ((hl.touch l j u v bP hv (hd.free j a7 l h ai).1).1 x bB)
    simp only[h,decide_true];exact dq l h ai
   ·subst h;simp only[Nat.lt_irrefl,decide_false];exact dK
   ·have ai:d.lt j l=true:=by
     cases ai:d.lt j l with
     |true=>rfl
     |false=>exact absurd hx ((hl.touch j l v u hv bP (hd.free l aR j h ai).1).2 x bB)
    have:¬ l<j:=by omega
    simp only[this,decide_false];exact eo l aR h ai
 have hw:Z_ (EL lv env tr A lv.length) v.guard=some true:=by rw[TO (fun x b' hg=>e9 x (R3 hg))];exact sj
 have iW:∀ x∈v.op.opds,Q3 (EL lv env tr A lv.length) x=Q3 (EL lv env tr (fun _=>true) j) x:=fun x hx=>TH fun t ht=>e9 t (Ab (ht▸hx));obtain⟨dp,bB,bD⟩:=Gv hc hL hw;have dg:∀ tr:Nat→Value,EL lv env tr A' lv.length=JS (EL lv env tr A lv.length) v.dst (tr j):=fun tr=>by
  apply List.ext_getElem?;intro x;by_cases hx:v.dst=some x
  ·have h1:(EL lv env tr A' lv.length)[x]?=(EL lv env tr (fun l=>decide (l<j+1)) lv.length)[x]?:=by
    refine G6 lv env tr x lv.length fun l aR bm=>?_;rw[a8];by_cases gh:l=j
    ·subst gh;simp
    ·rw[if_neg gh];cases bP:lv[l]? with
     |none=>rw[bP] at bm;cases bm
     |some u =>
      rw[bP] at bm;have iX:=Al hx;rcases Nat.lt_or_ge l j with h|h
      ·have ai:d.lt l j=true:=by
        cases ai:d.lt l j with
        |true=>rfl
        |false=>exact absurd iX ((hl.touch l j u v bP hv (hd.free j a7 l h ai).1).1 x bm)
       have:l<j+1:=by omega
       simp only[this,decide_true];exact dq l h ai
      ·have h':j<l:=by omega
       have ai:d.lt j l=true:=by
        cases ai:d.lt j l with
        |true=>rfl
        |false=>exact absurd iX ((hl.touch j l v u hv bP (hd.free l aR j h' ai).1).2 x bm)
       have:¬ l<j+1:=by omega
       simp only[this,decide_false];exact eo l aR h' ai
   rw[h1,GO lv env tr (j+1) lv.length (by omega)];simp only[EL,if_true,hv,Option.bind_some,hx,JS];rw[List.getElem?_set,List.getElem?_set];simp only[if_true,YM]
  ·rw[YY _ _ _ hx];refine G6 lv env tr x lv.length fun l aR bm=>?_;rw[a8];split
   ·rename_i h;subst h;rw[hv] at bm;exact absurd bm hx
   ·rfl
 have ck:∀ i,i<lv.length→A' i=true→∀ e∈d.ed.getD i [],A' e=true:=by
  intro i hi hA e he;rw[a8] at hA ⊢;split
  ·rfl
  ·by_cases b8:i=j
   ·subst b8;exact dL e he
   ·rw[if_neg b8] at hA;exact bK i hi hA e he
 have jG:d.k j=2→d.rank j=m:=by
  intro aq;have h1:¬ d.rank j<m:=fun h=>by rw[(hm j a7 aq).2 h] at dK;cases dK
  by_cases h2:d.rank j=m
  ·exact h2
  ·obtain⟨l,gh,a_,dm⟩:=VP d j m (by omega);have ai:d.lt l j=true:=by
    cases ai:d.lt l j with
    |true=>rfl
    |false=>exact absurd ⟨a_,aq⟩ (hd.free j a7 l gh ai).2
   have:=(hm l (by omega) a_).1 (dq l gh ai);omega
 have iu:d.k j=2→∀ l,l<lv.length→d.k l=2→(A' l=true↔d.rank l<m+1):=by
  intro aq l aR a_;rw[a8];have fG:=jG aq;split
  ·rename_i h;subst h;simp;omega
  ·rename_i h;rw[hm l aR a_];have:d.rank l≠m:=by
    rcases Nat.lt_or_ge l j with h'|h'
    ·have:=G4 d h' a_;omega
    ·have:=G4 d (show j<l by omega) aq;omega
   omega
 have mJ:d.k j≠2→∀ l,l<lv.length→d.k l=2→(A' l=true↔d.rank l<m):=by intro aq l aR a_;rw[a8,if_neg (by rintro rfl;exact aq a_)];exact hm l aR a_
 have iY:d.k j=2→m+1≤d.rank lv.length:=fun aq=>by have:=G4 d a7 aq;have:=jG aq;omega
 unfold wpOpIn;simp only[ho];rw[dp,if_pos rfl];have aq:d.k j=2:=hk.trans pj;have fG:=jG aq;rw[fG,←Lm iW] at fE;refine V8 hS bD hH hL fE fun c w' ⟨u,ρ',σ',hR,dZ,fX,bV⟩=>hK u σ' _ _ hR fun tr' bg t1 t2 t3 t4=>⟨ck,m+1,ρ',iu aq,iY aq,?_,?_,?_,?_⟩
 ·rw[←fG,t4];exact fX
 ·have e0:EL lv env tr' A lv.length=EL lv env tr A lv.length:=Q78 lv env lv.length fun l aR hA=>t1 l (by
   rcases Nat.lt_or_ge l j with h|h
   ·exact h
   ·rw[mK l h aR] at hA;cases hA)
  rw[←fG,t4,dg tr',e0,bB,t2];exact Yq (bV.lrel hL) dZ o.dst
 ·rw[JT];exact dt.ext hH bV
 ·rw[←fG,t4];exact hE.trans bV
theorem Z4y {ops:Array Oper}{pm:List Nat}{d:DInfo}{lv:List VOper}(_hl:DLink P ops pm d lv) {env:Env}{tr:Nat→Value}{hp:Nat→Heap}{ρ0:Plc}{σ0:Heap}{w0:World}{A:Nat→Bool}{a:Act}{w:World}
  (hI:DInv B d lv env tr hp ρ0 σ0 w0 A a w) (ae:∀ j,j<lv.length→A j=true):BE B (List.length env) ρ0 σ0 w0 (fun af σ'=>af=EL lv env tr (fun _=>true) lv.length∧σ'=hp (d.rank lv.length)) a w:=by
 obtain⟨bK,m,ρ,hm,mI,hH,hL,dt,hE⟩:=hI;have gO:m=d.rank lv.length:=by
  rcases Nat.lt_or_ge m (d.rank lv.length) with h|h
  ·obtain⟨l,h1,h2,h3⟩:=VP d _ _ h;have:=(hm l h1 h2).1 (ae l h1);omega
  ·omega
 subst gO;have e:=Kv lv env (tr:=tr) (tr':=tr) (A:=A) (B:=fun _=>true) lv.length (fun _ _=>rfl) (fun l hl=>ae l hl);exact⟨_,ρ,_,⟨rfl,rfl⟩,YM _ _ _ _ _,hH,by rw[←e];exact hL,dt,hE⟩
def Ii (pm:List Nat) (d:DInfo) (n:Nat):(Nat→Bool)→List Nat→Prop
 |A,[]=>∀ p,p<n→A p=true
 |A,j::rest=>∃ p,p<n∧pm.getD p 0=j∧A p=false∧(∀ e∈d.ed.getD p [],A e=true)∧Ii pm d n (fun q=>if q=p then true else A q) rest
theorem EM (hS:OkSpecs P S) {ro:Option Nat}{n:Nat}{ops:Array Oper}{pm:List Nat}{d:DInfo}{lv:List VOper}(hl:DLink P ops pm d lv) (hd:DOk d lv.length) {env:Env}{K:Env→Heap→Prop}
  {Q:Exit→Act→World→Prop}{ρ0:Plc}{σ0:Heap}{w0:World}{l2:List Nat}(hQ:∀ a w,BE B (List.length env) ρ0 σ0 w0 K a w→wpOpsIn (FF ro) n P ops Q l2 a w) {nd:List Nat}{i:Nat}{tr:Nat→Value}{hp:Nat→Heap}(sk:Know S d lv env K nd i tr hp) :
  ∀ (l:List Nat) (A:Nat→Bool) (a:Act) (w:World),Ii pm d lv.length A l→DInv B d lv env tr hp ρ0 σ0 w0 A a w→(∀ j,i≤j→j<lv.length→A j=false)→(∀ j,j∈nd→j<lv.length→A j=true)→wpOpsIn (FF ro) n P ops Q (l++l2) a w:=by
 induction sk with
 |full hF hK =>
  intro l;induction l with
  |nil =>intro A a w hs hI _ _;obtain⟨af,ρ',σ',⟨e1,e2⟩,n1⟩:=Z4y hl hI hs;exact hQ a w ⟨af,ρ',σ',by rw[e1,e2];exact hK,n1⟩
  |cons j rest ih =>
   intro A a w hs hI hA hN;obtain⟨p,bg,rfl,jI,he,aZ⟩:=hs;rw[List.cons_append,wpOpsIn_cons];refine HD hS hl hd (hF p bg fun h=>?_) (fun m _ h=>h) hI bg jI he (fun _=>rfl) fun a' w' mL=>ih _ a' w' aZ mL (fun j h1 h2=>by omega) (fun j hj eU=>?_)
   ·rw[hN p h bg] at jI;cases jI
   ·split
    ·rfl
    ·exact hN j hj eU
 |part hv hk hw hF jD R fE I T H hT next ov =>
  rename_i nd i tr hp v;have aM:i<lv.length:=by
   rcases Nat.lt_or_ge i lv.length with h|h
   ·exact h
   ·rw[List.getElem?_eq_none h] at hv;cases hv
  intro l;induction l with
  |nil =>intro A a w hs hI hA _;have:=hs i aM;rw[hA i (Nat.le_refl _) aM] at this;cases this
  |cons j rest ih =>
   intro A a w hs hI hA hN;obtain⟨p,bg,rfl,jI,he,aZ⟩:=hs;rw[List.cons_append,wpOpsIn_cons];have jl:d.k i=2:=by obtain⟨_,_,_,h⟩:=hl.comp i v hv;exact h.trans hk
   rcases Nat.lt_trichotomy p i with iv|rfl|iv
   ·refine HD hS hl hd (hF p iv fun h=>?_) (fun m hm _=>?_) hI bg jI he (fun _=>rfl) fun a' w' mL=>ih _ a' w' aZ mL (fun j h1 h2=>?_) (fun j hj eU=>?_)
    ·rw[hN p h bg] at jI;cases jI
    ·have h1:¬ d.rank i<m:=fun h=>by
      have:=(hm i aM jl).2 h;rw[hA i (Nat.le_refl _) aM] at this;cases this
     omega
    ·rw[if_neg (by omega)];exact hA j h1 h2
    ·split
     ·rfl
     ·exact hN j hj eU
   ·refine Ct hS hl hd hv hk hw fE hI hA bg jI he (fun _=>rfl) fun u σ' a' w' hR mL=>?_;obtain⟨q1,q2,q3,q4,q5⟩:=hT u σ' hR;refine ov u σ' hR _ _ a' w' aZ (mL _ _ q2 q3 q4 q5) (fun j h1 h2=>?_) (fun j hj eU=>?_)
    ·rw[if_neg (by omega)];exact hA j (by omega) h2
    ·split
     ·rfl
     ·rename_i aA;rcases List.mem_cons.1 hj with h|h
      ·exact absurd h aA
      ·exact hN j h eU
   ·exfalso;obtain⟨e,u,h1,h2,hu,hn⟩:=jD p iv bg;have jF:=List.getElem?_eq_getElem bg;have ai:d.lt e p=true:=by
     cases h:d.lt e p with
     |true=>rfl
     |false =>
      rcases hn with⟨x,hx,hn⟩|⟨fT,dW⟩
      ·exact absurd (hn _ jF) ((hl.touch e p u _ hu jF (hd.free p bg e h2 h).1).1 x hx)
      ·obtain⟨_,_,_,q1⟩:=hl.comp e u hu;obtain⟨_,_,_,q2⟩:=hl.comp p _ jF;exact absurd ⟨q1.trans fT,q2.trans (dW _ jF)⟩ (hd.free p bg e h2 h).2
    have fY:A e=true:=by
     obtain⟨e',qy,h3⟩:=hd.path p bg e h2 ai;have mM:=he e' qy;rcases h3 with rfl|⟨h3,h4⟩
     ·exact mM
     ·exact UH hd hI.closed e' (by have:=hd.edge p bg e' qy;omega) mM e h3 h4
    rw[hA e h1 (by omega)] at fY;cases fY
def Kn (ops:Array Oper):Array Bool→List Nat→Prop
 |L,[]=>∀ j,j<ops.size→L.getD j false=true
 |L,j::rest=>j∈Region.ready .any ops L∧Kn ops (L.setIfInBounds j true) rest
theorem Ku (L:Array Bool) (j i:Nat) (hj:j<L.size):(L.setIfInBounds j true).getD i false=if i=j then true else L.getD i false:=by
 by_cases h:i=j
 ·subst h;simp[hj]
 ·simp[h,Array.getElem?_setIfInBounds_ne (Ne.symm h)]
theorem IJ {ops:Array Oper}(gP:∀ (j:Nat) (o:Oper),ops[j]?=some o→∀ e∈DY o,e<j) {L:Array Bool}(hs:L.size=ops.size) (h:Region.ready .any ops L=[]):∀ j,j<ops.size→L.getD j false=true:=by
 intro j;induction j using Nat.strongRecOn with
 |ind j ih =>
  intro hj;cases hA:L.getD j false with
  |true=>rfl
  |false =>
   exfalso;have:j∈Region.ready .any ops L:=by
    refine mem_ready.2 ⟨?_,ops[j],Array.getElem?_eq_getElem hj,fun e he hb=>?_⟩
    ·have h1:L.getD j true=L[j]:=by simp[hs,hj]
     have h2:L.getD j false=L[j]:=by simp[hs,hj]
     rw[h1,←h2];exact hA
    ·have:=gP j ops[j] (Array.getElem?_eq_getElem hj) e.on (List.mem_map.2 ⟨e,List.mem_filter.2 ⟨by simpa using he,hb⟩,rfl⟩);exact ih _ this (by omega)
   rw[h] at this;cases this
theorem BQ {ops:Array Oper}{L:Array Bool}(hs:L.size=ops.size) {j:Nat}(h:j∈Region.ready .any ops L):j<ops.size∧L.getD j false=false∧∃ o,ops[j]?=some o∧∀ e∈DY o,L.getD e false=true:=by obtain⟨h1,o,ho,h2⟩:=mem_ready.1 h;have a7:j<ops.size:=(Array.getElem?_eq_some_iff.1 ho).1;refine⟨a7,by simp[hs,a7] at h1 ⊢;exact h1,o,ho,fun e he=>?_⟩;obtain⟨x,hx,rfl⟩:=List.mem_map.1 he;obtain⟨so,sq⟩:=List.mem_filter.1 hx;exact h2 x (by simpa using so) sq
theorem Q33 {ops:Array Oper}(gP:∀ (j:Nat) (o:Oper),ops[j]?=some o→∀ e∈DY o,e<j):∀ (fuel t:Nat) (L:Array Bool),L.size=ops.size→cnt (fun i=>L.getD i false) ops.size≤fuel →
  Kn ops L (Region.linearise.go .any ops fuel t L []):=by
 intro fuel;induction fuel with
 |zero =>intro t L hs hc;simp only[Region.linearise.go,List.reverse_nil,Kn];exact Aw (by omega)
 |succ fuel ih =>
  intro t L hs hc;simp only[Region.linearise.go]
  change Kn ops L (match (Region.ready .any ops L)[t % (Region.ready .any ops L).length]? with
   |some i=>Region.linearise.go .any ops fuel (t / (Region.ready .any ops L).length) (L.setIfInBounds i true) [i]
   |none=>[].reverse)
  cases hi:(Region.ready .any ops L)[t % (Region.ready .any ops L).length]? with
  |none =>
   have gQ:Region.ready .any ops L=[]:=by
    cases hr:Region.ready .any ops L with
    |nil=>rfl
    |cons x xs =>rw[hr] at hi;have ai:t % (x::xs).length<(x::xs).length:=Nat.mod_lt _ (by simp);simp at hi;simp at ai;omega
   simp only[List.reverse_nil,Kn];exact IJ gP hs gQ
  |some i =>
   simp only[];rw[linearise_go_acc,List.reverse_singleton,List.singleton_append];have jJ:=List.mem_of_getElem? hi;obtain⟨aM,mN,_⟩:=BQ hs jJ;refine⟨jJ,ih _ _ (by simp[hs]) ?_⟩;have gR:i<L.size:=by rw[hs];exact aM
   have:=F6 (A:=fun i=>L.getD i false) (B:=fun k=>(L.setIfInBounds i true).getD k false) (j:=i) mN (by simp only[Ku L i i gR,if_true]) (fun k hk=>by simp only[Ku L i k gR,if_neg hk]) ops.size aM;omega
theorem Ch {ops:Array Oper}:∀ (l:List Nat) (L:Array Bool),L.size=ops.size→Kn ops L l→l.Nodup∧∀ j,j∈l↔(j<ops.size∧L.getD j false=false):=by
 intro l;induction l with
 |nil=>intro L hs h;exact⟨List.nodup_nil,fun j=>⟨fun h=>(by cases h),fun ⟨h1,h2⟩=>by rw[h j h1] at h2;cases h2⟩⟩
 |cons i l ih =>
  intro L hs h;obtain⟨jJ,h'⟩:=h;obtain⟨aM,mN,_⟩:=BQ hs jJ;have gR:i<L.size:=by rw[hs];exact aM
  obtain⟨k1,k2⟩:=ih _ (by simp[hs]) h';refine⟨List.nodup_cons.2 ⟨fun hm=>?_,k1⟩,fun j=>?_⟩
  ·have:=((k2 i).1 hm).2;rw[Ku L i i gR,if_pos rfl] at this;cases this
  ·rw[List.mem_cons,k2 j,Ku L i j gR];by_cases aJ:j=i
   ·subst aJ;simp[aM,mN]
   ·simp[aJ]
structure DBase (ops:Array Oper) (d:DInfo):Prop where
 ed:∀ (j:Nat) (o:Oper),ops[j]?=some o→d.ed.getD j []=DY o
 edge:∀ j,j<ops.size→∀ e∈d.ed.getD j [],e<j
 path:∀ j,j<ops.size→∀ i,i<j→d.lt i j=true→∃ e∈d.ed.getD j [],e=i∨(i<e∧d.lt i e=true)
 up:∀ i j,d.lt i j=true→i<j
 size:d.ks.length=ops.size
theorem CM {ops:Array Oper}{d:DInfo}(hb:DBase ops d) {A:Nat→Bool}(hc:∀ j,j<ops.size→A j=true→∀ e∈d.ed.getD j [],A e=true):∀ j,j<ops.size→A j=true→∀ i,i<j→d.lt i j=true→A i=true:=by
 intro j;induction j using Nat.strongRecOn with
 |ind j ih =>
  intro hj hA i hi ai;obtain⟨e,he,h⟩:=hb.path j hj i hi ai;have mH:=hb.edge j hj e he;have fY:=hc j hj hA e he;rcases h with rfl|⟨h1,h2⟩
  ·exact fY
  ·exact ih e mH (by omega) fY i h1 h2
theorem Q8y {ops:Array Oper}{d:DInfo}(hb:DBase ops d):∀ (l:List Nat) (L:Array Bool),L.size=ops.size→(∀ j,j<ops.size→L.getD j false=true→∀ e∈d.ed.getD j [],L.getD e false=true)→Kn ops L l →
  l.Pairwise fun j i=>d.lt i j=false:=by
 intro l;induction l with
 |nil=>intro L _ _ _;exact List.Pairwise.nil
 |cons j l ih =>
  intro L hs hc h;obtain⟨jJ,h'⟩:=h;obtain⟨aM,mN,o,ho,gP⟩:=BQ hs jJ;have gR:j<L.size:=by rw[hs];exact aM
  have cK:∀ k,k<ops.size→(L.setIfInBounds j true).getD k false=true→∀ e∈d.ed.getD k [],(L.setIfInBounds j true).getD e false=true:=by
   intro k hk hA e he;rw[Ku L j e gR];split
   ·rfl
   ·rw[Ku L j k gR] at hA;split at hA
    ·rename_i su;subst su;rw[hb.ed _ o ho] at he;exact gP e he
    ·exact hc k hk hA e he
  obtain⟨k1,k2⟩:=Ch l _ (by simp[hs]) h';refine List.Pairwise.cons (fun i hi=>?_) (ih _ (by simp[hs]) cK h');cases ai:d.lt i j with
  |false=>rfl
  |true =>
   exfalso;have b8:=hb.up i j ai;have hA:(L.setIfInBounds j true).getD j false=true:=by rw[Ku L j j gR,if_pos rfl]
   have:=CM hb cK j aM hA i b8 ai;rw[((k2 i).1 hi).2] at this;cases this
theorem RB (lt:Nat→Nat→Bool):∀ (s l:List Nat) (n:Nat),s.Perm l→l.length≤n→s.Pairwise (fun j i=>lt i j=false)→s∈exts lt n l:=by
 intro s;induction s with
 |nil =>intro l n hp hn _;have:l=[]:=hp.symm.eq_nil;subst this;cases n<;>simp[exts]
 |cons k s ih =>
  intro l n hp hn hs;have hk:k∈l:=hp.mem_iff.1 (by simp);cases l with
  |nil=>cases hk
  |cons x xs =>
   cases n with
   |zero=>simp at hn
   |succ n =>
    simp only[exts];refine List.mem_flatMap.2 ⟨k,hk,?_⟩;obtain⟨h1,h2⟩:=List.pairwise_cons.1 hs;have ae:((x::xs).all fun i=>i==k||!lt i k)=true:=by
     refine List.all_eq_true.2 fun i hi=>?_;have:i∈k::s:=hp.mem_iff.2 hi;rcases List.mem_cons.1 this with rfl|h
     ·simp
     ·simp[h1 i h]
    rw[if_pos ae];refine List.mem_map.2 ⟨s,ih _ n ?_ ?_ h2,rfl⟩
    ·exact(List.cons_perm_iff_perm_erase.1 hp).2
    ·rw[List.length_erase_of_mem hk];simp at hn ⊢;omega
theorem Ox {j:Nat}:∀ (a a' b b':List Nat),j∉a→j∉a'→a++j::b=a'++j::b'→a=a':=by
 intro a;induction a with
 |nil =>
  intro a' b b' _ h' h;cases a' with
  |nil=>rfl
  |cons x a'=>simp at h;exact absurd h.1 (by rintro rfl;exact h' (by simp))
 |cons x a ih =>
  intro a' b b' h1 h2 h;cases a' with
  |nil=>simp at h;exact absurd h.1 (by rintro rfl;exact h1 (by simp))
  |cons y a' =>simp at h;obtain⟨rfl,h⟩:=h;rw[ih a' b b' (fun hm=>h1 (by simp[hm])) (fun hm=>h2 (by simp[hm])) h]
theorem Az {ops:Array Oper}{d:DInfo}(hb:DBase ops d):∀ (l:List Nat) (L:Array Bool),L.size=ops.size→Kn ops L l→∀ pre j post,l=pre++j::post→∀ e∈d.ed.getD j [],L.getD e false=true∨e∈pre:=by
 intro l;induction l with
 |nil=>intro L _ _ pre j post h;simp at h
 |cons i l ih =>
  intro L hs h pre j post he e fH;obtain⟨jJ,h'⟩:=h;obtain⟨aM,mN,o,ho,gP⟩:=BQ hs jJ;have gR:i<L.size:=by rw[hs];exact aM
  cases pre with
  |nil =>simp at he;obtain⟨rfl,_⟩:=he;rw[hb.ed _ o ho] at fH;exact .inl (gP e fH)
  |cons x pre =>
   simp at he;obtain⟨rfl,he⟩:=he;rcases ih _ (by simp[hs]) h' pre j post he e fH with h1|h1
   ·rw[Ku L i e gR] at h1;split at h1
    ·rename_i cG;subst cG;exact .inr (by simp)
    ·exact .inl h1
   ·exact .inr (by simp[h1])
theorem SI {d0 d:DInfo}{pm l:List Nat}(N:Nat) (hN:∀ i∈l,i<N) (iq:pm.Nodup) (fF:l.Nodup) (aL:∀ i,i∈pm↔i∈l) (bS:∀ pre j post,l=pre++j::post→∀ e∈d0.ed.getD j [],e∈l→e∈pre)
  (gP:∀ p,p<pm.length→d.ed.getD p []=Q54 d0 pm p) (hf:pm.filter (fun i=>d0.k i==2)=l.filter (fun i=>d0.k i==2)) :
  ∀ (post pre:List Nat),l=pre++post→Ii pm d pm.length (fun q=>pre.contains (pm.getD q N)) post:=by
 intro post;induction post with
 |nil =>
  intro pre hl p hp;have hm:pm.getD p N∈pm:=by simp[List.getD_eq_getElem?_getD,hp]
  have:=(aL _).1 hm;rw[hl,List.append_nil] at this;simpa using this
 |cons j post ih =>
  intro pre hl;have cf:j∈l:=by rw[hl];simp
  have fG:=(aL j).2 cf;have hp:pm.idxOf j<pm.length:=List.idxOf_lt_length_of_mem fG;have qz:pm[pm.idxOf j]'hp=j:=List.getElem_idxOf hp;have hg:∀ z,pm.getD (pm.idxOf j) z=j:=fun z=>by simp[List.getD_eq_getElem?_getD,hp]
  have jK:j∉pre:=fun hm=>by rw[hl] at fF;exact(List.nodup_append.1 fF).2.2 j hm j (by simp) rfl
  refine⟨pm.idxOf j,hp,hg 0,by simp only[hg];simpa using jK,fun e he=>?_,?_⟩
  ·rw[gP _ hp] at he;rcases List.mem_append.1 he with he|he
   ·obtain⟨e0,kC,rfl⟩:=List.mem_map.1 he;rw[hg] at kC;obtain⟨jy,iO⟩:=List.mem_filter.1 kC;have iO:e0∈pm:=by simpa using iO
    have sv:pm.idxOf e0<pm.length:=List.idxOf_lt_length_of_mem iO;have:pm.getD (pm.idxOf e0) N=e0:=by simp[List.getD_eq_getElem?_getD,sv]
    simp only[this];have:=bS pre j post hl e0 jy ((aL e0).1 iO);simpa using this
   ·split at he
    ·rename_i aq;rw[hg] at aq;obtain⟨hq,hk⟩:=List.mem_filter.1 (List.mem_of_getLast? (Option.mem_toList.1 he));have cw:e<pm.idxOf j:=List.mem_range.1 hq;have hel:e<pm.length:=by omega
     have heq:pm.getD e N=pm[e]'hel:=by simp[List.getD_eq_getElem?_getD,hel]
     have pn:pm.getD e 0=pm[e]'hel:=by simp[List.getD_eq_getElem?_getD,hel]
     rw[pn] at hk;simp only[heq];have dh:pm=pm.take (pm.idxOf j)++j::pm.drop (pm.idxOf j+1):=by conv=>lhs;rw[←List.take_append_drop (pm.idxOf j) pm,List.drop_eq_getElem_cons hp,qz]
     have po:j∉pm.take (pm.idxOf j):=by intro hm;have hn:=iq;rw[dh] at hn;exact(List.nodup_append.1 hn).2.2 j hm j (by simp) rfl
     have sw:(pm.take (pm.idxOf j)).filter (fun i=>d0.k i==2)++j::(pm.drop (pm.idxOf j+1)).filter (fun i=>d0.k i==2)=pre.filter (fun i=>d0.k i==2)++j::post.filter (fun i=>d0.k i==2):=by have h1:=hf;rw[dh,hl] at h1;simp only[List.filter_append,List.filter_cons,aq,if_true] at h1;exact h1
     have:=Ox _ _ _ _ (fun hm=>po (List.mem_filter.1 hm).1) (fun hm=>jK (List.mem_filter.1 hm).1) sw;have aM:pm[e]∈(pm.take (pm.idxOf j)).filter (fun i=>d0.k i==2):=List.mem_filter.2 ⟨List.mem_take_iff_getElem.2 ⟨e,by omega,rfl⟩,hk⟩;rw[this] at aM;have:=(List.mem_filter.1 aM).1;simpa using this
    ·cases he
  ·have pq:(fun q=>if q=pm.idxOf j then true else pre.contains (pm.getD q N))=fun q=>(pre++[j]).contains (pm.getD q N):=by
    funext q
    by_cases hq:q=pm.idxOf j
    ·subst hq;simp only[if_true,hg];simp
    ·rw[if_neg hq];have aA:pm.getD q N≠j:=by
      intro he;rcases Nat.lt_or_ge q pm.length with lR|lR
      ·have h1:pm[q]=j:=by simpa [List.getD_eq_getElem?_getD,lR] using he
       exact hq ((List.getElem_inj (h₀:=lR) (h₁:=hp) iq).1 (h1.trans qz.symm))
      ·simp[List.getD_eq_getElem?_getD,List.getElem?_eq_none lR] at he;have:=hN j cf;omega
     rw[Bool.eq_iff_iff];simp only[List.contains_iff_mem,List.mem_append,List.mem_singleton,aA,or_false]
   rw[pq];exact ih (pre++[j]) (by rw[hl];simp)
theorem IV {ops:Array Oper}{vs:List VOper}(h:ops.toList.mapM (J0 P ops)=some vs) (ah:(K5 ops.toList vs).okB=true):DBase ops (K5 ops.toList vs):=by
 have hlen:vs.length=ops.size:=by have:=(W1 _ _ _ h).1;simpa using this
 have jE:(K5 ops.toList vs).ks.length=ops.size:=by simp[K5,hlen]
 have cS:=ah;unfold DInfo.okB at cS;rw[Bool.and_eq_true,decide_eq_true_eq] at cS;obtain⟨sx,kp⟩:=cS;have h0:∀ j,j<ops.size→(K5 ops.toList vs).okE j=true∧(K5 ops.toList vs).an.getD j 0<2 ^ j∧((List.range j).all fun i=>!((K5 ops.toList vs).lt i j)||((K5 ops.toList vs).ed.getD j []).any (fun e=>e==i||decide (i<e)&&(K5 ops.toList vs).lt i e))=true:=fun j hj=>by have:=List.all_eq_true.1 kp j (List.mem_range.2 (by rw[jE];exact hj));rw[Bool.and_eq_true,Bool.and_eq_true,decide_eq_true_eq] at this;exact this
 have mO:∀ j,j<ops.size→∀ e∈(K5 ops.toList vs).ed.getD j [],e<j:=fun j hj e he=>by have:=List.all_eq_true.1 (h0 j hj).1 e he;simpa using this
 refine⟨fun j o ho=>by simp[K5,List.getD_eq_getElem?_getD,ho],mO,fun j hj i hi ai=>?_,fun i j ai=>?_,jE⟩
 ·have:=List.all_eq_true.1 (h0 j hj).2.2 i (List.mem_range.2 hi);simp only[ai,Bool.not_true,Bool.false_or,List.any_eq_true,Bool.or_eq_true,Bool.and_eq_true,decide_eq_true_eq,beq_iff_eq] at this;exact this
 ·rcases Nat.lt_or_ge i j with h|h
  ·exact h
  ·exfalso;unfold DInfo.lt at ai;rcases Nat.lt_or_ge j ops.size with hj|hj
   ·have h1:=(h0 j hj).2.1;have h2:(K5 ops.toList vs).an.getD j 0<2 ^ i:=Nat.lt_of_lt_of_le h1 (Nat.pow_le_pow_right (by omega) h);rw[Nat.testBit_lt_two_pow h2] at ai;cases ai
   ·have:(K5 ops.toList vs).an.getD j 0=0:=by
     rw[List.getD_eq_getElem?_getD,List.getElem?_eq_none (by rw[sx,jE];exact hj)];rfl
    rw[this,Nat.zero_testBit] at ai;cases ai
theorem CX {t:Nat}:∀ (l:List Nat),l.Pairwise (fun j i=>¬ (i<t∧t≤j))→l=l.filter (fun i=>decide (i<t))++l.filter (fun i=>decide (t≤i))
 |[],_=>rfl
 |x::l,h=>by
  obtain⟨h1,h2⟩:=List.pairwise_cons.1 h;have ih:=CX l h2;by_cases hx:x<t
  ·have ma:¬ t≤x:=by omega
   simp only[List.filter_cons,hx,decide_true,if_true,ma,decide_false,List.cons_append,Bool.false_eq_true,if_false];rw[←ih]
  ·have ma:t≤x:=by omega
   have gQ:l.filter (fun i=>decide (i<t))=[]:=List.filter_eq_nil_iff.2 fun i hi=>by have:=h1 i hi;simp;omega
   have ae:l.filter (fun i=>decide (t≤i))=l:=List.filter_eq_self.2 fun i hi=>by have:=h1 i hi;simp;omega
   simp only[List.filter_cons,hx,decide_false,ma,decide_true,if_true,gQ,ae];simp
theorem H8 (hS:OkSpecs P S) {ro:Option Nat}{n:Nat}{ops:Array Oper}{vs:List VOper}(cB:ops.toList.mapM (J0 P ops)=some vs) {d0:DInfo}(_hb:DBase ops d0) {l l2 idx pm:List Nat}(fF:l.Nodup) (ai:∀ i∈l,i<ops.size) (pr:∀ i,i∈l↔i∈idx)
  (bS:∀ pre j post,l=pre++j::post→∀ e∈d0.ed.getD j [],e∈l→e∈pre) (gO:Z08 d0 vs idx (l.filter fun i=>d0.k i==2) pm=true)
  {env:Env}{σ:Heap}{K:Env→Heap→Prop}{ρ:Plc}{w:World}{a:Act}(pw:Zr S ((Ca d0 vs pm).opers (Vb vs pm) 0) env [σ] σ [] K) (hH:HRel ρ σ w) (hL:LRel ρ σ.n env a.tmps.toList) (dt:Mks B a.defers w)
  {Q:Exit→Act→World→Prop}(hQ:∀ a' w',BE B (List.length env) ρ σ w K a' w'→wpOpsIn (FF ro) n P ops Q l2 a' w'):wpOpsIn (FF ro) n P ops Q (l++l2) a w:=by
 have oP:vs.length=ops.size:=by have:=(W1 _ _ _ cB).1;simpa using this
 simp only[Z08,Bool.and_eq_true,decide_eq_true_eq,List.all_eq_true,List.contains_iff_mem] at gO;obtain⟨m1,m2,m3,m4,m5⟩:=gO;have jL:∀ i,i∈pm↔i∈l:=fun i=>by rw[pr i];exact⟨fun hi=>m2 i hi,fun hi=>m1 i hi⟩
 have iv:∀ i∈pm,i<vs.length:=fun i hi=>by have:=ai i ((jL i).1 hi);omega
 have hl:DLink P ops pm (Ca d0 vs pm) (Vb vs pm):=DLink.of cB iv;have px:(Vb vs pm).length=pm.length:=by simp[Vb]
 have jE:(Ca d0 vs pm).ks.length=(Vb vs pm).length:=by simp[Ca]
 have hd:=DOk.of m5;rw[jE] at hd;have gP:∀ p,p<pm.length→(Ca d0 vs pm).ed.getD p []=Q54 d0 pm p:=fun p hp=>by simp[Ca,List.getD_eq_getElem?_getD,hp]
 have gS:=SI (d:=Ca d0 vs pm) ops.size ai m3 fF jL bS gP m4 l [] (by simp);have fm:∀ i v,(Vb vs pm)[i]?=some v→(Ca d0 vs pm).k i=v.op.kind:=fun i v hv=>(hl.comp i v hv).choose_spec.2.2;obtain⟨k,tr,hp,_,_,k2,k3⟩:=Q7f (Ca d0 vs pm) (Vb vs pm) fm env K (Vb vs pm) 0 (by omega) rfl [] (fun _=>undef) (fun _=>σ) [] (fun l hl=>by omega) (fun l hl=>by omega) (by simpa [DInfo.rank,EL] using pw);have py:hp 0=σ:=k2 0 (by omega);have mP:(fun q=>([]:List Nat).contains (pm.getD q ops.size))=fun _=>false:=by funext q;rfl
 rw[mP] at gS;refine EM (B:=B) (pm:=pm) hS hl hd hQ k3 l (fun _=>false) a w (by rw[px];exact gS) ?_ (fun _ _ _=>rfl) (fun j hj=>by cases hj) (ρ0:=ρ) (σ0:=σ) (w0:=w)
 ·refine⟨fun j hj hA=>(by cases hA),0,ρ,fun l aR hk=>by simp,by omega,by rw[py];exact hH,?_,dt,by rw[py];exact Ext.refl _ _ _⟩;have e:EL (Vb vs pm) env tr (fun _=>false) (Vb vs pm).length=env:=by
   have:∀ m,EL (Vb vs pm) env tr (fun _=>false) m=env:=by
    intro m;induction m with
    |zero=>rfl
    |succ m ih=>simp only[EL,Bool.false_eq_true,if_false];exact ih
   exact this _
  rw[e,py];exact hL
theorem Rh (d:DInfo):∀ (lv:List VOper) (i:Nat),(∀ v∈lv,v.op.kind≠2)→∀ (env:Env) (σ:Heap) (pend:List (Nat×(Heap→Prop))) (K:Env→Heap→Prop),PM S lv env σ K→Zr S (d.opers lv i) env [σ] σ pend K:=by
 intro lv;induction lv with
 |nil=>intro i _ env σ pend K h;exact h
 |cons v rest ih =>
  intro i hk env σ pend K h;have aq:v.op.kind≠2:=hk v (by simp);have dJ:∀ u∈rest,u.op.kind≠2:=fun u hu=>hk u (by simp[hu]);simp only[PM] at h;simp only[DInfo.opers,Zr];cases hw:Z_ env v.guard with
  |none=>rw[hw] at h;exact h.elim
  |some b =>
   rw[hw] at h;obtain⟨ht,hf⟩:=h;refine⟨fun e=>?_,fun e=>?_⟩
   ·have ht:=ht e;have fC:∃ p,Q6 v.op (Q3 env) σ=some p∧PM S rest (JS env v.dst p.1) p.2 K:=by
     have cD:∀ x:XOp,v.op=.ext x→(∀ y,x≠.nextMap y):=fun x hx y hy=>by rw[hx,hy] at aq;exact aq rfl
     have:=ht;unfold vop at this;split at this
     ·rename_i f bL heq;rw[heq] at aq;exact absurd rfl aq
     ·rename_i f bL heq;rw[heq] at aq;exact absurd rfl aq
     ·rename_i x heq;rw[heq] at aq;exact absurd rfl aq
     ·cases dH:Q6 v.op (Q3 env) σ with
      |none=>rw[dH] at this;exact this.elim
      |some p=>rw[dH] at this;exact⟨p,rfl,this⟩
    obtain⟨p,hp,hr⟩:=fC;have hq:p.2=σ:=Dc aq (v:=p.1) (σ':=p.2) hp;rw[hq] at hr;rw[if_neg aq];split
    ·rw[hp];refine⟨fun τ hτ=>?_,ih (i+1) dJ _ _ _ _ hr⟩;have:τ=σ:=by
      have:=List.mem_of_mem_drop hτ;simpa using this
     subst this;show QZ (Q6 v.op (Q3 env) τ) _;rw[hp];rfl
    ·rw[hp];exact ih (i+1) dJ _ _ _ _ hr
   ·rw[if_neg aq];exact ih (i+1) dJ _ _ _ _ (hf e)
theorem IY (hS:OkSpecs P S) {ro:Option Nat}{n:Nat}{ops:Array Oper}{vs:List VOper}(cB:ops.toList.mapM (J0 P ops)=some vs) {d0:DInfo}(hb:DBase ops d0) (_hk0:∀ i v,vs[i]?=some v→d0.k i=v.op.kind) {s len:Nat}(hlen:0<len) (lN:s+len≤ops.size) {x:DSeg}(hx:Z3c d0 vs s len=some x)
  {l l2:List Nat}(fF:l.Nodup) (aL:∀ i,i∈l↔(s≤i∧i<s+len)) (bS:∀ pre j post,l=pre++j::post→∀ e∈d0.ed.getD j [],e∈l→e∈pre) (jM:l.Pairwise fun j i=>d0.lt i j=false)
  {rest:List DSeg}{env:Env}{σ:Heap}{K:Env→Heap→Prop}{ρ:Plc}{w:World}{a:Act}(h:M1 S (x::rest) env σ K) (hH:HRel ρ σ w) (hL:LRel ρ σ.n env a.tmps.toList) (dt:Mks B a.defers w)
  {Q:Exit→Act→World→Prop}(hQ:∀ a' w',BE B (List.length env) ρ σ w (fun env σ=>M1 S rest env σ K) a' w'→wpOpsIn (FF ro) n P ops Q l2 a' w'):wpOpsIn (FF ro) n P ops Q (l++l2) a w:=by
 have oP:vs.length=ops.size:=by have:=(W1 _ _ _ cB).1;simpa using this
 unfold Z3c at hx;split at hx
 ·rename_i h1;subst h1;obtain rfl:=osj hx;have hs:s<ops.size:=by omega
  have eA:l=[s]:=by
   have hm:∀ i,i∈l↔i=s:=fun i=>by rw[aL i];omega
   have hp:l.Perm [s]:=(List.perm_ext_iff_of_nodup fF (by simp)).2 fun i=>by rw[hm i];simp
   exact List.perm_singleton.1 hp
  subst eA;obtain⟨v,hv,hc⟩:=(W1 _ _ _ cB).2 s ops[s] (by simp[hs]);have hg:vs.getD s default=v:=by simp[List.getD_eq_getElem?_getD,hv]
  simp only[M1,hg] at h;simp only[PM] at h;rw[List.singleton_append,wpOpsIn_cons];unfold wpOpIn;rw[Array.getElem?_eq_getElem hs];simp only;cases hw:Z_ env v.guard with
  |none=>rw[hw] at h;exact h.elim
  |some b =>
   rw[hw] at h;obtain⟨ht,hf⟩:=h;obtain⟨dp,bB,bD⟩:=Gv hc hL hw;rw[dp];cases b with
   |false =>rw[if_neg (by simp)];refine⟨fun f _=>Ew _ _,hQ _ _ ⟨_,ρ,σ,hf rfl,Zp _ _ _,hH,by rw[bB];exact Yq hL Jm _,by rw[JT];exact dt,Ext.refl _ _ _⟩⟩
   |true =>rw[if_pos rfl];refine V8 hS bD hH hL (ht rfl) fun c w' ⟨u,ρ',σ',hK,dZ,fX,hE⟩=>?_;exact hQ _ _ ⟨_,ρ',σ',hK,Zp _ _ _,fX,by rw[bB];exact Yq (hE.lrel hL) dZ _,by rw[JT];exact dt.ext hH hE,hE⟩
 ·rename_i fT;simp only at hx;split at hx
  ·rename_i hP;obtain rfl:=osj hx;simp only[M1] at h;have mQ:(l.filter fun i=>d0.k i==2).Perm ((List.range' s len).filter fun i=>d0.k i==2):=by
    refine (List.Perm.filter _ ?_);refine (List.perm_ext_iff_of_nodup fF List.nodup_range').2 fun j=>?_;rw[aL j,List.mem_range'_1]
   have hs:=RB d0.lt _ _ len mQ (by
    refine Nat.le_trans (List.length_filter_le _ _) (by simp)) (jM.filter _)
   have gO:=List.all_eq_true.1 hP _ (List.mem_map.2 ⟨_,hs,rfl⟩);have pw:=h _ (List.mem_map.2 ⟨_,List.mem_map.2 ⟨_,hs,rfl⟩,rfl⟩);exact H8 hS cB hb fF (fun i hi=>by have:=(aL i).1 hi;omega) (fun i=>by rw[aL i,List.mem_range'_1]) bS gO pw hH hL dt (fun a' w' hn=>by
    obtain⟨af,ρ',σ',⟨aQ,σ2,hD,hR⟩,n1,n2,n3,n4,n5⟩:=hn;obtain⟨ρ2,d1,d2,d3⟩:=hD ρ w ρ' w' a'.tmps.toList hH n5 n2 n3;exact hQ a' w' ⟨aQ,ρ2,σ2,hR,(d1.1.trans n3.1.symm).trans n1,d2,d1,n4,d3⟩)
  ·cases hx
theorem Eg (hS:OkSpecs P S) {ro:Option Nat}{n:Nat}{ops:Array Oper}{vs:List VOper}(cB:ops.toList.mapM (J0 P ops)=some vs) {d0:DInfo}(hb:DBase ops d0) (ij:∀ i v,vs[i]?=some v→d0.k i=v.op.kind)
  {Q:Exit→Act→World→Prop}{K:Env→Heap→Prop}:∀ (f s:Nat) (aP:List DSeg),FG d0 vs f s=some aP→s≤ops.size→∀ (l:List Nat),l.Nodup→(∀ i,i∈l↔(s≤i∧i<ops.size)) →
   (∀ pre j post,l=pre++j::post→∀ e∈d0.ed.getD j [],e∈l→e∈pre)→(l.Pairwise fun j i=>d0.lt i j=false) →
   ∀ (env:Env) (σ:Heap) (ρ:Plc) (w:World) (a:Act),M1 S aP env σ K→HRel ρ σ w→LRel ρ σ.n env a.tmps.toList→Mks B a.defers w→(∀ a' w',BE B (List.length env) ρ σ w K a' w'→Q .normal a' w') →
   wpOpsIn (FF ro) n P ops Q l a w:=by
 intro f
 have fin:∀ (s:Nat) (aP:List DSeg),s=d0.ks.length→[]=aP→∀ (l:List Nat),(∀ i,i∈l↔(s≤i∧i<ops.size))→∀ (env:Env) (σ:Heap) (ρ:Plc) (w:World) (a:Act),M1 S aP env σ K→HRel ρ σ w→LRel ρ σ.n env a.tmps.toList→Mks B a.defers w→(∀ a' w',BE B (List.length env) ρ σ w K a' w'→Q .normal a' w') →
   wpOpsIn (FF ro) n P ops Q l a w:=by
  intro s aP hs eH l aL env σ ρ w a h hH hL dt hQ;subst eH;have:l=[]:=by
   cases l with
   |nil=>rfl
   |cons x l =>have:=(aL x).1 (by simp);rw[hs,hb.size] at this;omega
  subst this;exact hQ a w ⟨env,ρ,σ,h,rfl,hH,hL,dt,Ext.refl _ _ _⟩
 induction f with
 |zero =>
  intro s aP eH hs l fF aL bS jM env σ ρ w a h hH hL dt hQ;simp only[FG] at eH;split at eH
  ·rename_i he;exact fin s aP he (osj eH) l aL env σ ρ w a h hH hL dt hQ
  ·cases eH
 |succ f ih =>
  intro s aP eH hs l fF aL bS jM env σ ρ w a h hH hL dt hQ;simp only[FG] at eH;split at eH
  ·rename_i he;exact fin s aP he (osj eH) l aL env σ ρ w a h hH hL dt hQ
  ·rename_i aA;split at eH
   ·cases eH
   ·rename_i t ht;have pz:=List.find?_some ht;have mR:=List.mem_range'_1.1 (List.mem_of_find?_eq_some ht);rw[hb.size] at mR;split at eH
    ·rename_i x r hx hr;obtain rfl:=osj eH;have ai:∀ i p,i<t→t≤p→p<ops.size→d0.lt i p=true:=fun i p hi hp iq=>by
      have h1:=List.all_eq_true.1 pz p (List.mem_range'_1.2 ⟨hp,by rw[hb.size];omega⟩);exact List.all_eq_true.1 h1 i (List.mem_range.2 hi)
     have pA:l.Pairwise (fun j i=>¬ (i<t∧t≤j)):=by refine (List.pairwise_iff_forall_sublist.2 fun {j i} eG=>?_);rintro⟨h1,h2⟩;have hj:j∈l:=eG.subset (by simp);have h3:=(List.pairwise_iff_forall_sublist.1 jM) eG;rw[ai i j h1 h2 ((aL j).1 hj).2] at h3;cases h3
     have dh:=CX l pA;have mJ:∀ i,i∈l.filter (fun i=>decide (i<t))↔(s≤i∧i<s+(t-s)):=fun i=>by rw[List.mem_filter,aL i,decide_eq_true_eq];omega
     have iu:∀ i,i∈l.filter (fun i=>decide (t≤i))↔(t≤i∧i<ops.size):=fun i=>by rw[List.mem_filter,aL i,decide_eq_true_eq];omega
     rw[dh];refine IY hS cB hb ij (by omega) (by omega) hx (fF.filter _) mJ ?_ (jM.filter _) h hH hL dt ?_
     ·intro pre j post he e fH hel;refine bS pre j (post++l.filter (fun i=>decide (t≤i))) ?_ e fH (List.mem_filter.1 hel).1;exact dh.trans (by rw[he,List.append_assoc];rfl)
     ·intro a' w' ⟨af,ρ',σ',k1,k0,k2,k3,k4,k5⟩;refine ih t r hr (by omega) _ (fF.filter _) iu ?_ (jM.filter _) af σ' ρ' w' a' k1 k2 k3 k4 ?_
      ·intro pre j post he e fH hel;have:=bS (l.filter (fun i=>decide (i<t))++pre) j post (dh.trans (by rw[he,List.append_assoc])) e fH (List.mem_filter.1 hel).1;rcases List.mem_append.1 this with h1|h1
       ·have h2:=(List.mem_filter.1 h1).2;have h3:=(List.mem_filter.1 hel).2;simp at h2 h3;omega
       ·exact h1
      ·intro a2 w2 ⟨aQ,ρ2,σ2,m1,m0,m2,m3,m4,m5⟩;exact hQ a2 w2 ⟨aQ,ρ2,σ2,m1,m0.trans k0,m2,m3,m4,k5.trans m5⟩
    ·cases eH
theorem EG (hm:P.follows .mixedOrders=true) (hS:OkSpecs P S) {ro:Option Nat}{n:Nat}{id:Nat}{ops:Array Oper}{vs:List VOper}(cB:ops.toList.mapM (J0 P ops)=some vs) {aP:List DSeg}(ah:Q4r (K5 ops.toList vs) vs=some aP)
  {env:Env}{σ:Heap}{K:Env→Heap→Prop}{ρ:Plc}{w:World}{a:Act}(h:M1 S aP env σ K) (hH:HRel ρ σ w) (hL:LRel ρ σ.n env a.tmps.toList) (dt:Mks B a.defers w)
  {Q:Exit→Act→World→Prop}(hQ:∀ a' w',BE B (List.length env) ρ σ w K a' w'→Q .normal a' w'):(Code.region id ops true).wpIn (FF ro) n P Q a w:=by
 unfold Q4r at ah;split at ah
 ·rename_i hB;have hb:=IV cB hB;have fm:∀ i v,vs[i]?=some v→(K5 ops.toList vs).k i=v.op.kind:=fun i v hv=>by
   simp[DInfo.k,K5,List.getD_eq_getElem?_getD,hv]
  generalize o6:K5 ops.toList vs=d0 at *
  refine wpIn_region_draw fun t=>?_;simp only[Region.schedule,hm,Bool.true_or,if_true];have fI:∀ (j:Nat) (o:Oper),ops[j]?=some o→∀ e∈DY o,e<j:=fun j o ho e he=>hb.edge j (Array.getElem?_eq_some_iff.1 ho).1 e (by rw[hb.ed j o ho];exact he);have ae:∀ i,(Array.replicate ops.size false).getD i false=false:=fun i=>by rw[Array.getD_eq_getD_getElem?,Array.getElem?_replicate];split<;>rfl
  have gi:=Q33 fI ops.size t (Array.replicate ops.size false) (by simp) (by
   have:∀ m,cnt (fun i=>(Array.replicate ops.size false).getD i false) m≤m:=by
    intro m;induction m with
    |zero=>exact Nat.le_refl _
    |succ m ih=>simp only[cnt];split<;>omega
   exact this _)
  change wpOpsIn _ _ _ _ _ (Region.linearise.go .any ops ops.size t (Array.replicate ops.size false) []) _ _;generalize Region.linearise.go .any ops ops.size t (Array.replicate ops.size false) []=l at *
  obtain⟨iT,aL⟩:=Ch l _ (by simp) gi;have jM:=Q8y hb l _ (by simp) (fun j _ hA=>by rw[ae] at hA;cases hA) gi;have bS:=Az hb l _ (by simp) gi;refine Eg hS cB hb fm _ 0 aP ah (by omega) l iT (fun i=>by rw[aL i,ae];simp) (fun pre j post he e fH _=>?_) jM env σ ρ _ a h hH.drew hL (dt.ext hH (Ext.drew _ _ _)) (fun a' w' hn=>?_)
  ·rcases bS pre j post he e fH with h1|h1
   ·rw[ae] at h1;cases h1
   ·exact h1
  ·obtain⟨af,ρ',σ',n0,n1,n2,n3,n4,n5⟩:=hn;exact hQ a' w' ⟨af,ρ',σ',n0,n1,n2,n3,n4,(Ext.drew _ _ _).trans n5⟩
 ·cases ah
theorem Sy (hm:P.follows .mixedOrders=true) (hS:OkSpecs P S) {ro:Option Nat}{n:Nat}{id:Nat}{ops:Array Oper}{vs:List VOper}(cB:ops.toList.mapM (J0 P ops)=some vs) (ah:G1 (K5 ops.toList vs) vs=true)
  {env:Env}{σ:Heap}{K:Env→Heap→Prop}{ρ:Plc}{w:World}{a:Act}(h:PM S vs env σ K) (hH:HRel ρ σ w) (hL:LRel ρ σ.n env a.tmps.toList) (dt:Mks B a.defers w)
  {Q:Exit→Act→World→Prop}(hQ:∀ a' w',BE B (List.length env) ρ σ w K a' w'→Q .normal a' w'):(Code.region id ops true).wpIn (FF ro) n P Q a w:=by
 simp only[G1,Bool.and_eq_true] at ah;obtain⟨hB,kK,jm⟩:=ah;have hb:=IV cB hB;have oP:vs.length=ops.size:=by have:=(W1 _ _ _ cB).1;simpa using this
 have aq:∀ v∈vs,v.op.kind≠2:=fun v hv=>by have:=List.all_eq_true.1 kK v hv;simpa using this
 have fm:∀ i v,vs[i]?=some v→(K5 ops.toList vs).k i=v.op.kind:=fun i v hv=>by simp[DInfo.k,K5,List.getD_eq_getElem?_getD,hv]
 generalize o6:K5 ops.toList vs=d0 at *
 refine wpIn_region_draw fun t=>?_;simp only[Region.schedule,hm,Bool.true_or,if_true];have fI:∀ (j:Nat) (o:Oper),ops[j]?=some o→∀ e∈DY o,e<j:=fun j o ho e he=>hb.edge j (Array.getElem?_eq_some_iff.1 ho).1 e (by rw[hb.ed j o ho];exact he);have ae:∀ i,(Array.replicate ops.size false).getD i false=false:=fun i=>by rw[Array.getD_eq_getD_getElem?,Array.getElem?_replicate];split<;>rfl
 have gi:=Q33 fI ops.size t (Array.replicate ops.size false) (by simp) (by
  have:∀ m,cnt (fun i=>(Array.replicate ops.size false).getD i false) m≤m:=by
   intro m;induction m with
   |zero=>exact Nat.le_refl _
   |succ m ih=>simp only[cnt];split<;>omega
  exact this _)
 change wpOpsIn _ _ _ _ _ (Region.linearise.go .any ops ops.size t (Array.replicate ops.size false) []) _ _;generalize Region.linearise.go .any ops ops.size t (Array.replicate ops.size false) []=l at *
 obtain⟨iT,aL⟩:=Ch l _ (by simp) gi;have bS:=Az hb l _ (by simp) gi;have ai:∀ i∈l,i<ops.size:=fun i hi=>((aL i).1 hi).1;have gQ:l.filter (fun i=>d0.k i==2)=[]:=List.filter_eq_nil_iff.2 fun i hi=>by have aM:=ai i hi;have qA:vs[i]?=some vs[i]:=List.getElem?_eq_getElem (by omega);rw[fm i _ qA];simpa using aq _ (List.mem_of_getElem? qA)
 have sy:Vb vs (List.range' 0 d0.ks.length)=vs:=by
  apply List.ext_getElem?;intro i;unfold Vb;rw[List.getElem?_map];rcases Nat.lt_or_ge i vs.length with hi|hi
  ·rw[List.getElem?_range' (by rw[hb.size];omega),List.getElem?_eq_getElem hi];simp[List.getD_eq_getElem?_getD,hi]
  ·rw[List.getElem?_eq_none (by simp[hb.size];omega),List.getElem?_eq_none hi];rfl
 have hd:=Rh (S:=S) (Ca d0 vs (List.range' 0 d0.ks.length)) vs 0 aq env σ [] K h;rw[←List.append_nil l];refine H8 hS cB hb iT ai (fun i=>by rw[aL i,ae,List.mem_range'_1,hb.size];simp) (fun pre j post he e fH _=>?_) (idx:=List.range' 0 d0.ks.length) (pm:=List.range' 0 d0.ks.length) (by rw[gQ];exact jm) (by rw[sy];exact hd) hH.drew hL (dt.ext hH (Ext.drew _ _ _)) (fun a' w' hn=>?_)
 ·rcases bS pre j post he e fH with h1|h1
  ·rw[ae] at h1;cases h1
  ·exact h1
 ·obtain⟨af,ρ',σ',n0,n1,n2,n3,n4,n5⟩:=hn;exact hQ a' w' ⟨af,ρ',σ',n0,n1,n2,n3,n4,(Ext.drew _ _ _).trans n5⟩
theorem Lo (hS:OkSpecs P S) {id:Nat}{ops:Array Oper}{lv:List VOper}(bP:ops.toList.mapM (J0 P ops)=some lv):Sound P S (.region id ops false) (.region lv):=by intro B cT ro n Q env σ ρ w a h hH hL hd hR Q' hQ;simp only[vwp] at h;refine wpIn_region ?_;rw[List.range_eq_range',←Array.length_toList,wpOpsIn_eq_wpListIn ops.toList 0 (by simp)];exact Ev hS ops Q' ops.toList lv bP env σ _ ρ w a h hH hL hd (fun a' w' hn=>hQ .normal a' w' hn)
theorem cond_true {v:Value}{A B:Prop}(h:FC v A B):∃ t,v=.bool t∧(t=true→A)∧(t=false→B):=by
 unfold FC at h;split at h
 ·exact⟨_,rfl,h⟩
 ·exact h.elim
theorem AY {c:Code}{vc:VCode}(ih:Sound P S c vc):Sound P S (.loop c) (.loop vc):=by
 intro B cT ro n Q env σ ρ w a h hH hL hd hR Q' hQ;simp only[vwp] at h;obtain⟨live,I,n0,h0,kL⟩:=h;refine wpIn_loop_ghost (fun k a' w'=>BE B (List.length env) ρ σ w (fun af σ'=>I k (BH live af) σ') a' w') n0 ⟨env,ρ,σ,h0,rfl,hH,hL,hd,Ext.refl _ _ _⟩ ?_;rintro k a1 w1 ⟨bp,ρ1,σ1,k1,k0,k2,k3,k4,k5⟩;have hlen:List.length (Xn live (BH live bp) (List.replicate env.length poison))=List.length env:=by rw[RY];simp
 refine ih cT ro n _ _ σ1 ρ1 w1 a1 (kL k (BH live bp) σ1 k1) k2 (Es live bp _ _ k3 (ES _ (by rw[←k3.1,k0]))) k4 (hR.ext k5) _ ?_;rintro e a2 w2 ⟨aQ,ρ2,σ2,m1,m0,m2,m3,m4,m5⟩;rw[hlen] at m0;cases e with
 |normal =>obtain⟨n',oq,hI⟩:=m1;exact⟨n',oq,aQ,ρ2,σ2,hI,m0,m2,m3,m4,k5.trans m5⟩
 |_=>exact hQ _ a2 w2 ⟨aQ,ρ2,σ2,m1,m0,m2,m3,m4,k5.trans m5⟩
theorem G_ (c:Code):Sound P S c .bad:=by intro B cT ro n Q env σ ρ w a h;exact h.elim
theorem AW (hm:P.follows .mixedOrders=true) (hS:OkSpecs P S):∀ (c:Code) (vc:VCode),comp P c=some vc→Sound P S c vc:=by
 intro c;induction c with
 |skip =>intro vc hc;simp[comp] at hc;subst hc;intro B cT ro n Q env σ ρ w a h hH hL hd hR Q' hQ;exact wpIn_skip (hQ _ _ _ ⟨env,ρ,σ,h,rfl,hH,hL,hd,Ext.refl _ _ _⟩)
 |region id ops dr =>
  intro vc hc;cases dr with
  |false =>simp only[comp,Option.bind_eq_bind,Option.bind_eq_some_iff] at hc;obtain⟨lv,bP,hc⟩:=hc;simp at hc;subst hc;exact Lo hS bP
  |true =>
   simp only[comp,Option.bind_eq_bind,Option.bind_eq_some_iff] at hc;obtain⟨lv,bP,hc⟩:=hc;split at hc
   ·rename_i ah;simp at hc;subst hc;intro B cT ro n Q env σ ρ w a h hH hL hd hR Q' hQ;exact Sy hm hS bP ah h hH hL hd (fun a' w' hn=>hQ .normal a' w' hn)
   split at hc
   ·rename_i aP ah;simp at hc;subst hc;intro B cT ro n Q env σ ρ w a h hH hL hd hR Q' hQ;exact EG hm hS bP ah h hH hL hd (fun a' w' hn=>hQ .normal a' w' hn)
   ·simp at hc;subst hc;exact G_ _
 |seq x y iZ mS =>
  intro vc hc;simp only[comp,Option.bind_eq_bind,Option.bind_eq_some_iff] at hc;obtain⟨vx,hx,vy,hy,hc⟩:=hc;simp at hc;subst hc;intro B cT ro n Q env σ ρ w a h hH hL hd hR Q' hQ;simp only[vwp] at h;refine wpIn_seq (iZ vx hx cT ro n _ env σ ρ w a h hH hL hd hR _ ?_);rintro e a1 w1 ⟨bp,ρ1,σ1,k1,k0,k2,k3,k4,k5⟩;cases e with
  |normal =>refine mS vy hy cT ro n _ bp σ1 ρ1 w1 a1 k1 k2 k3 k4 (hR.ext k5) _ ?_;rintro e2 a2 w2 ⟨aQ,ρ2,σ2,m1,m0,m2,m3,m4,m5⟩;exact hQ e2 a2 w2 ⟨aQ,ρ2,σ2,m1,m0.trans k0,m2,m3,m4,k5.trans m5⟩
  |_=>exact hQ _ a1 w1 ⟨bp,ρ1,σ1,k1,k0,k2,k3,k4,k5⟩
 |cond c x y iZ mS =>
  intro vc hc;simp only[comp] at hc;split at hc
  ·rename_i ah;simp only[Option.bind_eq_bind,Option.bind_eq_some_iff] at hc;obtain⟨vx,hx,vy,hy,hc⟩:=hc;simp at hc;subst hc;intro B cT ro n Q env σ ρ w a h hH hL hd hR Q' hQ;simp only[vwp] at h;obtain⟨t,ht,h1,h2⟩:=cond_true h;have hv:=XS hL ah;rw[ht] at hv;refine wpIn_cond_split hv.bool_inv (fun e=>?_) (fun e=>?_)
   ·exact iZ vx hx cT ro n Q env σ ρ w a (h1 e) hH hL hd hR Q' hQ
   ·exact mS vy hy cT ro n Q env σ ρ w a (h2 e) hH hL hd hR Q' hQ
  ·simp at hc;subst hc;exact G_ _
 |block id x iZ =>
  intro vc hc;simp only[comp,Option.bind_eq_bind,Option.bind_eq_some_iff] at hc;obtain⟨vx,hx,hc⟩:=hc;simp at hc;subst hc;intro B cT ro n Q env σ ρ w a h hH hL hd hR Q' hQ;simp only[vwp] at h;refine wpIn_block (iZ vx hx cT ro n _ env σ ρ w a h hH hL hd hR _ ?_);rintro e a1 w1 ⟨bp,ρ1,σ1,k1,k0,k2,k3,k4,k5⟩;cases e with
  |exit gC =>
   simp only[Ar] at k1;simp only[Exit.inBlock];split at k1
   ·rename_i he;rw[if_pos he];exact hQ _ a1 w1 ⟨bp,ρ1,σ1,k1,k0,k2,k3,k4,k5⟩
   ·rename_i he;rw[if_neg he];exact hQ _ a1 w1 ⟨bp,ρ1,σ1,k1,k0,k2,k3,k4,k5⟩
  |_=>exact hQ _ a1 w1 ⟨bp,ρ1,σ1,k1,k0,k2,k3,k4,k5⟩
 |loop x iZ =>intro vc hc;simp only[comp,Option.bind_eq_bind,Option.bind_eq_some_iff] at hc;obtain⟨vx,hx,hc⟩:=hc;simp at hc;subst hc;exact AY (iZ vx hx)
 |rangeFunc g ps x y iZ mS =>
  intro vc hc;simp only[comp] at hc;split at hc
  ·rename_i ah;simp only[Option.bind_eq_bind,Option.bind_eq_some_iff] at hc;obtain⟨vx,hx,vy,hy,hc⟩:=hc;simp at hc;subst hc;exact CA hS (iZ vx hx) (mS vy hy) g ah ps
  ·simp at hc;subst hc;exact G_ _
 |exit id =>intro vc hc;simp[comp] at hc;subst hc;intro B cT ro n Q env σ ρ w a h hH hL hd hR Q' hQ;exact wpIn_exit (hQ _ _ _ ⟨env,ρ,σ,h,rfl,hH,hL,hd,Ext.refl _ _ _⟩)
 |ret =>intro vc hc;simp[comp] at hc;subst hc;intro B cT ro n Q env σ ρ w a h hH hL hd hR Q' hQ;exact wpIn_ret (hQ _ _ _ ⟨env,ρ,σ,h,rfl,hH,hL,hd,Ext.refl _ _ _⟩)
 |_ =>intro vc hc;simp[comp] at hc;subst hc;exact G_ _
end
end Go.V
namespace Go.V
open Go
inductive Ren (n:Nat) (π:Nat→Nat):Value→Value→Prop
 |plain (v:Value) (h:QQ v=true):Ren n π v v
 |poison (c:Value):Ren n π poison c
 |glob (g o s:Nat):Ren n π (.pointer (some ⟨g,o,some s⟩)) (.pointer (some ⟨g,o,some s⟩))
 |ptr (i o:Nat) (hi:i<n):Ren n π (.pointer (some ⟨i,o,none⟩)) (.pointer (some ⟨π i,o,none⟩))
 |sl (i o len cap:Nat) (hi:i<n):Ren n π (.slice (some ⟨i,o,none⟩) len cap) (.slice (some ⟨π i,o,none⟩) len cap)
 |slx (i o len cap:Nat) (hi:i<n):Ren n π (.slice (some ⟨i,o,some 0⟩) len cap) (.slice (some ⟨π i,o,some 0⟩) len cap)
 |map (i:Nat) (hi:i<n):Ren n π (.map (some i)) (.map (some (π i)))
 |iface (t:TypeId) (v c:Value) (h:Ren n π v c):Ren n π (.iface t v) (.iface t c)
 |yield (i:Nat) (hi:i<n):Ren n π (.func (.yield i) #[] #[]) (.func (.yield (π i)) #[] #[])
 |func (fn:FuncId) (fs gs cs ds:Array Value) (hf:fs.size=gs.size) (hc:cs.size=ds.size)
   (h1:∀ i (h1:i<fs.size) (h2:i<gs.size),Ren n π fs[i] gs[i]) (h2:∀ i (h1:i<cs.size) (h2:i<ds.size),Ren n π cs[i] ds[i]):Ren n π (.func (.func fn) fs cs) (.func (.func fn) gs ds)
 |agg (cs ds:Array Value) (hc:cs.size=ds.size) (h:∀ i (h1:i<cs.size) (h2:i<ds.size),Ren n π cs[i] ds[i]):Ren n π (.agg cs) (.agg ds)
 |tuple (cs ds:Array Value) (hc:cs.size=ds.size) (h:∀ i (h1:i<cs.size) (h2:i<ds.size),Ren n π cs[i] ds[i]):Ren n π (.tuple cs) (.tuple ds)
def LRen (n:Nat) (π:Nat→Nat) (vs cs:List Value):Prop:=vs.length=cs.length∧∀ (i:Nat) (v c:Value),vs[i]?=some v→cs[i]?=some c→Ren n π v c
theorem Ren.rel {ρ:Plc}{nf n':Nat}{π:Nat→Nat}{v' v:Value}(h:Ren n' π v' v):∀ {c:Value},VRel ρ nf v c→VRel (fun i=>if i<n' then ρ (π i) else none) n' v' c:=by
 induction h with
 |plain v h =>intro c hv;have:c=v:=Kr h hv;subst this;exact XM h
 |poison c=>intro c _;exact .poison _
 |glob g o s=>intro c hv;cases hv;exact .glob _ _ _
 |ptr i o hi =>intro c hv;obtain⟨a,rfl,_,h⟩:=hv.ptr_inv';exact .ptr _ _ _ hi fun p hp=>h p (by simpa [hi] using hp)
 |sl i o len cap hi =>intro c hv;obtain⟨a,au,rfl,_,h⟩:=hv.sl_inv;exact .sl _ _ _ _ _ _ hi fun p hp=>h p (by simpa [hi] using hp)
 |slx i o len cap hi =>
  intro c hv;cases hv with
  |slx _ _ _ _ a _ h=>exact .slx _ _ _ _ _ hi fun p hp=>h p (by simpa [hi] using hp)
 |map i hi =>
  intro c hv;cases hv with
  |map _ r _ h=>exact .map _ _ hi fun p hp=>h p (by simpa [hi] using hp)
 |yield i hi =>
  intro c hv;cases hv with
  |yield _ r _ h=>exact .yield _ _ hi fun p hp=>h p (by simpa [hi] using hp)
 |iface t v c h ih =>
  intro c hv;cases hv with
  |iface _ _ _ h=>exact .iface _ _ _ (ih h)
 |func fn fs gs cs ds hf hc h1 h2 j8 j9 =>
  intro c hv;cases hv with
  |func _ _ tU _ ds' kM cK iw lS =>exact .func _ _ _ _ _ (hf.trans kM) (hc.trans cK) (fun i k1 k2=>j8 i k1 (by omega) (iw i (by omega) k2)) (fun i k1 k2=>j9 i k1 (by omega) (lS i (by omega) k2))
 |agg cs ds hc h ih =>
  intro c hv;cases hv with
  |agg _ ds' cK h'=>exact .agg _ _ (hc.trans cK) fun i k1 k2=>ih i k1 (by omega) (h' i (by omega) k2)
 |tuple cs ds hc h ih =>
  intro c hv;cases hv with
  |tuple _ ds' cK h'=>exact .tuple _ _ (hc.trans cK) fun i k1 k2=>ih i k1 (by omega) (h' i (by omega) k2)
theorem VRel.ren {ρ:Plc}{n n':Nat}{π:Nat→Nat}(hn:n≤n') (hπ:∀ i,i<n→π i=i) {v c:Value}(h:VRel ρ n v c):Ren n' π v v:=by
 induction h with
 |poison c=>exact .poison _
 |bool b=>exact .plain _ rfl
 |int k x=>exact .plain _ rfl
 |string s=>exact .plain _ rfl
 |nilPtr=>exact .plain _ rfl
 |nilSl=>exact .plain _ rfl
 |nilMap=>exact .plain _ rfl
 |nilFunc=>exact .plain _ rfl
 |nilIface=>exact .plain _ rfl
 |glob g o s=>exact .glob _ _ _
 |ptr i o a hi h=>have:=Ren.ptr (n:=n') (π:=π) i o (by omega);rwa [hπ i hi] at this
 |sl i o len cap a au hi h=>have:=Ren.sl (n:=n') (π:=π) i o len cap (by omega);rwa [hπ i hi] at this
 |slx i o len cap a hi h=>have:=Ren.slx (n:=n') (π:=π) i o len cap (by omega);rwa [hπ i hi] at this
 |map i r hi h=>have:=Ren.map (n:=n') (π:=π) i (by omega);rwa [hπ i hi] at this
 |yield i r hi h=>have:=Ren.yield (n:=n') (π:=π) i (by omega);rwa [hπ i hi] at this
 |iface t v c _ ih=>exact .iface _ _ _ ih
 |func fn fs gs cs ds hf hc _ _ j8 j9=>exact .func _ _ _ _ _ rfl rfl (fun i k1 _=>j8 i k1 (by omega)) (fun i k1 _=>j9 i k1 (by omega))
 |agg cs ds hc _ ih=>exact .agg _ _ rfl fun i k1 _=>ih i k1 (by omega)
 |tuple cs ds hc _ ih=>exact .tuple _ _ rfl fun i k1 _=>ih i k1 (by omega)
theorem LRen.rel {ρ:Plc}{nf n':Nat}{π:Nat→Nat}{cJ vs:List Value}(h:LRen n' π cJ vs) {cs:List Value}(hL:LRel ρ nf vs cs):LRel (fun i=>if i<n' then ρ (π i) else none) n' cJ cs:=by
 refine⟨h.1.trans hL.1,fun i v c hv hc=>?_⟩;have ai:i<vs.length:=by rw[←h.1];exact(List.getElem?_eq_some_iff.1 hv).1
 exact(h.2 i v _ hv (List.getElem?_eq_getElem ai)).rel (hL.2 i _ c (List.getElem?_eq_getElem ai) hc)
theorem LRel.ren {ρ:Plc}{n n':Nat}{π:Nat→Nat}(hn:n≤n') (hπ:∀ i,i<n→π i=i) {vs cs:List Value}(h:LRel ρ n vs cs):LRen n' π vs vs :=
 ⟨rfl,fun i v u hv hu=>by
  obtain rfl:v=u:=osj (hv.symm.trans hu);obtain⟨c,_,hc⟩:=h.get hv;exact hc.ren hn hπ⟩
def ORen (n:Nat) (π:Nat→Nat):VObj→VObj→Prop
 |.map es clock,.map fs kN=>clock=kN∧es.length=fs.length∧∀ (k:Nat) (a b:Jr),es[k]?=some a→fs[k]?=some b→a.1=b.1∧a.2.2=b.2.2∧Ren n π a.2.1 b.2.1
 |.iter m since seen last,.iter m' kO mT mU=>m'=π m∧m<n∧since=kO∧seen=mT∧last=mU
 |.lp env r st pend,.lp af r' lQ bR=>LRen n π env af∧r=r'∧st=lQ∧pend=bR
 |_,_=>False
theorem ORen.rel {ρ:Plc}{nf n':Nat}{π:Nat→Nat}{o' o:VObj}(h:ORen n' π o' o) {O:Obj}(hO:ORel ρ nf o O):ORel (fun i=>if i<n' then ρ (π i) else none) n' o' O:=by
 cases o'<;>cases o<;>try exact h.elim
 ·obtain⟨rfl,hl,hk⟩:=h;obtain⟨entries,h1,h2,h3⟩:=hO;refine⟨entries,h1,by rw[hl];exact h2,fun k a ha=>?_⟩;have a_:=(List.getElem?_eq_some_iff.1 ha).1;rw[hl] at a_;obtain⟨e,he,h4,h5,h6⟩:=h3 k _ (List.getElem?_eq_getElem a_);obtain⟨k1,k2,k3⟩:=hk k a _ ha (List.getElem?_eq_getElem a_);exact⟨e,he,h4.trans k1.symm,h5.trans k2.symm,k3.rel h6⟩
 ·obtain⟨rfl,hm,rfl,rfl,rfl⟩:=h;obtain⟨rm,h1,h2⟩:=hO;exact⟨rm,h1,(Ren.map _ hm).rel h2⟩
 ·obtain⟨hl,rfl,rfl,rfl⟩:=h;exact⟨hO.1,hl.rel hO.2⟩
theorem ORel.ren {ρ:Plc}{n n':Nat}{π:Nat→Nat}(hn:n≤n') (hπ:∀ i,i<n→π i=i) {o:VObj}{O:Obj}(h:ORel ρ n o O):ORen n' π o o:=by
 cases o with
 |map es clock =>obtain⟨entries,h1,h2,h3⟩:=h;refine⟨rfl,rfl,fun k a b ha hb=>?_⟩;obtain rfl:a=b:=osj (ha.symm.trans hb);obtain⟨e,_,_,_,hv⟩:=h3 k a ha;exact⟨rfl,rfl,hv.ren hn hπ⟩
 |iter m since seen last =>
  obtain⟨rm,h1,h2⟩:=h;cases h2 with
  |map _ _ hi _=>exact⟨(hπ m hi).symm,by omega,rfl,rfl,rfl⟩
 |lp env r st pend=>exact⟨h.2.ren hn hπ,rfl,rfl,rfl⟩
def BRen (n:Nat) (π:Nat→Nat):Blk→Blk→Prop
 |.cells c esz wr tight,.cells d mV kA gT=>esz=mV∧wr=kA∧tight=gT∧LRen n π c d
 |.obj o wr,.obj o' kA=>wr=kA∧ORen n π o o'
 |_,_=>False
theorem BRen.wr {n:Nat}{π:Nat→Nat}{b c:Blk}(h:BRen n π b c):b.wr=c.wr:=by cases b<;>cases c<;>first|(exact h.elim)|exact h.2.1|exact h.1
theorem BRen.rel {ρ:Plc}{nf n':Nat}{π:Nat→Nat}{p:Pl}{w:World}{b' b:Blk}(h:BRen n' π b' b) (hB:BRel ρ nf p w b):BRel (fun i=>if i<n' then ρ (π i) else none) n' p w b':=by
 cases b' with
 |cells c esz wr tight =>
  cases b with
  |cells d mV kA gT =>
   obtain⟨rfl,rfl,rfl,hl⟩:=h;obtain⟨h1,h2,h3,h4,h5,h6⟩:=hB;refine⟨h1,h2,by rw[hl.1];exact h3,h4,fun k v hk=>?_,h6⟩;have a_:k<d.length:=by rw[←hl.1];exact(List.getElem?_eq_some_iff.1 hk).1
   obtain⟨u,hu,hv⟩:=h5 k _ (List.getElem?_eq_getElem a_);exact⟨u,hu,(hl.2 k v _ hk (List.getElem?_eq_getElem a_)).rel hv⟩
  |obj _ _=>exact h.elim
 |obj o wr =>
  cases b with
  |cells _ _ _ _=>exact h.elim
  |obj o' kA =>obtain⟨rfl,ho⟩:=h;obtain⟨h0,O,h1,h2⟩:=hB;exact⟨h0,O,h1,ho.rel h2⟩
def VObj.plain:VObj→Bool
 |.map es _=>es.all fun kv=>QQ kv.2.1
 |_=>false
def Blk.plain:Blk→Bool
 |.cells c _ _ _=>c.all QQ
 |.obj o _=>o.plain
theorem LRen.plain {n:Nat}{π:Nat→Nat}{c:List Value}(h:c.all QQ=true):LRen n π c c :=
 ⟨rfl,fun i v u hv hu=>by
  obtain rfl:v=u:=osj (hv.symm.trans hu);exact .plain _ (List.all_eq_true.1 h v (List.mem_of_getElem? hv))⟩
theorem BRen.plain {n:Nat}{π:Nat→Nat}{b:Blk}(h:b.plain=true):BRen n π b b:=by
 cases b with
 |cells c esz wr tight=>exact⟨rfl,rfl,rfl,LRen.plain h⟩
 |obj o wr =>
  cases o with
  |map es clock =>refine⟨rfl,rfl,rfl,fun k a b ha hb=>?_⟩;obtain rfl:a=b:=osj (ha.symm.trans hb);exact⟨rfl,rfl,.plain _ (List.all_eq_true.1 h a (List.mem_of_getElem? ha))⟩
  |_=>cases h
theorem BRel.ren {ρ:Plc}{n n':Nat}{π:Nat→Nat}(hn:n≤n') (hπ:∀ i,i<n→π i=i) {p:Pl}{w:World}{b:Blk}(h:BRel ρ n p w b):BRen n' π b b:=by
 cases b with
 |cells c esz wr tight =>refine⟨rfl,rfl,rfl,rfl,fun i v u hv hu=>?_⟩;obtain rfl:v=u:=osj (hv.symm.trans hu);obtain⟨_,_,sA⟩:=h.2.2.2.2.1 i v hv;exact sA.ren hn hπ
 |obj o wr =>obtain⟨_,O,_,ho⟩:=h;exact⟨rfl,ho.ren hn hπ⟩
def DropTo (σ0:Heap) (v:Value) (σf:Heap) (v':Value) (σ':Heap):Prop :=
 ∀ ρ0 w0 ρ w c,HRel ρ0 σ0 w0→Ext ρ0 σ0 w0 ρ σf w→HRel ρ σf w→VRel ρ σf.n v c→∃ ρ',VRel ρ' σ'.n v' c∧HRel ρ' σ' w∧Ext ρ0 σ0 w0 ρ' σ' w
theorem DropTo.refl (σ0:Heap) (v:Value) (σf:Heap):DropTo σ0 v σf v σf:=fun _ _ ρ _ _ _ hE hH hv=>⟨ρ,hv,hH,hE⟩
theorem DropTo.rename {σ0 σf σ':Heap}{v v':Value}(π:Nat→Nat) (h1:σ0.n≤σ'.n)
  (h2:∀ i,i<σ0.n→π i=i∧σ'.get i=σf.get i∧(σf.get i=σ0.get i∨∃ b,σf.get i=some b∧b.plain=true))
  (h3:∀ i,σ0.n≤i→i<σ'.n→σ0.n≤π i∧∃ b' b,σ'.get i=some b'∧σf.get (π i)=some b∧BRen σ'.n π b' b)
  (h4:∀ i j,σ0.n≤i→i<σ'.n→σ0.n≤j→j<σ'.n→π i=π j→i=j) (h5:Ren σ'.n π v' v):DropTo σ0 v σf v' σ':=by
 intro ρ0 w0 ρ w c fD hE hH hv;have hπ:∀ i,i<σ0.n→π i=i:=fun i hi=>(h2 i hi).1;have aD:∀ i b',σ'.get i=some b'→∃ b,σf.get (π i)=some b∧BRen σ'.n π b' b:=fun i b' hb=>by
  have hi:=σ'.lt hb;rcases Nat.lt_or_ge i σ0.n with ai|bI
  ·obtain⟨k1,k2,k3⟩:=h2 i ai;rw[k1];rw[k2] at hb;refine⟨b',hb,?_⟩;rcases k3 with k3|⟨b,k3,k4⟩
   ·rw[k3] at hb;obtain⟨p,_,hB⟩:=fD.live i b' hb;exact hB.ren h1 hπ
   ·rw[k3] at hb;obtain rfl:=osj hb;exact BRen.plain k4
  ·obtain⟨_,b1,b,k1,k2,k3⟩:=h3 i bI hi;rw[k1] at hb;obtain rfl:=osj hb;exact⟨b,k2,k3⟩
 have eI:∀ i j,i<σ'.n→j<σ'.n→π i=π j→i=j:=fun i j hi hj he=>by
  rcases Nat.lt_or_ge i σ0.n with ai|bI<;>rcases Nat.lt_or_ge j σ0.n with bW|gU
  ·rw[hπ i ai,hπ j bW] at he;exact he
  ·have:=(h3 j gU hj).1;rw[hπ i ai] at he;omega
  ·have:=(h3 i bI hi).1;rw[hπ j bW] at he;omega
  ·exact h4 i j bI hi gU hj he
 have hX:Ext ρ0 σ0 w0 (fun i=>if i<σ'.n then ρ (π i) else none) σ' w:=by
  refine⟨hE.os,hE.tape,hE.output,hE.size,hE.keep,?_,h1,fun i hi p hp=>?_⟩
  ·rintro B hB ⟨i,p,b,hp,hb,hw,rfl⟩;change (if i<σ'.n then ρ (π i) else none)=some p at hp;split at hp
   ·obtain⟨b0,bw,cu⟩:=aD i b hb;exact hE.wr _ hB ⟨π i,p,b0,hp,bw,by rw[←cu.wr];exact hw,rfl⟩
   ·cases hp
  ·change (if i<σ'.n then ρ (π i) else none)=some p at hp;split at hp
   ·rw[hπ i hi] at hp;exact hE.pl i hi p hp
   ·cases hp
 refine⟨fun i=>if i<σ'.n then ρ (π i) else none,h5.rel hv,fD.ext ⟨fun i b' hb=>?_,fun i hi=>?_,fun i p hp=>?_,fun i j p q b b8 hp hq hb hw hx=>?_⟩ hX,hX⟩
 ·obtain⟨b,bw,cu⟩:=aD i b' hb;obtain⟨p,hp,hB⟩:=hH.live _ b bw;exact⟨p,by simp[σ'.lt hb,hp],cu.rel hB⟩
 ·show (if i<σ'.n then ρ (π i) else none)=none;split
  ·rename_i ai;rcases Nat.lt_or_ge i σ0.n with bW|bI
   ·obtain⟨k1,k2,_⟩:=h2 i bW;rw[k1];exact hH.dead i (by rw[←k2];exact hi)
   ·obtain⟨_,b1,b,k1,_⟩:=h3 i bI ai;rw[k1] at hi;cases hi
  ·rfl
 ·change (if i<σ'.n then ρ (π i) else none)=some p at hp;split at hp
  ·exact hH.lt _ p hp
  ·cases hp
 ·change (if i<σ'.n then ρ (π i) else none)=some p at hp;change (if j<σ'.n then ρ (π j) else none)=some q at hq;split at hp
  ·rename_i hi;split at hq
   ·rename_i hj;obtain⟨b0,bw,cu⟩:=aD i b hb;exact hH.sep (π i) (π j) p q b0 (fun e=>b8 (eI i j hi hj e)) hp hq bw (by rw[←cu.wr];exact hw) hx
   ·cases hq
  ·cases hp
def Agree (σ0 σf:Heap):Prop:=∀ i,i<σ0.n→σf.get i=σ0.get i
theorem Agree.refl (σ:Heap):Agree σ σ:=fun _ _=>rfl
theorem Agree.push {σ0 σ:Heap}(h:Agree σ0 σ) (hn:σ0.n≤σ.n) (b:Blk):Agree σ0 (σ.push b):=fun i hi=>(Heap.get_push_lt σ b (by omega)).trans (h i hi)
theorem Agree.trans {σ0 σ1 σ2:Heap}(h:Agree σ0 σ1) (k:Agree σ1 σ2) (hn:σ0.n≤σ1.n):Agree σ0 σ2:=fun i hi=>(k i (by omega)).trans (h i hi)
section
variable {P:Program}{S:VSpecs}
def Vc (tmps:Array Value):ResultVar→Sem Value
 |.tmp t=>pure (tmps.getD t undef)
 |.cell a t=>do loadVar t (←asAddr (tmps.getD a undef))
theorem Rc (fn:Func) (tmps:Array Value):results fn tmps=(do
  let vs ←fn.results.mapM (Vc tmps)
  pure (if h:vs.size=1 then vs[0] else .tuple vs)):=by
 unfold results;congr 1
theorem Rt {ρ:Plc}{σ:Heap}{w:World}{env:Env}{tmps:Array Value}(hH:HRel ρ σ w) (hL:LRel ρ σ.n env tmps.toList) {r:ResultVar}{vr:VResult}
  (hc:Js P r=some vr) {v:Value}(h:Ji env σ vr=some v):∃ c,VRel ρ σ.n v c∧(Vc tmps r).run P w=.ok c w:=by
 have aj:∀ t,VRel ρ σ.n (env.getD t undef) (tmps.getD t undef):=fun t=>XS (a:=⟨tmps,[]⟩) hL (x:=.tmp t) rfl;cases r with
 |tmp t =>simp[Js] at hc;subst hc;simp only[Ji,Option.some.injEq] at h;subst h;exact⟨_,aj t,rfl⟩
 |cell a t =>
  simp only[Js] at hc;split at hc
  ·rename_i i d hi hu;simp at hc;subst hc;simp only[Ji,Option.map_eq_some_iff] at h;obtain⟨p,hp,rfl⟩:=h;simp only[Q6,Q3] at hp;have ha:=aj a;split at hp
   ·rename_i g o s h1;rw[h1] at ha;split at hp
    ·rename_i c hb;split at hp
     ·rename_i ae;split at hp
      ·rename_i v0 hv;simp at hp;subst hp;obtain⟨u,cz,hr⟩:=Ll hH hi hu hb ae hv ha;refine⟨u,cz,?_⟩;have:=hr w (Like.refl ρ w);have mW:tmps.getD a undef=.pointer (some ⟨g,o,none⟩):=by
        generalize tmps.getD a undef=c at ha;cases ha;rfl
       rw[mW] at this;simp only[Instr.loadAt,Instr.sureAddr,Sem.run_bind,Sem.run_pure,Result.andThen_ok] at this;simp only[Vc,mW,asAddr,Sem.run_bind,Sem.run_pure,Result.andThen_ok];exact this
      ·cases hp
     ·cases hp
    ·cases hp
   ·rename_i i' o h1;rw[h1] at ha;split at hp
    ·rename_i c esz wr tight hb;split at hp
     ·rename_i v0 hv;simp at hp;subst hp;obtain⟨u,cz,hr⟩:=CR hH hi hu hb hv ha;refine⟨u,cz,?_⟩;have:=hr w (Like.refl ρ w);obtain⟨ad,mW,_⟩:=ha.ptr_inv';rw[mW] at this;simp only[Instr.loadAt,Instr.sureAddr,Sem.run_bind,Sem.run_pure,Result.andThen_ok] at this;simp only[Vc,mW,asAddr,Sem.run_bind,Sem.run_pure,Result.andThen_ok];exact this
     ·cases hp
    ·cases hp
   ·cases hp
  ·cases hc
theorem CP {α:Type}{ρ:Plc}{n:Nat}(g:α→Sem Value) (w:World) (f:α→Option Value):∀ (l:List α) (vs:List Value),l.mapM f=some vs →
  (∀ a∈l,∀ v,f a=some v→∃ c,VRel ρ n v c∧(g a).run P w=.ok c w)→∃ cs,LRel ρ n vs cs∧(l.mapM g).run P w=.ok cs w:=by
 intro l;induction l with
 |nil=>intro vs h _;simp at h;subst h;exact⟨[],LRel.nil _ _,rfl⟩
 |cons a l ih =>
  intro vs h hg;rw[List.mapM_cons] at h;cases hf:f a with
  |none=>simp[hf] at h
  |some v =>
   cases hm:l.mapM f with
   |none=>simp[hf,hm] at h
   |some cJ =>simp[hf,hm] at h;subst h;obtain⟨c,fk,gx⟩:=hg a (by simp) v hf;obtain⟨cs,pB,i_⟩:=ih cJ hm (fun b hb=>hg b (by simp[hb]));refine⟨c::cs,LRel.cons fk pB,?_⟩;rw[List.mapM_cons];simp[gx,i_]
theorem T8 {ρ:Plc}{σ:Heap}{w:World}{env:Env}{tmps:Array Value}(hH:HRel ρ σ w) (hL:LRel ρ σ.n env tmps.toList) {fn:Func}{rs:List VResult}
  (hc:VE P fn.results.toList=some rs) {v:Value}(h:ZQ env σ rs=some v):∃ c,VRel ρ σ.n v c∧(results fn tmps).run P w=.ok c w:=by
 unfold VE at hc;have ae:∀ vs,rs.mapM (Ji env σ)=some vs→∃ cs,LRel ρ σ.n vs cs∧(fn.results.mapM (Vc tmps)).run P w=.ok cs.toArray w:=by
  intro vs cB;have mX:fn.results.toList.mapM (fun r=>(Js P r).bind (Ji env σ))=some vs:=by
   have:∀ (l:List ResultVar) (rs:List VResult) (vs:List Value),l.mapM (Js P)=some rs→rs.mapM (Ji env σ)=some vs→l.mapM (fun r=>(Js P r).bind (Ji env σ))=some vs:=by
    intro l;induction l with
    |nil=>intro rs vs h1 h2;simp at h1;subst h1;simpa using h2
    |cons r l ih =>
     intro rs vs h1 h2;rw[List.mapM_cons] at h1;cases hg:Js P r with
     |none=>simp[hg] at h1
     |some x =>
      cases hm:l.mapM (Js P) with
      |none=>simp[hg,hm] at h1
      |some bh =>
       simp[hg,hm] at h1;subst h1;rw[List.mapM_cons] at h2;cases hx:Ji env σ x with
       |none=>simp[hx] at h2
       |some y =>
        cases iu:bh.mapM (Ji env σ) with
        |none=>simp[hx,iu] at h2
        |some cJ =>simp[hx,iu] at h2;subst h2;rw[List.mapM_cons];simp[hg,hx,ih bh cJ hm iu]
   exact this _ _ _ hc cB
  obtain⟨cs,k1,k2⟩:=CP (P:=P) (ρ:=ρ) (n:=σ.n) (Vc tmps) w _ _ _ mX (fun r _ v hv=>by
   cases hr:Js P r with
   |none=>rw[hr] at hv;cases hv
   |some vr=>rw[hr] at hv;exact Rt hH hL hr hv)
  refine⟨cs,k1,?_⟩;rw[Array.mapM_eq_mapM_toList];simp[k2]
 unfold ZQ at h;split at h
 ·rename_i r;obtain⟨cs,k1,k2⟩:=ae [v] (by simp[h]);have cy:cs.length=1:=by rw[←k1.1];rfl
  obtain⟨c,rfl⟩:=List.length_eq_one_iff.1 cy;refine⟨c,k1.2 0 v c rfl rfl,?_⟩;rw[Rc];simp only[Sem.run_bind];rw[k2];simp
 ·rename_i aA;simp only[Option.map_eq_some_iff] at h;obtain⟨vs,cB,rfl⟩:=h;obtain⟨cs,k1,k2⟩:=ae vs cB;refine⟨.tuple cs.toArray,VRel.tuple_of k1,?_⟩;have hl:cs.length≠1:=by
   rw[←k1.1,(W1 _ _ _ cB).1];intro e;obtain⟨r,hr⟩:=List.length_eq_one_iff.1 e;exact aA r hr
  rw[Rc];simp only[Sem.run_bind];rw[k2];simp[hl]
theorem Ls {ρ:Plc}{n:Nat}(k:Nat):LRel ρ n (List.replicate k undef) (List.replicate k undef) :=
 ⟨rfl,fun i v c hv hc=>by
  obtain rfl:v=c:=osj (hv.symm.trans hc);have:=List.mem_of_getElem? hv;rw[List.mem_replicate] at this;rw[this.2];exact Jm⟩
theorem Bo {w:World}{D:Nat}{ds:List Deferred}(h:w.heap[D]?=some (.deferred (some ds))):(Instr.takeDeferred D).run P w=.ok ds (Hc w D (.deferred none)):=by simp[Instr.takeDeferred,Qu h (fun _ _ _ e=>by cases e),QL h (fun _ _ _ e=>by cases e)]
theorem Ext.mark {ρ0 ρ:Plc}{σ0 σ:Heap}{w0 w:World}(hE:Ext ρ0 σ0 w0 ρ σ w) {D:Nat}(hD:w0.heap.size≤D) (O:Obj):Ext ρ0 σ0 w0 ρ σ (Hc w D O) :=
 ⟨hE.os,hE.tape,hE.output,by rw[GG];exact hE.size,fun B hB hW=>(YE w D O B (by omega)).trans (hE.keep B hB hW),hE.wr,hE.n,hE.pl⟩
theorem HRel.mark {ρ:Plc}{σ:Heap}{w:World}(hH:HRel ρ σ w) {D:Nat}{d:Option (List Deferred)}(hD:w.heap[D]?=some (.deferred d)) (O:Obj):HRel ρ σ (Hc w D O) :=
 hH.world (by rw[GG];exact Nat.le_refl _) (fun i p hp=>YE w D O p.blk (hH.not_deferred hD i p hp)) fun g cs hg=>YE w D O g fun e=>by obtain⟨⟨e',f,h1⟩,_⟩:=hH.tab g cs hg;rw[e,hD] at h1;cases h1
theorem SP {fn:Func}{tmps:Array Value}{R:Ending→World→Prop}{ρ0:Plc}{σ0:Heap}{w0:World}{ρ:Plc}{σ:Heap}
  (pC:∀ w,HRel ρ σ w→Ext ρ0 σ0 w0 ρ σ w→∃ v,(results fn tmps).run P w=.ok v w∧R (.returned v) w) :
  ∀ (Ds:List Nat) (w:World),Ds.Nodup→(∀ D∈Ds,w0.heap.size≤D∧w.heap[D]?=some (.deferred (some [])))→HRel ρ σ w→Ext ρ0 σ0 w0 ρ σ w →
   LeavesInM Fence.wide 0 P fn tmps R (Ds.map fun D=>⟨.collected D,#[]⟩) .returning w:=by
 intro Ds;induction Ds with
 |nil=>intro w _ _ hH hE;exact pC w hH hE
 |cons D Ds ih =>intro w iT ae hH hE;obtain⟨h1,h2⟩:=List.nodup_cons.1 iT;obtain⟨h3,h4⟩:=ae D (by simp);refine⟨by simp,.inl ⟨D,_,rfl,Bo h4,ih _ h2 (fun E bV=>?_) (hH.mark h4 _) (hE.mark h3 _)⟩⟩;obtain⟨k1,k2⟩:=ae E (by simp[bV]);exact⟨k1,by rw[YE _ _ _ _ (by rintro rfl;exact h1 bV)];exact k2⟩
theorem B7 (hm:P.follows .mixedOrders=true) (hS:OkSpecs P S) {f:FuncId}{fn:Func}{c:Code}{vc:VCode}{rs:List VResult}(hf:P.funcs[f]?=some fn) (hb:fn.body=some c) (hc:comp P c=some vc) (hr:VE P fn.results.toList=some rs)
  {args:List Value}{σ:Heap}{R:Value→Heap→Prop}(h:vwp S vc none (Q7i rs fun v σf=>∃ v' σ',DropTo σ v σf v' σ'∧R v' σ') (args++List.replicate (fn.ntmps-args.length) undef) σ):VCallsTo P f args σ R:=by
 intro ρ w ax hH hL;refine callsIn_wide.1 (callsIn_of_wp_marks (n:=0) hf hb trivial (AW hm hS c vc hc (B:=w.heap.size) none none 0 _ _ σ ρ w _ h hH ?_ (Mks.nil (Nat.le_refl _)) (.inl ⟨rfl,rfl⟩) _ ?_) rfl)
 ·have hl:args.length=ax.size:=by have:=hL.1;simpa using this
  have:=hL.append (Ls (ρ:=ρ) (n:=σ.n) (fn.ntmps-args.length));simpa [hl] using this
 ·intro e a' w' ⟨af,ρ',σ',k1,_,k2,k3,⟨_,Ds,k4,k6,k7⟩,k5⟩;have fin:(QZ (ZQ af σ' rs) fun v=>∃ v' aC,DropTo σ v σ' v' aC∧R v' aC)→LeavesInM Fence.wide 0 P fn a'.tmps (fun e w'=>∃ c,e=.returned c∧Got ρ σ w R c w') a'.defers .returning w':=by
   intro hk;rw[k4];refine SP (fun w1 ic fl=>?_) Ds w' k6 k7 k2 k5;cases hv:ZQ af σ' rs with
   |none=>rw[hv] at hk;exact hk.elim
   |some v =>rw[hv] at hk;obtain⟨v',aC,hd,hR⟩:=hk;obtain⟨c,fk,gx⟩:=T8 ic k3 hr hv;obtain⟨eu,j1,j2,j3⟩:=hd ρ w ρ' w1 c hH fl ic fk;exact⟨c,gx,c,rfl,v',eu,aC,hR,j1,j2,j3⟩
  cases e with
  |normal=>exact fin k1
  |ret=>exact fin k1
  |_=>exact k1.elim
end
end Go.V
namespace Go.V
open Go
def Fun (P:Program) (f:FuncId) (vc:VCode) (rs:List VResult) (nt:Nat):Prop :=
 ∃ fn,P.funcs[f]?=some fn∧fn.body.bind (comp P)=some vc∧VE P fn.results.toList=some rs∧fn.ntmps=nt∧(fn.name=="runtime.NumGoroutine")=false
def Z05 (σ:Heap) (rs:List VResult) (R:Value→Heap→Prop):Exit→Env→Heap→Prop:=Q7i rs fun v σf=>∃ v' σ',DropTo σ v σf v' σ'∧R v' σ'
section
variable {P:Program}{S:VSpecs}{f:FuncId}{vc:VCode}{rs:List VResult}{nt:Nat}
theorem Fun.calls (h:Fun P f vc rs nt) (hm:P.follows .mixedOrders=true) (hS:OkSpecs P S) {args:List Value}{σ:Heap}{R:Value→Heap→Prop}
  (hw:vwp S vc none (Z05 σ rs R) (args++List.replicate (nt-args.length) undef) σ):VCalled P f args σ R:=by
 obtain⟨fn,h1,h2,h3,h4,h5⟩:=h;cases hb:fn.body with
 |none=>rw[hb] at h2;cases h2
 |some c =>rw[hb] at h2;exact VCallsTo.called ⟨fn,h1,by rw[hb];rfl,h5⟩ (B7 hm hS h1 hb h2 h3 (by rw[h4];exact hw))
theorem Fun.enterable (h:Fun P f vc rs nt):X6 P f:=by
 obtain⟨fn,h1,h2,h3,h4,h5⟩:=h;refine⟨fn,h1,?_,h5⟩;cases hb:fn.body with
 |none=>rw[hb] at h2;cases h2
 |some c=>rfl
theorem Fun.callsTo (h:Fun P f vc rs nt) (hm:P.follows .mixedOrders=true) (hS:OkSpecs P S) {args:List Value}{σ:Heap}{R:Value→Heap→Prop}
  (hw:vwp S vc none (Z05 σ rs R) (args++List.replicate (nt-args.length) undef) σ):VCallsTo P f args σ R:=by
 obtain⟨fn,h1,h2,h3,h4,h5⟩:=h;cases hb:fn.body with
 |none=>rw[hb] at h2;cases h2
 |some c =>rw[hb] at h2;exact B7 hm hS h1 hb h2 h3 (by rw[h4];exact hw)
def Q2 (P:Program):VSpecs where
 fn f:=some fun args σ K=>VCalled P f args σ K
 yl i:=some fun args σ K=>BY P i args σ K
 it f:=@ite _ (X6 P f) (Classical.propDecidable _) (some fun i Y args σ K=>KQ P i Y→VCallsTo P f args σ K) none
theorem By:OkSpecs P (Q2 P) :=
  ⟨fun f s h => by obtain rfl:=osj h; exact fun args σ K h => h,
   fun f s h => by obtain rfl:=osj h; exact fun args σ K h => h,
   fun f T h => by
    simp only [Q2] at h;split at h
    · rename_i he; obtain rfl:=osj h; exact ⟨he, fun i Y hY args σ K h => h hY⟩
    · cases h⟩
end
end Go.V
namespace Go.V
open Go
inductive EB where
 |cells (c:List Value) (esz:El) (wr tight:Bool)
 |map (es:List Jr) (clock:Nat) (wr:Bool)
 |iter (m since:Nat) (seen:List Nat) (last:Nat)
 |lp (st:LoopState) (pend:Option Code)
inductive GT (α:Type) where
 |nil
 |node (v:α) (l r:GT α)
def GT.get {α:Type}(d:α) (t:GT α):Nat→α :=
 GT.rec (motive:=fun _=>Nat→α) (fun _=>d)
  (fun v _ _ gl gr i=>Bool.rec (motive:=fun _=>α) (Bool.rec (motive:=fun _=>α) (gr (i / 2-1)) (gl (i / 2)) (Nat.beq (i % 2) 1)) v (Nat.beq i 0)) t
def GT.set {α:Type}(d:α) (f:Nat):GT α→Nat→α→GT α :=
 Nat.rec (motive:=fun _=>GT α→Nat→α→GT α) (fun t _ _=>t)
  (fun _ ih t i b=>GT.rec (motive:=fun _=>GT α)
   (Bool.rec (motive:=fun _=>GT α) (Bool.rec (motive:=fun _=>GT α) (.node d .nil (ih .nil (i / 2-1) b)) (.node d (ih .nil (i / 2) b) .nil) (Nat.beq (i % 2) 1)) (.node b .nil .nil) (Nat.beq i 0))
   (fun v l r _ _=>Bool.rec (motive:=fun _=>GT α) (Bool.rec (motive:=fun _=>GT α) (.node v l (ih r (i / 2-1) b)) (.node v (ih l (i / 2) b) r) (Nat.beq (i % 2) 1)) (.node b l r) (Nat.beq i 0)) t) f
theorem GT.get_node {α:Type}(d v:α) (l r:GT α) (k:Nat):(GT.node v l r).get d k=if k=0 then v else if k % 2=1 then l.get d (k / 2) else r.get d (k / 2-1):=by
 show (Bool.rec (motive:=fun _=>α) (Bool.rec (motive:=fun _=>α) (r.get d (k / 2-1)) (l.get d (k / 2)) (Nat.beq (k % 2) 1)) v (Nat.beq k 0))=_;by_cases h0:k=0
 ·subst h0;rfl
 ·have:Nat.beq k 0=false:=by
   cases h:Nat.beq k 0 with
   |false=>rfl
   |true=>exact absurd (Nat.eq_of_beq_eq_true h) h0
  rw[this,if_neg h0];by_cases h1:k % 2=1
  ·rw[if_pos h1,h1];rfl
  ·have:Nat.beq (k % 2) 1=false:=by
    cases h:Nat.beq (k % 2) 1 with
    |false=>rfl
    |true=>exact absurd (Nat.eq_of_beq_eq_true h) h1
   rw[this,if_neg h1]
theorem GT.set_node {α:Type}(d v:α) (f:Nat) (l r:GT α) (i:Nat) (b:α):(GT.node v l r).set d (f+1) i b=if i=0 then .node b l r else if i % 2=1 then .node v (l.set d f (i / 2) b) r else .node v l (r.set d f (i / 2-1) b):=by
 show (Bool.rec (motive:=fun _=>GT α) (Bool.rec (motive:=fun _=>GT α) (.node v l (r.set d f (i / 2-1) b)) (.node v (l.set d f (i / 2) b) r) (Nat.beq (i % 2) 1)) (.node b l r) (Nat.beq i 0))=_;by_cases h0:i=0
 ·subst h0;rfl
 ·have:Nat.beq i 0=false:=by
   cases h:Nat.beq i 0 with
   |false=>rfl
   |true=>exact absurd (Nat.eq_of_beq_eq_true h) h0
  rw[this,if_neg h0];by_cases h1:i % 2=1
  ·rw[if_pos h1,h1];rfl
  ·have:Nat.beq (i % 2) 1=false:=by
    cases h:Nat.beq (i % 2) 1 with
    |false=>rfl
    |true=>exact absurd (Nat.eq_of_beq_eq_true h) h1
   rw[this,if_neg h1]
theorem GT.set_nil {α:Type}(d:α) (f i:Nat) (b:α):(GT.nil:GT α).set d (f+1) i b=(GT.node d .nil .nil).set d (f+1) i b:=rfl
theorem GT.get_set {α:Type}(d:α):∀ (f:Nat) (t:GT α) (i:Nat) (b:α) (j:Nat),i+1<2 ^ f→(t.set d f i b).get d j=if j=i then b else t.get d j:=by
 intro f;induction f with
 |zero=>intro t i b j h;simp at h
 |succ f ih =>
  intro t i b j h;have hp:2 ^ (f+1)=2*2 ^ f:=by rw[Nat.pow_succ];omega
  have fZ:∀ v l r,((GT.node v l r).set d (f+1) i b).get d j=if j=i then b else (GT.node v l r).get d j:=by
   intro v l r;rw[GT.set_node];by_cases hi:i=0
   ·subst hi;rw[if_pos rfl,GT.get_node,GT.get_node];split<;>rfl
   ·rw[if_neg hi];by_cases ho:i % 2=1
    ·rw[if_pos ho,GT.get_node,GT.get_node,ih _ _ _ _ (by omega)];by_cases ia:j=0
     ·subst ia;rw[if_pos rfl,if_neg (Ne.symm hi),if_pos rfl]
     ·rw[if_neg ia,if_neg ia];by_cases gV:j % 2=1
      ·rw[if_pos gV,if_pos gV];by_cases aJ:j=i
       ·subst aJ;simp
       ·rw[if_neg aJ,if_neg (by omega)]
      ·rw[if_neg gV,if_neg gV,if_neg (by rintro rfl;exact gV ho)]
    ·rw[if_neg ho,GT.get_node,GT.get_node,ih _ _ _ _ (by omega)];by_cases ia:j=0
     ·subst ia;rw[if_pos rfl,if_neg (Ne.symm hi),if_pos rfl]
     ·rw[if_neg ia,if_neg ia];by_cases gV:j % 2=1
      ·rw[if_pos gV,if_pos gV,if_neg (by rintro rfl;exact ho gV)]
      ·rw[if_neg gV,if_neg gV];by_cases aJ:j=i
       ·subst aJ;simp
       ·rw[if_neg aJ,if_neg (by omega)]
  cases t with
  |node v l r=>exact fZ v l r
  |nil =>
   rw[GT.set_nil,fZ d .nil .nil,GT.get_node];split
   ·rfl
   ·split
    ·rfl
    ·split<;>rfl
structure CH where
 t:GT (Option EB)
 n:Nat
def CH.get (h:CH) (i:Nat):Option EB:=Bool.rec (motive:=fun _=>Option EB) none (h.t.get none i) (Nat.blt i h.n)
def CH.upd (h:CH) (i:Nat) (b:EB):CH:=⟨h.t.set none 32 i (some b),h.n⟩
def CH.kill (h:CH) (i:Nat):CH:=⟨h.t.set none 32 i none,h.n⟩
def CH.push (h:CH) (b:EB):CH:=⟨h.t.set none 32 h.n (some b),h.n+1⟩
def CH.room (h:CH):Bool:=Nat.ble h.n 1000000000
def CH.empty:CH:=⟨.nil,0⟩
theorem CH.get_lt {h:CH}{i:Nat}(hi:i<h.n):h.get i=h.t.get none i:=by unfold CH.get;rw[show Nat.blt i h.n=true from Nat.ble_eq_true_of_le hi]
theorem CH.get_ge {h:CH}{i:Nat}(hi:h.n≤i):h.get i=none:=by
 unfold CH.get;cases hb:Nat.blt i h.n with
 |false=>rfl
 |true=>have:=Nat.le_of_ble_eq_true hb;omega
theorem CH.get_upd {h:CH}{i:Nat}{b:EB}(hi:i<h.n) (hs:h.n≤1000000001) (j:Nat):(h.upd i b).get j=if j=i then some b else h.get j:=by
 rcases Nat.lt_or_ge j h.n with hj|hj
 ·rw[CH.get_lt (h:=h.upd i b) hj,CH.get_lt hj];exact GT.get_set none 32 _ _ _ _ (by omega)
 ·rw[CH.get_ge (h:=h.upd i b) hj,CH.get_ge hj,if_neg (by omega)]
theorem CH.get_kill {h:CH}{i:Nat}(hi:i<h.n) (hs:h.n≤1000000001) (j:Nat):(h.kill i).get j=if j=i then none else h.get j:=by
 rcases Nat.lt_or_ge j h.n with hj|hj
 ·rw[CH.get_lt (h:=h.kill i) hj,CH.get_lt hj];exact GT.get_set none 32 _ _ _ _ (by omega)
 ·rw[CH.get_ge (h:=h.kill i) hj,CH.get_ge hj];simp
theorem CH.get_push {h:CH}{b:EB}(hs:h.n≤1000000001) (j:Nat):(h.push b).get j=if j=h.n then some b else h.get j:=by
 rcases Nat.lt_or_ge j (h.n+1) with hj|hj
 ·rw[CH.get_lt (h:=h.push b) hj];show (h.t.set none 32 h.n (some b)).get none j=_;rw[GT.get_set none 32 _ _ _ _ (by omega)];split
  ·rfl
  ·rw[CH.get_lt (by omega)]
 ·rw[CH.get_ge (h:=h.push b) hj,CH.get_ge (by omega),if_neg (by omega)]
def EB.to (q:Env×Loop):EB→Blk
 |.cells c e w t=>.cells c e w t
 |.map es cl w=>.obj (.map es cl) w
 |.iter m s sn l=>.obj (.iter m s sn l) true
 |.lp st pend=>.obj (.lp q.1 q.2 st pend) true
structure CSim (rs:Nat→Env×Loop) (h:CH) (σ:Heap):Prop where
 n:h.n=σ.n
 sm:h.n≤1000000001
 get:∀ i,σ.get i=(h.get i).map (EB.to (rs i))
theorem CSim.cells {rs:Nat→Env×Loop}{h:CH}{σ:Heap}(hs:CSim rs h σ) {i:Nat}{c:List Value}{e:El}{w t:Bool}(hg:h.get i=some (.cells c e w t)):σ.get i=some (.cells c e w t):=by rw[hs.get,hg];rfl
theorem CSim.map {rs:Nat→Env×Loop}{h:CH}{σ:Heap}(hs:CSim rs h σ) {i:Nat}{es:List Jr}{cl:Nat}{w:Bool}(hg:h.get i=some (.map es cl w)):σ.get i=some (.obj (.map es cl) w):=by rw[hs.get,hg];rfl
theorem CSim.iter {rs:Nat→Env×Loop}{h:CH}{σ:Heap}(hs:CSim rs h σ) {i m s:Nat}{sn:List Nat}{l:Nat}(hg:h.get i=some (.iter m s sn l)):σ.get i=some (.obj (.iter m s sn l) true):=by rw[hs.get,hg];rfl
theorem CSim.lp {rs:Nat→Env×Loop}{h:CH}{σ:Heap}(hs:CSim rs h σ) {i:Nat}{st:LoopState}{pend:Option Code}(hg:h.get i=some (.lp st pend)):σ.get i=some (.obj (.lp (rs i).1 (rs i).2 st pend) true):=by rw[hs.get,hg];rfl
theorem CSim.lt {rs:Nat→Env×Loop}{h:CH}{σ:Heap}(hs:CSim rs h σ) {i:Nat}{b:EB}(hg:h.get i=some b):i<h.n:=by
 have:σ.get i=some (b.to (rs i)):=by rw[hs.get,hg];rfl
 rw[hs.n];exact σ.lt this
theorem CSim.upd {rs:Nat→Env×Loop}{h:CH}{σ:Heap}(hs:CSim rs h σ) {i:Nat}(hi:i<h.n) {b:EB}{b':Blk}(hb:b.to (rs i)=b'):CSim rs (h.upd i b) (σ.upd i b'):=by
 refine⟨hs.n,hs.sm,fun j=>?_⟩;rw[CH.get_upd hi hs.sm];show (if j=i∧i<σ.n then some b' else σ.get j)=_;by_cases hj:j=i
 ·subst hj;rw[if_pos ⟨rfl,by rw[←hs.n];exact hi⟩,if_pos rfl,←hb];rfl
 ·rw[if_neg (fun e=>hj e.1),if_neg hj];exact hs.get j
theorem CSim.kill {rs:Nat→Env×Loop}{h:CH}{σ:Heap}(hs:CSim rs h σ) {i:Nat}(hi:i<h.n):CSim rs (h.kill i) (σ.kill i):=by
 refine⟨hs.n,hs.sm,fun j=>?_⟩;rw[CH.get_kill hi hs.sm];show (if j=i then none else σ.get j)=_;by_cases hj:j=i
 ·rw[if_pos hj,if_pos hj];rfl
 ·rw[if_neg hj,if_neg hj];exact hs.get j
theorem CSim.push {rs:Nat→Env×Loop}{h:CH}{σ:Heap}(hs:CSim rs h σ) (hr:h.room=true) {b:EB}{b':Blk}(hb:b.to (rs h.n)=b'):CSim rs (h.push b) (σ.push b'):=by
 have hr:h.n≤1000000000:=Nat.le_of_ble_eq_true hr;refine⟨by show h.n+1=σ.n+1;rw[hs.n],by show h.n+1≤_;omega,fun j=>?_⟩;rw[CH.get_push hs.sm];show (if j=σ.n then some b' else σ.get j)=_;rw[←hs.n];by_cases hj:j=h.n
 ·subst hj;rw[if_pos rfl,if_pos rfl,←hb];rfl
 ·rw[if_neg hj,if_neg hj];exact hs.get j
theorem CSim.rs {rs bh:Nat→Env×Loop}{h:CH}{σ:Heap}(hs:CSim rs h σ) (hr:∀ i,i<h.n→bh i=rs i):CSim bh h σ :=
 ⟨hs.n,hs.sm,fun i=>by
  rw[hs.get];cases hg:h.get i with
  |none=>rfl
  |some b=>rw[hr i (hs.lt hg)]⟩
def CH.sl (σ:CH) (esz:Nat):Value→Option (List Value)
 |.slice none 0 0=>some []
 |.slice (some ⟨i,o,none⟩) n _ =>
  match σ.get i with
  |some (.cells c e _ _)=>if e.sz=esz∧o+n*esz≤c.length then some ((c.drop o).take (n*esz)) else none
  |_=>none
 |_=>none
def CH.mapAt (σ:CH) (m:Nat):Option (List Jr×Nat×Bool):=match σ.get m with
 |some (.map es clock wr)=>some (es,clock,wr)
 |_=>none
def UB (σ:CH) (b:EB) (v:Value):Option (Value×CH):=if σ.room=true then some (v,σ.push b) else none
def Rk (esz:El) (bytes:Nat) (σ:CH) (s:Value) (m:Nat) (xs:List Value):Option (Value×CH) :=
 match s with
 |.slice none 0 0 =>
  if m=0 then some (s,σ) else
  if m*bytes≤2 ^ 46 then UB σ (.cells xs esz true false) (.slice (some ⟨σ.n,0,none⟩) m m) else none
 |.slice (some ⟨i,o,none⟩) n cap =>
  match σ.get i with
  |some (.cells c e wr tight) =>
   if e=esz∧n≤cap∧o+n*esz.sz≤c.length then
    if m=0 then some (s,σ) else
    if n+m≤cap then
     (if wr=true∧o+(n+m)*esz.sz≤c.length then some (.slice (some ⟨i,o,none⟩) (n+m) cap,σ.upd i (.cells (Yp c (o+n*esz.sz) xs) e wr tight)) else none)
    else if (n+m)*bytes≤2 ^ 46 then
     (if tight then UB σ (.cells ((c.drop o).take (n*esz.sz)++xs) esz true false) (.slice (some ⟨σ.n,0,none⟩) (n+m) (n+m))
     else if wr then UB (σ.kill i) (.cells ((c.drop o).take (n*esz.sz)++xs) esz true false) (.slice (some ⟨σ.n,0,none⟩) (n+m) (n+m))
     else none)
    else none
   else none
  |_=>none
 |.slice (some ⟨i,o,some 0⟩) n cap =>
  match σ.get i with
  |some (.cells c e _ _) =>
   if e=esz∧n=cap∧o+n*esz.sz≤c.length∧m≠0∧(n+m)*bytes≤2 ^ 46 then
    UB σ (.cells ((c.drop o).take (n*esz.sz)++xs) esz true false) (.slice (some ⟨σ.n,0,none⟩) (n+m) (n+m))
   else none
  |_=>none
 |_=>none
def A7 (size:Nat) (σ:CH) (s:Value) (l h:Nat) (m:Option Nat):Option (Value×CH) :=
 match s with
 |.slice none 0 0=>if l=0∧h=0∧(m.getD 0)=0 then some (.slice none 0 0,σ) else none
 |.slice (some ⟨i,o,none⟩) _ cap =>
  match σ.get i with
  |some (.cells _ e _ t) =>
   match m with
   |none=>if e.sz=size∧l≤h∧h≤cap then some (.slice (some ⟨i,o+l*size,none⟩) (h-l) (cap-l),σ) else none
   |some m =>
    if e.sz=size∧l≤h∧h≤m∧m≤cap then
     if m=l then UB σ (.cells [] e false true) (.slice (some ⟨σ.n,0,none⟩) 0 0)
     else if t=false∧h=m then some (.slice (some ⟨i,o+l*size,some 0⟩) (h-l) (m-l),σ)
     else some (.slice (some ⟨i,o+l*size,none⟩) (h-l) (m-l),σ)
    else none
  |_=>none
 |_=>none
def Q4h:Nat→Value→Value→CH→Option Bool
 |0,.pointer none,.pointer none,_=>some true
 |0,.pointer none,.pointer (some _),_=>some false
 |0,.pointer (some _),.pointer none,_=>some false
 |0,.pointer (some ⟨i,o,none⟩),.pointer (some ⟨j,q,none⟩),σ=>if i=j∧o=q∧(σ.get i).isSome=true then some true else none
 |1,.slice none _ _,.slice none _ _,_=>some true
 |1,.slice none _ _,.slice (some _) _ _,_=>some false
 |1,.slice (some _) _ _,.slice none _ _,_=>some false
 |2,.map none,.map none,_=>some true
 |2,.map none,.map (some _),_=>some false
 |2,.map (some _),.map none,_=>some false
 |3,.nilFunc,.nilFunc,_=>some true
 |3,.nilFunc,.func _ _ _,_=>some false
 |3,.func _ _ _,.nilFunc,_=>some false
 |_,_,_,_=>none
def Xr (o:XOp) (ev:Operand→Value) (σ:CH):Option (Value×CH) :=
 match o with
 |.eqAgg neg s x y=>match ev x,ev y with
  |.agg a,.agg b=>if fits s a.toList=true∧fits s b.toList=true then some (.bool (if neg then !(Ql a.toList b.toList) else Ql a.toList b.toList),σ) else none
  |_,_=>none
 |.eqNil kd neg x y=>match Q4h kd (ev x) (ev y) σ with|some b=>some (.bool (if neg then !b else b),σ)|none=>none
 |.makeMap=>UB σ (.map [] 0 true) (.map (some σ.n))
 |.lookup mk z ok x i =>
  let k:=ev i
  if Zk mk k then
   match ev x with
   |.map none=>some (if ok then .tuple #[z,.bool false] else z,σ)
   |.map (some m)=>match σ.mapAt m with
    |some (es,_,_)=>if es.all (fun e=>Zk mk e.1) then
      (match Qg k es with
      |some e=>some (if ok then .tuple #[e.2.1,.bool true] else e.2.1,σ)
      |none=>some (if ok then .tuple #[z,.bool false] else z,σ)) else none
    |none=>none
   |_=>none
  else none
 |.mapUpdate mk m k v=>match ev m with
  |.map (some i)=>match σ.mapAt i with
   |some (es,clock,true)=>if Zk mk (ev k)&&es.all (fun e=>Zk mk e.1) then some (undef,σ.upd i (.map (Qq (ev k) (ev v) clock es).1 (Qq (ev k) (ev v) clock es).2 true)) else none
   |_=>none
  |_=>none
 |.delete mk m k=>match ev m with
  |.map (some i)=>match σ.mapAt i with
   |some (es,clock,true)=>if Zk mk (ev k)&&es.all (fun e=>Zk mk e.1) then some (.tuple #[],σ.upd i (.map (Bi (ev k) es) clock true)) else none
   |_=>none
  |_=>none
 |.lenMap x=>match ev x with
  |.map none=>some (.int .i64 0,σ)
  |.map (some m)=>match σ.mapAt m with
   |some (es,_,_)=>some (.int .i64 es.length,σ)
   |none=>none
  |_=>none
 |.rangeMap x=>match ev x with
  |.map (some m)=>match σ.mapAt m with
   |some (_,clock,_)=>UB σ (.iter m clock [] clock) (.pointer (some ⟨σ.n,0,none⟩))
   |none=>none
  |_=>none
 |.entry x=>match ev x with
  |.pointer (some ⟨i,0,none⟩)=>match σ.get i with
   |some (.iter m _ seen last)=>match σ.mapAt m,seen.getLast? with
    |some (es,clock,_),some b=>if clock=last then (match es.find? (fun e=>e.2.2==b) with|some e=>if KF e.1 then some (.tuple #[e.1,e.2.1],σ) else none|none=>none) else none
    |_,_=>none
   |_=>none
  |_=>none
 |.copy size d s=>match ev d,ev s with
  |.slice db dn _,.slice sb sn sc =>
   if min sn dn=0 then some (.int .i64 0,σ) else
   match db,σ.sl size (.slice sb (min sn dn) sc) with
   |some ⟨i,o,none⟩,some xs=>match σ.get i with
    |some (.cells c e wr tight)=>if wr=true∧e.sz=size∧o+xs.length≤c.length∧xs.all cellOk=true then some (.int .i64 (min sn dn:Nat),σ.upd i (.cells (Yp c o xs) e wr tight)) else none
    |_=>none
   |_,_=>none
  |_,_=>none
 |.clear z x=>match ev x with
  |.slice b n _ =>
   if n=0 then some (.tuple #[],σ) else
   match b with
   |some ⟨i,o,none⟩=>match σ.get i with
    |some (.cells c e wr tight)=>if wr=true∧o+n*z.length≤c.length∧z.all cellOk=true then some (.tuple #[],σ.upd i (.cells (Yp c o (BN n z)) e wr tight)) else none
    |_=>none
   |_=>none
  |_=>none
 |.toUnsafe x=>match ev x with
  |.pointer none=>some (.pointer none,σ)
  |.pointer (some ⟨i,o,none⟩)=>match σ.get i with
   |some (.cells c _ _ _)=>if o<c.length then some (.pointer (some ⟨i,o,none⟩),σ) else none
   |_=>none
  |_=>none
 |.fromUnsafe u size x=>match ev x with
  |.pointer none=>some (.pointer none,σ)
  |.pointer (some ⟨i,o,none⟩)=>match σ.get i with
   |some (.cells c e true true)=>if o=0∧e.ty=u∧size≤c.length then some (.pointer (some ⟨i,o,none⟩),σ) else none
   |_=>none
  |_=>none
 |.sliceData x=>match ev x with
  |.slice none _ _=>some (.pointer none,σ)
  |.slice (some ⟨i,o,none⟩) _ cap=>if cap≠0∧(σ.get i).isSome=true then some (.pointer (some ⟨i,o,none⟩),σ) else none
  |_=>none
 |.unsafeStr e x n=>match ev x,ev n with
  |.pointer p,.int .i64 k =>
   if k=0 then some (.string ⟨#[]⟩,σ) else
   match p with
   |some ⟨i,o,none⟩=>match σ.get i with
    |some (.cells c el true tight) =>
     if 0<k∧k≤2 ^ 62∧el.ty=e∧o+k.toNat≤c.length then
      (match Bb ((c.drop o).take k.toNat) with
      |some s=>some (.string s,σ.upd i (.cells c el false tight))
      |none=>none) else none
    |_=>none
   |_=>none
  |_,_=>none
 |.bytesStr x=>match ev x with
  |.slice a n c=>match σ.sl 1 (.slice a n c) with
   |some xs=>match Bb xs with|some s=>some (.string s,σ)|none=>none
   |none=>none
  |_=>none
 |.strBytes e x=>match ev x with
  |.string s=>if s.size≤2 ^ 62 then UB σ (.cells (s.data.toList.map fun b=>.int .u8 b.toNat) ⟨1,e⟩ true false) (.slice (some ⟨σ.n,0,none⟩) s.size s.size) else none
  |_=>none
 |_=>none
def Heap.empty:Heap:=⟨fun _=>none,0,fun _ _=>rfl⟩
def On (o:VOp) (ev:Operand→Value) (σ:CH):Option (Value×CH) :=
 match o with
 |.alloc t z=>UB σ (.cells z ⟨z.length,t⟩ true true) (.pointer (some ⟨σ.n,0,none⟩))
 |.box t x=>match K8 (ev x) with
  |some vs=>UB σ (.cells vs ⟨vs.length,t⟩ true true) (.pointer (some ⟨σ.n,0,none⟩))
  |none=>none
 |.buildSlice esz z len parts=>match Nm (BN len z) (parts.map fun p=>(p.1*esz.sz,esz.sz,ev p.2)) with
  |some cs=>UB σ (.cells cs esz true true) (.slice (some ⟨σ.n,0,none⟩) len len)
  |none=>none
 |.load agg size a=>match ev a with
  |.pointer (some ⟨g,o,some _⟩)=>(match OM g with
   |some c=>if c.all QQ then (match W5 agg size c o with|some v=>some (v,σ)|none=>none) else none
   |none=>none)
  |.pointer (some ⟨i,o,none⟩)=>match σ.get i with
   |some (.cells c _ _ _)=>match W5 agg size c o with|some v=>some (v,σ)|none=>none
   |_=>none
  |_=>none
 |.store size a v=>match ev a,K8 (ev v) with
  |.pointer (some ⟨i,o,none⟩),some vs=>match σ.get i with
   |some (.cells c e wr tight)=>if wr=true∧vs.length=size∧o+size≤c.length∧vs.all cellOk=true then some (undef,σ.upd i (.cells (Yp c o vs) e wr tight)) else none
   |_=>none
  |_,_=>none
 |.slice size x lo hi mx =>
  match ev x with
  |.slice a n cap =>
   match Jc ev lo 0,Jc ev hi n,mx with
   |some l,some h,none=>A7 size σ (.slice a n cap) l h none
   |some l,some h,some _=>match Jc ev mx 0,hi with
    |some m,some _=>A7 size σ (.slice a n cap) l h (some m)
    |_,_=>none
   |_,_,_=>none
  |_=>none
 |.makeSlice esz bytes z l c =>
  match ev l,ev c with
  |.int _ a,.int _ b=>if 0≤a∧a≤b∧b*bytes≤2 ^ 46∧b≤2 ^ 46 then UB σ (.cells (BN b.toNat z) esz true true) (.slice (some ⟨σ.n,0,none⟩) a.toNat b.toNat) else none
  |_,_=>none
 |.append esz bytes s x =>
  match σ.sl esz.sz (ev x),ev x with
  |some xs,.slice _ m _=>if xs.all cellOk then Rk esz bytes σ (ev s) m xs else none
  |_,_=>none
 |.ext o=>Xr o ev σ
 |o=>if o.kind=0 then (match Q6 o ev Heap.empty with|some p=>some (p.1,σ)|none=>none) else none
def ESnd (rs:Nat→Env×Loop) (h:CH) (_σ:Heap) (r:Option (Value×Heap)) (p:Value×CH):Prop:=h.n≤p.2.n∧∃ σ',r=some (p.1,σ')∧CSim rs p.2 σ'
theorem ESnd.same {rs:Nat→Env×Loop}{h:CH}{σ:Heap}(hs:CSim rs h σ) {r:Option (Value×Heap)}{v:Value}(hr:r=some (v,σ)):ESnd rs h σ r (v,h):=⟨Nat.le_refl _,σ,hr,hs⟩
theorem ESnd.upd {rs:Nat→Env×Loop}{h:CH}{σ:Heap}(hs:CSim rs h σ) {r:Option (Value×Heap)}{v:Value}{i:Nat}{b:EB}{b0:EB}(hg:h.get i=some b0) {b':Blk}(hb:b.to (rs i)=b') (hr:r=some (v,σ.upd i b')):ESnd rs h σ r (v,h.upd i b):=by have hi:=hs.lt hg;have lT:=hs.sm;exact⟨Nat.le_refl _,_,hr,hs.upd hi hb⟩
theorem ESnd.push {rs:Nat→Env×Loop}{h:CH}{σ:Heap}(hs:CSim rs h σ) {r:Option (Value×Heap)}{v:Value}{p:Value×CH}{b:EB}(hp:UB h b v=some p) {b':Blk}(hb:b.to (rs h.n)=b') (hr:r=some (v,σ.push b')):ESnd rs h σ r p:=by
 unfold UB at hp;split at hp
 ·rename_i aY;obtain rfl:=osj hp;have lT:=hs.sm;exact⟨Nat.le_succ _,_,hr,hs.push aY hb⟩
 ·cases hp
theorem CSim.sl {rs:Nat→Env×Loop}{h:CH}{σ:Heap}(hs:CSim rs h σ) {esz:Nat}{v:Value}{xs:List Value}(hx:h.sl esz v=some xs):σ.sl esz v=some xs:=by
 unfold CH.sl at hx;unfold Heap.sl;split at hx
 ·exact hx
 ·rename_i i o n c;split at hx
  ·rename_i cs e wr t hb;simp only[hs.cells hb];exact hx
  ·cases hx
 ·cases hx
theorem CSim.mapAt {rs:Nat→Env×Loop}{h:CH}{σ:Heap}(hs:CSim rs h σ) {m:Nat}{x:List Jr×Nat×Bool}(hx:h.mapAt m=some x):σ.mapAt m=some x∧h.get m=some (.map x.1 x.2.1 x.2.2):=by
 unfold CH.mapAt at hx;unfold Heap.mapAt;split at hx
 ·rename_i es clock wr hb;obtain rfl:=osj hx;exact⟨by simp only[hs.map hb],hb⟩
 ·cases hx
theorem Cd {rs:Nat→Env×Loop}{h:CH}{σ:Heap}(hs:CSim rs h σ) {kd:Nat}{a b:Value}{r:Bool}(hx:Q4h kd a b h=some r):J5 kd a b σ=some r:=by
 unfold Q4h at hx;unfold J5
 split at hx<;>first
  |exact hx
  |(cases hx;done)
  |skip
 rename_i i o j q;split at hx
 ·rename_i hc;obtain⟨h1,h2,h3⟩:=hc;have cK:i=j∧o=q∧(σ.get i).isSome=true:=⟨h1,h2,by rw[hs.get];simpa using h3⟩;simp only[if_pos cK];exact hx
 ·cases hx
theorem Sp {rs:Nat→Env×Loop}{h:CH}{σ:Heap}(hs:CSim rs h σ) {esz:El}{bytes:Nat}{s:Value}{m:Nat}{xs:List Value}{p:Value×CH}(hx:Rk esz bytes h s m xs=some p):ESnd rs h σ (Yb esz bytes σ s m xs) p:=by
 unfold Rk at hx;unfold Yb;split at hx
 ·split at hx
  ·rename_i hm;simp only[if_pos hm];obtain rfl:=osj hx;exact .same hs rfl
  ·rename_i hm;simp only[if_neg hm];split at hx
   ·rename_i hb;simp only[if_pos hb];rw[hs.n] at hx;exact .push hs hx rfl rfl
   ·cases hx
 ·rename_i i o n cap;split at hx
  ·rename_i c e wr tight hg;have lT:=hs.sm;have hi:=hs.lt hg;simp only[hs.cells hg];split at hx
   ·rename_i h1;simp only[if_pos h1];split at hx
    ·rename_i h2;simp only[if_pos h2];obtain rfl:=osj hx;exact .same hs rfl
    ·rename_i h2;simp only[if_neg h2];split at hx
     ·rename_i h3;simp only[if_pos h3];split at hx
      ·rename_i h4;simp only[if_pos h4];obtain rfl:=osj hx;exact .upd hs hg rfl rfl
      ·cases hx
     ·rename_i h3;simp only[if_neg h3];split at hx
      ·rename_i h4;simp only[if_pos h4];split at hx
       ·rename_i h5;simp only[if_pos h5];rw[hs.n] at hx;exact .push hs hx rfl rfl
       ·rename_i h5;simp only[if_neg h5];split at hx
        ·rename_i h6;simp only[if_pos h6];rw[hs.n] at hx;have hk:=hs.kill hi;obtain⟨k1,σ',k2,k3⟩:=ESnd.push (r:=some (.slice (some ⟨σ.n,0,none⟩) (n+m) (n+m),(σ.kill i).push (.cells ((c.drop o).take (n*esz.sz)++xs) esz true false))) hk hx rfl rfl;exact⟨k1,σ',k2,k3⟩
        ·cases hx
      ·cases hx
   ·cases hx
  ·cases hx
 ·rename_i i o n cap;split at hx
  ·rename_i c e wr tight hg;simp only[hs.cells hg];split at hx
   ·rename_i h1;simp only[if_pos h1];rw[hs.n] at hx;exact .push hs hx rfl rfl
   ·cases hx
  ·cases hx
 ·cases hx
theorem Bj {rs:Nat→Env×Loop}{h:CH}{σ:Heap}(hs:CSim rs h σ) {size:Nat}{s:Value}{l k:Nat}{m:Option Nat}{p:Value×CH}(hx:A7 size h s l k m=some p):ESnd rs h σ (Yh size σ s l k m) p:=by
 unfold A7 at hx;unfold Yh;split at hx
 ·split at hx
  ·rename_i hm;simp only[if_pos hm];obtain rfl:=osj hx;exact .same hs rfl
  ·cases hx
 ·rename_i i o n cap;split at hx
  ·rename_i c e wr tight hg;simp only[hs.cells hg];split at hx
   ·split at hx
    ·rename_i h1;simp only[if_pos h1];obtain rfl:=osj hx;exact .same hs rfl
    ·cases hx
   ·split at hx
    ·rename_i h1;simp only[if_pos h1];split at hx
     ·rename_i h2;simp only[if_pos h2];rw[hs.n] at hx;exact .push hs hx rfl rfl
     ·rename_i h2;simp only[if_neg h2];split at hx
      ·rename_i h3;simp only[if_pos h3];obtain rfl:=osj hx;exact .same hs rfl
      ·rename_i h3;simp only[if_neg h3];obtain rfl:=osj hx;exact .same hs rfl
    ·cases hx
  ·cases hx
 ·cases hx
theorem Pk {rs:Nat→Env×Loop}{h:CH}{σ:Heap}(hs:CSim rs h σ) {o:XOp}{ev:Operand→Value}{p:Value×CH}(hx:Xr o ev h=some p):ESnd rs h σ (Zj o ev σ) p:=by
 cases o
 case eqAgg neg s x y =>
  simp only[Xr] at hx;simp only[Zj];split at hx
  ·rename_i a b ha hb;split at hx
   ·rename_i hc;rw[ha,hb];simp only;rw[if_pos hc];obtain rfl:=osj hx;exact .same hs rfl
   ·cases hx
  ·cases hx
 case eqNil kd neg x y =>
  simp only[Xr] at hx;simp only[Zj];split at hx
  ·rename_i b hb;rw[Cd hs hb];obtain rfl:=osj hx;exact .same hs rfl
  ·cases hx
 case makeMap =>
  simp only[Xr] at hx;simp only[Zj];rw[hs.n] at hx;exact .push hs hx rfl rfl
 case lookup mk z ok x i =>
  simp only[Xr] at hx;simp only[Zj];generalize ev x=q0 at hx ⊢;generalize ev i=q1 at hx ⊢;split at hx
  ·rename_i hk;simp only[if_pos hk];split at hx
   ·obtain rfl:=osj hx;exact .same hs rfl
   ·rename_i m hm;split at hx
    ·rename_i es cl wr gj;obtain⟨k1,k2⟩:=hs.mapAt gj;simp only[k1];split at hx
     ·rename_i ae;simp only[if_pos ae];split at hx
      ·rename_i e hf;simp only[hf];obtain rfl:=osj hx;exact .same hs rfl
      ·rename_i hf;simp only[hf];obtain rfl:=osj hx;exact .same hs rfl
     ·cases hx
    ·cases hx
   ·cases hx
  ·cases hx
 case mapUpdate mk m k v =>
  simp only[Xr] at hx;simp only[Zj];generalize ev m=q0 at hx ⊢;split at hx
  ·rename_i i hi;split at hx
   ·rename_i es cl gj;obtain⟨k1,k2⟩:=hs.mapAt gj;simp only[k1];split at hx
    ·rename_i hc;simp only[if_pos hc];obtain rfl:=osj hx;exact .upd hs k2 rfl rfl
    ·cases hx
   ·cases hx
  ·cases hx
 case delete mk m k =>
  simp only[Xr] at hx;simp only[Zj];generalize ev m=q0 at hx ⊢;split at hx
  ·rename_i i hi;split at hx
   ·rename_i es cl gj;obtain⟨k1,k2⟩:=hs.mapAt gj;simp only[k1];split at hx
    ·rename_i hc;simp only[if_pos hc];obtain rfl:=osj hx;exact .upd hs k2 rfl rfl
    ·cases hx
   ·cases hx
  ·cases hx
 case mapEntry=>cases hx
 case entryStore=>cases hx
 case lenMap x =>
  simp only[Xr] at hx;simp only[Zj];generalize ev x=q0 at hx ⊢;split at hx
  ·obtain rfl:=osj hx;exact .same hs rfl
  ·split at hx
   ·rename_i es cl wr gj;obtain⟨k1,k2⟩:=hs.mapAt gj;simp only[k1];obtain rfl:=osj hx;exact .same hs rfl
   ·cases hx
  ·cases hx
 case rangeMap x =>
  simp only[Xr] at hx;simp only[Zj];generalize ev x=q0 at hx ⊢;split at hx
  ·split at hx
   ·rename_i es cl wr gj;obtain⟨k1,k2⟩:=hs.mapAt gj;simp only[k1];rw[hs.n] at hx;exact .push hs hx rfl rfl
   ·cases hx
  ·cases hx
 case nextMap=>cases hx
 case entry x =>
  simp only[Xr] at hx;simp only[Zj];generalize ev x=q0 at hx ⊢;split at hx
  ·split at hx
   ·rename_i m since seen last hg;simp only[hs.iter hg];split at hx
    ·rename_i es clock wr b gj dF;obtain⟨k1,_⟩:=hs.mapAt gj;simp only[k1,dF];split at hx
     ·rename_i hc;rw[if_pos hc];split at hx
      ·rename_i e hf;split at hx
       ·rename_i hp;rw[hf];simp only[hp,if_true];obtain rfl:=osj hx;exact .same hs rfl
       ·cases hx
      ·cases hx
     ·cases hx
    ·cases hx
   ·cases hx
  ·cases hx
 case copy size d s =>
  simp only[Xr] at hx;simp only[Zj];generalize ev d=q0 at hx ⊢;generalize ev s=q1 at hx ⊢;split at hx
  ·rename_i db dn dc sb sn sc h1 h2;split at hx
   ·rename_i hm;simp only[if_pos hm];obtain rfl:=osj hx;exact .same hs rfl
   ·rename_i hm;simp only[if_neg hm];split at hx
    ·rename_i i o xs bt;simp only[hs.sl bt];split at hx
     ·rename_i c e wr tight hg;simp only[hs.cells hg];split at hx
      ·rename_i hc;simp only[if_pos hc];obtain rfl:=osj hx;exact .upd hs hg rfl rfl
      ·cases hx
     ·cases hx
    ·cases hx
  ·cases hx
 case clear z x =>
  simp only[Xr] at hx;simp only[Zj];generalize ev x=q0 at hx ⊢;split at hx
  ·rename_i b n cap;split at hx
   ·rename_i hm;simp only[if_pos hm];obtain rfl:=osj hx;exact .same hs rfl
   ·rename_i hm;simp only[if_neg hm];split at hx
    ·rename_i i o;split at hx
     ·rename_i c e wr tight hg;simp only[hs.cells hg];split at hx
      ·rename_i hc;simp only[if_pos hc];obtain rfl:=osj hx;exact .upd hs hg rfl rfl
      ·cases hx
     ·cases hx
    ·cases hx
  ·cases hx
 case toUnsafe x =>
  simp only[Xr] at hx;simp only[Zj];generalize ev x=q0 at hx ⊢;split at hx
  ·obtain rfl:=osj hx;exact .same hs rfl
  ·split at hx
   ·rename_i c e wr tight hg;simp only[hs.cells hg];split at hx
    ·rename_i hc;simp only[if_pos hc];obtain rfl:=osj hx;exact .same hs rfl
    ·cases hx
   ·cases hx
  ·cases hx
 case fromUnsafe u size x =>
  simp only[Xr] at hx;simp only[Zj];generalize ev x=q0 at hx ⊢;split at hx
  ·obtain rfl:=osj hx;exact .same hs rfl
  ·split at hx
   ·rename_i c e hg;simp only[hs.cells hg];split at hx
    ·rename_i hc;simp only[if_pos hc];obtain rfl:=osj hx;exact .same hs rfl
    ·cases hx
   ·cases hx
  ·cases hx
 case sliceData x =>
  simp only[Xr] at hx;simp only[Zj];generalize ev x=q0 at hx ⊢;split at hx
  ·obtain rfl:=osj hx;exact .same hs rfl
  ·rename_i i o n cap;split at hx
   ·rename_i hc;simp only[if_pos (show cap≠0∧(σ.get i).isSome=true from ⟨hc.1,by rw[hs.get];simpa using hc.2⟩)];obtain rfl:=osj hx;exact .same hs rfl
   ·cases hx
  ·cases hx
 case unsafeStr e x n =>
  simp only[Xr] at hx;simp only[Zj];generalize ev x=q0 at hx ⊢;generalize ev n=q1 at hx ⊢;split at hx
  ·rename_i q k h1 h2;split at hx
   ·rename_i hk;simp only[if_pos hk];obtain rfl:=osj hx;exact .same hs rfl
   ·rename_i hk;simp only[if_neg hk];split at hx
    ·rename_i i o;split at hx
     ·rename_i c el tight hg;simp only[hs.cells hg];split at hx
      ·rename_i hc;simp only[if_pos hc];split at hx
       ·rename_i u hu;simp only[hu];obtain rfl:=osj hx;exact .upd hs hg rfl rfl
       ·cases hx
      ·cases hx
     ·cases hx
    ·cases hx
  ·cases hx
 case bytesStr x =>
  simp only[Xr] at hx;simp only[Zj];generalize ev x=q0 at hx ⊢;split at hx
  ·split at hx
   ·rename_i xs bt;simp only[hs.sl bt];split at hx
    ·rename_i u hu;simp only[hu];obtain rfl:=osj hx;exact .same hs rfl
    ·cases hx
   ·cases hx
  ·cases hx
 case strBytes e x =>
  simp only[Xr] at hx;simp only[Zj];generalize ev x=q0 at hx ⊢;split at hx
  ·split at hx
   ·rename_i h1;simp only[if_pos h1];rw[hs.n] at hx;exact .push hs hx rfl rfl
   ·cases hx
  ·cases hx
theorem IL {rs:Nat→Env×Loop}{h:CH}{σ:Heap}(hs:CSim rs h σ) {o:VOp}{ev:Operand→Value}{p:Value×CH}
  (hx:(if o.kind=0 then (match Q6 o ev Heap.empty with|some p=>some (p.1,h)|none=>none) else none)=some p):ESnd rs h σ (Q6 o ev σ) p:=by
 split at hx
 ·rename_i hk;split at hx
  ·rename_i q hq;obtain rfl:=osj hx;exact .same hs (Ha hk (v:=q.1) (σ1:=q.2) hq)
  ·cases hx
 ·cases hx
theorem Wx {rs:Nat→Env×Loop}{h:CH}{σ:Heap}(hs:CSim rs h σ) {o:VOp}{ev:Operand→Value}{p:Value×CH}(hx:On o ev h=some p):ESnd rs h σ (Q6 o ev σ) p:=by
 cases o
 case alloc t z =>
  simp only[On] at hx;simp only[Q6];rw[hs.n] at hx;exact .push hs hx rfl rfl
 case box t x =>
  simp only[On] at hx;simp only[Q6];generalize K8 (ev x)=q0 at hx ⊢;split at hx
  ·rw[hs.n] at hx;exact .push hs hx rfl rfl
  ·cases hx
 case buildSlice esz z len parts =>
  simp only[On] at hx;simp only[Q6];generalize Nm (BN len z) (parts.map fun p=>(p.1*esz.sz,esz.sz,ev p.2))=q0 at hx ⊢;split at hx
  ·rw[hs.n] at hx;exact .push hs hx rfl rfl
  ·cases hx
 case load agg size a =>
  simp only[On] at hx;simp only[Q6];generalize ev a=q0 at hx ⊢;split at hx
  ·split at hx
   ·rename_i c hg;split at hx
    ·rename_i ae;simp only[hg,if_pos ae];split at hx
     ·rename_i u hu;simp only[hu];obtain rfl:=osj hx;exact .same hs rfl
     ·cases hx
    ·cases hx
   ·cases hx
  ·split at hx
   ·rename_i c e wr tight hg;simp only[hs.cells hg];split at hx
    ·rename_i u hu;simp only[hu];obtain rfl:=osj hx;exact .same hs rfl
    ·cases hx
   ·cases hx
  ·cases hx
 case store size a v =>
  simp only[On] at hx;simp only[Q6];generalize K8 (ev v)=q0 at hx ⊢;generalize ev a=q1 at hx ⊢;split at hx
  ·rename_i i o vs h1 h2;split at hx
   ·rename_i c e wr tight hg;simp only[hs.cells hg];split at hx
    ·rename_i hc;simp only[if_pos hc];obtain rfl:=osj hx;exact .upd hs hg rfl rfl
    ·cases hx
   ·cases hx
  ·cases hx
 case slice size x lo hi mx =>
  simp only[On] at hx;simp only[Q6];generalize ev x=q0 at hx ⊢;split at hx
  ·rename_i a n cap;dsimp only;generalize Jc ev lo 0=q1 at hx ⊢;generalize Jc ev hi n=q2 at hx ⊢;split at hx
   ·exact Bj hs hx
   ·rename_i l k m;dsimp only;generalize Jc ev (some m) 0=q3 at hx ⊢;split at hx
    ·exact Bj hs hx
    ·cases hx
   ·cases hx
  ·cases hx
 case makeSlice esz bytes z l c =>
  simp only[On] at hx;simp only[Q6];generalize ev l=q0 at hx ⊢;generalize ev c=q1 at hx ⊢;split at hx
  ·split at hx
   ·rename_i hc;simp only[if_pos hc];rw[hs.n] at hx;exact .push hs hx rfl rfl
   ·cases hx
  ·cases hx
 case append esz bytes s x =>
  simp only[On] at hx;simp only[Q6];generalize ev x=q0 at hx ⊢;split at hx
  ·rename_i bt;simp only[hs.sl bt];split at hx
   ·rename_i hc;simp only[if_pos hc];exact Sp hs hx
   ·cases hx
  ·cases hx
 case ext o=>exact Pk hs hx
 all_goals exact IL hs hx
def EN (k:IntKind) (n:Int):Int:=match n with
 |.ofNat x=>match Nat.ble x 127 with
  |true=>.ofNat x
  |false=>k.wrap (.ofNat x)
 |.negSucc x=>k.wrap (.negSucc x)
theorem A0 (k:IntKind) (n:Int):EN k n=k.wrap n:=by
 cases n with
 |negSucc x=>rfl
 |ofNat x =>
  simp only[EN];split
  ·rename_i h;have hx:x≤127:=Nat.le_of_ble_eq_true h;show (x:Int)=k.wrap (x:Int);cases k<;>simp[IntKind.wrap,IntKind.bits,IntKind.signed]<;>omega
  ·rfl
def Q6o (c a b:Value):Option Value:=match c with|.bool t=>some (if t then a else b)|_=>none
def Q2r (op:BinOp) (x y:Value):Option Value:=match x,y with|.int k a,.int k' b=>if k=k' then some (.int k (match op with|.add=>EN k (a+b)|.sub=>EN k (a-b)|_=>EN k (a*b))) else none|_,_=>none
def Z4a (op:BinOp) (x y:Value):Option Value:=match x,y with|.int k a,.int k' b=>if k=k'∧b≠0 then some (.int k (Q67 op k a b)) else none|_,_=>none
def Q9b (op:BinOp) (x y:Value):Option Value:=match x,y with|.int k a,.int k' b=>if k=k' then some (.int k (Q8 op k a b)) else none|_,_=>none
def Q32 (op:BinOp) (x y:Value):Option Value:=match x,y with|.int k a,.int _ b=>if 0≤b then some (.int k (TC op k a b)) else none|_,_=>none
def Z3t (op:BinOp) (x y:Value):Option Value:=match x,y with|.int k a,.int k' b=>if k=k' then some (.bool (Z0n op a b)) else none|_,_=>none
def Z46 (op:BinOp) (x y:Value):Option Value:=match x,y with
  |.string a,.string b=>match op with
   |.add=>if a.size+b.size≤2 ^ 62 then some (.string (a++b)) else none
   |.eql=>some (.bool (a.data.toList==b.data.toList))
   |.neq=>some (.bool (!(a.data.toList==b.data.toList)))
   |.lss=>some (.bool (Op.bytesLess a.data.toList b.data.toList))
   |_=>none
  |_,_=>none
def Z40 (neg:Bool) (x y:Value):Option Value:=match x,y with|.bool a,.bool b=>some (.bool (if neg then !(a==b) else (a==b)))|_,_=>none
def pUn (op:UnOp) (x:Value):Option Value:=match op,x with
  |.not,.bool b=>some (.bool (!b))
  |.neg,.int k n=>some (.int k (k.wrap (0-n)))
  |.xor,.int k n=>some (.int k (Q8 .xor k (if k.signed then -1 else k.max) n))
  |_,_=>none
def Q19 (k:IntKind) (x:Value):Option Value:=match x with|.int _ n=>some (.int k (EN k n))|_=>none
def Q2l (x:Value):Option Value:=match x with|.string s=>some (.string s)|_=>none
def Q3w (z:List Value) (l:List (Nat×Nat×Value)):Option Value:=match Nm z l with|some cs=>some (.agg cs.toArray)|none=>none
def R6 (off:Nat) (a:Value):Option Value:=match a with
  |.pointer (some ⟨i,o,none⟩)=>some (.pointer (some ⟨i,o+off,none⟩))
  |_=>none
def Q1h (agg:Bool) (off size:Nat) (x:Value):Option Value:=match x with
  |.agg cs=>W5 agg size cs.toList off
  |_=>none
def TE (size:Nat) (x i:Value):Option Value:=match x,i with
  |.slice (some ⟨b,o,none⟩) n _,.int _ k=>if 0≤k∧k<n then some (.pointer (some ⟨b,o+k.toNat*size,none⟩)) else none
  |_,_=>none
def Gi (len size:Nat) (x i:Value):Option Value:=match x,i with
  |.pointer (some ⟨g,o,some s⟩),.int _ k=>if 0≤k∧k<len then some (.pointer (some ⟨g,o+k.toNat*size,some s⟩)) else none
  |.pointer (some ⟨b,o,none⟩),.int _ k=>if 0≤k∧k<len then some (.pointer (some ⟨b,o+k.toNat*size,none⟩)) else none
  |_,_=>none
def Ly (x i:Value):Option Value:=match x,i with
  |.string s,.int _ k=>if 0≤k then (match s.data.toList[k.toNat]? with|some b=>some (.int .u8 b.toNat)|none=>none) else none
  |_,_=>none
def Lx (len:Nat) (agg:Bool) (size:Nat) (x i:Value):Option Value:=match x,i with
  |.agg cs,.int _ k=>if 0≤k∧k<len then W5 agg size cs.toList (k.toNat*size) else none
  |_,_=>none
def Lg (ev:Operand→Value) (x:Value) (lo hi:Option Operand):Option Value:=match x with
  |.string s =>
   match Jc ev lo 0,Jc ev hi s.size with
   |some l,some h=>if l≤h∧h≤s.size then some (.string (s.extract l h)) else none
   |_,_=>none
  |_=>none
def Z4i (x:Value):Option Value:=match x with|.slice _ n _=>some (.int .i64 n)|_=>none
def FH (x:Value):Option Value:=match x with|.string s=>some (.int .i64 s.size)|_=>none
def Q7y (x y z w:Value):Option Value:=match x,y,z,w with|.int k a,.int k2 b,.int k3 c,.int k4 d=>if k=k2∧k=k3∧k=k4 then some (.int k (F5 (F5 (F5 a b) c) d)) else none|_,_,_,_=>none
def Z4l (x y:Value):Option Value:=match x,y with|.int k a,.int k' b=>if k=k' then some (.int k (if b > a then b else a)) else none|_,_=>none
def Z3u (x y:Value):Option Value:=match x,y with|.int k a,.int k' b=>if k=k' then some (.int k (if b<a then b else a)) else none|_,_=>none
def Q17 (t:TypeId) (x:Value):Option Value:=match x with|.chan _=>none|v=>some (.iface t v)
def A3 (i:Nat) (x:Value):Option Value:=match x with
  |.tuple vs=>vs.toList[i]?
  |_=>none
def Lj (x:Value):Option Value:=match x with
  |.pointer (some a)=>some (.pointer (some a))
  |.func (.func f) first cap=>some (.func (.func f) first cap)
  |_=>none
def ppp (r:Option Value) (σ:CH):Option (Value×CH):=match r with|some v=>some (v,σ)|none=>none
def Z4u (t:Nat) (x:Value) (σ:CH):Option (Value×CH):=match K8 x with
  |some vs=>UB σ (.cells vs ⟨vs.length,t⟩ true true) (.pointer (some ⟨σ.n,0,none⟩))
  |none=>none
def Ci (esz:El) (z:List Value) (len:Nat) (l:List (Nat×Nat×Value)) (σ:CH):Option (Value×CH):=match Nm (BN len z) l with
  |some cs=>UB σ (.cells cs esz true true) (.slice (some ⟨σ.n,0,none⟩) len len)
  |none=>none
def Q6r (agg:Bool) (size:Nat) (a:Value) (σ:CH):Option (Value×CH):=match a with
  |.pointer (some ⟨g,o,some _⟩)=>(match OM g with
   |some c=>if c.all QQ then (match W5 agg size c o with|some v=>some (v,σ)|none=>none) else none
   |none=>none)
  |.pointer (some ⟨i,o,none⟩)=>match σ.get i with
   |some (.cells c _ _ _)=>match W5 agg size c o with|some v=>some (v,σ)|none=>none
   |_=>none
  |_=>none
def stL (c:List Value) (o:Nat) (vs:List Value):List Value:=match vs with
 |[v]=>c.set o v
 |vs=>c.take o++(vs++c.drop (o+vs.length))
theorem Aj:∀ (vs a b c:List Value),vs.length=b.length→Yp (a++(b++c)) a.length vs=a++(vs++c)
 |[],a,b,c,h=>by have:b=[]:=List.eq_nil_of_length_eq_zero (by simpa using h.symm);subst this;rfl
 |v::vs,a,[],c,h=>by simp at h
 |v::vs,a,x::b,c,h=>by
  simp only[Yp];have e:(a++(x::b++c)).set a.length v=(a++[v])++(b++c):=by simp
  rw[e];have:=Aj vs (a++[v]) b c (by simpa using h);rw[List.length_append,List.length_singleton] at this;rw[this];simp
theorem Q8z {c:List Value}{o:Nat}{vs:List Value}(h:o+vs.length≤c.length):stL c o vs=Yp c o vs:=by
 unfold stL;split
 ·rfl
 ·have h1:c=c.take o++((c.drop o).take vs.length++c.drop (o+vs.length)):=by
   rw[←List.drop_drop,List.take_append_drop,List.take_append_drop]
  have h2:(c.take o).length=o:=by simp;omega
  have:=Aj vs (c.take o) ((c.drop o).take vs.length) (c.drop (o+vs.length)) (by simp;omega);rw[h2,←h1] at this;exact this.symm
def Q34 (size:Nat) (a v:Value) (σ:CH):Option (Value×CH):=match a,K8 v with
  |.pointer (some ⟨i,o,none⟩),some vs=>match σ.get i with
   |some (.cells c e wr tight)=>if wr=true∧vs.length=size∧o+size≤c.length∧vs.all cellOk=true then some (undef,σ.upd i (.cells (stL c o vs) e wr tight)) else none
   |_=>none
  |_,_=>none
def E3 (esz:El) (bytes:Nat) (z:List Value) (l c:Value) (σ:CH):Option (Value×CH) :=
  match l,c with
  |.int _ a,.int _ b=>if 0≤a∧a≤b∧b*bytes≤2 ^ 46∧b≤2 ^ 46 then UB σ (.cells (BN b.toNat z) esz true true) (.slice (some ⟨σ.n,0,none⟩) a.toNat b.toNat) else none
  |_,_=>none
def Z4r (esz:El) (bytes:Nat) (s x:Value) (σ:CH):Option (Value×CH) :=
  match σ.sl esz.sz x,x with
  |some xs,.slice _ m _=>if xs.all cellOk then Rk esz bytes σ s m xs else none
  |_,_=>none
def Cm (o:VOp) (ev:Operand→Value) (σ:CH):Option (Value×CH) :=
 match o with
 |.move x=>some (ev x,σ)
 |.pick c a b=>ppp (Q6o (ev c) (ev a) (ev b)) σ
 |.arith op x y=>ppp (Q2r op (ev x) (ev y)) σ
 |.div op x y=>ppp (Z4a op (ev x) (ev y)) σ
 |.bits op x y=>ppp (Q9b op (ev x) (ev y)) σ
 |.shift op x y=>ppp (Q32 op (ev x) (ev y)) σ
 |.cmp op x y=>ppp (Z3t op (ev x) (ev y)) σ
 |.str op x y=>ppp (Z46 op (ev x) (ev y)) σ
 |.eqB n x y=>ppp (Z40 n (ev x) (ev y)) σ
 |.un op x=>ppp (pUn op (ev x)) σ
 |.convI k x=>ppp (Q19 k (ev x)) σ
 |.convS x=>ppp (Q2l (ev x)) σ
 |.build z parts=>ppp (Q3w z (parts.map fun p=>(p.1,p.2.1,ev p.2.2))) σ
 |.fieldAddr off a=>ppp (R6 off (ev a)) σ
 |.field agg off size x=>ppp (Q1h agg off size (ev x)) σ
 |.indexAddr size x i=>ppp (TE size (ev x) (ev i)) σ
 |.indexAddrArr len size x i=>ppp (Gi len size (ev x) (ev i)) σ
 |.indexStr x i=>ppp (Ly (ev x) (ev i)) σ
 |.indexArr len agg size x i=>ppp (Lx len agg size (ev x) (ev i)) σ
 |.sliceStr x lo hi=>ppp (Lg ev (ev x) lo hi) σ
 |.len x=>ppp (Z4i (ev x)) σ
 |.lenStr x=>ppp (FH (ev x)) σ
 |.max x y=>ppp (Z4l (ev x) (ev y)) σ
 |.max4 x y z w=>ppp (Q7y (ev x) (ev y) (ev z) (ev w)) σ
 |.min x y=>ppp (Z3u (ev x) (ev y)) σ
 |.makeFunc fn first cap=>some (.func fn (first.map ev).toArray (cap.map ev).toArray,σ)
 |.iface t x=>ppp (Q17 t (ev x)) σ
 |.extract x i=>ppp (A3 i (ev x)) σ
 |.nilCheck x=>ppp (Lj (ev x)) σ
 |.alloc t z=>UB σ (.cells z ⟨z.length,t⟩ true true) (.pointer (some ⟨σ.n,0,none⟩))
 |.box t x=>Z4u t (ev x) σ
 |.buildSlice esz z len parts=>Ci esz z len (parts.map fun p=>(p.1*esz.sz,esz.sz,ev p.2)) σ
 |.load agg size a=>Q6r agg size (ev a) σ
 |.store size a v=>Q34 size (ev a) (ev v) σ
 |.slice size x lo hi mx=>On (.slice size x lo hi mx) ev σ
 |.makeSlice esz bytes z l c=>E3 esz bytes z (ev l) (ev c) σ
 |.append esz bytes s x=>Z4r esz bytes (ev s) (ev x) σ
 |.ext o=>Xr o ev σ
 |_=>none
theorem I8 {rs:Nat→Env×Loop}{h:CH}{σ:Heap}(hs:CSim rs h σ) {r:Option Value}{r':Option (Value×Heap)}{p:Value×CH}(hr:∀ v,r=some v→r'=some (v,σ)) (hx:ppp r h=some p):ESnd rs h σ r' p:=by
 unfold ppp at hx;split at hx
 ·rename_i v;obtain rfl:=osj hx;exact .same hs (hr v rfl)
 ·cases hx
theorem YQ {rs:Nat→Env×Loop}{h:CH}{σ:Heap}(hs:CSim rs h σ) {o:VOp}{ev:Operand→Value}{p:Value×CH}(hx:Cm o ev h=some p):ESnd rs h σ (Q6 o ev σ) p:=by
 cases o
 case move x=>exact .same hs (by obtain rfl:=osj hx;rfl) |> fun (h:ESnd rs _ σ (Q6 (.move x) ev σ) (ev x,_))=>by obtain rfl:=osj hx;exact h
 case makeFunc fn a b=>obtain rfl:=osj hx;exact .same hs rfl
 case alloc t z=>exact Wx (o:=.alloc t z) hs hx
 case box t x=>exact Wx (o:=.box t x) hs hx
 case buildSlice a b c d=>exact Wx (o:=.buildSlice a b c d) hs hx
 case load a b c=>exact Wx (o:=.load a b c) hs hx
 case store size a v =>
  simp only[Cm] at hx;simp only[Q6];unfold Q34 at hx;generalize K8 (ev v)=q0 at hx ⊢;generalize ev a=q1 at hx ⊢;split at hx
  ·rename_i i o vs;split at hx
   ·rename_i c e wr tight hg;simp only[hs.cells hg];split at hx
    ·rename_i hc;simp only[if_pos hc];rw[Q8z (by omega)] at hx;obtain rfl:=osj hx;exact .upd hs hg rfl rfl
    ·cases hx
   ·cases hx
  ·cases hx
 case slice a b c d e=>exact Wx (o:=.slice a b c d e) hs hx
 case makeSlice a b c d e=>exact Wx (o:=.makeSlice a b c d e) hs hx
 case append a b c d=>exact Wx (o:=.append a b c d) hs hx
 case ext o=>exact Pk hs hx
 case callF=>cases hx
 case callV=>cases hx
 case bad=>cases hx
 all_goals refine I8 hs (fun v hv=>?_) hx
 case arith op x y =>
  simp only[Q6];generalize ev x=a at hv ⊢;generalize ev y=b at hv ⊢;unfold Q2r at hv;split at hv
  ·split at hv
   ·rename_i hk;simp only[if_pos hk];obtain rfl:=osj hv;cases op<;>simp only[R5,A0]
   ·cases hv
  ·cases hv
 case convI k x =>
  simp only[Q6];generalize ev x=a at hv ⊢;unfold Q19 at hv;split at hv
  ·obtain rfl:=osj hv;simp only[A0]
  ·cases hv
 case pick c a b =>
  simp only[Q6];generalize ev c=q0 at hv ⊢;generalize ev a=q1 at hv ⊢;generalize ev b=q2 at hv ⊢;unfold Q6o at hv
  (repeat' split at hv)<;>first|(cases hv;done)|(obtain rfl:=osj hv;first|rfl|(simp_all;done)|(simp_all;intros;omega))
 case div op x y =>
  simp only[Q6];generalize ev x=q0 at hv ⊢;generalize ev y=q1 at hv ⊢;unfold Z4a at hv
  (repeat' split at hv)<;>first|(cases hv;done)|(obtain rfl:=osj hv;first|rfl|(simp_all;done)|(simp_all;intros;omega))
 case bits op x y =>
  simp only[Q6];generalize ev x=q0 at hv ⊢;generalize ev y=q1 at hv ⊢;unfold Q9b at hv
  (repeat' split at hv)<;>first|(cases hv;done)|(obtain rfl:=osj hv;first|rfl|(simp_all;done)|(simp_all;intros;omega))
 case shift op x y =>
  simp only[Q6];generalize ev x=q0 at hv ⊢;generalize ev y=q1 at hv ⊢;unfold Q32 at hv
  (repeat' split at hv)<;>first|(cases hv;done)|(obtain rfl:=osj hv;first|rfl|(simp_all;done)|(simp_all;intros;omega))
 case cmp op x y =>
  simp only[Q6];generalize ev x=q0 at hv ⊢;generalize ev y=q1 at hv ⊢;unfold Z3t at hv
  (repeat' split at hv)<;>first|(cases hv;done)|(obtain rfl:=osj hv;first|rfl|(simp_all;done)|(simp_all;intros;omega))
 case eqB n x y =>
  simp only[Q6];generalize ev x=q0 at hv ⊢;generalize ev y=q1 at hv ⊢;unfold Z40 at hv
  (repeat' split at hv)<;>first|(cases hv;done)|(obtain rfl:=osj hv;first|rfl|(simp_all;done)|(simp_all;intros;omega))
 case un op x =>
  simp only[Q6];generalize ev x=q0 at hv ⊢;unfold pUn at hv
  (repeat' split at hv)<;>first|(cases hv;done)|(obtain rfl:=osj hv;first|rfl|(simp_all;done)|(simp_all;intros;omega))
 case convS x =>
  simp only[Q6];generalize ev x=q0 at hv ⊢;unfold Q2l at hv
  (repeat' split at hv)<;>first|(cases hv;done)|(obtain rfl:=osj hv;first|rfl|(simp_all;done)|(simp_all;intros;omega))
 case fieldAddr off a =>
  simp only[Q6];generalize ev a=q0 at hv ⊢;unfold R6 at hv
  (repeat' split at hv)<;>first|(cases hv;done)|(obtain rfl:=osj hv;first|rfl|(simp_all;done)|(simp_all;intros;omega))
 case indexAddr size x i =>
  simp only[Q6];generalize ev x=q0 at hv ⊢;generalize ev i=q1 at hv ⊢;unfold TE at hv
  (repeat' split at hv)<;>first|(cases hv;done)|(obtain rfl:=osj hv;first|rfl|(simp_all;done)|(simp_all;intros;omega))
 case indexAddrArr len size x i =>
  simp only[Q6];generalize ev x=q0 at hv ⊢;generalize ev i=q1 at hv ⊢;unfold Gi at hv
  (repeat' split at hv)<;>first|(cases hv;done)|(obtain rfl:=osj hv;first|rfl|(simp_all;done)|(simp_all;intros;omega))
 case len x =>
  simp only[Q6];generalize ev x=q0 at hv ⊢;unfold Z4i at hv
  (repeat' split at hv)<;>first|(cases hv;done)|(obtain rfl:=osj hv;first|rfl|(simp_all;done)|(simp_all;intros;omega))
 case lenStr x =>
  simp only[Q6];generalize ev x=q0 at hv ⊢;unfold FH at hv
  (repeat' split at hv)<;>first|(cases hv;done)|(obtain rfl:=osj hv;first|rfl|(simp_all;done)|(simp_all;intros;omega))
 case max4 x y z w =>
  simp only[Q6];generalize ev x=q0 at hv ⊢;generalize ev y=q1 at hv ⊢;generalize ev z=q2 at hv ⊢;generalize ev w=q3 at hv ⊢;unfold Q7y at hv
  (repeat' split at hv)<;>first|(cases hv;done)|(rename_i pc;obtain⟨rfl,rfl,rfl⟩:=pc;obtain rfl:=osj hv;simp_all;done)
 case max x y =>
  simp only[Q6];generalize ev x=q0 at hv ⊢;generalize ev y=q1 at hv ⊢;unfold Z4l at hv
  (repeat' split at hv)<;>first|(cases hv;done)|(obtain rfl:=osj hv;first|rfl|(simp_all;done)|(simp_all;intros;omega))
 case min x y =>
  simp only[Q6];generalize ev x=q0 at hv ⊢;generalize ev y=q1 at hv ⊢;unfold Z3u at hv
  (repeat' split at hv)<;>first|(cases hv;done)|(obtain rfl:=osj hv;first|rfl|(simp_all;done)|(simp_all;intros;omega))
 case nilCheck x =>
  simp only[Q6];generalize ev x=q0 at hv ⊢;unfold Lj at hv
  (repeat' split at hv)<;>first|(cases hv;done)|(obtain rfl:=osj hv;first|rfl|(simp_all;done)|(simp_all;intros;omega))
 case str op x y =>
  simp only[Q6];generalize ev x=q0 at hv ⊢;generalize ev y=q1 at hv ⊢;unfold Z46 at hv
  (repeat' split at hv)<;>first|(cases hv;done)|(obtain rfl:=osj hv;first|rfl|(simp_all;done)|(simp_all;intros;omega))
 case build z parts =>
  simp only[Q6];unfold Q3w at hv;split at hv
  ·rename_i cs hc;rw[hc];obtain rfl:=osj hv;rfl
  ·cases hv
 case field agg off size x =>
  simp only[Q6];generalize ev x=q0 at hv ⊢;unfold Q1h at hv;split at hv
  ·dsimp only;rw[hv]
  ·cases hv
 case indexStr x i =>
  simp only[Q6];generalize ev x=q0 at hv ⊢;generalize ev i=q1 at hv ⊢;unfold Ly at hv;split at hv
  ·split at hv
   ·rename_i hc;simp only[if_pos hc];split at hv
    ·rename_i b hb;simp only[hb];obtain rfl:=osj hv;rfl
    ·cases hv
   ·cases hv
  ·cases hv
 case indexArr len agg size x i =>
  simp only[Q6];generalize ev x=q0 at hv ⊢;generalize ev i=q1 at hv ⊢;unfold Lx at hv;split at hv
  ·split at hv
   ·rename_i hc;simp only[if_pos hc,hv]
   ·cases hv
  ·cases hv
 case sliceStr x lo hi =>
  simp only[Q6];generalize ev x=q0 at hv ⊢;unfold Lg at hv;split at hv
  ·rename_i s;split at hv
   ·rename_i l h h1 h2;split at hv
    ·rename_i hc;simp only[h1,h2,if_pos hc];obtain rfl:=osj hv;rfl
    ·cases hv
   ·cases hv
  ·cases hv
 case iface t x =>
  simp only[Q6];generalize ev x=q0 at hv ⊢;unfold Q17 at hv;split at hv
  ·cases hv
  ·rename_i aA;obtain rfl:=osj hv;split
   ·exact absurd rfl (aA _)
   ·rfl
 case extract x i =>
  simp only[Q6];generalize ev x=q0 at hv ⊢;unfold A3 at hv;split at hv
  ·dsimp only;rw[hv]
  ·cases hv
inductive Sh (a m d:Nat):Value→Value→Prop
 |plain (v:Value) (h:QQ v=true):Sh a m d v v
 |ptr (i o:Nat) (h:a≤i) (hi:i<m):Sh a m d (.pointer (some ⟨i,o,none⟩)) (.pointer (some ⟨d+(i-a),o,none⟩))
 |sl (i o len cap:Nat) (h:a≤i) (hi:i<m):Sh a m d (.slice (some ⟨i,o,none⟩) len cap) (.slice (some ⟨d+(i-a),o,none⟩) len cap)
 |agg (cs ds:Array Value) (hc:cs.size=ds.size) (h:∀ i (h1:i<cs.size) (h2:i<ds.size),Sh a m d cs[i] ds[i]):Sh a m d (.agg cs) (.agg ds)
 |tuple (cs ds:Array Value) (hc:cs.size=ds.size) (h:∀ i (h1:i<cs.size) (h2:i<ds.size),Sh a m d cs[i] ds[i]):Sh a m d (.tuple cs) (.tuple ds)
theorem Sh.rel {ρ ρ':Plc}{a m d n':Nat}(hn:d+(m-a)≤n') (hρ:∀ i,a≤i→i<m→ρ' (d+(i-a))=ρ i) {v v':Value}(h:Sh a m d v v') :
  ∀ {c:Value},VRel ρ m v c→VRel ρ' n' v' c:=by
 induction h with
 |plain v h =>intro c hv;have:c=v:=Kr h hv;subst this;exact XM h
 |ptr i o h hi =>intro c hv;obtain⟨a',rfl,_,bg⟩:=hv.ptr_inv';exact .ptr _ _ _ (by omega) fun p hp=>bg p (by rw[←hρ i h hi];exact hp)
 |sl i o len cap h hi =>intro c hv;obtain⟨a',au,rfl,_,bg⟩:=hv.sl_inv;exact .sl _ _ _ _ _ _ (by omega) fun p hp=>bg p (by rw[←hρ i h hi];exact hp)
 |agg cs ds hc h ih =>
  intro c hv;cases hv with
  |agg _ ds' cK h'=>exact .agg _ _ (hc.symm.trans cK) fun i k1 k2=>ih i (by omega) k1 (h' i (by omega) k2)
 |tuple cs ds hc h ih =>
  intro c hv;cases hv with
  |tuple _ ds' cK h'=>exact .tuple _ _ (hc.symm.trans cK) fun i k1 k2=>ih i (by omega) k1 (h' i (by omega) k2)
theorem BRel.any {ρ ρ':Plc}{n n':Nat}{p:Pl}{w:World}{c:List Value}{esz:El}{wr tight:Bool}(hp:c.all QQ=true) (h:BRel ρ n p w (.cells c esz wr tight)) :
  BRel ρ' n' p w (.cells c esz wr tight):=by
 obtain⟨h1,h2,h3,h4,h5,h6⟩:=h;refine⟨h1,h2,h3,h4,fun k v hk=>?_,h6⟩;obtain⟨u,hu,hv⟩:=h5 k v hk;have aT:QQ v=true:=List.all_eq_true.1 hp v (List.mem_of_getElem? hk);obtain rfl:u=v:=Kr aT hv;exact⟨u,hu,XM aT⟩
theorem BRel.renRo {ρ:Plc}{nf n':Nat}{π:Nat→Nat}{p:Pl}{w:World}{c c':List Value}{esz:El}{wr tight:Bool}(hr:LRen n' π c c') (h:BRel ρ nf p w (.cells c' esz wr tight)) :
  BRel (fun i=>if i<n' then ρ (π i) else none) n' p w (.cells c esz false tight):=by
 obtain⟨h1,h2,h3,h4,h5,h6⟩:=h;refine⟨h1,h2,by rw[hr.1];exact h3,h4,fun k v hk=>?_,fun h=>by cases h⟩;have ai:k<c'.length:=by rw[←hr.1];exact(List.getElem?_eq_some_iff.1 hk).1
 obtain⟨u,hu,hv⟩:=h5 k _ (List.getElem?_eq_getElem ai);exact⟨u,hu,(hr.2 k v _ hk (List.getElem?_eq_getElem ai)).rel hv⟩
structure PB where
 c:List Value
 esz:El
 tight:Bool
def PB.blk (wr:Bool) (b:PB):Blk:=.cells b.c b.esz wr b.tight
def Qt (bl fr:List PB):Heap where
 get i:=if i<bl.length then (bl[i]?).map (PB.blk false) else (fr[i-bl.length]?).map (PB.blk true)
 n:=bl.length+fr.length
 wf i h:=by rw[if_neg (by omega),List.getElem?_eq_none (by omega)];rfl
def XA (σ:Heap) (fr:List PB):Heap where
 get i:=if i<σ.n then σ.get i else (fr[i-σ.n]?).map (PB.blk true)
 n:=σ.n+fr.length
 wf i h:=by rw[if_neg (by omega),List.getElem?_eq_none (by omega)];rfl
theorem VCalled.localize {P:Program}{f:FuncId}{gW args:List Value}{bl fr:List PB}{vm v:Value}{σ:Heap}{π:Nat→Nat}{K:Value→Heap→Prop}
  (hm:VCalled P f gW (Qt bl []) fun u τ=>u=vm∧τ=Qt bl fr)
  (cM:∀ b∈fr,b.c.all QQ=true)
  (hπ:∀ i b,bl[i]?=some b→∃ wr c',σ.get (π i)=some (.cells c' b.esz wr b.tight)∧LRen bl.length π b.c c')
  (aw:LRen bl.length π gW args) (hv:Sh bl.length (bl.length+fr.length) σ.n vm v) (hK:K v (XA σ fr)):VCalled P f args σ K:=by
 intro ρ w ax hH hL;have bJ:∀ B,¬ Wr (fun i=>if i<bl.length then ρ (π i) else none) (Qt bl []) B:=by
  rintro B ⟨i,p,b,_,hb,hw,_⟩;have hi:i<bl.length:=by have:=(Qt bl []).lt hb;simpa [Qt] using this
  simp only[Qt,if_pos hi] at hb;cases eJ:bl[i]? with
  |none=>rw[eJ] at hb;cases hb
  |some b0=>rw[eJ] at hb;obtain rfl:=osj hb;cases hw
 have sB:HRel (fun i=>if i<bl.length then ρ (π i) else none) (Qt bl []) w:=by
  refine⟨⟨fun i b hb=>?_,fun i hi=>?_,fun i p hp=>?_,fun i j p q b _ hp _ hb hw _=>(bJ _ ⟨i,p,b,hp,hb,hw,rfl⟩).elim⟩,fun g cs hg=>⟨(hH.tab g cs hg).1,bJ g⟩⟩
  ·have hi:i<bl.length:=by have:=(Qt bl []).lt hb;simpa [Qt] using this
   simp only[Qt,if_pos hi] at hb;cases eJ:bl[i]? with
   |none=>rw[eJ] at hb;cases hb
   |some b0 =>rw[eJ] at hb;obtain rfl:=osj hb;obtain⟨wr,c',hg,pD⟩:=hπ i b0 eJ;obtain⟨p,hp,hB⟩:=hH.live _ _ hg;exact⟨p,by simp[hi,hp],BRel.renRo pD hB⟩
  ·by_cases h:i<bl.length
   ·simp only[Qt,if_pos h,List.getElem?_eq_getElem h] at hi;cases hi
   ·simp[h]
  ·skip
   split at hp
   ·exact hH.lt _ p hp
   ·cases hp
 have sC:LRel (fun i=>if i<bl.length then ρ (π i) else none) (Qt bl []).n gW ax.toList:=by have:=aw.rel hL;simpa [Qt] using this
 have lift:∀ c w',Got (fun i=>if i<bl.length then ρ (π i) else none) (Qt bl []) w (fun u τ=>u=vm∧τ=Qt bl fr) c w'→Got ρ σ w K c w':=by
  rintro c w' ⟨_,ρm,_,⟨rfl,rfl⟩,cE,gX,hE⟩;have dM:∀ B,B<w.heap.size→w'.heap[B]?=w.heap[B]?:=fun B hB=>hE.keep B hB (bJ B);have fJ:∀ i p,bl.length≤i→ρm i=some p→w.heap.size≤p.blk:=fun i p hi hp=>by
   rcases Nat.lt_or_ge p.blk w.heap.size with h|h
   ·refine (bJ _ (hE.wr p.blk h ?_)).elim;have gK:=gX.idlt hp;cases hb:(Qt bl fr).get i with
    |none=>rw[gX.dead i hb] at hp;cases hp
    |some b =>
     refine⟨i,p,b,hp,hb,?_,rfl⟩;simp only[Qt,if_neg (Nat.not_lt.2 hi)] at hb;cases eJ:fr[i-bl.length]? with
     |none=>rw[eJ] at hb;cases hb
     |some b0=>rw[eJ] at hb;obtain rfl:=osj hb;rfl
   ·exact h
  have hρ:∀ i,σ.n≤i→(if i<σ.n then ρ i else if i<σ.n+fr.length then ρm (bl.length+(i-σ.n)) else none)=if i<σ.n+fr.length then ρm (bl.length+(i-σ.n)) else none:=fun i hi=>if_neg (by omega)
  have hX:Ext ρ σ w (fun i=>if i<σ.n then ρ i else if i<σ.n+fr.length then ρm (bl.length+(i-σ.n)) else none) (XA σ fr) w':=by
   refine⟨hE.os,hE.tape,hE.output,hE.size,fun B hB _=>dM B hB,?_,by simp[XA],fun i hi p hp=>?_⟩
   ·rintro B hB ⟨i,p,b,hp,hb,hw,rfl⟩
    replace hp:(if i<σ.n then ρ i else if i<σ.n+fr.length then ρm (bl.length+(i-σ.n)) else none)=some p:=hp
    by_cases hi:i<σ.n
    ·rw[if_pos hi] at hp;simp only[XA,if_pos hi] at hb;exact⟨i,p,b,hp,hb,hw,rfl⟩
    ·rw[if_neg hi] at hp;split at hp
     ·have:=fJ _ p (by omega) hp;omega
     ·cases hp
   ·skip
    rwa [if_pos hi] at hp
  refine⟨v,fun i=>if i<σ.n then ρ i else if i<σ.n+fr.length then ρm (bl.length+(i-σ.n)) else none,XA σ fr,hK,?_,hH.ext ⟨fun i b hb=>?_,fun i hi=>?_,fun i p hp=>?_,fun i j p q b b8 hp hq hb hw hx=>?_⟩ hX,hX⟩
  ·refine hv.rel (by simp[XA]) (fun i h1 h2=>?_) cE;rw[if_neg (by omega),if_pos (by omega)];congr 1;omega
  ·by_cases hi:i<σ.n
   ·simp only[XA,if_pos hi] at hb;obtain⟨p,hp,hB⟩:=hH.live i b hb;exact⟨p,by simp[hi,hp],hB.mono (by simp[XA]) (fun j hj q hq=>by simpa [hj] using hq) (dM _ (hH.lt i p hp))⟩
   ·simp only[XA,if_neg hi] at hb;cases eJ:fr[i-σ.n]? with
    |none=>rw[eJ] at hb;cases hb
    |some b0 =>
     rw[eJ] at hb;obtain rfl:=osj hb;have ai:i-σ.n<fr.length:=(List.getElem?_eq_some_iff.1 eJ).1;obtain⟨p,hp,hB⟩:=gX.live (bl.length+(i-σ.n)) (b0.blk true) (by
      show (if _ then _ else _)=_;rw[if_neg (by omega),show bl.length+(i-σ.n)-bl.length=i-σ.n by omega,eJ];rfl)
     exact⟨p,by rw[if_neg hi,if_pos (by omega)];exact hp,BRel.any (cM b0 (List.mem_of_getElem? eJ)) hB⟩
  ·by_cases h:i<σ.n
   ·simp only[XA,if_pos h] at hi;rw[if_pos h];exact hH.dead i hi
   ·simp only[XA,if_neg h] at hi;rw[if_neg h];split
    ·rename_i h2;have ai:i-σ.n<fr.length:=by omega
     rw[List.getElem?_eq_getElem ai] at hi;cases hi
    ·rfl
  ·skip
   split at hp
   ·exact Nat.lt_of_lt_of_le (hH.lt i p hp) hE.size
   ·split at hp
    ·exact gX.lt _ p hp
    ·cases hp
  ·skip
   by_cases hi:i<σ.n<;>by_cases hj:j<σ.n
   ·rw[if_pos hi] at hp;rw[if_pos hj] at hq;simp only[XA,if_pos hi] at hb;exact hH.sep i j p q b b8 hp hq hb hw hx
   ·rw[if_pos hi] at hp;rw[if_neg hj] at hq;split at hq
    ·have h1:=hH.lt i p hp;have h2:=fJ _ q (by omega) hq;omega
    ·cases hq
   ·rw[if_neg hi] at hp;rw[if_pos hj] at hq;split at hp
    ·have h1:=hH.lt j q hq;have h2:=fJ _ p (by omega) hp;omega
    ·cases hp
   ·rw[if_neg hi] at hp;rw[if_neg hj] at hq;split at hp
    ·split at hq
     ·simp only[XA,if_neg hi] at hb;refine gX.sep (bl.length+(i-σ.n)) (bl.length+(j-σ.n)) p q b (by omega) hp hq ?_ hw hx;show (if _ then _ else _)=_;rw[if_neg (by omega),show bl.length+(i-σ.n)-bl.length=i-σ.n by omega];exact hb
     ·cases hq
    ·cases hp
 rcases hm _ w ax sB sC with⟨h1,h2⟩|⟨c,h1,h2⟩
 ·refine .inl ⟨h1,?_⟩;exact h2.mono fun e w' he=>by
   obtain⟨c,rfl,hc⟩:=he;exact⟨c,rfl,lift c w' hc⟩
 ·refine .inr ⟨c,lift c w h1,fun w' df=>h2 w' ⟨df.1,fun i p hp=>?_,df.tab⟩⟩
  replace hp:(if i<bl.length then ρ (π i) else none)=some p:=hp
  split at hp
  ·exact df.2 _ p hp
  ·cases hp
def Iy {α:Type}(p:α→α→Bool):List α→List α→Bool
 |[],[]=>true
 |a::l,b::m=>p a b&&Iy p l m
 |_,_=>false
theorem VK {α:Type}{p:α→α→Bool}(hp:∀ a b,p a b=true→a=b):∀ l m,Iy p l m=true→l=m
 |[],[],_=>rfl
 |a::l,b::m,h=>by simp only[Iy,Bool.and_eq_true] at h;rw[hp a b h.1,VK hp l m h.2]
 |[],_::_,h=>by cases h
 |_::_,[],h=>by cases h
def Rb:Nat→Value→Value→Bool
 |0,_,_=>false
 |f+1,a,b=>match a,b with
  |.bool x,.bool y=>x==y
  |.int k x,.int k' y=>decide (k=k')&&decide (x=y)
  |.string s,.string t=>decide (s.data.toList=t.data.toList)
  |.pointer none,.pointer none=>true
  |.pointer (some ⟨i,o,none⟩),.pointer (some ⟨j,q,none⟩)=>Nat.beq i j&&Nat.beq o q
  |.slice none l c,.slice none l' c'=>Nat.beq l l'&&Nat.beq c c'
  |.slice (some ⟨i,o,none⟩) l c,.slice (some ⟨j,q,none⟩) l' c'=>Nat.beq i j&&(Nat.beq o q&&(Nat.beq l l'&&Nat.beq c c'))
  |.slice (some ⟨i,o,some 0⟩) l c,.slice (some ⟨j,q,some 0⟩) l' c'=>Nat.beq i j&&(Nat.beq o q&&(Nat.beq l l'&&Nat.beq c c'))
  |.map x,.map y=>decide (x=y)
  |.chan none,.chan none=>true
  |.nilFunc,.nilFunc=>true
  |.nilIface,.nilIface=>true
  |.func (.func g) fs cs,.func (.func g') qB cs'=>decide (g=g')&&(Iy (Rb f) fs.toList qB.toList&&Iy (Rb f) cs.toList cs'.toList)
  |.func (.yield i) ⟨[]⟩ ⟨[]⟩,.func (.yield j) ⟨[]⟩ ⟨[]⟩=>Nat.beq i j
  |.iface t v,.iface t' v'=>decide (t=t')&&Rb f v v'
  |.agg cs,.agg ds=>Iy (Rb f) cs.toList ds.toList
  |.tuple cs,.tuple ds=>Iy (Rb f) cs.toList ds.toList
  |_,_=>false
theorem Rf {α:Type}{a b:Array α}(h:a.toList=b.toList):a=b:=by cases a;cases b;simp at h;rw[h]
theorem UD:∀ (f:Nat) (a b:Value),Rb f a b=true→a=b:=by
 intro f;induction f with
 |zero=>intro a b h;cases h
 |succ f ih =>
  intro a b h;unfold Rb at h
  split at h<;>first
   |(cases h;done)
   |rfl
   |(simp at h;subst h;rfl)
   |(simp at h;obtain⟨rfl,rfl⟩:=h;rfl)
   |(simp at h;obtain⟨rfl,rfl,rfl,rfl⟩:=h;rfl)
   |skip
  ·rename_i s t;have h:=of_decide_eq_true h;have:=Rf h;cases s;cases t;simp at this;rw[this]
  ·rename_i g fs cs g' qB cs';simp only[Bool.and_eq_true,decide_eq_true_eq] at h;obtain⟨rfl,h1,h2⟩:=h;rw[Rf (VK ih _ _ h1),Rf (VK ih _ _ h2)]
  ·rename_i t v t' v';simp only[Bool.and_eq_true,decide_eq_true_eq] at h;obtain⟨rfl,h1⟩:=h;rw[ih _ _ h1]
  ·rw[Rf (VK ih _ _ h)]
  ·rw[Rf (VK ih _ _ h)]
def EB.beq:EB→EB→Bool
 |.cells c e w t,.cells c' e' w' t'=>decide (e=e')&&(w==w'&&(t==t'&&Iy (Rb 20) c c'))
 |.map es cl w,.map bT sD w'=>Nat.beq cl sD&&(w==w'&&Iy (fun a b=>Rb 20 a.1 b.1&&(Rb 20 a.2.1 b.2.1&&Nat.beq a.2.2 b.2.2)) es bT)
 |.iter m s sn l,.iter m' s' sE l'=>Nat.beq m m'&&(Nat.beq s s'&&(Nat.beq l l'&&decide (sn=sE)))
 |.lp .ready none,.lp .ready none=>true
 |.lp .busy none,.lp .busy none=>true
 |_,_=>false
theorem EB.beq_eq {a b:EB}(h:a.beq b=true):a=b:=by
 unfold EB.beq at h
 split at h<;>first
  |(cases h;done)
  |rfl
  |skip
 ·simp only[Bool.and_eq_true,decide_eq_true_eq,beq_iff_eq] at h;obtain⟨rfl,rfl,rfl,h⟩:=h;rw[VK (UD 20) _ _ h]
 ·simp only[Bool.and_eq_true,beq_iff_eq,Nat.beq_eq] at h;obtain⟨rfl,rfl,h⟩:=h;rw[VK (fun a b h=>by
   simp only[Bool.and_eq_true,Nat.beq_eq] at h;obtain⟨a1,a2,a3⟩:=a;obtain⟨b1,b2,b3⟩:=b;obtain⟨h1,h2,h3⟩:=h;simp at h1 h2 h3;rw[UD _ _ _ h1,UD _ _ _ h2,h3]) _ _ h]
 ·simp only[Bool.and_eq_true,decide_eq_true_eq,Nat.beq_eq] at h;obtain⟨rfl,rfl,rfl,rfl⟩:=h;rfl
def CH.newOk (h h':CH):Bool:=Nat.ble h.n h'.n&&(h'.room&&(List.range' h.n (h'.n-h.n)).all fun i=>match h'.get i with
 |some (.lp _ _)=>false
 |_=>true)
structure AnsOps (A:Type) where
 fail:A
 both:A→A→A
structure Good {A:Type}(R:AnsOps A) (G:A→Prop):Prop where
 fail:¬ G R.fail
 both:∀ a b,G (R.both a b)→G a∧G b
def Xm:AnsOps Bool:=⟨false,and⟩
theorem Ri:Good Xm (·=true):=⟨by simp[Xm],fun a b h=>by simpa [Xm] using h⟩
def An:AnsOps (Option (Value×CH)):=⟨none,fun _ _=>none⟩
theorem Q5s (x:Value×CH):Good An (·=some x):=⟨by simp[An],fun a b h=>by simp[An] at h⟩
def CH.same (h h':CH):Bool:=Nat.beq h.n h'.n&&(List.range h.n).all fun i=>match h.get i,h'.get i with
 |none,none=>true
 |some a,some b=>a.beq b
 |_,_=>false
def EB.plainE:EB→Bool
 |.cells c _ _ _=>c.all QQ
 |.map es _ _=>es.all fun kv=>QQ kv.2.1
 |_=>false
def CH.keepOk (h h':CH):Bool:=Nat.ble h.n h'.n&&(List.range h.n).all fun i=>match h.get i,h'.get i with
 |none,none=>true
 |some a,some b=>b.plainE||a.beq b
 |_,_=>false
def gcI (n0:Nat) (refs:List Nat) (i:Nat):Nat×List Nat :=
 if i<n0 then (i,refs) else if refs.contains i=true then (n0+refs.idxOf i,refs) else (n0+refs.length,refs++[i])
def Ol (g:List Nat→Value→Option (Value×List Nat)):List Value→List Nat→Option (List Value×List Nat)
 |[],refs=>some ([],refs)
 |v::vs,refs=>match g refs v with
  |none=>none
  |some p=>match Ol g vs p.2 with
   |none=>none
   |some q=>some (p.1::q.1,q.2)
def gcX (n0:Nat):Nat→List Nat→Value→Option (Value×List Nat)
 |0,_,_=>none
 |f+1,refs,v=>match v with
  |.pointer (some ⟨i,o,none⟩)=>some (.pointer (some ⟨(gcI n0 refs i).1,o,none⟩),(gcI n0 refs i).2)
  |.slice (some ⟨i,o,none⟩) l c=>some (.slice (some ⟨(gcI n0 refs i).1,o,none⟩) l c,(gcI n0 refs i).2)
  |.slice (some ⟨i,o,some 0⟩) l c=>some (.slice (some ⟨(gcI n0 refs i).1,o,some 0⟩) l c,(gcI n0 refs i).2)
  |.map (some i)=>some (.map (some (gcI n0 refs i).1),(gcI n0 refs i).2)
  |.chan none=>some (.chan none,refs)
  |.iface t u=>match gcX n0 f refs u with
   |some p=>some (.iface t p.1,p.2)
   |none=>none
  |.agg cs=>match Ol (gcX n0 f) cs.toList refs with
   |some p=>some (.agg p.1.toArray,p.2)
   |none=>none
  |.tuple cs=>match Ol (gcX n0 f) cs.toList refs with
   |some p=>some (.tuple p.1.toArray,p.2)
   |none=>none
  |.func (.func g) fs cs=>match Ol (gcX n0 f) fs.toList refs with
   |some p=>match Ol (gcX n0 f) cs.toList p.2 with
    |some q=>some (.func (.func g) p.1.toArray q.1.toArray,q.2)
    |none=>none
   |none=>none
  |.func (.yield i) ⟨[]⟩ ⟨[]⟩=>if i<n0 then some (.func (.yield i) ⟨[]⟩ ⟨[]⟩,refs) else none
  |v=>if QQ v=true then some (v,refs) else none
def Z0m (n0:Nat):List Jr→List Nat→Option (List Jr×List Nat)
 |[],refs=>some ([],refs)
 |e::es,refs=>match gcX n0 8 refs e.2.1 with
  |none=>none
  |some p=>match Z0m n0 es p.2 with
   |none=>none
   |some q=>some ((e.1,p.1,e.2.2)::q.1,q.2)
def gcB (n0:Nat) (refs:List Nat):EB→Option (EB×List Nat)
 |.cells c e w t=>match Ol (gcX n0 8) c refs with
  |some p=>some (.cells p.1 e w t,p.2)
  |none=>none
 |.map es cl w=>match Z0m n0 es refs with
  |some p=>some (.map p.1 cl w,p.2)
  |none=>none
 |_=>none
def Q0z (h':CH) (n0:Nat):Nat→Nat→List Nat→CH→Option (CH×List Nat)
 |0,_,_,_=>none
 |f+1,k,refs,acc=>if refs.length≤k then (if k=refs.length then some (acc,refs) else none) else match h'.get (refs.getD k 0) with
  |none=>none
  |some b=>match gcB n0 refs b with
   |none=>none
   |some p=>if acc.room=true then Q0z h' n0 f (k+1) p.2 (acc.push p.1) else none
def Q1o (h h':CH) (refs:List Nat):Option (CH×List Nat) :=
 if h.keepOk h'=true then Q0z h' h.n 100000 0 refs ⟨h'.t,h.n⟩ else none
def Ln (h h':CH) (v:Value):Option (Value×CH):=match gcX h.n 8 [] v with
 |none=>none
 |some p=>match Q1o h h' p.2 with
  |none=>none
  |some q=>some (p.1,q.1)
def joinOps:AnsOps (Option (Value×CH)):=⟨none,fun a b=>match a with
 |some x=>match b with
  |some y=>if Rb 20 x.1 y.1=true∧x.2.same y.2=true then some x else none
  |none=>none
 |none=>none⟩
structure ET where
 t:GT Value
 m:Nat
def ET.get (e:ET) (i:Nat):Value:=Bool.rec (motive:=fun _=>Value) undef (e.t.get undef i) (Nat.blt i e.m)
def ET.set (e:ET) (i:Nat) (v:Value):ET:=Bool.rec (motive:=fun _=>ET) e ⟨e.t.set undef 32 i v,e.m⟩ (Nat.blt i e.m)
def ET.put (e:ET) (d:Option Nat) (v:Value):ET:=Option.rec (motive:=fun _=>ET) e (fun d=>e.set d v) d
def etL (l:List Value):Nat→GT Value→GT Value:=List.rec (motive:=fun _=>Nat→GT Value→GT Value) (fun _ t=>t) (fun v _ ih i t=>ih (i+1) (t.set undef 32 i v)) l
def ET.of (args:List Value) (nt:Nat):ET:=⟨etL args 0 .nil,args.length+(nt-args.length)⟩
def MQ (e:ET) (x:Operand):Value:=Operand.rec (motive:=fun _=>Value) (fun t=>e.get t) (fun v=>v) (fun g=>.pointer (some ⟨g,0,some 0⟩)) (fun f=>.func (.func f) #[] #[]) x
def Q2t (e:ET) (ps:List Nat):List Value→ET:=List.rec (motive:=fun _=>ET→List Value→ET) (fun e _=>e) (fun p _ ih e vs=>List.rec (motive:=fun _=>ET) e (fun v vs _=>ih (e.set p v) vs) vs) ps e
def FT (e:ET) (g:Option (Nat×Bool)):Option Bool:=match g with
 |none=>some true
 |some (d,want)=>match e.get d with
  |.bool b=>some (b==want)
  |.tuple _=>some false
  |_=>none
def ET.list (e:ET):List Value:=(List.range e.m).map e.get
def Q94 (h h':CH) (e:ET):Option (Value×CH):=Ln h h' (.tuple e.list.toArray)
structure RCtx where
 ps:List Nat
 a:VCode
 b:VCode
 env:ET
abbrev Ys:=List (Nat×RCtx)
def Ys.find:Ys→Nat→Option RCtx
 |[],_=>none
 |(j,c)::l,i=>if Nat.beq i j=true then some c else Ys.find l i
structure Memo where
 args:List Value
 bl:List PB
 v:Value
 fr:List PB
def Q8r (g:Value→Option Value):List Value→Option (List Value)
 |[]=>some []
 |v::vs=>match g v with
  |none=>none
  |some u=>match Q8r g vs with
   |none=>none
   |some us=>some (u::us)
def shX (a m d:Nat):Nat→Value→Option Value
 |0,_=>none
 |f+1,v=>match v with
  |.pointer (some ⟨i,o,none⟩)=>if a≤i∧i<m then some (.pointer (some ⟨d+(i-a),o,none⟩)) else none
  |.slice (some ⟨i,o,none⟩) l c=>if a≤i∧i<m then some (.slice (some ⟨d+(i-a),o,none⟩) l c) else none
  |.agg cs=>match Q8r (shX a m d f) cs.toList with
   |some p=>some (.agg p.toArray)
   |none=>none
  |.tuple cs=>match Q8r (shX a m d f) cs.toList with
   |some p=>some (.tuple p.toArray)
   |none=>none
  |v=>if QQ v=true then some v else none
def TS (h:CH):Nat→List Nat→List PB→Option (List Nat)
 |k,refs,[]=>if refs.length=k then some refs else none
 |k,refs,b::m=>if k<refs.length then
   match h.get (refs.getD k 0) with
   |some (.cells c e _ t)=>(match Ol (gcX 0 8) c refs with
    |some p=>if (decide (e=b.esz)&&(t==b.tight&&Iy (Rb 20) p.1 b.c))=true then TS h (k+1) p.2 m else none
    |none=>none)
   |_=>none
  else none
def JV:List PB→CH→CH
 |[],h=>h
 |b::l,h=>JV l (h.push (.cells b.c b.esz true b.tight))
def Ae (h:CH) (args:List Value) (refs:List Nat):List Memo→Option Memo
 |[]=>none
 |m::ms=>if (Iy (Rb 20) args m.args&&(TS h 0 refs m.bl).isSome)=true then some m else Ae h args refs ms
def S2 (h:CH) (args:List Value) (ms:List Memo):Option (Value×CH) :=
 match Ol (gcX 0 8) args [] with
 |none=>none
 |some p=>match Ae h p.1 p.2 ms with
  |none=>none
  |some m=>match Nat.ble (h.n+m.fr.length) 1000000000 with
   |false=>none
   |true=>match shX m.bl.length (m.bl.length+m.fr.length) h.n 8 m.v with
    |some v=>some (v,JV m.fr h)
    |none=>none
inductive FEnt where
 |code (vc:VCode) (rs:List VResult) (nt:Nat)
 |codeJ (vc:VCode) (rs:List VResult) (nt:Nat)
 |codeM (vc:VCode) (rs:List VResult) (nt:Nat) (ms:List Memo)
 |same
abbrev Tab:=FuncId→Option FEnt
abbrev Q6b:=∀ {A:Type},AnsOps A→Ys→VCode→Option Nat→ET→CH→(Exit→ET→CH→A)→A
def Hs (env:ET) (σ:CH):VResult→Option Value
 |.tmp t=>some (env.get t)
 |.cell a agg size=>match Q6r agg size (env.get a) σ with|some p=>some p.1|none=>none
def GN (env:ET) (σ:CH):List VResult→Option (List Value)
 |[]=>some []
 |r::rs=>match Hs env σ r with
  |none=>none
  |some v=>match GN env σ rs with
   |none=>none
   |some vs=>some (v::vs)
def NT (env:ET) (σ:CH) (rs:List VResult):Option Value :=
 match rs with
 |[r]=>Hs env σ r
 |rs=>match GN env σ rs with|some vs=>some (.tuple vs.toArray)|none=>none
section
variable (T:Tab) (ev:Q6b) {A:Type}(R:AnsOps A) (ys:Ys)
def Q57 (fail:A) (rs:List VResult) (k:Value→CH→A):Exit→ET→CH→A:=fun e env h'=>match e with
  |.normal=>(match NT env h' rs with|some v=>k v h'|none=>fail)
  |.ret=>(match NT env h' rs with|some v=>k v h'|none=>fail)
  |_=>fail
def DF (f:FuncId) (args:List Value) (h:CH) (k:Value→CH→A):A :=
 match T f with
 |some (.code vc rs nt)=>match Nat.ble (ET.of args nt).m 1000000 with
  |true=>ev R ys vc none (ET.of args nt) h (Q57 R.fail rs k)
  |false=>R.fail
 |some (.codeJ vc rs nt)=>match Nat.ble (ET.of args nt).m 1000000 with
  |true=>(match ev joinOps ys vc none (ET.of args nt) h (Q57 none rs fun v h'=>Ln h h' v) with
   |some x=>if x.2.room=true∧Nat.ble h.n x.2.n=true then k x.1 x.2 else R.fail
   |none=>R.fail)
  |false=>R.fail
 |some (.codeM vc rs nt ms)=>match S2 h args ms with
  |some p=>k p.1 p.2
  |none=>match Nat.ble (ET.of args nt).m 1000000 with
   |true=>ev R ys vc none (ET.of args nt) h (Q57 R.fail rs k)
   |false=>R.fail
 |some .same=>match args with
  |[v]=>k v h
  |_=>R.fail
 |none=>R.fail
def Im (i:Nat) (k:Value→CH→A):Exit→ET→CH→A:=fun e _ h =>
 match h.get i with
 |some (.lp .busy none)=>match e with
  |.normal=>k (.bool true) (h.upd i (.lp .ready none))
  |.ret=>k (.bool false) (h.upd i (.lp .done (some .ret)))
  |.exit id=>k (.bool false) (h.upd i (.lp .done (some (.exit id))))
  |_=>R.fail
 |_=>R.fail
def Q24 (c:RCtx) (i:Nat) (k:Value→CH→A):Exit→ET→CH→A:=fun e bp h1=>match e with
 |.normal=>(match h1.get i with
  |some (.lp .ready none)=>ev R ys c.b (some i) bp (h1.upd i (.lp .busy none)) (Im R i k)
  |_=>R.fail)
 |_=>R.fail
def I_ (i:Nat) (args:List Value) (h:CH) (k:Value→CH→A):A :=
 match ys.find i with
 |some c=>match h.get i with
  |some (.lp .ready none)=>if args.length=c.ps.length then ev R ys c.a (some i) (Q2t c.env c.ps args) h (Q24 ev R ys c i k) else R.fail
  |_=>R.fail
 |none=>R.fail
def Mc (i m since clock:Nat) (seen:List Nat) (h:CH) (k:Value→CH→A):List Jr→Option A
 |[]=>none
 |e::es=>if seen.contains e.2.2=true then Mc i m since clock seen h k es
  else match Mc i m since clock seen h k es with
   |none=>some (k (.tuple #[.bool true,e.1,e.2.1]) (h.upd i (.iter m since (seen++[e.2.2]) clock)))
   |some a=>some (R.both (k (.tuple #[.bool true,e.1,e.2.1]) (h.upd i (.iter m since (seen++[e.2.2]) clock))) a)
def Q61 (x:Value) (h:CH) (k:Value→CH→A):A :=
 match x with
 |.pointer (some ⟨i,0,none⟩)=>match h.get i with
  |some (.iter m since seen last)=>match h.mapAt m with
   |some (es,clock,_) =>
    if (seen.isEmpty||es.isEmpty||es.any (fun e=>decide (e.2.2<last)))=true∧es.all (fun e=>KF e.1)=true then
     (match Mc R i m since clock seen h k es with
     |none=>if es.all (fun e=>seen.contains e.2.2||decide (since≤e.2.2))=true then k (.tuple #[.bool false]) h else R.fail
     |some a=>if es.all (fun e=>seen.contains e.2.2||decide (since≤e.2.2))=true then R.both (k (.tuple #[.bool false]) h) a else a)
    else R.fail
   |none=>R.fail
  |_=>R.fail
 |_=>R.fail
def Q1b (f:Value) (args:List Value) (h:CH) (k:Value→CH→A):A:=match f with
  |.func (.func g) first cap=>DF T ev R ys g (first.toList++args++cap.toList) h k
  |.func (.yield i) _ _=>I_ ev R ys i args h k
  |_=>R.fail
def IK (r:Option (Value×CH)) (k:Value→CH→A):A:=match r with
  |some p=>k p.1 p.2
  |none=>R.fail
def Q63 (o:VOp) (env:ET) (h:CH) (k:Value→CH→A):A :=
 match o with
 |.callF f args=>DF T ev R ys f (args.map (MQ env)) h k
 |.callV f args=>Q1b T ev R ys (MQ env f) (args.map (MQ env)) h k
 |.ext (.nextMap x)=>Q61 R (MQ env x) h k
 |o=>IK R (Cm o (MQ env) h) k
def IG (l:List VOper):ET→CH→(ET→CH→A)→A :=
 List.rec (motive:=fun _=>ET→CH→(ET→CH→A)→A) (fun env h k=>k env h)
  (fun o _ ih env h k=>match FT env o.guard with
   |none=>R.fail
   |some true=>Q63 T ev R ys o.op env h fun v h'=>ih (env.put o.dst v) h' k
   |some false=>ih (env.put o.dst undef) h k) l
def AD (op:VOp) (ev:Operand→Value) (v:Value) (h:CH):Bool:=match Cm op ev h with
 |some q=>Rb 20 q.1 v
 |none=>false
def O6 (r:Nat) (h:CH):List (Nat×(CH→Bool))→Bool
 |[]=>true
 |c::l=>(!(Nat.ble r c.1)||c.2 h)&&O6 r h l
def MA:List DOper→ET→List CH→CH→List (Nat×(CH→Bool))→(ET→CH→A)→A
 |[],env,_,h,_,k=>k env h
 |o::rest,env,hs,h,pend,k=>match FT env o.guard with
  |none=>R.fail
  |some true=>if o.kind=2 then
    (match Q63 T ev An ys o.op env h (fun v h'=>some (v,h')) with
    |some p=>if h.newOk p.2=true∧O6 hs.length p.2 pend=true then MA rest (env.put o.dst p.1) (hs++[p.2]) p.2 pend k else R.fail
    |none=>R.fail)
   else if o.kind=1 then
    (match Cm o.op (MQ env) h with
    |some p=>if (hs.drop o.kmin).all (AD o.op (MQ env) p.1)=true then
      MA rest (env.put o.dst p.1) hs h (if hs.length≤o.kmax then (o.kmax,AD o.op (MQ env) p.1)::pend else pend) k else R.fail
    |none=>R.fail)
   else match Cm o.op (MQ env) h with
    |some p=>MA rest (env.put o.dst p.1) hs h pend k
    |none=>R.fail
  |some false=>if o.kind=2 then
    (if O6 hs.length h pend=true then MA rest (env.put o.dst undef) (hs++[h]) h pend k else R.fail)
   else MA rest (env.put o.dst undef) hs h pend k
def Q55 (env:ET) (h:CH) (a:List DOper):Option (Value×CH):=MA T ev joinOps ys a env [h] h [] fun env h'=>Q94 h h' env
def AK (env:ET) (h:CH):List (List DOper)→Option (Value×CH)
 |[]=>none
 |[a]=>Q55 T ev ys env h a
 |a::b::r=>joinOps.both (Q55 T ev ys env h a) (AK env h (b::r))
def P6:List DSeg→ET→CH→(ET→CH→A)→A
 |[],env,h,k=>k env h
 |.one o::rest,env,h,k=>IG T ev R ys [o] env h fun env h=>P6 rest env h k
 |.alts [a]::rest,env,h,k=>MA T ev R ys a env [h] h [] fun env h=>P6 rest env h k
 |.alts l::rest,env,h,k=>match AK T ev ys env h l with
  |some x=>(match x.1 with
   |.tuple vs=>if x.2.room=true∧Nat.ble h.n x.2.n=true∧vs.toList.length=env.m then P6 rest (ET.of vs.toList 0) x.2 k else R.fail
   |_=>R.fail)
  |none=>R.fail
def Q3d (h:CH):Option Nat→Bool
 |none=>true
 |some i=>match h.get i with
  |some (.lp _ _)=>true
  |_=>false
def Q5g:LoopState→Bool
 |.busy=>false
 |_=>true
def Q8k (env:ET) (i:Nat) (k:Exit→ET→CH→A):Value→CH→A:=fun _ h =>
 match h.get i with
 |some (.lp st pend)=>if Q5g st=true then (match pend with
   |none=>k .normal env (h.kill i)
   |some .ret=>k .ret env (h.kill i)
   |some (.exit id)=>k (.exit id) env (h.kill i)
   |some _=>R.fail) else R.fail
 |_=>R.fail
def Q9k (kb k:Exit→ET→CH→A):Exit→ET→CH→A:=fun e env h=>match e with
 |.normal=>kb .normal env h
 |e=>k e env h
def IP (id:Nat) (k:Exit→ET→CH→A):Exit→ET→CH→A:=fun e env h=>match e with
 |.exit gC=>if gC=id then k .normal env h else k (.exit gC) env h
 |e=>k e env h
def Q4o (v:Value) (a b:A):A:=match v with
 |.bool true=>a
 |.bool false=>b
 |_=>R.fail
def Fi (g:Value) (ps:List Nat) (a b:VCode) (ro:Option Nat) (env:ET) (h:CH) (k:Exit→ET→CH→A):A:=match g with
 |.func (.func f) first cap=>match T f with
  |some (.code _ _ _)=>if Q3d h ro=true∧h.room=true then
    DF T ev R ((h.n,⟨ps,a,b,env⟩)::ys) f (first.toList++[.func (.yield h.n) #[] #[]]++cap.toList) (h.push (.lp .ready none)) (Q8k R env h.n k)
   else R.fail
  |_=>R.fail
 |_=>R.fail
def S_ (c:VCode):Option Nat→ET→CH→(Exit→ET→CH→A)→A :=
 VCode.rec (motive:=fun _=>Option Nat→ET→CH→(Exit→ET→CH→A)→A)
  (fun _ env h k=>k .normal env h)
  (fun ops _ env h k=>IG T ev R ys ops env h (k .normal))
  (fun aP _ env h k=>P6 T ev R ys aP env h (k .normal))
  (fun g ps a b _ _ ro env h k=>Fi T ev R ys (MQ env g) ps a b ro env h k)
  (fun _ _ e_ eK ro env h k=>e_ ro env h (Q9k (fun _ af h'=>eK ro af h' k) k))
  (fun c _ _ e_ eK ro env h k=>Q4o R (MQ env c) (e_ ro env h k) (eK ro env h k))
  (fun id _ ih ro env h k=>ih ro env h (IP id k))
  (fun b ih ro env h k=>ih ro env h (Q9k (fun _ af h'=>ev R ys (.loop b) ro af h' k) k))
  (fun id _ env h k=>k (.exit id) env h)
  (fun _ env h k=>k .ret env h)
  (fun _ _ _ _=>R.fail) c
end
def Gz (T:Tab) (n:Nat):Q6b :=
 Nat.rec (motive:=fun _=>Q6b) (fun R _ _ _ _ _ _=>R.fail) (fun _ ih {_} R ys c ro env h k=>S_ T ih R ys c ro env h k) n
end Go.V