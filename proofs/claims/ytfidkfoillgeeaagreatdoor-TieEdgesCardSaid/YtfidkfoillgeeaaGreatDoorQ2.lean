/- A framework for walks, contracts of functions, and their proofs: part 2. -/
import Derived.RangeFuncLeaves
import Derived.RangeFuncCalls
import Derived.OrdersIn
import Derived.TacticsIn
import Derived.Sort.LoopGhostIn
import Derived.Deep.LoopGhost
import Derived.Test.YtfidkfoillgeeaaGreatDoorQ1
noncomputable section
namespace Go.V
open Go
section
variable {P:Program}{S:VSpecs}{B:Nat}
def FF:Option Nat->Fence
 |none=>Fence.wide
 |some l=>Fence.wide.inRound l
theorem Fs (ro:Option Nat) (f:FuncId):(FF ro).fn f:=by cases ro<;>trivial
theorem RQ (ro:Option Nat):(FF ro).depth=none:=by cases ro<;>rfl
theorem Q24 (ro:Option Nat):(FF ro).round=ro:=by cases ro<;>rfl
theorem E9 {ro:Option Nat}{n:Nat}{f:FuncId}{args:Array Value}{w:World}{R:Ending->World->Prop}(h:Calls P f args w R):CallsIn (FF ro) n P f args w R:=by
 cases ro with
 |none=>exact callsIn_wide.2 h
 |some l=>exact CallsIn.inRound l (callsIn_wide.2 h)
theorem Cp {ro:Option Nat}{n m:Nat}{l:Nat}{f:FuncId}{tmps:Array Value}{fv body:Code}{w:World}{R:Ending->World->Prop}(h:RoundIn Fence.wide m P l f tmps fv body w R):RoundIn (FF ro) n P l f tmps fv body w R:=by refine⟨Fs _ _,fun c cs _=>?_⟩;obtain⟨e,w',r,s⟩:=h.2 c cs (room_wide _);refine⟨e,w',r,?_⟩;cases ro<;>exact s
def Got (ρ:Plc) (σ:Heap) (w:World) (R:Value->Heap->Prop) (c:Value) (w':World):Prop :=
 ∃ v ρ' σ',R v σ'/\VRel ρ' σ'.n v c/\HRel ρ' σ' w'/\Ext ρ σ w ρ' σ' w'
def VCallsTo (P:Program) (f:FuncId) (args:List Value) (σ:Heap) (R:Value->Heap->Prop):Prop :=
 ∀ ρ w (av:Array Value),HRel ρ σ w->LRel ρ σ.n args av.toList->Calls P f av w fun e w'=>∃ c,e=.returned c/\Got ρ σ w R c w'
def VCalled (P:Program) (f:FuncId) (args:List Value) (σ:Heap) (R:Value->Heap->Prop):Prop :=
 ∀ ρ w (av:Array Value),HRel ρ σ w->LRel ρ σ.n args av.toList ->
  ((∀ w,(callFunc f av).run P w=.ok (.enter f av) w)/\Calls P f av w fun e w'=>∃ c,e=.returned c/\Got ρ σ w R c w') \/
  (∃ c,Got ρ σ w R c w/\∀ w',Like ρ w w'->(callFunc f av).run P w'=.ok (.value c) w')
def Pa (P:Program) (i:Nat) (args:List Value) (σ:Heap) (R:Value->Heap->Prop):Prop :=
 ∀ ρ w (av:Array Value),HRel ρ σ w->LRel ρ σ.n args av.toList ->
  ∃ p,ρ i=some p/\∃ fn tmps fv body,(Instr.yield p.blk av).run P w=.ok (.round p.blk fn tmps fv body) w /\
   RoundIn Fence.wide 0 P p.blk fn tmps fv body w fun e w'=>∃ c,e=.returned c/\Got ρ σ w R c w'
def J0 (P:Program) (f:FuncId):Prop:=∃ fn,P.funcs[f]?=some fn/\fn.body.isSome=true/\(fn.name=="runtime.NumGoroutine")=false
def Q9m (P:Program) (f:FuncId) (s:Py):Prop:=∀ args σ K,s args σ K->VCalled P f args σ K
def Kc (P:Program) (i:Nat) (s:Py):Prop:=∀ args σ K,s args σ K->Pa P i args σ K
def Z03 (P:Program) (f:FuncId) (T:Nat->Py->Py):Prop:=J0 P f/\∀ i Y,Kc P i Y->∀ args σ K,T i Y args σ K->VCallsTo P f args σ K
structure OkSpecs (P:Program) (S:VSpecs):Prop where
 fn:∀ f s,S.fn f=some s->Q9m P f s
 yl:∀ i s,S.yl i=some s->Kc P i s
 it:∀ f T,S.it f=some T->Z03 P f T
theorem K1 {f:FuncId}(h:J0 P f) (args:Array Value) (w:World):(callFunc f args).run P w=.ok (.enter f args) w:=by
 obtain⟨fn,h1,h2,h3⟩:=h;have h4:¬ fn.body=none:=fun e=>by rw[e] at h2;cases h2
 have h5:¬ fn.name="runtime.NumGoroutine":=fun e=>by rw[e] at h3;simp at h3
 simp[callFunc,h1,h4,h5]
theorem VCallsTo.called {f:FuncId}{args:List Value}{σ:Heap}{R:Value->Heap->Prop}(he:J0 P f) (h:VCallsTo P f args σ R):VCalled P f args σ R :=
 fun ρ w av hH hL=>.inl ⟨fun w=>K1 he av w,h ρ w av hH hL⟩
theorem Got.mono {ρ:Plc}{σ:Heap}{w:World}{R R':Value->Heap->Prop}{c:Value}{w':World}(h:Got ρ σ w R c w') (hr:∀ v σ',R v σ'->R' v σ'):Got ρ σ w R' c w' :=
 let ⟨v,ρ',σ',h1,h2⟩:=h;⟨v,ρ',σ',hr _ _ h1,h2⟩
theorem VCallsTo.mono {f:FuncId}{args:List Value}{σ:Heap}{R R':Value->Heap->Prop}(h:VCallsTo P f args σ R) (hr:∀ v σ',R v σ'->R' v σ'):VCallsTo P f args σ R' :=
 fun ρ w av hH hL=>(h ρ w av hH hL).mono fun _ _ ⟨c,he,hg⟩=>⟨c,he,hg.mono hr⟩
theorem Y2 {ρ:Plc}{n:Nat}{env:Env}{a:Act}(h:LRel ρ n env a.tmps.toList) {v c:Value}(hv:VRel ρ n v c) (d:Option Nat):LRel ρ n (Jv env d v) (a.put d c).tmps.toList:=by
 cases d with
 |none=>exact h
 |some d=>simp only[Jv,Act.put,Array.toList_setIfInBounds];exact h.set d hv
theorem Zb (env:Env) (d:Option Nat) (v:Value):List.length (Jv env d v)=List.length env:=by cases d<;>simp[Jv]
theorem Ju (a:Act) (d:Option Nat) (c:Value):(a.put d c).defers=a.defers:=by cases d<;>rfl
theorem MW {ρ:Plc}{n:Nat}{env:Env}{a:Act}{ops:Array Oper}{o:Oper}{vo:VOper}(hc:Zs P ops o=some vo) (hL:LRel ρ n env a.tmps.toList) {b:Bool}(h:Zo env vo.guard=some b) :
  Region.wanted o (yielded ops a.tmps)=b/\vo.dst=o.dst/\YD P o.op=vo.op:=by
 unfold Zs at hc;simp only[Option.bind_eq_bind] at hc;cases hg:o.guard with
 |none =>simp[hg] at hc;subst hc;simp[Zo] at h;subst h;simp[Region.wanted,hg]
 |some jw =>
  obtain⟨j,want⟩:=jw;simp[hg] at hc;cases hj:ops[j]? with
  |none=>simp[hj] at hc
  |some oj =>
   cases hd:oj.dst with
   |none=>simp[hj,hd] at hc
   |some d =>
    simp[hj,hd] at hc;subst hc;refine⟨?_,rfl,rfl⟩;simp only[Zo] at h;simp only[Region.wanted,hg,yielded,hj,Option.bind_some,hd];have hlen:List.length env=a.tmps.size:=by have:=hL.1;rw[Array.length_toList] at this;exact this
    rcases Nat.lt_or_ge d (List.length env) with ah|bj
    .have b7:d<a.tmps.size:=by rw[<-hlen];exact ah
     have hr:=hL.2 d env[d] a.tmps[d] (List.getElem?_eq_getElem ah) (by simp[b7]);have he:env.getD d undef=env[d]:=by simp[List.getD,ah]
     rw[he] at h;simp only[Array.getElem?_eq_getElem b7];split at h
     .rename_i b' heq;rw[heq] at hr;rw[hr.bool_inv];simp at h;simp[<-h]
     .rename_i vs heq;rw[heq] at hr;obtain⟨ds,hds,_⟩:=hr.tuple_inv;rw[hds];simp at h;subst h;simp
     .cases h
    .have he:env.getD d undef=undef:=by simp[List.getD,List.getElem?_eq_none bj]
     rw[he] at h;have:a.tmps[d]?=none:=Array.getElem?_eq_none (by rw[<-hlen];exact bj);simp only[this];simp[undef] at h;subst h;simp
theorem Q1g {o:Oper}{vo:VOp}(hc:KY P o.op=some vo) {ρ:Plc}{σ:Heap}{env:Env}{a:Act}(hL:LRel ρ σ.n env a.tmps.toList) {K:Value->Heap->Prop}
  (aD:(∃ f bR,vo=.callF f bR)\/(∃ f bR,vo=.callV f bR)) {σ0:Heap}(h:vop S vo env σ0 K) :
  (∃ f args av,vcall S f args σ0 K/\LRel ρ σ.n args av.toList/\∀ w,(execOp a.eval o).run P w=(callFunc f av).run P w) \/
  (∃ i r args av,Ep S i args σ0 K/\VRel ρ σ.n (.func (.yield i) #[] #[]) (.func (.yield r) #[] #[])/\LRel ρ σ.n args av.toList/\∀ w,(execOp a.eval o).run P w=(Instr.yield r av).run P w):=by
 have bm:=hc;cases dM:KY P o.op with
 |none=>rw[dM] at hc;cases hc
 |some uK =>
  clear dM hc uK;obtain⟨dst,op,ty,pos,after,guard⟩:=o;simp only at bm;unfold KY at bm;split at bm
  .cases bm
  rename_i aj;simp only[Bool.not_eq_true,Bool.not_eq_false'] at aj;cases op
  case call c =>
   simp only[Op.operands] at aj bm;split at bm
   .rename_i f aK;simp at bm;subst bm;simp only[vop] at h;have aB:(c.args.toList).all Js=true:=by
     simp only[Call.operands,aK,Array.toList_append,List.all_append,Bool.and_eq_true] at aj;exact aj.2
    refine .inl ⟨f,_,c.args.map a.eval,h,by have:=RI (fun x hx=>Xw hL hx) aB;simpa using this,fun w=>?_⟩;simp[execOp,resolve,aK,Act.eval,Deferred.ofValue,invoke]
   .rename_i fo aC aK;simp at bm;subst bm;simp only[vop] at h;simp only[Call.operands,aK,Array.toList_append,List.all_append,Bool.and_eq_true] at aj;have hf:=Xw hL (x:=fo) (by simpa using aj.1);have has:=RI (fun x hx=>Xw hL hx) aj.2;split at h
    .rename_i g first cap heq
     rw[heq] at hf;cases ki:a.eval fo with
     |func fn gs ds =>
      rw[ki] at hf;cases hf with
      |func _ _ _ _ _ h1 h2 h3 h4 =>
       refine .inl ⟨g,_,gs++c.args.map a.eval++ds,h,?_,fun w=>?_⟩
       .have eZ:=LRel.of_array h1 h3;have cF:=LRel.of_array h2 h4;have:=(eZ.append has).append cF;simpa using this
       .simp[execOp,resolve,aK,ki,Deferred.ofValue,invoke]
     |_=>rw[ki] at hf;cases hf
    .rename_i i first cap heq
     rw[heq] at hf;have hinv:∀ c,VRel ρ σ.n (.func (.yield i) first cap) c->∃ r,c=.func (.yield r) #[] #[]/\VRel ρ σ.n (.func (.yield i) #[] #[]) (.func (.yield r) #[] #[]):=by
      intro c h;cases h with
      |yield _ r hi hr=>exact⟨r,rfl,.yield i r hi hr⟩
     obtain⟨r,ki,hv⟩:=hinv _ hf;refine .inr ⟨i,r,_,c.args.map a.eval,h,hv,by simpa using has,fun w=>?_⟩;simp[execOp,resolve,aK,ki,Deferred.ofValue,invoke]
    .cases h
   all_goals
    repeat' first
     |(cases bm;done)
     |(simp at bm;subst bm;rcases aD with⟨f,bR,h⟩|⟨f,bR,h⟩<;>cases h;done)
     |split at bm
   all_goals
    simp only[Option.bind_eq_bind,Option.bind_eq_some_iff] at bm;obtain⟨_,_,_,_,bm⟩:=bm;split at bm<;>simp at bm;subst bm;rcases aD with⟨f,bR,h⟩|⟨f,bR,h⟩<;>cases h
  all_goals simp only[Op.operands] at aj bm
  all_goals
   repeat' first
    |(cases bm;done)
    |(simp at bm;subst bm;rcases aD with⟨f,bR,h⟩|⟨f,bR,h⟩<;>cases h;done)
    |split at bm
  all_goals simp only[Option.bind_eq_bind,Option.bind_eq_some_iff,reduceCtorEq,and_false,exists_false] at bm
  all_goals first
   |(obtain⟨_,_,bm⟩:=bm;simp at bm;subst bm;rcases aD with⟨f,bR,h⟩|⟨f,bR,h⟩<;>cases h;done)
   |(obtain⟨_,_,_,_,bm⟩:=bm;simp at bm;subst bm;rcases aD with⟨f,bR,h⟩|⟨f,bR,h⟩<;>cases h;done)
   |(obtain⟨_,_,_,_,_,_,bm⟩:=bm;simp at bm;subst bm;rcases aD with⟨f,bR,h⟩|⟨f,bR,h⟩<;>cases h;done)
   |(obtain⟨d,_,bm⟩:=bm;cases d<;>simp at bm<;>subst bm<;>rcases aD with⟨f,bR,h⟩|⟨f,bR,h⟩<;>cases h;done)
   |(obtain⟨_,_,_,_,bm⟩:=bm;split at bm<;>simp at bm;subst bm;rcases aD with⟨f,bR,h⟩|⟨f,bR,h⟩<;>cases h;done)
   |(obtain⟨_,_,bm⟩:=bm;split at bm<;>simp at bm;subst bm;rcases aD with⟨f,bR,h⟩|⟨f,bR,h⟩<;>cases h;done)
theorem Ut {o:Op}{vo:VOp}(h:YD P o=vo) (hv:vo≠.bad):KY P o=some vo\/∃ x,PU P o=some x/\vo=.ext x:=by
 unfold YD at h;split at h
 .rename_i v gx;subst h;exact .inl gx
 .split at h
  .rename_i x hx;exact .inr ⟨x,hx,h.symm⟩
  .exact absurd h.symm hv
theorem ES {o:Op}{x:XOp}(h:KY P o=some (.ext x)):False:=by
 unfold KY at h
 repeat' first
  |contradiction
  |(cases h;done)
  |(simp at h;done)
  |(rw[Option.bind_eq_bind,Option.bind_eq_some_iff] at h;obtain⟨_,_,h⟩:=h)
  |split at h
theorem TF {o:Op}{vo:VOp}(h:YD P o=vo) (hv:vo≠.bad) (c:Call):o≠.defer c:=by
 rintro rfl;rcases Ut h hv with h|⟨x,h,_⟩
 .unfold KY at h;split at h<;>simp at h
 .unfold PU at h;split at h<;>simp at h
theorem F8 {o:Oper}{x:Operand}(hc:PU P o.op=some (.nextMap x)) {ρ:Plc}{σ:Heap}{w:World}{env:Env}{ev:Operand->Value}(hH:HRel ρ σ w) (hE:∀ x,Js x=true->VRel ρ σ.n (Q4 env x) (ev x))
  {K:Value->Heap->Prop}(h:Q0l (Q4 env x) σ K):∃ c w',(execOp ev o).run P w=.ok (.value c) w'/\Got ρ σ w K c w':=by
 obtain⟨dst,op,ty,pos,after,guard⟩:=o;simp only at hc;unfold PU at hc;split at hc
 .cases hc
 rename_i aj;simp only[Bool.not_eq_true,Bool.not_eq_false'] at aj;have bL:op=.next x false:=by
  cases op
  case next y b=>cases b<;>simp at hc;subst hc;rfl
  all_goals
   simp only at hc
   repeat' first
    |contradiction
    |(obtain⟨_,h⟩:=I5 hc;cases h;done)
    |(cases hc;done)
    |(simp at hc;done)
    |(rw[Option.bind_eq_bind,Option.bind_eq_some_iff] at hc;obtain⟨_,_,hc⟩:=hc)
    |split at hc
 subst bL;clear hc;simp[Op.operands] at aj;have hx:=hE x aj;unfold Q0l at h;split at h
 .rename_i i bC;rw[bC] at hx;split at h
  .rename_i m since seen last hb;split at h
   .rename_i es clock wr aP;obtain⟨h1,hall,h2,h3⟩:=h;obtain⟨p,hp,⟨_,fa⟩,O,hO,rm,rfl,pw⟩:=hH.live i _ hb;obtain⟨q,entries,iw,dA,aF,aJ⟩:=JH hH aP pw;simp at iw;subst iw;obtain⟨_,_,cy⟩:=hx.ptr_inv hp;rw[fa,Nat.zero_add] at cy;have hU:(getObj p.blk).run P w=.ok (.mapIter (some q.blk) since seen.toArray last) w:=Qq hO (fun _ _ _ e=>by cases e);have dh:(getObj q.blk).run P w=.ok (.map entries clock) w:=Qq aF (fun _ _ _ e=>by cases e);let left:=entries.filter fun e=>!seen.toArray.contains e.born;let bG:=left.filter (·.born<since);let new:=left.filter (·.born>=since);let bM:Array (Option MapEntry):=(if bG.isEmpty then #[none] else #[])++(bG++new).map some;have dE:0<bM.size:=by
     by_cases ho:bG.isEmpty=true
     .simp only[bM,ho,if_true,Array.size_append];show 0<1+_;omega
     .have:bG.size≠0:=fun e=>ho (by simp[Array.isEmpty,e]);simp only[bM,Array.size_append,Array.size_map];omega
    obtain⟨k,w1,hk,eM,qv⟩:∃ k w1,k<bM.size/\(choose (.mapNext bM.size)).run P w=.ok k w1/\(w1=w\/w1=w.drew):=by
     rw[run_choose_drew];by_cases hf:(Question.mapNext bM.size).forced=true
     .exact⟨0,w,dE,by rw[if_pos hf],.inl rfl⟩
     .refine⟨_,w.drew,?_,by rw[if_neg hf],.inr rfl⟩;exact Nat.mod_lt _ dE
    have jc:HRel ρ σ w1:=by rcases qv with rfl|rfl;exact hH;exact hH.drew
    have fN:Ext ρ σ w ρ σ w1:=by rcases qv with rfl|rfl;exact Ext.refl _ _ _;exact Ext.drew _ _ _
    have uL:w1.heap[p.blk]?=some (.mapIter (some q.blk) since seen.toArray last):=by rcases qv with rfl|rfl<;>exact hO
    have ai:¬ ((!seen.toArray.isEmpty&&!entries.isEmpty&&entries.all (fun e=>decide (e.born>=last)))=true):=by
     intro hh;simp only[Bool.and_eq_true] at hh;obtain⟨⟨h4,h5⟩,h6⟩:=hh;simp only[Bool.or_eq_true] at h1;rcases h1 with (h1|h1)|h1
     .rw[List.isEmpty_iff] at h1;subst h1;simp at h4
     .rw[List.isEmpty_iff] at h1;subst h1;have:entries=#[]:=by have:=aJ.1;simpa using this
      subst this;simp at h5
     .obtain⟨kv,dz,ah⟩:=List.any_eq_true.1 h1;obtain⟨j,hj⟩:=List.mem_iff_getElem?.1 dz;have cC:j<entries.toList.length:=by rw[aJ.1];exact(List.getElem?_eq_some_iff.1 hj).1
      have he:=aJ.2 j entries.toList[j] kv (List.getElem?_eq_getElem cC) hj;have:=Array.all_eq_true'.1 h6 entries.toList[j] (by rw[<-Array.mem_toList_iff];exact List.getElem_mem cC);have h7:=he.2.1;simp at this ah;simp at h7;omega
    have aZ:∀ r,(match bM[k]? with
      |some (some e)=>(do setObj p.blk (.mapIter (some q.blk) since (seen.toArray.push e.born) clock);pure (Value.tuple #[.bool true,e.key,e.val]):Sem Value)
      |some none=>pure (.tuple #[.bool false])
      |none=>stuck "Next: no such candidate").run P w1=r->(Instr.next (ev x) false ty).run P w=r:=by
     intro r hr;rw[<-hr];simp only[Instr.next,cy,Sem.run_bind,hU,dh,Result.andThen_ok];rw[if_neg ai];simp only[Sem.run_bind];change ((choose (Question.mapNext bM.size)).run P w).andThen _=_;rw[eM];rfl
    have hval:∀ c w',(Instr.next (ev x) false ty).run P w=.ok c w'->(execOp ev ⟨dst,.next x false,ty,pos,after,guard⟩).run P w=.ok (.value c) w':=fun c w' h=>by simp[execOp,h]
    have ft:bM[k]?=some bM[k]:=Array.getElem?_eq_getElem hk;cases hx:bM[k] with
    |none =>
     rw[hx] at ft;have aS:none∈bM:=hx▸Array.getElem_mem hk;have hold:bG.isEmpty=true:=by
      cases ho:bG.isEmpty with
      |true=>rfl
      |false=>simp[bM,ho] at aS
     refine⟨_,w1,hval _ _ (aZ _ (by rw[ft];rfl)),_,ρ,σ,h2 ?_,VRel.tuple_of (LRel.cons (.bool _) (LRel.nil _ _)),jc,fN⟩;refine List.all_eq_true.2 fun kv dz=>?_;obtain⟨j,hj⟩:=List.mem_iff_getElem?.1 dz;have cC:j<entries.toList.length:=by rw[aJ.1];exact(List.getElem?_eq_some_iff.1 hj).1
     have he:=aJ.2 j entries.toList[j] kv (List.getElem?_eq_getElem cC) hj;cases uM:seen.contains kv.2.2 with
     |true=>rfl
     |false =>
      simp only[Bool.false_or,decide_eq_true_eq];rcases Nat.lt_or_ge kv.2.2 since with ah|bj
      .exfalso;have:entries.toList[j]∈bG:=by
        simp only[bG,left,Array.mem_filter,decide_eq_true_eq];refine⟨⟨by rw[<-Array.mem_toList_iff];exact List.getElem_mem cC,?_⟩,by rw[he.2.1];exact ah⟩;rw[he.2.1];simpa using uM
       rw[Array.isEmpty_iff] at hold;rw[hold] at this;simp at this
      .exact bj
    |some e =>
     rw[hx] at ft;have aS:some e∈bM:=hx▸Array.getElem_mem hk;have gL:e∈left:=by
      have h4:e∈bG++new:=by
       simp only[bM,Array.mem_append,Array.mem_map] at aS;rcases aS with aS|⟨a,ha,pn⟩
       .split at aS<;>simp at aS
       .simp at pn;subst pn;simpa using ha
      rcases Array.mem_append.1 h4 with h4|h4
      .exact(Array.mem_filter.1 h4).1
      .exact(Array.mem_filter.1 h4).1
     obtain⟨hel,mC⟩:=Array.mem_filter.1 gL;rw[<-Array.mem_toList_iff] at hel;obtain⟨j,hj⟩:=List.mem_iff_getElem?.1 hel;have cC:j<es.length:=by rw[<-aJ.1];exact(List.getElem?_eq_some_iff.1 hj).1
     have he:=aJ.2 j e es[j] hj (List.getElem?_eq_getElem cC);have jr:=h3 es[j] (List.getElem_mem cC) (by rw[<-he.2.1];simpa using mC);obtain⟨k1,k2⟩:=jc.setObj (o':=.iter m since (seen++[es[j].2.2]) clock) (O':=.mapIter (some q.blk) since (seen.toArray.push e.born) clock) hp hb ⟨q.blk,by rw[he.2.1];simp,pw⟩;have cM:VRel ρ σ.n es[j].1 e.key:=by rw[he.1];exact KA (List.all_eq_true.1 hall _ (List.getElem_mem cC))
     refine⟨_,_,hval _ _ (aZ _ (by
      rw[ft];simp only[Sem.run_bind,Qz uL (fun _ _ _ e=>by cases e),Result.andThen_ok,Sem.run_pure])),_,ρ,_,jr,VRel.tuple_of (LRel.cons (.bool _) (LRel.cons cM (LRel.cons he.2.2 (LRel.nil _ _)))),k1,fN.trans k2⟩
   .exact h.elim
  .exact h.elim
 .exact h.elim
theorem Q0o (hS:OkSpecs P S) {f:FuncId}{args:List Value}{σ:Heap}{K:Value->Heap->Prop}(h:vcall S f args σ K):VCalled P f args σ K:=by
 unfold vcall at h;split at h
 .rename_i s hs;exact hS.fn f s hs _ _ _ h
 .exact h.elim
theorem EM (hS:OkSpecs P S) {i:Nat}{args:List Value}{σ:Heap}{K:Value->Heap->Prop}(h:Ep S i args σ K):Pa P i args σ K:=by
 unfold Ep at h;split at h
 .rename_i s hs;exact hS.yl i s hs _ _ _ h
 .exact h.elim
theorem OI {o:Oper}{vo:VOp}(hc:YD P o.op=vo) {ρ:Plc}{σ:Heap}{w:World}{env:Env}{a:Act}(hH:HRel ρ σ w) (hL:LRel ρ σ.n env a.tmps.toList) {v:Value}{σ':Heap}
  (h:Q6 vo (Q4 env) σ=some (v,σ')):Rr P ρ σ w v σ' (execOp a.eval o):=by
 cases hq:vo.quiet with
 |false=>exact Q2q hc hq hH (fun x hx=>Xw hL hx) h
 |true =>obtain⟨rfl,c,eD,hr⟩:=Q07 hc hq hH (fun x hx=>Xw hL hx) h;exact⟨c,w,ρ,.inl (hr w (Like.refl ρ w)),eD,hH,Ext.refl _ _ _⟩
theorem KX (hS:OkSpecs P S) {ro:Option Nat}{n:Nat}{o:Oper}{vo:VOp}(bL:YD P o.op=vo) {ρ:Plc}{σ:Heap}{w:World}{env:Env}{a:Act}(hH:HRel ρ σ w) (hL:LRel ρ σ.n env a.tmps.toList)
  {K:Value->Heap->Prop}(h:vop S vo env σ K) {next:Act->World->Prop}{Q':Exit->Act->World->Prop}(hn:∀ c w',Got ρ σ w K c w'->next (a.put o.dst c) w'):o.wpIn (FF ro) n P a w next Q':=by
 refine⟨fun f _=>Fs _ _,?_⟩;have cH:vo≠.bad:=by rintro rfl;exact h.elim
 rw[Oper.semAt_eq _ _ _ (TF bL cH)];by_cases aD:(∃ f bR,vo=.callF f bR)\/(∃ f bR,vo=.callV f bR)
 .have hc:KY P o.op=some vo:=by
   rcases Ut bL cH with hc|⟨x,_,hx⟩
   .exact hc
   .subst hx;rcases aD with⟨f,bR,hh⟩|⟨f,bR,hh⟩<;>cases hh
  rcases Q1g (S:=S) hc hL aD h with⟨f,args,av,hv,m8,hr⟩|⟨i,r,args,av,hv,dU,m8,hr⟩
  .rcases Q0o hS hv ρ w av hH m8 with⟨h1,h2⟩|⟨c,hg,h2⟩
   .rw[hr,h1];exact⟨(fun hd=>by rw[RQ] at hd;cases hd),(E9 h2).mono fun e w' ⟨c,he,hg⟩=>by subst he;exact hn c w' hg⟩
   .rw[hr,h2 w (Like.refl ρ w)];exact hn c w hg
  .obtain⟨p,hp,fn,tmps,fv,body,h1,h2⟩:=EM hS hv ρ w av hH m8;have uN:r=p.blk:=by
    cases dU with
    |yield _ _ _ hh=>exact hh p hp
   rw[hr,uN,h1];exact⟨(fun hd=>by rw[RQ] at hd;cases hd),(Cp h2).mono fun e w' ⟨c,he,hg⟩=>by subst he;exact hn c w' hg⟩
 .by_cases eO:∃ x,vo=.ext (.nextMap x)
  .obtain⟨x,rfl⟩:=eO;have hc:PU P o.op=some (.nextMap x):=by
    rcases Ut bL cH with hc|⟨y,hy,hx⟩
    .have:=ES hc;exact this.elim
    .cases hx;exact hy
   obtain⟨c,w',hr,hg⟩:=F8 hc hH (fun x hx=>Xw hL hx) h;rw[hr];exact hn c w' hg
  .have ly:∃ v σ',Q6 vo (Q4 env) σ=some (v,σ')/\K v σ':=by
    unfold vop at h;split at h
    .exact absurd (.inl ⟨_,_,rfl⟩) aD
    .exact absurd (.inr ⟨_,_,rfl⟩) aD
    .exact absurd ⟨_,rfl⟩ eO
    .cases dV:Q6 vo (Q4 env) σ with
     |none=>rw[dV] at h;exact h.elim
     |some p=>rw[dV] at h;exact⟨p.1,p.2,rfl,h⟩
   obtain⟨v,σ',dV,hK⟩:=ly;obtain⟨c,w',ρ',aZ,eD,fP,hE⟩:=OI bL hH hL dV;have hg:Got ρ σ w K c w':=⟨v,ρ',σ',hK,eD,fP,hE⟩;rcases aZ with aZ|⟨aZ,rfl⟩
   .rw[aZ];exact hn c w' hg
   .rw[aZ];exact hn undef w' hg
def Mks (B:Nat) (ds:List Deferred) (w:World):Prop:=B<=w.heap.size/\∃ Ds:List Nat,ds=Ds.map (fun D=>⟨.collected D,#[]⟩)/\Ds.Nodup/\∀ D∈Ds,B<=D/\w.heap[D]?=some (.deferred (some []))
theorem Mks.nil {w:World}(h:B<=w.heap.size):Mks B [] w:=⟨h,[],rfl,List.nodup_nil,fun _ h=>by cases h⟩
theorem Mks.ext {ds:List Deferred}{ρ ρ':Plc}{σ σ':Heap}{w w':World}(h:Mks B ds w) (hH:HRel ρ σ w) (hE:Ext ρ σ w ρ' σ' w'):Mks B ds w':=by
 obtain⟨h0,Ds,h1,h2,h3⟩:=h;refine⟨Nat.le_trans h0 hE.size,Ds,h1,h2,fun D hD=>⟨(h3 D hD).1,?_⟩⟩;have hb:=(h3 D hD).2;have ah:D<w.heap.size:=by
  rcases Nat.lt_or_ge D w.heap.size with h'|h'
  .exact h'
  .rw[Array.getElem?_eq_none h'] at hb;cases hb
 rw[hE.keep D ah (fun ⟨i,p,b,hp,_,_,uO⟩=>hH.not_deferred hb i p hp uO)];exact hb
def DT (B m:Nat) (ρ:Plc) (σ:Heap) (w:World) (K:Env->Heap->Prop) (a':Act) (w':World):Prop :=
 ∃ af ρ' σ',K af σ'/\List.length af=m/\HRel ρ' σ' w'/\LRel ρ' σ'.n af a'.tmps.toList/\Mks B a'.defers w'/\Ext ρ σ w ρ' σ' w'
theorem FV (hS:OkSpecs P S) {ro:Option Nat}{n:Nat}(ops:Array Oper) (Q:Exit->Act->World->Prop):∀ (l:List Oper) (lv:List VOper),l.mapM (Zs P ops)=some lv ->
  ∀ (env:Env) (σ:Heap) (K:Env->Heap->Prop) (ρ:Plc) (w:World) (a:Act),Px S lv env σ K->HRel ρ σ w->LRel ρ σ.n env a.tmps.toList->Mks B a.defers w ->
  (∀ a' w',DT B (List.length env) ρ σ w K a' w'->Q .normal a' w')->wpListIn (FF ro) n P ops Q l a w:=by
 intro l;induction l with
 |nil =>intro lv bT env σ K ρ w a h hH hL hd hQ;simp at bT;subst bT;exact hQ a w ⟨env,ρ,σ,h,rfl,hH,hL,hd,Ext.refl _ _ _⟩
 |cons o l ih =>
  intro lv bT env σ K ρ w a h hH hL hd hQ;rw[List.mapM_cons] at bT;cases bm:Zs P ops o with
  |none=>simp[bm] at bT
  |some vo =>
   cases jC:l.mapM (Zs P ops) with
   |none=>simp[bm,jC] at bT
   |some su =>
    simp[bm,jC] at bT;subst bT;simp only[Px] at h;cases hw:Zo env vo.guard with
    |none=>rw[hw] at h;exact h.elim
    |some b =>
     rw[hw] at h;obtain⟨dB,bH,bL⟩:=MW bm hL hw;obtain⟨ht,hf⟩:=h;simp only[wpListIn];rw[dB];cases b with
     |false =>rw[if_neg (by simp)];exact⟨fun f _=>Fs _ _,ih su jC (Jv env vo.dst undef) σ K ρ w _ (hf rfl) hH (by rw[bH];exact Y2 hL ZY o.dst) (by rw[Ju];exact hd) (fun a' w' hn=>hQ a' w' (by rw[Zb] at hn;exact hn))⟩
     |true =>
      rw[if_pos rfl];refine KX hS bL hH hL (ht rfl) fun c w' ⟨v,ρ',σ',hK,eD,fP,hE⟩=>?_
      exact ih su jC (Jv env vo.dst v) σ' K ρ' w' _ hK fP (by rw[bH];exact Y2 (hE.lrel hL) eD o.dst) (by rw[Ju];exact hd.ext hH hE)
       (fun a' o9 ⟨nk,eU,aN,k1,k0,k2,k3,k4,k5⟩=>hQ a' o9 ⟨nk,eU,aN,k1,by rw[k0,Zb],k2,k3,k4,hE.trans k5⟩)
theorem Rm:∀ (l:List Nat) (vs:List Value) (env:Env),(JY l vs env).length=env.length:=by
 intro l;induction l with
 |nil=>intro vs env;cases vs<;>rfl
 |cons i l ih =>
  intro vs env;cases vs with
  |nil=>rfl
  |cons v vs=>simp only[JY];rw[ih];simp
theorem I1 {ρ:Plc}{n:Nat}:∀ (l:List Nat) (env base:Env) (cs:List Value),LRel ρ n env cs->LRel ρ n base cs->LRel ρ n (JY l (Bh l env) base) cs:=by
 intro l;induction l with
 |nil=>intro env base cs _ hb;exact hb
 |cons i l ih =>
  intro env base cs he hb;simp only[Bh,List.map_cons,JY];refine ih env _ cs he ?_;refine⟨by simp[hb.1],fun j v c hv hc=>?_⟩;by_cases ct:i=j
  .subst ct;rcases Nat.lt_or_ge i (List.length base) with ah|bj
   .rw[List.getElem?_set_self ah] at hv;obtain rfl:=osj hv;have b7:i<List.length env:=by rw[he.1,<-hb.1];exact ah
    have:env.getD i poison=env[i]:=by simp[List.getD,b7]
    rw[this];exact he.2 i _ c (List.getElem?_eq_getElem b7) hc
   .rw[List.getElem?_eq_none (by simp;exact bj)] at hv;cases hv
  .rw[List.getElem?_set_ne ct] at hv;exact hb.2 j v c hv hc
theorem F9 {ρ:Plc}{n:Nat}(cs:List Value) {m:Nat}(h:m=cs.length):LRel ρ n (List.replicate m poison) cs :=
 ⟨by simp[h],fun i v c hv _=>by
  have:=List.mem_of_getElem? hv;rw[List.mem_replicate] at this;rw[this.2];exact .poison c⟩
def RoRel (cY ro:Option Nat) (ρ:Plc) (n:Nat):Prop:=(cY=none/\ro=none)\/∃ i l,cY=some i/\ro=some l/\i<n/\∀ p,ρ i=some p->p.blk=l
theorem RoRel.ext {cY ro:Option Nat}{ρ ρ':Plc}{σ σ':Heap}{w w':World}(h:RoRel cY ro ρ σ.n) (hE:Ext ρ σ w ρ' σ' w'):RoRel cY ro ρ' σ'.n:=by
 rcases h with h|⟨i,l,h1,h2,h3,h4⟩
 .exact .inl h
 .exact .inr ⟨i,l,h1,h2,Nat.lt_of_lt_of_le h3 hE.n,fun p hp=>h4 p (hE.pl i h3 p hp)⟩
def Sound (P:Program) (S:VSpecs) (c:Code) (vc:VCode):Prop :=
 ∀ ⦃B:Nat⦄ (cY ro:Option Nat) (n:Nat) (Q:Exit->Env->Heap->Prop) (env:Env) (σ:Heap) (ρ:Plc) (w:World) (a:Act),vwp S vc cY Q env σ->HRel ρ σ w->LRel ρ σ.n env a.tmps.toList->Mks B a.defers w->RoRel cY ro ρ σ.n ->
  ∀ (Q':Exit->Act->World->Prop),(∀ e a' w',DT B (List.length env) ρ σ w (Q e) a' w'->Q' e a' w')->c.wpIn (FF ro) n P Q' a w
theorem Q0f {ρ:Plc}{n:Nat}:∀ (ps:List Nat) (vs cs:List Value) (env:Env) (tmps:Array Value),LRel ρ n env tmps.toList->LRel ρ n vs cs ->
  LRel ρ n (BZ env ps vs) ((ps.zip cs).foldl (fun (tmps:Array Value) (q:Nat×Value)=>tmps.setIfInBounds q.1 q.2) tmps).toList:=by
 intro ps;induction ps with
 |nil=>intro vs cs env tmps h _;cases vs<;>exact h
 |cons p ps ih =>
  intro vs cs env tmps h hv;cases vs with
  |nil =>
   cases cs with
   |nil=>exact h
   |cons _ _=>have:=hv.1;simp at this
  |cons v vs =>
   cases cs with
   |nil=>have:=hv.1;simp at this
   |cons c cs =>simp only[BZ,List.zip_cons_cons,List.foldl_cons];refine ih vs cs _ _ ?_ ⟨by have:=hv.1;simpa using this,fun i a b ha hb=>hv.2 (i+1) a b (by simpa using ha) (by simpa using hb)⟩;rw[Array.toList_setIfInBounds];exact h.set p (hv.2 0 v c rfl rfl)
theorem X0 {w:World}{l:Nat}{r:Loop}(h:w.heap[l]?=some (.loop r)):(Instr.getLoop l).run P w=.ok r w:=by simp[Instr.getLoop,Qq h (fun _ _ _ e=>by cases e)]
theorem U_ {ρ:Plc}{σ:Heap}{w:World}(hH:HRel ρ σ w) {i:Nat}{env:Env}{r:Loop}{st:LoopState}{pend:Option Code}{wr:Bool}(h:σ.get i=some (.obj (.lp env r st pend) wr)) :
  ∃ p,ρ i=some p/\w.heap[p.blk]?=some (.loop {r with state:=st,pending:=pend})/\LRel ρ σ.n env r.tmps.toList:=by
 obtain⟨p,hp,_,O,h1,rfl,h2⟩:=hH.live i _ h;exact⟨p,hp,h1,h2⟩
theorem SK {ρ:Plc}{σ:Heap}{w:World}(hH:HRel ρ σ w) {i:Nat}{env:Env}{r:Loop}{st:LoopState}{pend:Option Code}{p:Pl}(hp:ρ i=some p) (h:σ.get i=some (.obj (.lp env r st pend) true)) (mD:LoopState) (bV:Option Code) :
  HRel ρ (σ.upd i (.obj (.lp env r mD bV) true)) (P4 w p.blk (.loop {r with state:=mD,pending:=bV})) /\
  Ext ρ σ w ρ (σ.upd i (.obj (.lp env r mD bV) true)) (P4 w p.blk (.loop {r with state:=mD,pending:=bV})):=by
 obtain⟨p',bF,h1,h2⟩:=U_ hH h;exact hH.setObj hp h ⟨rfl,h2⟩
theorem Cq {fv body:Code}{va vb:VCode}(ha:Sound P S fv va) (hb:Sound P S body vb) (ps:List Nat) (env:Env) (r:Loop) (fQ:r.assign=fv) (dW:r.body=body) (jI:r.params.toList=ps) (i:Nat) :
  Kc P i (E8 (vwp S va (some i)) (vwp S vb (some i)) ps env r i):=by
 intro args σ K h ρ w av hH hL;obtain⟨h1,h2,h3⟩:=h;obtain⟨p,hp,aF,lz⟩:=U_ hH h1;refine⟨p,hp,r.fn,(r.params.zip av).foldl (fun tmps (t,a)=>tmps.setIfInBounds t a) r.tmps,r.assign,r.body,?_,?_⟩
 .have aE:av.size=r.params.size:=by
   have h4:=hL.1;have:r.params.size=ps.length:=by rw[<-jI];simp
   simp at h4;omega
  simp[Instr.yield,X0 aF,aE]
 .refine roundIn_of_wpIn (F:=Fence.wide) trivial ?_;rw[fQ,dW];refine ha (some i) (some p.blk) 0 _ _ σ ρ w _ h3 hH ?_ (Mks.nil (Nat.le_refl _)) (.inr ⟨i,p.blk,rfl,rfl,σ.lt h1,fun q hq=>by rw[hp] at hq;obtain rfl:=osj hq;rfl⟩) _ ?_
  .have:=Q0f ps args av.toList env r.tmps lz hL;rw[<-jI,<-Array.toList_zip,Array.foldl_toList] at this;rw[jI] at this;exact this
  .intro e a1 w1 ⟨bz,ρ1,σ1,k1,k0,k2,k3,k4,k5⟩;cases e with
   |normal =>
    obtain⟨k6,k7⟩:=k1;obtain⟨p1,gV,kj,sw⟩:=U_ k2 k6;have mw:p1=p:=by have:=k5.pl i (σ.lt h1) p1 gV;rw[hp] at this;exact(osj this).symm
    subst mw;obtain⟨j1,j2⟩:=SK k2 gV k6 .busy none;refine⟨_,by simp[Instr.beginRound,X0 kj,Qz kj (fun _ _ _ e=>by cases e)];rfl,?_⟩;refine hb (some i) (some p1.blk) 0 _ _ _ ρ1 _ a1 k7 j1 k3 (k4.ext k2 j2) (.inr ⟨i,p1.blk,rfl,rfl,σ1.lt k6,fun q hq=>by rw[gV] at hq;obtain rfl:=osj hq;rfl⟩) _ ?_;intro e2 a2 w2 ⟨aV,ρ2,σ2,m1,m0,m2,m3,m4,m5⟩;obtain⟨m6,m7⟩:=m1;obtain⟨p2,eg,eQ,sx⟩:=U_ m2 m6;have mw:p2=p1:=by have h8:=m5.pl i (by rw[Heap.upd_n];exact σ1.lt k6) p2 eg;rw[gV] at h8;exact(osj h8).symm
    subst mw;cases e2 with
    |normal =>obtain⟨q1,q2⟩:=SK m2 eg m6 .ready none;refine⟨.bool true,_,?_,_,rfl,.bool true,ρ2,_,m7,.bool _,q1,k5.trans (j2.trans (m5.trans q2))⟩;simp[Instr.endRound,X0 eQ,Qz eQ (fun _ _ _ e=>by cases e)]
    |ret =>obtain⟨q1,q2⟩:=SK m2 eg m6 .done (some .ret);refine⟨.bool false,_,?_,_,rfl,.bool false,ρ2,_,m7,.bool _,q1,k5.trans (j2.trans (m5.trans q2))⟩;simp[Instr.endRound,X0 eQ,Qz eQ (fun _ _ _ e=>by cases e)]
    |exit id =>obtain⟨q1,q2⟩:=SK m2 eg m6 .done (some (.exit id));refine⟨.bool false,_,?_,_,rfl,.bool false,ρ2,_,m7,.bool _,q1,k5.trans (j2.trans (m5.trans q2))⟩;simp[Instr.endRound,X0 eQ,Qz eQ (fun _ _ _ e=>by cases e)]
    |goto l=>exact m7.elim
    |panic ch=>exact m7.elim
    |outgrown=>exact m7.elim
   |exit id=>exact k1.elim
   |goto l=>exact k1.elim
   |ret=>exact k1.elim
   |panic ch=>exact k1.elim
   |outgrown=>exact k1.elim
theorem Heap.ext' {σ σ':Heap}(h:∀ j,σ.get j=σ'.get j) (hn:σ.n=σ'.n):σ=σ':=by obtain⟨g,n,wf⟩:=σ;obtain⟨g',n',wY⟩:=σ';have hg:g=g':=funext h;have mE:n=n':=hn;subst hg;subst mE;rfl
theorem Mks.push {ds:List Deferred}{w:World}(h:Mks B ds w):Mks B ({target:=.collected w.heap.size,args:=#[]}::ds) (w.alloc (.deferred (some []))):=by
 obtain⟨h0,Ds,h1,h2,h3⟩:=h;have ah:∀ D∈Ds,D<w.heap.size:=fun D hD=>by
  rcases Nat.lt_or_ge D w.heap.size with h'|h'
  .exact h'
  .have:=(h3 D hD).2;rw[Array.getElem?_eq_none h'] at this;cases this
 refine⟨by rw[World.size_alloc];omega,w.heap.size::Ds,by rw[h1];rfl,List.nodup_cons.2 ⟨fun hh=>Nat.lt_irrefl _ (ah _ hh),h2⟩,fun D hD=>?_⟩;rcases List.mem_cons.1 hD with rfl|hD
 .refine⟨h0,?_⟩;show (w.heap.push _)[w.heap.size]?=_;simp
 .refine⟨(h3 D hD).1,?_⟩;show (w.heap.push _)[D]?=_;rw[Array.getElem?_push,if_neg (by have:=ah D hD;omega)];exact(h3 D hD).2
theorem Ext.alloc_other {ρ:Plc}{σ:Heap}(w:World) (O:Obj):Ext ρ σ w ρ σ (w.alloc O) :=
 ⟨rfl,rfl,rfl,by have:=World.size_alloc w O;omega,fun B hB _=>by show (w.heap.push _)[B]?=_;rw[Array.getElem?_push,if_neg (by omega)],fun _ _ h=>h,Nat.le_refl _,fun _ _ _ h=>h⟩
theorem HRel.alloc_other {ρ:Plc}{σ:Heap}{w:World}(h:HRel ρ σ w) (O:Obj):HRel ρ σ (w.alloc O) :=
 h.world (by have:=World.size_alloc w O;omega) (fun i p hp=>by show (w.heap.push _)[p.blk]?=_;rw[Array.getElem?_push,if_neg (by have:=h.lt i p hp;omega)]) fun g cs hg=>by show (w.heap.push _)[g]?=_;rw[Array.getElem?_push,if_neg (by have:=h.tab.lt hg;omega)]
theorem CN {cY ro:Option Nat}{ρ:Plc}{σ:Heap}{w:World}{a:Act}{env:Env}(hH:HRel ρ σ w) (hL:LRel ρ σ.n env a.tmps.toList) (hd:Mks B a.defers w) (hR:RoRel cY ro ρ σ.n) (aQ:Z39 σ cY) (fn:FuncId) (ps:Array Nat) (fv body:Code) :
  ∃ (r:Loop) (mark:List Deferred) (w1:World) (ρ1:Plc),(Instr.enterLoop fn a.tmps ps fv body ro).run P w=.ok (w1.heap.size-1,mark) w1/\r.assign=fv/\r.body=body/\r.params=ps /\
   HRel ρ1 (σ.push (.obj (.lp env r .ready none) true)) w1/\Ext ρ σ w ρ1 (σ.push (.obj (.lp env r .ready none) true)) w1/\Mks B (mark++a.defers) w1 /\
   (∀ p,ρ1 σ.n=some p->p.blk=w1.heap.size-1):=by
 rcases hR with⟨rfl,rfl⟩|⟨i,l,rfl,rfl,hi,iB⟩
 .let w0:=w.alloc (.deferred (some []));have fw:HRel ρ σ w0:=hH.alloc_other _;have qw:Ext ρ σ w ρ σ w0:=Ext.alloc_other _ _;let r:Loop:={state:=.ready,pending:=none,fn,tmps:=a.tmps,params:=ps,assign:=fv,body:=body,defers:=w.heap.size};obtain⟨ρ1,h1,h2,h3⟩:=fw.newObj (.lp env r .ready none) (.loop r) ⟨rfl,hL⟩;have aE:(w0.alloc (.loop r)).heap.size-1=w0.heap.size:=by have:=World.size_alloc w0 (.loop r);omega
  refine⟨r,[{target:=.collected w.heap.size,args:=#[]}],w0.alloc (.loop r),ρ1,?_,rfl,rfl,rfl,h2,qw.trans h3,?_,fun p hp=>?_⟩
  .rw[aE];simp[Instr.enterLoop];exact⟨(World.size_alloc w _).symm,rfl⟩
  .exact(hd.push).ext fw h3
  .rw[h1] at hp;obtain rfl:=osj hp;rw[aE]
 .obtain⟨uP,r0,st,pend,hb⟩:=aQ;obtain⟨p,hp,aF,_⟩:=U_ hH hb;have aR:=iB p hp;subst aR;let r:Loop:={state:=.ready,pending:=none,fn,tmps:=a.tmps,params:=ps,assign:=fv,body:=body,defers:=r0.defers};obtain⟨ρ1,h1,h2,h3⟩:=hH.newObj (.lp env r .ready none) (.loop r) ⟨rfl,hL⟩;have aE:(w.alloc (.loop r)).heap.size-1=w.heap.size:=by have:=World.size_alloc w (.loop r);omega
  refine⟨r,[],w.alloc (.loop r),ρ1,?_,rfl,rfl,rfl,h2,h3,?_,fun p hp=>?_⟩
  .rw[aE];simp[Instr.enterLoop,X0 aF];rfl
  .exact hd.ext hH h3
  .rw[h1] at hp;obtain rfl:=osj hp;rw[aE]
theorem Cm (hS:OkSpecs P S) {fv body:Code}{va vb:VCode}(ha:Sound P S fv va) (hb:Sound P S body vb) (g:Operand) (hg:Js g=true) (ps:Array Nat):Sound P S (.rangeFunc g ps fv body) (.rangeF g ps.toList va vb):=by
 intro B cY ro n Q env σ ρ w a h hH hL hd hR Q' hQ;simp only[vwp,Ls] at h;have gW:=Xw hL hg;split at h
 .rename_i f first cap bj
  rw[bj] at gW;split at h
  .rename_i T hT;obtain⟨aQ,h⟩:=h;refine wpIn_rangeFunc fun fn _=>?_;obtain⟨r,mark,w1,ρ1,he,fQ,dW,jI,jc,fN,qx,eZ⟩:=CN (P:=P) hH hL hd hR aQ fn ps fv body;obtain⟨iC,nq⟩:=hS.it f T hT;obtain⟨gs,ds,mF,kZ,j6⟩:∃ gs ds,a.eval g=.func (.func f) gs ds/\LRel ρ σ.n first.toList gs.toList/\LRel ρ σ.n cap.toList ds.toList:=by
    cases mF:a.eval g with
    |func wZ gs ds =>
     rw[mF] at gW;cases gW with
     |func _ _ _ _ _ k1 k2 k3 k4=>exact⟨gs,ds,rfl,LRel.of_array k1 k3,LRel.of_array k2 k4⟩
    |_=>rw[mF] at gW;cases gW
   have hY:Kc P σ.n (E8 (vwp S va (some σ.n)) (vwp S vb (some σ.n)) ps.toList env r σ.n):=Cq ha hb ps.toList env r fQ dW (by rw[jI]) σ.n;have lA:=nq σ.n _ hY _ _ _ (h r) ρ1 w1 (gs++#[.func (.yield (w1.heap.size-1)) #[] #[]]++ds) jc (by
    have k1:=fN.lrel kZ;have k2:=fN.lrel j6;have k3:LRel ρ1 (σ.push (.obj (.lp env r .ready none) true)).n [.func (.yield σ.n) #[] #[]] [.func (.yield (w1.heap.size-1)) #[] #[]] :=
     LRel.cons (.yield _ _ (by simp) (fun p hp=>(eZ p hp).symm)) (LRel.nil _ _)
    have:=(k1.append k3).append k2;simpa using this)
   refine⟨w1.heap.size-1,mark,w1,{target:=.fn (.func f) ds,args:=gs++#[.func (.yield (w1.heap.size-1)) #[] #[]]},w1,f,gs++#[.func (.yield (w1.heap.size-1)) #[] #[]]++ds,w1,?_,?_,fun _ _=>Fs _ _,?_,(fun hh=>by rw[RQ] at hh;cases hh),?_⟩
   .rw[Q24];exact he
   .simp[resolve,mF,Deferred.ofValue];rfl
   .simp only[invoke];exact K1 iC _ _
   .refine (E9 lA).mono fun e w3 ⟨c,uQ,v,ρ3,σ3,k1,k2,k3,k4⟩=>?_;subst uQ;unfold Q1b at k1;split at k1
    .rename_i af r' st pend mX;obtain⟨bJ,k1⟩:=k1;obtain⟨p3,sy,iD,sA⟩:=U_ k3 mX;have aR:p3.blk=w1.heap.size-1:=eZ p3 (k4.pl σ.n (by simp) p3 sy);obtain⟨q1,q2⟩:=SK k3 sy mX .exhausted pend;rw[aR] at iD q1 q2;obtain⟨q3,q4⟩:=q1.kill σ.n;have fO:(σ3.upd σ.n (.obj (.lp af r' .exhausted pend) true)).kill σ.n=σ3.kill σ.n:=by
      apply Heap.ext'
      .intro j;by_cases hj:j=σ.n
       .subst hj;rw[Heap.get_kill_self,Heap.get_kill_self]
       .rw[Heap.get_kill_ne _ hj,Heap.get_kill_ne _ hj,Heap.get_upd_ne _ _ hj]
      .rfl
     rw[fO] at q3 q4;have kn:=fN.trans (k4.trans (q2.trans q4));have ez:=qx.ext jc (k4.trans (q2.trans q4));refine⟨pend,_,by simp[Instr.endLoop,X0 iD,Qz iD (fun _ _ _ e=>by cases e),bJ];rfl,?_⟩;have eO:∀ K:Env->Heap->Prop,K env (σ3.kill σ.n)->DT B (List.length env) ρ σ w K {a with defers:=mark++a.defers} (P4 w3 (w1.heap.size-1) (.loop {r' with state:=.exhausted,pending:=pend})):=fun K hK =>
      ⟨env,_,_,hK,rfl,q3,kn.lrel hL,ez,kn⟩
     cases pend with
     |none=>exact hQ _ _ _ (eO _ k1)
     |some c =>
      cases c with
      |ret=>exact wpIn_ret (hQ _ _ _ (eO _ k1))
      |exit id=>exact wpIn_exit (hQ _ _ _ (eO _ k1))
      |_=>exact k1.elim
    .exact k1.elim
  .exact h.elim
 .exact h.elim
end
end Go.V
namespace Go.V
open Go
theorem Wi {ev fR:Operand->Value}(x:Option Operand) (d:Nat) (h:∀ y∈x.toList,ev y=fR y):ZM ev x d=ZM fR x d:=by
 cases x with
 |none=>rfl
 |some y=>simp only[ZM];rw[h y (by simp)]
theorem I6 {o:XOp}{ev fR:Operand->Value}{σ:Heap}(h:∀ x∈o.opds,ev x=fR x):Z5 o ev σ=Z5 o fR σ:=by cases o<;>simp only[XOp.opds,List.mem_cons,List.not_mem_nil,or_false,forall_eq_or_imp,forall_eq] at h<;>simp only[Z5]<;>(try simp only[h])
theorem D4 {o:VOp}{ev fR:Operand->Value}{σ:Heap}(h:∀ x∈o.opds,ev x=fR x):Q6 o ev σ=Q6 o fR σ:=by
 cases o
 case build z ps =>
  have:(ps.map fun p=>(p.1,p.2.1,ev p.2.2))=ps.map fun p=>(p.1,p.2.1,fR p.2.2):=List.map_congr_left fun p hp=>by rw[h p.2.2 (List.mem_map.2 ⟨p,hp,rfl⟩)]
  simp only[Q6,this]
 case buildSlice e z n ps =>
  have:(ps.map fun p=>(p.1*e.sz,e.sz,ev p.2))=ps.map fun p=>(p.1*e.sz,e.sz,fR p.2):=List.map_congr_left fun p hp=>by rw[h p.2 (List.mem_map.2 ⟨p,hp,rfl⟩)]
  simp only[Q6,this]
 case makeFunc fn a b =>
  have h1:a.map ev=a.map fR:=List.map_congr_left fun x hx=>h x (List.mem_append_left _ hx);have h2:b.map ev=b.map fR:=List.map_congr_left fun x hx=>h x (List.mem_append_right _ hx);simp only[Q6,h1,h2]
 case slice size x lo hi mx =>
  have h1:=Wi lo 0 (fun y hy=>h y (by simp[VOp.opds] at *;exact .inr (.inl hy)));have h2:∀ n,ZM ev hi n=ZM fR hi n:=fun n=>Wi hi n (fun y hy=>h y (by simp[VOp.opds] at *;exact .inr (.inr (.inl hy))));have h3:=Wi mx 0 (fun y hy=>h y (by simp[VOp.opds] at *;exact .inr (.inr (.inr hy))));have h4:=h x (by simp[VOp.opds]);simp only[Q6,h4];cases fR x<;>simp only[h1,h2,h3]
 case sliceStr x lo hi =>
  have h1:=Wi lo 0 (fun y hy=>h y (by simp[VOp.opds] at *;exact .inr (.inl hy)));have h2:∀ n,ZM ev hi n=ZM fR hi n:=fun n=>Wi hi n (fun y hy=>h y (by simp[VOp.opds] at *;exact .inr (.inr hy)));have h4:=h x (by simp[VOp.opds]);simp only[Q6,h4];cases fR x<;>simp only[h1,h2]
 case ext o=>exact I6 h
 all_goals
  simp only[VOp.opds,List.mem_cons,List.not_mem_nil,or_false,forall_eq_or_imp,forall_eq] at h;simp only[Q6];try simp only[h]
theorem Sr {S:VSpecs}{o:VOp}{env af:Env}{σ:Heap}{K:Value->Heap->Prop}(h:∀ x∈o.opds,Q4 env x=Q4 af x):vop S o env σ K=vop S o af σ K:=by
 cases o
 case callF f bR =>
  have:bR.map (Q4 env)=bR.map (Q4 af):=List.map_congr_left h;simp only[vop,this]
 case callV f bR =>
  have h1:Q4 env f=Q4 af f:=h f (by simp[VOp.opds]);have h2:bR.map (Q4 env)=bR.map (Q4 af):=List.map_congr_left fun x hx=>h x (by simp[VOp.opds,hx]);simp only[vop,h1,h2]
 case ext o =>
  by_cases hx:∃ x,o=.nextMap x
  .obtain⟨x,rfl⟩:=hx;have h1:Q4 env x=Q4 af x:=h x (by simp[VOp.opds,XOp.opds]);simp only[vop,h1]
  .have e1:=D4 (σ:=σ) h;cases o<;>first|exact absurd ⟨_,rfl⟩ hx|(simp only[vop];rw[e1])
 all_goals
  have e1:=D4 (σ:=σ) h;simp only[vop];rw[e1]
theorem Heap.Le.refl (σ:Heap):σ.Le σ:=⟨Nat.le_refl _,fun _ _ h=>h⟩
theorem Heap.Le.trans {σ σ' aN:Heap}(h:σ.Le σ') (k:σ'.Le aN):σ.Le aN:=⟨Nat.le_trans h.1 k.1,fun i b hb=>k.2 i b (h.2 i b hb)⟩
theorem Z2a {σ σ':Heap}(h:σ.Le σ') {esz:Nat}{v:Value}{xs:List Value}(hx:σ.sl esz v=some xs):σ'.sl esz v=some xs:=by
 unfold Heap.sl at hx |-;split at hx
 .exact hx
 .rename_i i o n c;split at hx
  .rename_i cs e wr t hb;simp only[h.2 i _ hb];exact hx
  .cases hx
 .cases hx
theorem RU {σ σ':Heap}(h:σ.Le σ') {m:Nat}{x:List Jr×Nat×Bool}(hx:σ.mapAt m=some x):σ'.mapAt m=some x:=by
 unfold Heap.mapAt at hx |-;split at hx
 .rename_i es clock wr hb;simp only[h.2 m _ hb];exact hx
 .cases hx
theorem EA {σ σ':Heap}(h:σ.Le σ') {kd:Nat}{a b:Value}{r:Bool}(hx:ZA kd a b σ=some r):ZA kd a b σ'=some r:=by
 unfold ZA at hx |-
 split at hx<;>first
  |exact hx
  |(cases hx;done)
  |skip
 rename_i i o j q;split at hx
 .rename_i hc;obtain⟨h1,h2,h3⟩:=hc;obtain⟨b,hb⟩:=Option.isSome_iff_exists.1 h3;rw[if_pos ⟨h1,h2,by rw[h.2 _ _ hb];rfl⟩];exact hx
 .cases hx
theorem LJ {neg:Bool}{s:List MK}{x y:Operand}{ev:Operand->Value}{σ σ' σ1:Heap}{v:Value}(h:Z5 (.eqAgg neg s x y) ev σ=some (v,σ1)):Z5 (.eqAgg neg s x y) ev σ'=some (v,σ'):=by
 simp only[Z5] at h |-;split at h
 .split at h
  .rename_i hc;rw[if_pos hc];simp at h;obtain⟨rfl,_⟩:=h;rfl
  .cases h
 .cases h
theorem OH {o:XOp}{ev:Operand->Value}{σ σ' σ1:Heap}{v:Value}(hk:(VOp.ext o).kind≠2) (h:Z5 o ev σ=some (v,σ1)) (hl:σ.Le σ'):Z5 o ev σ'=some (v,σ'):=by
 cases o<;>simp only[VOp.kind,VOp.quiet,XOp.quiet] at hk<;>try (exact absurd rfl hk)
 case eqAgg neg s x y=>exact LJ h
 case eqNil kd neg x y =>
  simp only[Z5] at h |-;split at h
  .rename_i r hr;rw[EA hl hr];simp at h;obtain⟨rfl,_⟩:=h;rfl
  .cases h
 case lookup mk z ok x i =>
  simp only[Z5] at h |-;split at h
  .rename_i bS;rw[if_pos bS];split at h
   .simp at h;obtain⟨rfl,_⟩:=h;rfl
   .rename_i m w7;split at h
    .rename_i es clock wr hm;simp only[RU hl hm];split at h
     .rename_i hall;rw[if_pos hall];split at h<;>(rename_i hf;simp at h;obtain⟨rfl,_⟩:=h;rfl)
     .cases h
    .cases h
   .cases h
  .cases h
 case lenMap x =>
  simp only[Z5] at h |-;split at h
  .simp at h;obtain⟨rfl,_⟩:=h;rfl
  .split at h
   .rename_i es clock wr hm;simp only[RU hl hm];simp at h;obtain⟨rfl,_⟩:=h;rfl
   .cases h
  .cases h
 case entry x =>
  simp only[Z5] at h |-;split at h
  .rename_i i hx;split at h
   .rename_i m since seen last wr hb;simp only[hl.2 i _ hb];split at h
    .rename_i es clock lq b hm dS;simp only[RU hl hm,dS];split at h
     .rename_i cD;rw[if_pos cD];split at h
      .rename_i e hf;split at h
       .rename_i hp;rw[if_pos hp];simp at h;obtain⟨rfl,_⟩:=h;rfl
       .cases h
      .cases h
     .cases h
    .cases h
   .cases h
  .cases h
 case toUnsafe x =>
  simp only[Z5] at h |-;split at h
  .simp at h;obtain⟨rfl,_⟩:=h;rfl
  .rename_i i o hx;split at h
   .rename_i c e wr t hb;simp only[hl.2 i _ hb];split at h
    .rename_i hc;rw[if_pos hc];simp at h;obtain⟨rfl,_⟩:=h;rfl
    .cases h
   .cases h
  .cases h
 case fromUnsafe u sz x =>
  simp only[Z5] at h |-;split at h
  .simp at h;obtain⟨rfl,_⟩:=h;rfl
  .rename_i i o hx;split at h
   .rename_i c e hb;simp only[hl.2 i _ hb];split at h
    .rename_i hc;rw[if_pos hc];simp at h;obtain⟨rfl,_⟩:=h;rfl
    .cases h
   .cases h
  .cases h
 case sliceData x =>
  simp only[Z5] at h |-;split at h
  .simp at h;obtain⟨rfl,_⟩:=h;rfl
  .rename_i i o n cap hx;split at h
   .rename_i hc;obtain⟨h1,h2⟩:=hc;obtain⟨b,hb⟩:=Option.isSome_iff_exists.1 h2;rw[if_pos ⟨h1,by rw[hl.2 _ _ hb];rfl⟩];simp at h;obtain⟨rfl,_⟩:=h;rfl
   .cases h
  .cases h
 case bytesStr x =>
  simp only[Z5] at h |-;split at h
  .rename_i a n c hx;split at h
   .rename_i xs bh;simp only[Z2a hl bh];split at h
    .rename_i s hs;simp at h;obtain⟨rfl,_⟩:=h;rfl
    .cases h
   .cases h
  .cases h
theorem BB {o:VOp}{ev:Operand -> Value}{σ σ' σ1:Heap}{v:Value}(hk:o.kind = 0) (h:Q6 o ev σ = some (v, σ1)):Q6 o ev σ' = some (v, σ'):=by
  cases o
  case ext o =>
    cases o <;> first | (simp [VOp.kind, VOp.quiet, XOp.quiet] at hk; done) | skip
    case eqAgg neg s x y => exact LJ h
  case slice size x lo hi mx => cases mx <;> simp [VOp.kind, VOp.quiet] at hk
  case build z ps =>
    simp only [Q6] at h |-;split at h
    . simp at h; obtain ⟨rfl, _⟩:=h; rfl
    . cases h
  all_goals first
    | (simp [VOp.kind, VOp.quiet] at hk; done)
    | skip
  all_goals
    simp only [Q6] at h |-
    (repeat' split at h) <;> first
      | (cases h; done)
      | (rename_i qy; obtain ⟨rfl, rfl, rfl⟩:=qy; simp_all; done)
      | (simp_all; done)
      | (simp_all
         obtain ⟨rfl, _⟩:=h
         first
          | rw [if_neg (by omega)]
          | rw [if_pos (by omega)])
theorem Hi {o:VOp}{ev:Operand->Value}{σ σ' σ1:Heap}{v:Value}(hk:o.kind≠2) (h:Q6 o ev σ=some (v,σ1)) (hl:σ.Le σ'):Q6 o ev σ'=some (v,σ'):=by
 cases o
 case ext o=>exact OH hk h hl
 case load agg size a =>
  simp only[Q6] at h |-;split at h
  .split at h
   .split at h
    .rename_i hall;rw[if_pos hall];split at h
     .simp at h;obtain⟨rfl,_⟩:=h;rfl
     .cases h
    .cases h
   .cases h
  .rename_i i o hx;split at h
   .rename_i c e wr t hb;simp only[hl.2 i _ hb];split at h
    .rename_i u hu;simp at h;obtain⟨rfl,_⟩:=h;rfl
    .cases h
   .cases h
  .cases h
 case slice size x lo hi mx =>
  cases mx with
  |some m=>simp[VOp.kind,VOp.quiet] at hk
  |none =>
   simp only[Q6] at h |-;split at h
   .rename_i a n cap hx;split at h
    .rename_i l k eZ cF;unfold WQ at h |-;split at h
     .rename_i heq;split at h
      .rename_i hc;rw[if_pos hc];simp at h;obtain⟨rfl,_⟩:=h;rfl
      .cases h
     .rename_i i o n' aq heq;split at h
      .rename_i c e wr t hb;simp only[hl.2 i _ hb];simp only at h;split at h
       .rename_i hc;rw[if_pos hc];simp at h;obtain⟨rfl,_⟩:=h;rfl
       .cases h
      .cases h
     .cases h
    .rename_i hm;cases hm
    .cases h
   .cases h
 all_goals first
  |(exact absurd rfl hk)
  |(exact BB rfl h)
section
variable {P:Program}{S:VSpecs}{B:Nat}
def EL (lv:List VOper) (env:Env) (tr:Nat->Value) (A:Nat->Bool):Nat->Env
 |0=>env
 |i+1=>if A i then Jv (EL lv env tr A i) ((lv[i]?).bind (·.dst)) (tr i) else EL lv env tr A i
theorem YJ (lv:List VOper) (env:Env) (tr:Nat->Value) (A:Nat->Bool):∀ i,List.length (EL lv env tr A i)=List.length env
 |0=>rfl
 |i+1=>by
  simp only[EL];split
  .rw[Zb];exact YJ lv env tr A i
  .exact YJ lv env tr A i
theorem YY (lv:List VOper) (env:Env) {tr tr':Nat->Value}{A B:Nat->Bool}:∀ i,(∀ l,l<i->tr l=tr' l)->(∀ l,l<i->A l=B l)->EL lv env tr A i=EL lv env tr' B i
 |0,_,_=>rfl
 |i+1,h,h'=>by simp only[EL];rw[YY lv env i (fun l hl=>h l (by omega)) (fun l hl=>h' l (by omega)),h i (by omega),h' i (by omega)]
theorem Yz (env:Env) (d:Option Nat) (v:Value) {x:Nat}(h:d≠some x):(Jv env d v)[x]?=env[x]?:=by
 cases d with
 |none=>rfl
 |some d=>simp only[Jv];rw[List.getElem?_set_ne (by rintro rfl;exact h rfl)]
theorem Q9i (lv:List VOper) (env:Env) {tr tr':Nat->Value}{A:Nat->Bool}:∀ i,(∀ l,l<i->A l=true->tr l=tr' l)->EL lv env tr A i=EL lv env tr' A i
 |0,_=>rfl
 |i+1,h=>by
  simp only[EL];rw[Q9i lv env i fun l hl hA=>h l (by omega) hA];split
  .rename_i hA;rw[h i (by omega) hA]
  .rfl
theorem M9 (lv:List VOper) (env:Env) (tr:Nat->Value) {A B:Nat->Bool}(x:Nat):∀ i,(∀ l,l<i->(lv[l]?).bind (·.dst)=some x->A l=B l)->(EL lv env tr A i)[x]?=(EL lv env tr B i)[x]?
 |0,_=>rfl
 |i+1,h=>by
  have ih:=M9 lv env tr x i (fun l hl hd=>h l (by omega) hd);by_cases hd:(lv[i]?).bind (·.dst)=some x
  .have lB:=h i (by omega) hd;simp only[EL];rw[lB];split
   .rw[hd];simp only[Jv,List.getElem?_set];rw[YJ,YJ];rfl
   .exact ih
  .simp only[EL]
   split<;>split<;>first
    |exact ih
    |(rw[Yz _ _ _ hd];exact ih)
    |(rw[Yz _ _ _ hd,Yz _ _ _ hd];exact ih)
theorem G9 (lv:List VOper) (env:Env) (tr:Nat->Value) (j:Nat):∀ i,j<=i->EL lv env tr (fun l=>decide (l<j)) i=EL lv env tr (fun _=>true) j
 |0,h=>by
  obtain rfl:j=0:=by omega
  rfl
 |i+1,h=>by
  by_cases hj:j=i+1
  .subst hj;exact YY lv env _ (fun _ _=>rfl) (fun l hl=>by simp[hl])
  .simp only[EL];rw[if_neg (by simp;omega)];exact G9 lv env tr j i (by omega)
def DFact (S:VSpecs) (d:DInfo) (lv:List VOper) (env:Env) (tr:Nat->Value) (hp:Nat->Heap) (u:Nat) (i:Nat):Prop :=
 ∀ v,lv[i]?=some v->∃ b,Zo (EL lv env tr (fun _=>true) i) v.guard=some b /\
  (b=true->v.op.kind=2->vop S v.op (EL lv env tr (fun _=>true) i) (hp (d.rank i)) (fun v' σ'=>v'=tr i/\σ'=hp (d.rank i+1))) /\
  (b=true->v.op.kind=1->∀ r,d.kmin i<=r->r<=d.kmax i->r<=u->∃ σ',Q6 v.op (Q4 (EL lv env tr (fun _=>true) i)) (hp r)=some (tr i,σ')) /\
  (b=true->v.op.kind≠1->v.op.kind≠2->∃ σ',Q6 v.op (Q4 (EL lv env tr (fun _=>true) i)) (hp (d.rank i))=some (tr i,σ')) /\
  (b=false->tr i=undef/\(v.op.kind=2->hp (d.rank i+1)=hp (d.rank i)))
def Q9c (d:DInfo) (lv:List VOper) (env:Env) (tr:Nat->Value) (i:Nat) (pend:List (Nat×(Heap->Prop))):Prop :=
 ∀ l,l<i->∀ v,lv[l]?=some v->Zo (EL lv env tr (fun _=>true) l) v.guard=some true->v.op.kind=1->d.rank i+1<=d.kmax l->(d.kmax l,Jh v.op (Q4 (EL lv env tr (fun _=>true) l)) (tr l))∈pend
inductive Know (S:VSpecs) (d:DInfo) (lv:List VOper) (env:Env) (K:Env->Heap->Prop):List Nat->Nat->(Nat->Value)->(Nat->Heap)->Prop
 |full {nd:List Nat}{tr:Nat->Value}{hp:Nat->Heap}(hF:∀ l,l<lv.length->l∉nd->DFact S d lv env tr hp (d.rank lv.length) l) (hK:K (EL lv env tr (fun _=>true) lv.length) (hp (d.rank lv.length))):Know S d lv env K nd lv.length tr hp
 |part {nd:List Nat}{i:Nat}{tr:Nat->Value}{hp:Nat->Heap}{v:VOper}(hv:lv[i]?=some v) (hk:v.op.kind=2) (hw:Zo (EL lv env tr (fun _=>true) i) v.guard=some true)
   (hF:∀ l,l<i->l∉nd->DFact S d lv env tr hp (d.rank i) l) (kp:∀ j,i<j->j<lv.length->∃ e u,i<=e/\e<j/\lv[e]?=some u/\((∃ x,u.dst=some x/\∀ v,lv[j]?=some v->x∈YR v)\/(u.op.kind=2/\∀ v,lv[j]?=some v->v.op.kind=2)))
   (R:Value->Heap->Prop) (gb:vop S v.op (EL lv env tr (fun _=>true) i) (hp (d.rank i)) R)
   (I:∀ u σ',R u σ'->Nat) (T:∀ u σ',R u σ'->Nat->Value) (H:∀ u σ',R u σ'->Nat->Heap)
   (hT:∀ u σ' h,i<I u σ' h/\(∀ l,l<i->T u σ' h l=tr l)/\T u σ' h i=u/\(∀ r,r<=d.rank i->H u σ' h r=hp r)/\H u σ' h (d.rank i+1)=σ')
   (next:∀ u σ' h,Know S d lv env K (i::nd) (I u σ' h) (T u σ' h) (H u σ' h)):Know S d lv env K nd i tr hp
theorem Sp {r:Nat}{σ:Heap}:∀ {l:List (Nat×(Heap->Prop))},Jj r σ l->∀ c∈l,r<=c.1->c.2 σ
 |[],_,_,h=>by cases h
 |x::l,h,c,hc=>by
  rcases List.mem_cons.1 hc with rfl|hc
  .exact h.1
  .exact Sp h.2 c hc
theorem BC {op:VOp}{ev:Operand->Value}{v:Value}{τ:Heap}(h:Jh op ev v τ):∃ σ',Q6 op ev τ=some (v,σ'):=by
 unfold Jh at h;cases hv:Q6 op ev τ with
 |none=>rw[hv] at h;exact h.elim
 |some q =>rw[hv] at h;have h:q.1=v:=h;exact⟨q.2,by rw[<-h]⟩
theorem DFact.congr {d:DInfo}{lv:List VOper}{env:Env}{tr tr':Nat->Value}{hp bF:Nat->Heap}{u u' l:Nat}(h:DFact S d lv env tr hp u l) (ht:∀ k,k<=l->tr' k=tr k) (hh:∀ r,r<=u->bF r=hp r) (hr:d.rank l<=u) (h2:∀ v,lv[l]?=some v->v.op.kind=2->d.rank l+1<=u)
  (hu:∀ v,lv[l]?=some v->Zo (EL lv env tr (fun _=>true) l) v.guard=some true->v.op.kind=1->∀ r,u<r->r<=u'->r<=d.kmax l->∃ σ',Q6 v.op (Q4 (EL lv env tr (fun _=>true) l)) (bF r)=some (tr l,σ')):DFact S d lv env tr' bF u' l:=by
 intro v hv;obtain⟨b,f1,f2,f3,f4,f5⟩:=h v hv;have e:=YY lv env (tr:=tr') (tr':=tr) (A:=fun _=>true) (B:=fun _=>true) l (fun k hk=>ht k (by omega)) (fun _ _=>rfl);rw[e,ht l (Nat.le_refl _),hh _ hr];refine⟨b,f1,fun hb hk=>?_,fun hb hk r r1 r2 r3=>?_,f4,fun hb=>⟨(f5 hb).1,fun hk=>?_⟩⟩
 .rw[hh _ (h2 v hv hk)];exact f2 hb hk
 .rcases Nat.lt_or_ge u r with ah|bj
  .subst hb;exact hu v hv f1 hk r ah r3 r2
  .rw[hh r bj];exact f3 hb hk r r1 r2 bj
 .rw[hh _ (h2 v hv hk)];exact(f5 hb).2 hk
theorem Tr:∀ (d:DInfo) (rest:List VOper) (i:Nat) (xs:List Nat),waits xs (d.opers rest i)=true->∀ (k:Nat) (v:VOper),rest[k]?=some v->v.op.kind=2\/(∃ x∈xs,x∈YR v)\/∃ (e:Nat) (u:VOper) (x:Nat),e<k/\rest[e]?=some u/\u.dst=some x/\x∈YR v
 |d,[],i,xs,_,k,v,hv=>by simp at hv
 |d,o::rest,i,xs,h,k,v,hv=>by
  simp only[DInfo.opers,waits,Bool.and_eq_true,Bool.or_eq_true,List.any_eq_true,beq_iff_eq] at h;obtain⟨h1,h2⟩:=h;cases k with
  |zero =>
   obtain rfl:o=v:=by simpa using hv
   rcases h1 with h1|⟨x,hx,bh⟩
   .exact .inl h1
   refine .inr (.inl ⟨x,by simpa using bh,?_⟩);simp only[YR,List.mem_append] at hx |-;rcases hx with hx|hx
   .exact .inl (.inr hx)
   .exact .inr hx
  |succ k =>
   rcases Tr d rest (i+1) _ h2 k v (by simpa using hv) with h3|⟨y,hy,sB⟩|⟨e,u,y,he,hu,hd,hn⟩
   .exact .inl h3
   .rcases List.mem_append.1 hy with hy|hy
    .exact .inr (.inr ⟨0,o,y,by omega,rfl,by simpa using hy,sB⟩)
    .exact .inr (.inl ⟨y,hy,sB⟩)
   .exact .inr (.inr ⟨e+1,u,y,by omega,by simpa using hu,hd,hn⟩)
theorem LP (d:DInfo) {i j:Nat}(h:i<=j):d.rank i<=d.rank j:=by
 induction j with
 |zero =>
  obtain rfl:i=0:=by omega
  exact Nat.le_refl _
 |succ j ih =>
  by_cases ct:i=j+1
  .subst ct;exact Nat.le_refl _
  .have:=ih (by omega);simp only[DInfo.rank];split<;>omega
theorem Q9z (d:DInfo) (lv:List VOper) (ku:∀ i v,lv[i]?=some v->d.k i=v.op.kind) (env:Env) (K:Env->Heap->Prop):∀ (rest:List VOper) (i:Nat),i<=lv.length->lv.drop i=rest->∀ (nd:List Nat) (tp:Nat->Value) (hq:Nat->Heap) (pend:List (Nat×(Heap->Prop))),
  (∀ l,l<i->l∉nd->DFact S d lv env tp hq (d.rank i) l)->Q9c d lv env tp i pend ->
  Z8 S (d.opers rest i) (EL lv env tp (fun _=>true) i) ((List.range (d.rank i+1)).map hq) (hq (d.rank i)) pend K ->
  ∃ k tr hp,i<=k/\(∀ l,l<i->tr l=tp l)/\(∀ r,r<=d.rank i->hp r=hq r)/\Know S d lv env K nd k tr hp:=by
 intro rest;induction rest with
 |nil =>
  intro i iB hi nd tp hq pend hF hP h;have hl:lv.length<=i:=by simpa using hi
  obtain rfl:i=lv.length:=by omega
  simp only[DInfo.opers,Z8] at h;exact⟨_,tp,hq,Nat.le_refl _,fun _ _=>rfl,fun _ _=>rfl,.full hF h⟩
 |cons v rest ih =>
  intro i iB hi nd tp hq pend hF hP h;have ah:i<lv.length:=by
   rcases Nat.lt_or_ge i lv.length with h'|h'
   .exact h'
   .rw[List.drop_eq_nil_of_le h'] at hi;cases hi
  have hv:lv[i]?=some v:=by have:=congrArg List.head? hi;rw[List.head?_drop] at this;simpa using this
  have dX:lv.drop (i+1)=rest:=by have:=congrArg List.tail hi;simpa using this
  have hk:=ku i v hv;have fQ:v.op.kind=2->d.rank (i+1)=d.rank i+1:=fun e=>by simp only[DInfo.rank,hk,e,if_true]
  have gH:v.op.kind≠2->d.rank (i+1)=d.rank i:=fun e=>by simp only[DInfo.rank,hk,e,if_false]
  have ga:∀ l,l<i->d.rank l<=d.rank i/\∀ w,lv[l]?=some w->w.op.kind=2->d.rank l+1<=d.rank i:=fun l hl=>by have h1:=LP d (show l+1<=i by omega);refine⟨by simp only[DInfo.rank] at h1;split at h1<;>omega,fun w hw h2=>?_⟩;simp only[DInfo.rank,ku l w hw,h2,if_true] at h1;exact h1
  simp only[DInfo.opers,Z8] at h;have hlen:((List.range (d.rank i+1)).map hq).length=d.rank i+1:=by simp
  cases hw:Zo (EL lv env tp (fun _=>true) i) v.guard with
  |none=>rw[hw] at h;exact h.elim
  |some b =>
   rw[hw] at h;obtain⟨ht,hf⟩:=h
   have go:∀ (ji:List Nat) (u:Value) (σ':Heap) (bV:List (Nat×(Heap->Prop))),(∀ l,l∈nd->l∈ji) ->
     Z8 S (d.opers rest (i+1)) (Jv (EL lv env tp (fun _=>true) i) v.dst u) (if v.op.kind=2 then (List.range (d.rank i+1)).map hq++[σ'] else (List.range (d.rank i+1)).map hq) (if v.op.kind=2 then σ' else hq (d.rank i)) bV K ->
     (v.op.kind=2->Jj (d.rank i+1) σ' pend)->(∀ c∈pend,c∈bV) ->
     (b=true->v.op.kind=1->d.rank i+1<=d.kmax i->(d.kmax i,Jh v.op (Q4 (EL lv env tp (fun _=>true) i)) u)∈bV) ->
     (i∉ji->∀ tr hp,(∀ l,l<i->tr l=tp l)->tr i=u->(∀ r,r<=d.rank i->hp r=hq r)->(v.op.kind=2->hp (d.rank i+1)=σ')->DFact S d lv env tr hp (d.rank (i+1)) i) ->
     ∃ k tr hp,i<k/\(∀ l,l<i->tr l=tp l)/\tr i=u/\(∀ r,r<=d.rank i->hp r=hq r)/\(v.op.kind=2->hp (d.rank i+1)=σ')/\Know S d lv env K ji k tr hp:=by
    intro ji u σ' bV jJ h ky gd jj nr;let hZ:Nat->Value:=fun l=>if l=i then u else tp l
    let dA:Nat->Heap:=fun r=>if v.op.kind=2/\r=d.rank i+1 then σ' else hq r
    have et:∀ l,l<i->hZ l=tp l:=fun l hl=>by simp[hZ];intro e;omega
    have ei:hZ i=u:=by simp[hZ]
    have eh:∀ r,r<=d.rank i->dA r=hq r:=fun r hr=>by simp only[dA];rw[if_neg (by omega)]
    have qz:v.op.kind=2->dA (d.rank i+1)=σ':=fun au=>by simp[dA,au]
    have e1:EL lv env hZ (fun _=>true) (i+1)=Jv (EL lv env tp (fun _=>true) i) v.dst u:=by simp only[EL,if_true];rw[YY lv env (tr:=hZ) (tr':=tp) i et (fun _ _=>rfl),hv,ei];rfl
    have e2:(List.range (d.rank (i+1)+1)).map dA=if v.op.kind=2 then (List.range (d.rank i+1)).map hq++[σ'] else (List.range (d.rank i+1)).map hq:=by
     simp only[DInfo.rank,hk];split
     .rename_i au;rw[List.range_succ,List.map_append];congr 1
      .exact List.map_congr_left fun r hr=>eh r (by have:=List.mem_range.1 hr;omega)
      .simp[dA,au]
     .rename_i au;exact List.map_congr_left fun r hr=>by simp[dA,au]
    have e3:dA (d.rank (i+1))=if v.op.kind=2 then σ' else hq (d.rank i):=by simp only[DInfo.rank,hk];split<;>rename_i au<;>simp[dA,au]
    have uR:∀ l,l<i+1->l∉ji->DFact S d lv env hZ dA (d.rank (i+1)) l:=fun l hl gf=>by
     by_cases iE:l=i
     .subst iE;exact nr gf hZ dA et ei eh qz
     .have iE:l<i:=by omega
      refine (hF l iE fun h=>gf (jJ l h)).congr (fun k hk=>et k (by omega)) eh (ga l iE).1 (ga l iE).2 fun w dg lC aL r r1 r2 r3=>?_;by_cases au:v.op.kind=2
      .rw[fQ au] at r2;obtain rfl:r=d.rank i+1:=by omega
       rw[qz au];exact BC (Sp (ky au) _ (hP l iE w dg lC aL (by omega)) (by simpa using r3))
      .rw[gH au] at r2;omega
    have uS:Q9c d lv env hZ (i+1) bV:=fun l hl w dg lC aL py=>by
     by_cases iE:l=i
     .subst iE;rw[hv] at dg;obtain rfl:=osj dg;have e:=YY lv env (tr:=hZ) (tr':=tp) (A:=fun _=>true) (B:=fun _=>true) l et (fun _ _=>rfl);rw[e] at lC |-;rw[hw] at lC;obtain rfl:b=true:=by simpa using lC
      rw[ei];exact jj rfl aL (by rw[gH (by omega)] at py;exact py)
     .have iE:l<i:=by omega
      have e:=YY lv env (tr:=hZ) (tr':=tp) (A:=fun _=>true) (B:=fun _=>true) l (fun k hk=>et k (by omega)) (fun _ _=>rfl);rw[e] at lC |-;rw[et l iE];have hle:d.rank i<=d.rank (i+1):=by simp only[DInfo.rank];split<;>omega
      exact gd _ (hP l iE w dg lC aL (by omega))
    obtain⟨k,tr,hp,k0,k1,k2,k3⟩:=ih (i+1) (by omega) dX ji hZ dA bV uR uS (by rw[e1,e2,e3];exact h);have hle:d.rank i<=d.rank (i+1):=by simp only[DInfo.rank];split<;>omega
    exact⟨k,tr,hp,by omega,fun l hl=>by rw[k1 l (by omega),et l hl],by rw[k1 i (by omega),ei],fun r hr=>by rw[k2 r (by omega),eh r hr],fun au=>by rw[k2 _ (by rw[fQ au];exact Nat.le_refl _),qz au],k3⟩
   have weak:∀ {ji:List Nat}{u:Value}{σ':Heap},(∃ k tr hp,i<k/\(∀ l,l<i->tr l=tp l)/\tr i=u/\(∀ r,r<=d.rank i->hp r=hq r)/\(v.op.kind=2->hp (d.rank i+1)=σ')/\Know S d lv env K ji k tr hp)->∃ k tr hp,i<=k/\(∀ l,l<i->tr l=tp l)/\(∀ r,r<=d.rank i->hp r=hq r)/\Know S d lv env K ji k tr hp:=by rintro ji u σ' ⟨k,tr,hp,h0,h1,_,h2,_,h3⟩;exact⟨k,tr,hp,by omega,h1,h2,h3⟩
   have fact:∀ {u:Value}{σ':Heap},(b=true->v.op.kind=1->∀ r,d.kmin i<=r->r<=d.rank i->Jh v.op (Q4 (EL lv env tp (fun _=>true) i)) u (hq r))->(b=true->v.op.kind≠1->v.op.kind≠2->∃ aN,Q6 v.op (Q4 (EL lv env tp (fun _=>true) i)) (hq (d.rank i))=some (u,aN))->(b=false->u=undef/\(v.op.kind=2->σ'=hq (d.rank i)))->(b=true->v.op.kind=2->vop S v.op (EL lv env tp (fun _=>true) i) (hq (d.rank i)) (fun v' aN=>v'=u/\aN=σ')) ->
     ∀ tr hp,(∀ l,l<i->tr l=tp l)->tr i=u->(∀ r,r<=d.rank i->hp r=hq r)->(v.op.kind=2->hp (d.rank i+1)=σ')->DFact S d lv env tr hp (d.rank (i+1)) i:=by
    intro u σ' g1 g2 g3 k5 tr hp k1 k2 k3 k4 v' gx;rw[hv] at gx;obtain rfl:=osj gx;have e:=YY lv env (tr:=tr) (tr':=tp) (A:=fun _=>true) (B:=fun _=>true) i k1 (fun _ _=>rfl);rw[e,k2,k3 _ (Nat.le_refl _)];refine⟨b,hw,fun hb au=>by rw[k4 au];exact k5 hb au,fun hb aL r r1 r2 r3=>?_,g2,fun hb=>⟨(g3 hb).1,fun au=>by rw[k4 au];exact(g3 hb).2 au⟩⟩;rw[gH (by omega)] at r3;rw[k3 r r3];exact BC (g1 hb aL r r1 r3)
   cases b with
   |false =>
    have hf:=hf rfl;by_cases au:v.op.kind=2
    .rw[if_pos au] at hf;obtain⟨gV,hf⟩:=hf;exact weak (go nd undef (hq (d.rank i)) pend (fun _ h=>h) (by rw[if_pos au,ite_self];exact hf) (fun _=>by rw[hlen] at gV;exact gV) (fun _ h=>h) (fun h=>by cases h) (fun _=>fact (fun h=>by cases h) (fun h=>by cases h) (fun _=>⟨rfl,fun _=>rfl⟩) (fun h=>by cases h)))
    .rw[if_neg au] at hf;exact weak (go nd undef (hq (d.rank i)) pend (fun _ h=>h) (by rw[if_neg au,ite_self];exact hf) (fun h=>absurd h au) (fun _ h=>h) (fun h=>by cases h) (fun _=>fact (fun h=>by cases h) (fun h=>by cases h) (fun _=>⟨rfl,fun _=>rfl⟩) (fun h=>by cases h)))
   |true =>
    have ht:=ht rfl;by_cases au:v.op.kind=2
    .rw[if_pos au] at ht;rw[hlen] at ht;rcases ht with⟨u,σ',h1,h2,h3⟩|⟨gX,gb⟩
     .exact weak (go nd u σ' pend (fun _ h=>h) (by rw[if_pos au,if_pos au];exact h3) (fun _=>h2) (fun _ h=>h) (fun _ hk=>by omega) (fun _=>fact (fun _ hk=>by omega) (fun _ _ hk=>absurd au hk) (fun h=>by cases h) (fun _ _=>h1)))
     .have nx:∀ u σ',(Jj (d.rank i+1) σ' pend/\Z8 S (d.opers rest (i+1)) (Jv (EL lv env tp (fun _=>true) i) v.dst u) ((List.range (d.rank i+1)).map hq++[σ']) σ' pend K) ->
        ∃ k tr hp,i<k/\(∀ l,l<i->tr l=tp l)/\tr i=u/\(∀ r,r<=d.rank i->hp r=hq r)/\(v.op.kind=2->hp (d.rank i+1)=σ')/\Know S d lv env K (i::nd) k tr hp:=fun u σ' ⟨h2,h3⟩ =>
       go (i::nd) u σ' pend (fun _ h=>List.mem_cons_of_mem _ h) (by rw[if_pos au,if_pos au];exact h3) (fun _=>h2) (fun _ h=>h) (fun _ hk=>by omega) (fun h=>absurd List.mem_cons_self h)
      refine⟨i,tp,hq,Nat.le_refl _,fun _ _=>rfl,fun _ _=>rfl,.part hv au hw hF (fun j hj a_=>?_) _ gb (fun u σ' h=>(nx u σ' h).choose) (fun u σ' h=>(nx u σ' h).choose_spec.choose) (fun u σ' h=>(nx u σ' h).choose_spec.choose_spec.choose) (fun u σ' h=>?_) (fun u σ' h=>?_)⟩
      .obtain⟨n,hn⟩:∃ n,j=i+1+n:=⟨j-(i+1),by omega⟩;subst hn;have uT:∀ k w,lv[i+1+k]?=some w->rest[k]?=some w:=fun k w dg=>by
        rw[<-dX,List.getElem?_drop];exact dg
       have qA:∀ k w,rest[k]?=some w->lv[i+1+k]?=some w:=fun k w dg=>by rw[<-dX,List.getElem?_drop] at dg;exact dg
       have pz:=List.getElem?_eq_getElem a_;rcases Tr d rest (i+1) _ gX n _ (uT n _ pz) with pA|⟨x,hx,jK⟩|⟨e,u,x,he,hu,hd,jK⟩
       .exact⟨i,v,Nat.le_refl _,by omega,hv,.inr ⟨au,fun w dg=>by rw[pz] at dg;obtain rfl:=osj dg;exact pA⟩⟩
       .exact⟨i,v,Nat.le_refl _,by omega,hv,.inl ⟨x,by simpa using hx,fun w dg=>by rw[pz] at dg;obtain rfl:=osj dg;exact jK⟩⟩
       .exact⟨i+1+e,u,by omega,by omega,qA e u hu,.inl ⟨x,hd,fun w dg=>by rw[pz] at dg;obtain rfl:=osj dg;exact jK⟩⟩
      .obtain⟨q1,q2,q3,q4,q5,_⟩:=(nx u σ' h).choose_spec.choose_spec.choose_spec;exact⟨q1,q2,q3,q4,q5 au⟩
      .exact(nx u σ' h).choose_spec.choose_spec.choose_spec.2.2.2.2.2
    .rw[if_neg au] at ht;by_cases aL:v.op.kind=1
     .rw[if_pos aL] at ht;cases dV:Q6 v.op (Q4 (EL lv env tp (fun _=>true) i)) (hq (d.rank i)) with
      |none=>rw[dV] at ht;exact ht.elim
      |some p =>
       rw[dV] at ht;obtain⟨g1,g2⟩:=ht;refine weak (go nd p.1 (hq (d.rank i)) _ (fun _ h=>h) (by rw[if_neg au,ite_self];exact g2) (fun h=>absurd h au) (fun c hc=>?_) (fun _ _ hr=>?_) (fun _=>fact (fun _ _ r uU uV=>?_) (fun _ hk=>absurd aL hk) (fun h=>by cases h) (fun _ hk=>absurd hk au)))
       .split
        .exact List.mem_cons_of_mem _ hc
        .exact hc
       .rw[if_pos (by rw[hlen];exact hr)];simp
       .refine g1 _ ?_;rw[List.mem_iff_getElem?];refine⟨r-d.kmin i,?_⟩;rw[List.getElem?_drop,List.getElem?_map,List.getElem?_range (by omega)];simp;congr 1;omega
     .rw[if_neg aL] at ht;cases dV:Q6 v.op (Q4 (EL lv env tp (fun _=>true) i)) (hq (d.rank i)) with
      |none=>rw[dV] at ht;exact ht.elim
      |some p =>rw[dV] at ht;exact weak (go nd p.1 (hq (d.rank i)) pend (fun _ h=>h) (by rw[if_neg au,ite_self];exact ht) (fun h=>absurd h au) (fun _ h=>h) (fun _ hk=>absurd hk aL) (fun _=>fact (fun _ hk=>absurd hk aL) (fun _ _ _=>⟨p.2,dV⟩) (fun h=>by cases h) (fun _ hk=>absurd hk au)))
structure DOk (d:DInfo) (n:Nat):Prop where
 edge:∀ j,j<n->∀ e∈d.ed.getD j [],e<j
 path:∀ j,j<n->∀ i,i<j->d.lt i j=true->∃ e∈d.ed.getD j [],e=i\/(i<e/\d.lt i e=true)
 free:∀ j,j<n->∀ i,i<j->d.lt i j=false->d.touch i j=false/\¬(d.k i=2/\d.k j=2)
 kmin:∀ j,j<n->d.k j=1->(d.kmin j<=d.rank j/\d.rank j<=d.kmax j)/\d.kmax j<=d.rank n/\∀ l,l<n->d.k l=2->((d.lt l j=true<->d.rank l<d.kmin j)/\(d.lt j l=true<->d.kmax j<=d.rank l))
theorem DOk.of {d:DInfo}(h:d.ok=true):DOk d d.ks.length:=by
 have h0:∀ j,j<d.ks.length->d.okE j=true/\d.okP j=true/\d.okK j=true:=fun j hj=>by have:=List.all_eq_true.1 h j (List.mem_range.2 hj);simpa [Bool.and_eq_true] using this
 refine⟨fun j hj e he=>?_,fun j hj i hi ah=>?_,fun j hj i hi ah=>?_,fun j hj hk=>?_⟩
 .have:=List.all_eq_true.1 (h0 j hj).1 e he;simpa using this
 .have:=List.all_eq_true.1 (h0 j hj).2.1 i (List.mem_range.2 hi);simp only[ah,if_true,List.any_eq_true,Bool.or_eq_true,Bool.and_eq_true,decide_eq_true_eq,beq_iff_eq] at this;exact this
 .have:=List.all_eq_true.1 (h0 j hj).2.1 i (List.mem_range.2 hi);simp[ah] at this;exact⟨this.1,fun hk=>this.2.elim (fun h=>h hk.1) (fun h=>h hk.2)⟩
 .have:=(h0 j hj).2.2;simp only[DInfo.okK,hk,BEq.rfl,Bool.not_true,Bool.false_or,Bool.and_eq_true,decide_eq_true_eq] at this;refine⟨this.1,this.2.1,fun l hl au=>?_⟩;have h1:=List.all_eq_true.1 this.2.2 l (List.mem_range.2 hl);simp only[au,BEq.rfl,Bool.not_true,Bool.false_or,Bool.and_eq_true,beq_iff_eq] at h1;rw[h1.1,h1.2];simp
theorem N_ (d:DInfo) {i j:Nat}(h:i<j) (hk:d.k i=2):d.rank i<d.rank j:=by have:=LP d (show i+1<=j from h);simp only[DInfo.rank,hk,if_true] at this;omega
theorem V8 (d:DInfo):∀ j r,r<d.rank j->∃ l,l<j/\d.k l=2/\d.rank l=r
 |0,r,h=>by simp[DInfo.rank] at h
 |j+1,r,h=>by
  simp only[DInfo.rank] at h;split at h
  .rename_i hk;rcases Nat.lt_or_ge r (d.rank j) with h'|h'
   .obtain⟨l,h1,h2⟩:=V8 d j r h';exact⟨l,by omega,h2⟩
   .exact⟨j,by omega,hk,by omega⟩
  .obtain⟨l,h1,h2⟩:=V8 d j r h;exact⟨l,by omega,h2⟩
theorem VZ {d:DInfo}{n:Nat}(hd:DOk d n) {A:Nat->Bool}(hc:∀ j,j<n->A j=true->∀ e∈d.ed.getD j [],A e=true):∀ j,j<n->A j=true->∀ i,i<j->d.lt i j=true->A i=true:=by
 intro j;induction j using Nat.strongRecOn with
 |ind j ih =>
  intro hj hA i hi ah;obtain⟨e,he,h⟩:=hd.path j hj i hi ah;have nu:=hd.edge j hj e he;have gM:=hc j hj hA e he;rcases h with rfl|⟨h1,h2⟩
  .exact gM
  .exact ih e nu (by omega) gM i h1 h2
def cnt (A:Nat->Bool):Nat->Nat
 |0=>0
 |i+1=>cnt A i+if A i then 0 else 1
theorem E2 {A:Nat->Bool}:∀ {n},cnt A n=0->∀ i,i<n->A i=true
 |0,_,i,h=>by omega
 |n+1,hc,i,h=>by
  simp only[cnt] at hc;by_cases hi:i=n
  .subst hi;split at hc
   .assumption
   .omega
  .exact E2 (n:=n) (by omega) i (by omega)
theorem IF {A B:Nat->Bool}{j:Nat}(hA:A j=false) (hB:B j=true) (h:∀ i,i≠j->A i=B i):∀ n,j<n->cnt A n=cnt B n+1
 |0,hj=>by omega
 |n+1,hj=>by
  simp only[cnt];by_cases a_:j=n
  .subst a_;have:cnt A j=cnt B j:=by
    have key:∀ m,m<=j->cnt A m=cnt B m:=by
     intro m;induction m with
     |zero=>intro _;rfl
     |succ m ih=>intro hm;simp only[cnt];rw[ih (by omega),h m (by omega)]
    exact key j (Nat.le_refl _)
   simp[hA,hB,this]
  .have:=IF hA hB h n (by omega);rw[h n (by omega)];omega
theorem Q7k (o:VOp):o.kind<=2:=by
 unfold VOp.kind;split<;>try omega
 split<;>omega
theorem Q57 {o:VOp}{env:Env}{σ:Heap}{p:Value×Heap}{K:Value->Heap->Prop}(hk:o.kind≠2) (h:Q6 o (Q4 env) σ=some p) (hK:K p.1 p.2):vop S o env σ K:=by
 cases o
 case callF=>exact absurd rfl hk
 case callV=>exact absurd rfl hk
 case ext x =>
  cases x
  case nextMap=>exact absurd rfl hk
  all_goals (simp only[vop];rw[h];exact hK)
 all_goals (simp only[vop];rw[h];exact hK)
theorem G8 {o:VOp}{ev:Operand->Value}{σ σ':Heap}{v:Value}(hk:o.kind≠2) (h:Q6 o ev σ=some (v,σ')):σ'=σ:=by have:=Hi hk h (Heap.Le.refl σ);rw[h] at this;simp at this;exact this
theorem Tl {env af:Env}{g:Option (Nat×Bool)}(h:∀ x b,g=some (x,b)->env[x]?=af[x]?):Zo env g=Zo af g:=by
 cases g with
 |none=>rfl
 |some p =>obtain⟨x,b⟩:=p;simp only[Zo,List.getD_eq_getElem?_getD];rw[h x b rfl]
theorem T1 {env af:Env}{x:Operand}(h:∀ t,x=.tmp t->env[t]?=af[t]?):Q4 env x=Q4 af x:=by
 cases x<;>try rfl
 rename_i t;simp only[Q4,List.getD_eq_getElem?_getD];rw[h t rfl]
structure DInv (B:Nat) (d:DInfo) (lv:List VOper) (env:Env) (tr:Nat->Value) (hp:Nat->Heap) (ρ0:Plc) (σ0:Heap) (w0:World) (A:Nat->Bool) (a:Act) (w:World):Prop where
 closed:∀ j,j<lv.length->A j=true->∀ e∈d.ed.getD j [],A e=true
 run:∃ m ρ,(∀ l,l<lv.length->d.k l=2->(A l=true<->d.rank l<m))/\m<=d.rank lv.length/\HRel ρ (hp m) w/\LRel ρ (hp m).n (EL lv env tr A lv.length) a.tmps.toList/\Mks B a.defers w/\Ext ρ0 σ0 w0 ρ (hp m) w
structure DLink (P:Program) (ops:Array Oper) (pm:List Nat) (d:DInfo) (lv:List VOper):Prop where
 comp:∀ (p:Nat) (v:VOper),lv[p]?=some v->∃ o,ops[pm.getD p 0]?=some o/\Zs P ops o=some v/\d.k p=v.op.kind
 touch:∀ (i j:Nat) (u v:VOper),lv[i]?=some u->lv[j]?=some v->d.touch i j=false->(∀ x,u.dst=some x->x∉YR v)/\(∀ x,v.dst=some x->x∉YR u)
 size:pm.length=lv.length
theorem DLink.of {ops:Array Oper}{vs:List VOper}(h:ops.toList.mapM (Zs P ops)=some vs) {d0:DInfo}{pm:List Nat}(j5:∀ i∈pm,i<vs.length):DLink P ops pm (Cj d0 vs pm) (Kp vs pm):=by
 obtain⟨h1,h2⟩:=Xv _ _ _ h;refine⟨fun p v hv=>?_,fun i j u v hu hv ht=>?_,by simp[Kp]⟩
 .simp only[Kp,List.getElem?_map,Option.map_eq_some_iff] at hv;obtain⟨i,hi,rfl⟩:=hv;have aQ:=j5 i (List.mem_of_getElem? hi);have nw:i<ops.toList.length:=by omega
  obtain⟨v,hv,hc⟩:=h2 i _ (List.getElem?_eq_getElem nw);have hg:vs.getD i default=v:=by simp[List.getD_eq_getElem?_getD,hv]
  have hp:pm.getD p 0=i:=by simp[List.getD_eq_getElem?_getD,hi]
  refine⟨ops.toList[i],?_,by rw[hg];exact hc,?_⟩
  .rw[hp];simp
  .simp[DInfo.k,Cj,Kp,List.getD_eq_getElem?_getD,hi]
 .simp only[DInfo.touch,Cj,Q3q,List.getD_eq_getElem?_getD,List.getElem?_map,hu,hv,Option.map_some,Option.getD_some,Bool.or_eq_false_iff] at ht;refine⟨fun x hx hm=>?_,fun x hx hm=>?_⟩
  .have:=ht.1;rw[hx] at this;simp at this;exact this hm
  .have:=ht.2;rw[hx] at this;simp at this;exact this hm
theorem En {v:VOper}{x:Nat}(h:v.dst=some x):x∈YR v:=by simp[YR,h]
theorem E3 {v:VOper}{x:Nat}(h:Operand.tmp x∈v.op.opds):x∈YR v:=by refine List.mem_append_left _ (List.mem_append_right _ ?_);exact List.mem_filterMap.2 ⟨_,h,rfl⟩
theorem Td {v:VOper}{x:Nat}{b:Bool}(h:v.guard=some (x,b)):x∈YR v:=by refine List.mem_append_right _ ?_;simp[h]
theorem HA (hS:OkSpecs P S) {ro:Option Nat}{n:Nat}{ops:Array Oper}{pm:List Nat}{d:DInfo}{lv:List VOper}(hl:DLink P ops pm d lv) (hd:DOk d lv.length) {env:Env}{tr:Nat->Value}{hp:Nat->Heap}
  {bd j:Nat}(hF:DFact S d lv env tr hp bd j)
  {Q:Exit->Act->World->Prop}{ρ0:Plc}{σ0:Heap}{w0:World}{A:Nat->Bool}{a:Act}{w:World}(ny:∀ m,(∀ l,l<lv.length->d.k l=2->(A l=true<->d.rank l<m))->m<=d.rank lv.length->m<=bd) (hI:DInv B d lv env tr hp ρ0 σ0 w0 A a w)
  (a_:j<lv.length) (dY:A j=false) (dZ:∀ e∈d.ed.getD j [],A e=true) {A':Nat->Bool}(bg:∀ i,A' i=if i=j then true else A i) {K:Act->World->Prop}(hK:∀ a' w',DInv B d lv env tr hp ρ0 σ0 w0 A' a' w'->K a' w'):wpOpIn (FF ro) n P ops Q (pm.getD j 0) K a w:=by
 obtain⟨v,hv⟩:∃ v,lv[j]?=some v:=⟨_,List.getElem?_eq_getElem a_⟩;obtain⟨o,ho,hc,hk⟩:=hl.comp j v hv;obtain⟨bQ,m,ρ,hm,mG,hH,hL,dF,hE⟩:=hI;have dC:∀ i,i<j->d.lt i j=true->A i=true:=by
  intro i hi ah;obtain⟨e,he,h⟩:=hd.path j a_ i hi ah;have nu:=hd.edge j a_ e he;have gM:A e=true:=dZ e he;rcases h with rfl|⟨h1,h2⟩
  .exact gM
  .exact VZ hd bQ e (by omega) gM i h1 h2
 have dD:∀ i,i<lv.length->j<i->d.lt j i=true->A i=false:=by
  intro i hi aO ah;cases hA:A i with
  |false=>rfl
  |true=>rw[VZ hd bQ i hi hA j aO ah] at dY;cases dY
 have fE:∀ x,x∈YR v->(EL lv env tr A lv.length)[x]?=(EL lv env tr (fun _=>true) j)[x]?:=by
  intro x hx;rw[<-G9 lv env tr j lv.length (by omega)];refine M9 lv env tr x lv.length fun l aW bH=>?_;cases bT:lv[l]? with
  |none=>rw[bT] at bH;cases bH
  |some u =>
   rw[bT] at bH;rcases Nat.lt_trichotomy l j with h|h|h
   .have ah:d.lt l j=true:=by
     cases ah:d.lt l j with
     |true=>rfl
     |false=>exact absurd hx ((hl.touch l j u v bT hv (hd.free j a_ l h ah).1).1 x bH)
    simp only[h,decide_true];exact dC l h ah
   .subst h;simp only[Nat.lt_irrefl,decide_false];exact dY
   .have ah:d.lt j l=true:=by
     cases ah:d.lt j l with
     |true=>rfl
     |false=>exact absurd hx ((hl.touch j l v u hv bT (hd.free l aW j h ah).1).2 x bH)
    have:¬ l<j:=by omega
    simp only[this,decide_false];exact dD l aW h ah
 obtain⟨b,f1,f2,f3,uW,f4⟩:=hF v hv;have hw:Zo (EL lv env tr A lv.length) v.guard=some b:=by rw[Tl (fun x b' hg=>fE x (Td hg))];exact f1
 have jL:∀ x∈v.op.opds,Q4 (EL lv env tr A lv.length) x=Q4 (EL lv env tr (fun _=>true) j) x:=fun x hx=>T1 fun t ht=>fE t (E3 (ht▸hx));obtain⟨dB,bH,bL⟩:=MW hc hL hw;have di:EL lv env tr A' lv.length=Jv (EL lv env tr A lv.length) v.dst (tr j):=by
  apply List.ext_getElem?;intro x;by_cases hx:v.dst=some x
  .have h1:(EL lv env tr A' lv.length)[x]?=(EL lv env tr (fun l=>decide (l<j+1)) lv.length)[x]?:=by
    refine M9 lv env tr x lv.length fun l aW bu=>?_;rw[bg];by_cases fS:l=j
    .subst fS;simp
    .rw[if_neg fS];cases bT:lv[l]? with
     |none=>rw[bT] at bu;cases bu
     |some u =>
      rw[bT] at bu;have jM:=En hx;rcases Nat.lt_or_ge l j with h|h
      .have ah:d.lt l j=true:=by
        cases ah:d.lt l j with
        |true=>rfl
        |false=>exact absurd jM ((hl.touch l j u v bT hv (hd.free j a_ l h ah).1).1 x bu)
       have:l<j+1:=by omega
       simp only[this,decide_true];exact dC l h ah
      .have h':j<l:=by omega
       have ah:d.lt j l=true:=by
        cases ah:d.lt j l with
        |true=>rfl
        |false=>exact absurd jM ((hl.touch j l v u hv bT (hd.free l aW j h' ah).1).2 x bu)
       have:¬ l<j+1:=by omega
       simp only[this,decide_false];exact dD l aW h' ah
   rw[h1,G9 lv env tr (j+1) lv.length (by omega)];simp only[EL,if_true,hv,Option.bind_some,hx,Jv];rw[List.getElem?_set,List.getElem?_set];simp only[if_true,YJ]
  .rw[Yz _ _ _ hx];refine M9 lv env tr x lv.length fun l aW bu=>?_;rw[bg];split
   .rename_i h;subst h;rw[hv] at bu;exact absurd bu hx
   .rfl
 have cz:∀ i,i<lv.length->A' i=true->∀ e∈d.ed.getD i [],A' e=true:=by
  intro i hi hA e he;rw[bg] at hA |-;split
  .rfl
  .by_cases ct:i=j
   .subst ct;exact dZ e he
   .rw[if_neg ct] at hA;exact bQ i hi hA e he
 have kz:d.k j=2->d.rank j=m:=by
  intro au;have h1:¬ d.rank j<m:=fun h=>by rw[(hm j a_ au).2 h] at dY;cases dY
  by_cases h2:d.rank j=m
  .exact h2
  .obtain⟨l,fS,bt,ga⟩:=V8 d j m (by omega);have ah:d.lt l j=true:=by
    cases ah:d.lt l j with
    |true=>rfl
    |false=>exact absurd ⟨bt,au⟩ (hd.free j a_ l fS ah).2
   have:=(hm l (by omega) bt).1 (dC l fS ah);omega
 have en:d.k j=2->∀ l,l<lv.length->d.k l=2->(A' l=true<->d.rank l<m+1):=by
  intro au l aW bt;rw[bg];have gg:=kz au;split
  .rename_i h;subst h;simp;omega
  .rename_i h;rw[hm l aW bt];have:d.rank l≠m:=by
    rcases Nat.lt_or_ge l j with h'|h'
    .have:=N_ d h' bt;omega
    .have:=N_ d (show j<l by omega) au;omega
   omega
 have gY:d.k j≠2->∀ l,l<lv.length->d.k l=2->(A' l=true<->d.rank l<m):=by intro au l aW bt;rw[bg,if_neg (by rintro rfl;exact au bt)];exact hm l aW bt
 have jN:d.k j=2->m+1<=d.rank lv.length:=fun au=>by have:=N_ d a_ au;have:=kz au;omega
 unfold wpOpIn;simp only[ho];cases b with
 |false =>
  rw[dB,if_neg (by simp)];obtain⟨g1,g2⟩:=f4 rfl;refine⟨fun f _=>Fs _ _,hK _ _ ⟨cz,?_⟩⟩;by_cases au:d.k j=2
  .have gg:=kz au;have hh:hp (m+1)=hp m:=by rw[<-gg];exact g2 (hk▸au)
   refine⟨m+1,ρ,en au,jN au,by rw[hh];exact hH,?_,by rw[Ju];exact dF,by rw[hh];exact hE⟩;rw[hh,di,g1,bH];exact Y2 hL ZY o.dst
  .refine⟨m,ρ,gY au,mG,hH,?_,by rw[Ju];exact dF,hE⟩;rw[di,g1,bH];exact Y2 hL ZY o.dst
 |true =>
  rw[dB,if_pos rfl];by_cases au:d.k j=2
  .have gg:=kz au;have g1:=f2 rfl (hk▸au);rw[gg] at g1;rw[<-Sr jL] at g1;refine KX hS bL hH hL g1 fun c w' ⟨u,ρ',σ',⟨hu,hσ⟩,eD,fP,bZ⟩=>hK _ _ ⟨cz,?_⟩;subst hu;subst hσ;refine⟨m+1,ρ',en au,jN au,fP,?_,by rw[Ju];exact dF.ext hH bZ,hE.trans bZ⟩;rw[di,bH];exact Y2 (bZ.lrel hL) eD o.dst
  .have g2:∃ σ1,Q6 v.op (Q4 (EL lv env tr A lv.length)) (hp m)=some (tr j,σ1):=by
    rw[D4 jL];by_cases aL:d.k j=1
    .obtain⟨⟨k1,k4⟩,k3,k2⟩:=hd.kmin j a_ aL;refine f3 rfl (hk▸aL) m ?_ ?_ (ny m hm mG)
     .rcases Nat.lt_or_ge m (d.kmin j) with h|h
      .obtain⟨l,aW,bt,ga⟩:=V8 d j m (by omega);have ah:=(k2 l (by omega) bt).1.2 (by omega);have:=(hm l (by omega) bt).1 (dC l aW ah);omega
      .exact h
     .rcases Nat.lt_or_ge (d.kmax j) m with h|h
      .obtain⟨l,aW,bt,ga⟩:=V8 d lv.length (d.kmax j) (by omega);have ah:=(k2 l aW bt).2.2 (by omega);have kA:=(hm l aW bt).2 (by omega);rcases Nat.lt_trichotomy j l with h'|h'|h'
       .rw[dD l aW h' ah] at kA;cases kA
       .subst h';omega
       .exfalso;have fQ:d.rank l<d.rank j:=N_ d h' bt;omega
      .exact h
    .have iA:v.op.kind=0:=by
      have h2:v.op.kind<=2:=Q7k v.op;omega
     obtain⟨σ1,g1⟩:=uW rfl (by omega) (by omega);exact⟨hp m,BB iA g1⟩
   obtain⟨σ1,g2⟩:=g2;have hq:=G8 (hk▸au) g2;subst hq;refine KX hS (K:=fun v' σ'=>v'=tr j/\σ'=hp m) bL hH hL (Q57 (hk▸au) g2 ⟨rfl,rfl⟩) fun c w' ⟨u,ρ',σ',⟨hu,hσ⟩,eD,fP,bZ⟩=>hK _ _ ⟨cz,?_⟩;subst hu;subst hσ;refine⟨m,ρ',gY au,mG,fP,?_,by rw[Ju];exact dF.ext hH bZ,hE.trans bZ⟩;rw[di,bH];exact Y2 (bZ.lrel hL) eD o.dst
theorem Cd (hS:OkSpecs P S) {ro:Option Nat}{n:Nat}{ops:Array Oper}{pm:List Nat}{d:DInfo}{lv:List VOper}(hl:DLink P ops pm d lv) (hd:DOk d lv.length) {env:Env}{tr:Nat->Value}{hp:Nat->Heap}
  {j:Nat}{v:VOper}(hv:lv[j]?=some v) (qB:v.op.kind=2) (uX:Zo (EL lv env tr (fun _=>true) j) v.guard=some true) {R:Value->Heap->Prop}(gb:vop S v.op (EL lv env tr (fun _=>true) j) (hp (d.rank j)) R)
  {Q:Exit->Act->World->Prop}{ρ0:Plc}{σ0:Heap}{w0:World}{A:Nat->Bool}{a:Act}{w:World}(hI:DInv B d lv env tr hp ρ0 σ0 w0 A a w) (nz:∀ l,j<=l->l<lv.length->A l=false)
  (a_:j<lv.length) (dY:A j=false) (dZ:∀ e∈d.ed.getD j [],A e=true) {A':Nat->Bool}(bg:∀ i,A' i=if i=j then true else A i) {K:Act->World->Prop}
  (hK:∀ u σ' a' w',R u σ'->(∀ tr' bF,(∀ l,l<j->tr' l=tr l)->tr' j=u->(∀ r,r<=d.rank j->bF r=hp r)->bF (d.rank j+1)=σ'->DInv B d lv env tr' bF ρ0 σ0 w0 A' a' w')->K a' w'):wpOpIn (FF ro) n P ops Q (pm.getD j 0) K a w:=by
 obtain⟨o,ho,hc,hk⟩:=hl.comp j v hv;obtain⟨bQ,m,ρ,hm,mG,hH,hL,dF,hE⟩:=hI;have dC:∀ i,i<j->d.lt i j=true->A i=true:=by
  intro i hi ah;obtain⟨e,he,h⟩:=hd.path j a_ i hi ah;have nu:=hd.edge j a_ e he;have gM:A e=true:=dZ e he;rcases h with rfl|⟨h1,h2⟩
  .exact gM
  .exact VZ hd bQ e (by omega) gM i h1 h2
 have dD:∀ i,i<lv.length->j<i->d.lt j i=true->A i=false:=by
  intro i hi aO ah;cases hA:A i with
  |false=>rfl
  |true=>rw[VZ hd bQ i hi hA j aO ah] at dY;cases dY
 have fE:∀ x,x∈YR v->(EL lv env tr A lv.length)[x]?=(EL lv env tr (fun _=>true) j)[x]?:=by
  intro x hx;rw[<-G9 lv env tr j lv.length (by omega)];refine M9 lv env tr x lv.length fun l aW bH=>?_;cases bT:lv[l]? with
  |none=>rw[bT] at bH;cases bH
  |some u =>
   rw[bT] at bH;rcases Nat.lt_trichotomy l j with h|h|h
   .have ah:d.lt l j=true:=by
     cases ah:d.lt l j with
     |true=>rfl
     |false=>exact absurd hx ((hl.touch l j u v bT hv (hd.free j a_ l h ah).1).1 x bH)
    simp only[h,decide_true];exact dC l h ah
   .subst h;simp only[Nat.lt_irrefl,decide_false];exact dY
   .have ah:d.lt j l=true:=by
     cases ah:d.lt j l with
     |true=>rfl
     |false=>exact absurd hx ((hl.touch j l v u hv bT (hd.free l aW j h ah).1).2 x bH)
    have:¬ l<j:=by omega
    simp only[this,decide_false];exact dD l aW h ah
 have hw:Zo (EL lv env tr A lv.length) v.guard=some true:=by rw[Tl (fun x b' hg=>fE x (Td hg))];exact uX
 have jL:∀ x∈v.op.opds,Q4 (EL lv env tr A lv.length) x=Q4 (EL lv env tr (fun _=>true) j) x:=fun x hx=>T1 fun t ht=>fE t (E3 (ht▸hx));obtain⟨dB,bH,bL⟩:=MW hc hL hw;have di:∀ tr:Nat->Value,EL lv env tr A' lv.length=Jv (EL lv env tr A lv.length) v.dst (tr j):=fun tr=>by
  apply List.ext_getElem?;intro x;by_cases hx:v.dst=some x
  .have h1:(EL lv env tr A' lv.length)[x]?=(EL lv env tr (fun l=>decide (l<j+1)) lv.length)[x]?:=by
    refine M9 lv env tr x lv.length fun l aW bu=>?_;rw[bg];by_cases fS:l=j
    .subst fS;simp
    .rw[if_neg fS];cases bT:lv[l]? with
     |none=>rw[bT] at bu;cases bu
     |some u =>
      rw[bT] at bu;have jM:=En hx;rcases Nat.lt_or_ge l j with h|h
      .have ah:d.lt l j=true:=by
        cases ah:d.lt l j with
        |true=>rfl
        |false=>exact absurd jM ((hl.touch l j u v bT hv (hd.free j a_ l h ah).1).1 x bu)
       have:l<j+1:=by omega
       simp only[this,decide_true];exact dC l h ah
      .have h':j<l:=by omega
       have ah:d.lt j l=true:=by
        cases ah:d.lt j l with
        |true=>rfl
        |false=>exact absurd jM ((hl.touch j l v u hv bT (hd.free l aW j h' ah).1).2 x bu)
       have:¬ l<j+1:=by omega
       simp only[this,decide_false];exact dD l aW h' ah
   rw[h1,G9 lv env tr (j+1) lv.length (by omega)];simp only[EL,if_true,hv,Option.bind_some,hx,Jv];rw[List.getElem?_set,List.getElem?_set];simp only[if_true,YJ]
  .rw[Yz _ _ _ hx];refine M9 lv env tr x lv.length fun l aW bu=>?_;rw[bg];split
   .rename_i h;subst h;rw[hv] at bu;exact absurd bu hx
   .rfl
 have cz:∀ i,i<lv.length->A' i=true->∀ e∈d.ed.getD i [],A' e=true:=by
  intro i hi hA e he;rw[bg] at hA |-;split
  .rfl
  .by_cases ct:i=j
   .subst ct;exact dZ e he
   .rw[if_neg ct] at hA;exact bQ i hi hA e he
 have kz:d.k j=2->d.rank j=m:=by
  intro au;have h1:¬ d.rank j<m:=fun h=>by rw[(hm j a_ au).2 h] at dY;cases dY
  by_cases h2:d.rank j=m
  .exact h2
  .obtain⟨l,fS,bt,ga⟩:=V8 d j m (by omega);have ah:d.lt l j=true:=by
    cases ah:d.lt l j with
    |true=>rfl
    |false=>exact absurd ⟨bt,au⟩ (hd.free j a_ l fS ah).2
   have:=(hm l (by omega) bt).1 (dC l fS ah);omega
 have en:d.k j=2->∀ l,l<lv.length->d.k l=2->(A' l=true<->d.rank l<m+1):=by
  intro au l aW bt;rw[bg];have gg:=kz au;split
  .rename_i h;subst h;simp;omega
  .rename_i h;rw[hm l aW bt];have:d.rank l≠m:=by
    rcases Nat.lt_or_ge l j with h'|h'
    .have:=N_ d h' bt;omega
    .have:=N_ d (show j<l by omega) au;omega
   omega
 have gY:d.k j≠2->∀ l,l<lv.length->d.k l=2->(A' l=true<->d.rank l<m):=by intro au l aW bt;rw[bg,if_neg (by rintro rfl;exact au bt)];exact hm l aW bt
 have jN:d.k j=2->m+1<=d.rank lv.length:=fun au=>by have:=N_ d a_ au;have:=kz au;omega
 unfold wpOpIn;simp only[ho];rw[dB,if_pos rfl];have au:d.k j=2:=hk.trans qB;have gg:=kz au;rw[gg,<-Sr jL] at gb;refine KX hS bL hH hL gb fun c w' ⟨u,ρ',σ',hR,eD,fP,bZ⟩=>hK u σ' _ _ hR fun tr' bF t1 t2 t3 t4=>⟨cz,m+1,ρ',en au,jN au,?_,?_,?_,?_⟩
 .rw[<-gg,t4];exact fP
 .have e0:EL lv env tr' A lv.length=EL lv env tr A lv.length:=Q9i lv env lv.length fun l aW hA=>t1 l (by
   rcases Nat.lt_or_ge l j with h|h
   .exact h
   .rw[nz l h aW] at hA;cases hA)
  rw[<-gg,t4,di tr',e0,bH,t2];exact Y2 (bZ.lrel hL) eD o.dst
 .rw[Ju];exact dF.ext hH bZ
 .rw[<-gg,t4];exact hE.trans bZ
theorem Z3z {ops:Array Oper}{pm:List Nat}{d:DInfo}{lv:List VOper}(_hl:DLink P ops pm d lv) {env:Env}{tr:Nat->Value}{hp:Nat->Heap}{ρ0:Plc}{σ0:Heap}{w0:World}{A:Nat->Bool}{a:Act}{w:World}
  (hI:DInv B d lv env tr hp ρ0 σ0 w0 A a w) (hall:∀ j,j<lv.length->A j=true):DT B (List.length env) ρ0 σ0 w0 (fun af σ'=>af=EL lv env tr (fun _=>true) lv.length/\σ'=hp (d.rank lv.length)) a w:=by
 obtain⟨bQ,m,ρ,hm,mG,hH,hL,dF,hE⟩:=hI;have iF:m=d.rank lv.length:=by
  rcases Nat.lt_or_ge m (d.rank lv.length) with h|h
  .obtain⟨l,h1,h2,h3⟩:=V8 d _ _ h;have:=(hm l h1 h2).1 (hall l h1);omega
  .omega
 subst iF;have e:=YY lv env (tr:=tr) (tr':=tr) (A:=A) (B:=fun _=>true) lv.length (fun _ _=>rfl) (fun l hl=>hall l hl);exact⟨_,ρ,_,⟨rfl,rfl⟩,YJ _ _ _ _ _,hH,by rw[<-e];exact hL,dF,hE⟩
def On (pm:List Nat) (d:DInfo) (n:Nat):(Nat->Bool)->List Nat->Prop
 |A,[]=>∀ p,p<n->A p=true
 |A,j::rest=>∃ p,p<n/\pm.getD p 0=j/\A p=false/\(∀ e∈d.ed.getD p [],A e=true)/\On pm d n (fun q=>if q=p then true else A q) rest
theorem Ft (hS:OkSpecs P S) {ro:Option Nat}{n:Nat}{ops:Array Oper}{pm:List Nat}{d:DInfo}{lv:List VOper}(hl:DLink P ops pm d lv) (hd:DOk d lv.length) {env:Env}{K:Env->Heap->Prop}
  {Q:Exit->Act->World->Prop}{ρ0:Plc}{σ0:Heap}{w0:World}{l2:List Nat}(hQ:∀ a w,DT B (List.length env) ρ0 σ0 w0 K a w->wpOpsIn (FF ro) n P ops Q l2 a w) {nd:List Nat}{i:Nat}{tr:Nat->Value}{hp:Nat->Heap}(uY:Know S d lv env K nd i tr hp) :
  ∀ (l:List Nat) (A:Nat->Bool) (a:Act) (w:World),On pm d lv.length A l->DInv B d lv env tr hp ρ0 σ0 w0 A a w->(∀ j,i<=j->j<lv.length->A j=false)->(∀ j,j∈nd->j<lv.length->A j=true)->wpOpsIn (FF ro) n P ops Q (l++l2) a w:=by
 induction uY with
 |full hF hK =>
  intro l;induction l with
  |nil =>intro A a w hs hI _ _;obtain⟨af,ρ',σ',⟨e1,e2⟩,n1⟩:=Z3z hl hI hs;exact hQ a w ⟨af,ρ',σ',by rw[e1,e2];exact hK,n1⟩
  |cons j rest ih =>
   intro A a w hs hI hA hN;obtain⟨p,bF,rfl,kB,he,aX⟩:=hs;rw[List.cons_append,wpOpsIn_cons];refine HA hS hl hd (hF p bF fun h=>?_) (fun m _ h=>h) hI bF kB he (fun _=>rfl) fun a' w' nB=>ih _ a' w' aX nB (fun j h1 h2=>by omega) (fun j hj fA=>?_)
   .rw[hN p h bF] at kB;cases kB
   .split
    .rfl
    .exact hN j hj fA
 |part hv hk hw hF kp R gb I T H hT next pB =>
  rename_i nd i tr hp v;have aQ:i<lv.length:=by
   rcases Nat.lt_or_ge i lv.length with h|h
   .exact h
   .rw[List.getElem?_eq_none h] at hv;cases hv
  intro l;induction l with
  |nil =>intro A a w hs hI hA _;have:=hs i aQ;rw[hA i (Nat.le_refl _) aQ] at this;cases this
  |cons j rest ih =>
   intro A a w hs hI hA hN;obtain⟨p,bF,rfl,kB,he,aX⟩:=hs;rw[List.cons_append,wpOpsIn_cons];have jZ:d.k i=2:=by obtain⟨_,_,_,h⟩:=hl.comp i v hv;exact h.trans hk
   rcases Nat.lt_trichotomy p i with h_|rfl|h_
   .refine HA hS hl hd (hF p h_ fun h=>?_) (fun m hm _=>?_) hI bF kB he (fun _=>rfl) fun a' w' nB=>ih _ a' w' aX nB (fun j h1 h2=>?_) (fun j hj fA=>?_)
    .rw[hN p h bF] at kB;cases kB
    .have h1:¬ d.rank i<m:=fun h=>by
      have:=(hm i aQ jZ).2 h;rw[hA i (Nat.le_refl _) aQ] at this;cases this
     omega
    .rw[if_neg (by omega)];exact hA j h1 h2
    .split
     .rfl
     .exact hN j hj fA
   .refine Cd hS hl hd hv hk hw gb hI hA bF kB he (fun _=>rfl) fun u σ' a' w' hR nB=>?_;obtain⟨q1,q2,q3,q4,q5⟩:=hT u σ' hR;refine pB u σ' hR _ _ a' w' aX (nB _ _ q2 q3 q4 q5) (fun j h1 h2=>?_) (fun j hj fA=>?_)
    .rw[if_neg (by omega)];exact hA j (by omega) h2
    .split
     .rfl
     .rename_i aC;rcases List.mem_cons.1 hj with h|h
      .exact absurd h aC
      .exact hN j h fA
   .exfalso;obtain⟨e,u,h1,h2,hu,hn⟩:=kp p h_ bF;have ky:=List.getElem?_eq_getElem bF;have ah:d.lt e p=true:=by
     cases h:d.lt e p with
     |true=>rfl
     |false =>
      rcases hn with⟨x,hx,hn⟩|⟨gG,fb⟩
      .exact absurd (hn _ ky) ((hl.touch e p u _ hu ky (hd.free p bF e h2 h).1).1 x hx)
      .obtain⟨_,_,_,q1⟩:=hl.comp e u hu;obtain⟨_,_,_,q2⟩:=hl.comp p _ ky;exact absurd ⟨q1.trans gG,q2.trans (fb _ ky)⟩ (hd.free p bF e h2 h).2
    have gM:A e=true:=by
     obtain⟨e',sC,h3⟩:=hd.path p bF e h2 ah;have nC:=he e' sC;rcases h3 with rfl|⟨h3,h4⟩
     .exact nC
     .exact VZ hd hI.closed e' (by have:=hd.edge p bF e' sC;omega) nC e h3 h4
    rw[hA e h1 (by omega)] at gM;cases gM
def YW (ops:Array Oper):Array Bool->List Nat->Prop
 |L,[]=>∀ j,j<ops.size->L.getD j false=true
 |L,j::rest=>j∈Region.ready .any ops L/\YW ops (L.setIfInBounds j true) rest
theorem K8 (L:Array Bool) (j i:Nat) (hj:j<L.size):(L.setIfInBounds j true).getD i false=if i=j then true else L.getD i false:=by
 by_cases h:i=j
 .subst h;simp[hj]
 .simp[h,Array.getElem?_setIfInBounds_ne (Ne.symm h)]
theorem OG {ops:Array Oper}(iG:∀ (j:Nat) (o:Oper),ops[j]?=some o->∀ e∈DK o,e<j) {L:Array Bool}(hs:L.size=ops.size) (h:Region.ready .any ops L=[]):∀ j,j<ops.size->L.getD j false=true:=by
 intro j;induction j using Nat.strongRecOn with
 |ind j ih =>
  intro hj;cases hA:L.getD j false with
  |true=>rfl
  |false =>
   exfalso;have:j∈Region.ready .any ops L:=by
    refine mem_ready.2 ⟨?_,ops[j],Array.getElem?_eq_getElem hj,fun e he hb=>?_⟩
    .have h1:L.getD j true=L[j]:=by simp[hs,hj]
     have h2:L.getD j false=L[j]:=by simp[hs,hj]
     rw[h1,<-h2];exact hA
    .have:=iG j ops[j] (Array.getElem?_eq_getElem hj) e.on (List.mem_map.2 ⟨e,List.mem_filter.2 ⟨by simpa using he,hb⟩,rfl⟩);exact ih _ this (by omega)
   rw[h] at this;cases this
theorem Bm {ops:Array Oper}{L:Array Bool}(hs:L.size=ops.size) {j:Nat}(h:j∈Region.ready .any ops L):j<ops.size/\L.getD j false=false/\∃ o,ops[j]?=some o/\∀ e∈DK o,L.getD e false=true:=by obtain⟨h1,o,ho,h2⟩:=mem_ready.1 h;have a_:j<ops.size:=(Array.getElem?_eq_some_iff.1 ho).1;refine⟨a_,by simp[hs,a_] at h1 |-;exact h1,o,ho,fun e he=>?_⟩;obtain⟨x,hx,rfl⟩:=List.mem_map.1 he;obtain⟨pC,uZ⟩:=List.mem_filter.1 hx;exact h2 x (by simpa using pC) uZ
theorem Q48 {ops:Array Oper}(iG:∀ (j:Nat) (o:Oper),ops[j]?=some o->∀ e∈DK o,e<j):∀ (fuel t:Nat) (L:Array Bool),L.size=ops.size->cnt (fun i=>L.getD i false) ops.size<=fuel ->
  YW ops L (Region.linearise.go .any ops fuel t L []):=by
 intro fuel;induction fuel with
 |zero =>intro t L hs hc;simp only[Region.linearise.go,List.reverse_nil,YW];exact E2 (by omega)
 |succ fuel ih =>
  intro t L hs hc;simp only[Region.linearise.go]
  change YW ops L (match (Region.ready .any ops L)[t % (Region.ready .any ops L).length]? with
   |some i=>Region.linearise.go .any ops fuel (t / (Region.ready .any ops L).length) (L.setIfInBounds i true) [i]
   |none=>[].reverse)
  cases hi:(Region.ready .any ops L)[t % (Region.ready .any ops L).length]? with
  |none =>
   have iH:Region.ready .any ops L=[]:=by
    cases hr:Region.ready .any ops L with
    |nil=>rfl
    |cons x xs =>rw[hr] at hi;have ah:t % (x::xs).length<(x::xs).length:=Nat.mod_lt _ (by simp);simp at hi;simp at ah;omega
   simp only[List.reverse_nil,YW];exact OG iG hs iH
  |some i =>
   simp only[];rw[linearise_go_acc,List.reverse_singleton,List.singleton_append];have kC:=List.mem_of_getElem? hi;obtain⟨aQ,nD,_⟩:=Bm hs kC;refine⟨kC,ih _ _ (by simp[hs]) ?_⟩;have iI:i<L.size:=by rw[hs];exact aQ
   have:=IF (A:=fun i=>L.getD i false) (B:=fun k=>(L.setIfInBounds i true).getD k false) (j:=i) nD (by simp only[K8 L i i iI,if_true]) (fun k hk=>by simp only[K8 L i k iI,if_neg hk]) ops.size aQ;omega
theorem L_ {ops:Array Oper}:∀ (l:List Nat) (L:Array Bool),L.size=ops.size->YW ops L l->l.Nodup/\∀ j,j∈l<->(j<ops.size/\L.getD j false=false):=by
 intro l;induction l with
 |nil=>intro L hs h;exact⟨List.nodup_nil,fun j=>⟨fun h=>(by cases h),fun ⟨h1,h2⟩=>by rw[h j h1] at h2;cases h2⟩⟩
 |cons i l ih =>
  intro L hs h;obtain⟨kC,h'⟩:=h;obtain⟨aQ,nD,_⟩:=Bm hs kC;have iI:i<L.size:=by rw[hs];exact aQ
  obtain⟨k1,k2⟩:=ih _ (by simp[hs]) h';refine⟨List.nodup_cons.2 ⟨fun hm=>?_,k1⟩,fun j=>?_⟩
  .have:=((k2 i).1 hm).2;rw[K8 L i i iI,if_pos rfl] at this;cases this
  .rw[List.mem_cons,k2 j,K8 L i j iI];by_cases aO:j=i
   .subst aO;simp[aQ,nD]
   .simp[aO]
structure DBase (ops:Array Oper) (d:DInfo):Prop where
 ed:∀ (j:Nat) (o:Oper),ops[j]?=some o->d.ed.getD j []=DK o
 edge:∀ j,j<ops.size->∀ e∈d.ed.getD j [],e<j
 path:∀ j,j<ops.size->∀ i,i<j->d.lt i j=true->∃ e∈d.ed.getD j [],e=i\/(i<e/\d.lt i e=true)
 up:∀ i j,d.lt i j=true->i<j
 size:d.ks.length=ops.size
theorem Ct {ops:Array Oper}{d:DInfo}(hb:DBase ops d) {A:Nat->Bool}(hc:∀ j,j<ops.size->A j=true->∀ e∈d.ed.getD j [],A e=true):∀ j,j<ops.size->A j=true->∀ i,i<j->d.lt i j=true->A i=true:=by
 intro j;induction j using Nat.strongRecOn with
 |ind j ih =>
  intro hj hA i hi ah;obtain⟨e,he,h⟩:=hb.path j hj i hi ah;have nu:=hb.edge j hj e he;have gM:=hc j hj hA e he;rcases h with rfl|⟨h1,h2⟩
  .exact gM
  .exact ih e nu (by omega) gM i h1 h2
theorem Z0n {ops:Array Oper}{d:DInfo}(hb:DBase ops d):∀ (l:List Nat) (L:Array Bool),L.size=ops.size->(∀ j,j<ops.size->L.getD j false=true->∀ e∈d.ed.getD j [],L.getD e false=true)->YW ops L l ->
  l.Pairwise fun j i=>d.lt i j=false:=by
 intro l;induction l with
 |nil=>intro L _ _ _;exact List.Pairwise.nil
 |cons j l ih =>
  intro L hs hc h;obtain⟨kC,h'⟩:=h;obtain⟨aQ,nD,o,ho,iG⟩:=Bm hs kC;have iI:j<L.size:=by rw[hs];exact aQ
  have cJ:∀ k,k<ops.size->(L.setIfInBounds j true).getD k false=true->∀ e∈d.ed.getD k [],(L.setIfInBounds j true).getD e false=true:=by
   intro k hk hA e he;rw[K8 L j e iI];split
   .rfl
   .rw[K8 L j k iI] at hA;split at hA
    .rename_i u1;subst u1;rw[hb.ed _ o ho] at he;exact iG e he
    .exact hc k hk hA e he
  obtain⟨k1,k2⟩:=L_ l _ (by simp[hs]) h';refine List.Pairwise.cons (fun i hi=>?_) (ih _ (by simp[hs]) cJ h');cases ah:d.lt i j with
  |false=>rfl
  |true =>
   exfalso;have ct:=hb.up i j ah;have hA:(L.setIfInBounds j true).getD j false=true:=by rw[K8 L j j iI,if_pos rfl]
   have:=Ct hb cJ j aQ hA i ct ah;rw[((k2 i).1 hi).2] at this;cases this
theorem RV (lt:Nat->Nat->Bool):∀ (s l:List Nat) (n:Nat),s.Perm l->l.length<=n->s.Pairwise (fun j i=>lt i j=false)->s∈exts lt n l:=by
 intro s;induction s with
 |nil =>intro l n hp hn _;have:l=[]:=hp.symm.eq_nil;subst this;cases n<;>simp[exts]
 |cons k s ih =>
  intro l n hp hn hs;have hk:k∈l:=hp.mem_iff.1 (by simp);cases l with
  |nil=>cases hk
  |cons x xs =>
   cases n with
   |zero=>simp at hn
   |succ n =>
    simp only[exts];refine List.mem_flatMap.2 ⟨k,hk,?_⟩;obtain⟨h1,h2⟩:=List.pairwise_cons.1 hs;have hall:((x::xs).all fun i=>i==k||!lt i k)=true:=by
     refine List.all_eq_true.2 fun i hi=>?_;have:i∈k::s:=hp.mem_iff.2 hi;rcases List.mem_cons.1 this with rfl|h
     .simp
     .simp[h1 i h]
    rw[if_pos hall];refine List.mem_map.2 ⟨s,ih _ n ?_ ?_ h2,rfl⟩
    .exact(List.cons_perm_iff_perm_erase.1 hp).2
    .rw[List.length_erase_of_mem hk];simp at hn |-;omega
theorem Q27 {j:Nat}:∀ (a a' b b':List Nat),j∉a->j∉a'->a++j::b=a'++j::b'->a=a':=by
 intro a;induction a with
 |nil =>
  intro a' b b' _ h' h;cases a' with
  |nil=>rfl
  |cons x a'=>simp at h;exact absurd h.1 (by rintro rfl;exact h' (by simp))
 |cons x a ih =>
  intro a' b b' h1 h2 h;cases a' with
  |nil=>simp at h;exact absurd h.1 (by rintro rfl;exact h1 (by simp))
  |cons y a' =>simp at h;obtain⟨rfl,h⟩:=h;rw[ih a' b b' (fun hm=>h1 (by simp[hm])) (fun hm=>h2 (by simp[hm])) h]
theorem Af {ops:Array Oper}{d:DInfo}(hb:DBase ops d):∀ (l:List Nat) (L:Array Bool),L.size=ops.size->YW ops L l->∀ pre j post,l=pre++j::post->∀ e∈d.ed.getD j [],L.getD e false=true\/e∈pre:=by
 intro l;induction l with
 |nil=>intro L _ _ pre j post h;simp at h
 |cons i l ih =>
  intro L hs h pre j post he e gh;obtain⟨kC,h'⟩:=h;obtain⟨aQ,nD,o,ho,iG⟩:=Bm hs kC;have iI:i<L.size:=by rw[hs];exact aQ
  cases pre with
  |nil =>simp at he;obtain⟨rfl,_⟩:=he;rw[hb.ed _ o ho] at gh;exact .inl (iG e gh)
  |cons x pre =>
   simp at he;obtain⟨rfl,he⟩:=he;rcases ih _ (by simp[hs]) h' pre j post he e gh with h1|h1
   .rw[K8 L i e iI] at h1;split at h1
    .rename_i cK;subst cK;exact .inr (by simp)
    .exact .inl h1
   .exact .inr (by simp[h1])
theorem SL {d0 d:DInfo}{pm l:List Nat}(N:Nat) (hN:∀ i∈l,i<N) (jj:pm.Nodup) (gf:l.Nodup) (aS:∀ i,i∈pm<->i∈l) (bW:∀ pre j post,l=pre++j::post->∀ e∈d0.ed.getD j [],e∈l->e∈pre)
  (iG:∀ p,p<pm.length->d.ed.getD p []=Q5b d0 pm p) (hf:pm.filter (fun i=>d0.k i==2)=l.filter (fun i=>d0.k i==2)) :
  ∀ (post pre:List Nat),l=pre++post->On pm d pm.length (fun q=>pre.contains (pm.getD q N)) post:=by
 intro post;induction post with
 |nil =>
  intro pre hl p hp;have hm:pm.getD p N∈pm:=by simp[List.getD_eq_getElem?_getD,hp]
  have:=(aS _).1 hm;rw[hl,List.append_nil] at this;simpa using this
 |cons j post ih =>
  intro pre hl;have cC:j∈l:=by rw[hl];simp
  have gg:=(aS j).2 cC;have hp:pm.idxOf j<pm.length:=List.idxOf_lt_length_of_mem gg;have sD:pm[pm.idxOf j]'hp=j:=List.getElem_idxOf hp;have hg:∀ z,pm.getD (pm.idxOf j) z=j:=fun z=>by simp[List.getD_eq_getElem?_getD,hp]
  have kD:j∉pre:=fun hm=>by rw[hl] at gf;exact(List.nodup_append.1 gf).2.2 j hm j (by simp) rfl
  refine⟨pm.idxOf j,hp,hg 0,by simp only[hg];simpa using kD,fun e he=>?_,?_⟩
  .rw[iG _ hp] at he;rcases List.mem_append.1 he with he|he
   .obtain⟨e0,jh,rfl⟩:=List.mem_map.1 he;rw[hg] at jh;obtain⟨ke,jE⟩:=List.mem_filter.1 jh;have jE:e0∈pm:=by simpa using jE
    have u2:pm.idxOf e0<pm.length:=List.idxOf_lt_length_of_mem jE;have:pm.getD (pm.idxOf e0) N=e0:=by simp[List.getD_eq_getElem?_getD,u2]
    simp only[this];have:=bW pre j post hl e0 ke ((aS e0).1 jE);simpa using this
   .split at he
    .rename_i au;rw[hg] at au;obtain⟨hq,hk⟩:=List.mem_filter.1 (List.mem_of_getLast? (Option.mem_toList.1 he));have dA:e<pm.idxOf j:=List.mem_range.1 hq;have hel:e<pm.length:=by omega
     have heq:pm.getD e N=pm[e]'hel:=by simp[List.getD_eq_getElem?_getD,hel]
     have qC:pm.getD e 0=pm[e]'hel:=by simp[List.getD_eq_getElem?_getD,hel]
     rw[qC] at hk;simp only[heq];have dj:pm=pm.take (pm.idxOf j)++j::pm.drop (pm.idxOf j+1):=by conv=>lhs;rw[<-List.take_append_drop (pm.idxOf j) pm,List.drop_eq_getElem_cons hp,sD]
     have qD:j∉pm.take (pm.idxOf j):=by intro hm;have hn:=jj;rw[dj] at hn;exact(List.nodup_append.1 hn).2.2 j hm j (by simp) rfl
     have u4:(pm.take (pm.idxOf j)).filter (fun i=>d0.k i==2)++j::(pm.drop (pm.idxOf j+1)).filter (fun i=>d0.k i==2)=pre.filter (fun i=>d0.k i==2)++j::post.filter (fun i=>d0.k i==2):=by have h1:=hf;rw[dj,hl] at h1;simp only[List.filter_append,List.filter_cons,au,if_true] at h1;exact h1
     have:=Q27 _ _ _ _ (fun hm=>qD (List.mem_filter.1 hm).1) (fun hm=>kD (List.mem_filter.1 hm).1) u4;have aQ:pm[e]∈(pm.take (pm.idxOf j)).filter (fun i=>d0.k i==2):=List.mem_filter.2 ⟨List.mem_take_iff_getElem.2 ⟨e,by omega,rfl⟩,hk⟩;rw[this] at aQ;have:=(List.mem_filter.1 aQ).1;simpa using this
    .cases he
  .have qE:(fun q=>if q=pm.idxOf j then true else pre.contains (pm.getD q N))=fun q=>(pre++[j]).contains (pm.getD q N):=by
    funext q
    by_cases hq:q=pm.idxOf j
    .subst hq;simp only[if_true,hg];simp
    .rw[if_neg hq];have aC:pm.getD q N≠j:=by
      intro he;rcases Nat.lt_or_ge q pm.length with pD|pD
      .have h1:pm[q]=j:=by simpa [List.getD_eq_getElem?_getD,pD] using he
       exact hq ((List.getElem_inj (h₀:=pD) (h₁:=hp) jj).1 (h1.trans sD.symm))
      .simp[List.getD_eq_getElem?_getD,List.getElem?_eq_none pD] at he;have:=hN j cC;omega
     rw[Bool.eq_iff_iff];simp only[List.contains_iff_mem,List.mem_append,List.mem_singleton,aC,or_false]
   rw[qE];exact ih (pre++[j]) (by rw[hl];simp)
theorem Og {ops:Array Oper}{vs:List VOper}(h:ops.toList.mapM (Zs P ops)=some vs) (aj:(YC ops.toList vs).okB=true):DBase ops (YC ops.toList vs):=by
 have hlen:vs.length=ops.size:=by have:=(Xv _ _ _ h).1;simpa using this
 have ku:(YC ops.toList vs).ks.length=ops.size:=by simp[YC,hlen]
 have cX:=aj;unfold DInfo.okB at cX;rw[Bool.and_eq_true,decide_eq_true_eq] at cX;obtain⟨u5,lg⟩:=cX;have h0:∀ j,j<ops.size->(YC ops.toList vs).okE j=true/\(YC ops.toList vs).an.getD j 0<2 ^ j/\((List.range j).all fun i=>!((YC ops.toList vs).lt i j)||((YC ops.toList vs).ed.getD j []).any (fun e=>e==i||decide (i<e)&&(YC ops.toList vs).lt i e))=true:=fun j hj=>by have:=List.all_eq_true.1 lg j (List.mem_range.2 (by rw[ku];exact hj));rw[Bool.and_eq_true,Bool.and_eq_true,decide_eq_true_eq] at this;exact this
 have nE:∀ j,j<ops.size->∀ e∈(YC ops.toList vs).ed.getD j [],e<j:=fun j hj e he=>by have:=List.all_eq_true.1 (h0 j hj).1 e he;simpa using this
 refine⟨fun j o ho=>by simp[YC,List.getD_eq_getElem?_getD,ho],nE,fun j hj i hi ah=>?_,fun i j ah=>?_,ku⟩
 .have:=List.all_eq_true.1 (h0 j hj).2.2 i (List.mem_range.2 hi);simp only[ah,Bool.not_true,Bool.false_or,List.any_eq_true,Bool.or_eq_true,Bool.and_eq_true,decide_eq_true_eq,beq_iff_eq] at this;exact this
 .rcases Nat.lt_or_ge i j with h|h
  .exact h
  .exfalso;unfold DInfo.lt at ah;rcases Nat.lt_or_ge j ops.size with hj|hj
   .have h1:=(h0 j hj).2.1;have h2:(YC ops.toList vs).an.getD j 0<2 ^ i:=Nat.lt_of_lt_of_le h1 (Nat.pow_le_pow_right (by omega) h);rw[Nat.testBit_lt_two_pow h2] at ah;cases ah
   .have:(YC ops.toList vs).an.getD j 0=0:=by
     rw[List.getD_eq_getElem?_getD,List.getElem?_eq_none (by rw[u5,ku];exact hj)];rfl
    rw[this,Nat.zero_testBit] at ah;cases ah
theorem AX {t:Nat}:∀ (l:List Nat),l.Pairwise (fun j i=>¬ (i<t/\t<=j))->l=l.filter (fun i=>decide (i<t))++l.filter (fun i=>decide (t<=i))
 |[],_=>rfl
 |x::l,h=>by
  obtain⟨h1,h2⟩:=List.pairwise_cons.1 h;have ih:=AX l h2;by_cases hx:x<t
  .have mQ:¬ t<=x:=by omega
   simp only[List.filter_cons,hx,decide_true,if_true,mQ,decide_false,List.cons_append,Bool.false_eq_true,if_false];rw[<-ih]
  .have mQ:t<=x:=by omega
   have iH:l.filter (fun i=>decide (i<t))=[]:=List.filter_eq_nil_iff.2 fun i hi=>by have:=h1 i hi;simp;omega
   have hall:l.filter (fun i=>decide (t<=i))=l:=List.filter_eq_self.2 fun i hi=>by have:=h1 i hi;simp;omega
   simp only[List.filter_cons,hx,decide_false,mQ,decide_true,if_true,iH,hall];simp
theorem Ho (hS:OkSpecs P S) {ro:Option Nat}{n:Nat}{ops:Array Oper}{vs:List VOper}(cu:ops.toList.mapM (Zs P ops)=some vs) {d0:DInfo}(_hb:DBase ops d0) {l l2 idx pm:List Nat}(gf:l.Nodup) (ah:∀ i∈l,i<ops.size) (qF:∀ i,i∈l<->i∈idx)
  (bW:∀ pre j post,l=pre++j::post->∀ e∈d0.ed.getD j [],e∈l->e∈pre) (iF:Z0y d0 vs idx (l.filter fun i=>d0.k i==2) pm=true)
  {env:Env}{σ:Heap}{K:Env->Heap->Prop}{ρ:Plc}{w:World}{a:Act}(qG:Z8 S ((Cj d0 vs pm).opers (Kp vs pm) 0) env [σ] σ [] K) (hH:HRel ρ σ w) (hL:LRel ρ σ.n env a.tmps.toList) (dF:Mks B a.defers w)
  {Q:Exit->Act->World->Prop}(hQ:∀ a' w',DT B (List.length env) ρ σ w K a' w'->wpOpsIn (FF ro) n P ops Q l2 a' w'):wpOpsIn (FF ro) n P ops Q (l++l2) a w:=by
 have qb:vs.length=ops.size:=by have:=(Xv _ _ _ cu).1;simpa using this
 simp only[Z0y,Bool.and_eq_true,decide_eq_true_eq,List.all_eq_true,List.contains_iff_mem] at iF;obtain⟨m1,m2,m3,m4,m5⟩:=iF;have kE:∀ i,i∈pm<->i∈l:=fun i=>by rw[qF i];exact⟨fun hi=>m2 i hi,fun hi=>m1 i hi⟩
 have h_:∀ i∈pm,i<vs.length:=fun i hi=>by have:=ah i ((kE i).1 hi);omega
 have hl:DLink P ops pm (Cj d0 vs pm) (Kp vs pm):=DLink.of cu h_;have qH:(Kp vs pm).length=pm.length:=by simp[Kp]
 have ku:(Cj d0 vs pm).ks.length=(Kp vs pm).length:=by simp[Cj]
 have hd:=DOk.of m5;rw[ku] at hd;have iG:∀ p,p<pm.length->(Cj d0 vs pm).ed.getD p []=Q5b d0 pm p:=fun p hp=>by simp[Cj,List.getD_eq_getElem?_getD,hp]
 have iJ:=SL (d:=Cj d0 vs pm) ops.size ah m3 gf kE bW iG m4 l [] (by simp);have fO:∀ i v,(Kp vs pm)[i]?=some v->(Cj d0 vs pm).k i=v.op.kind:=fun i v hv=>(hl.comp i v hv).choose_spec.2.2;obtain⟨k,tr,hp,_,_,k2,k3⟩:=Q9z (Cj d0 vs pm) (Kp vs pm) fO env K (Kp vs pm) 0 (by omega) rfl [] (fun _=>undef) (fun _=>σ) [] (fun l hl=>by omega) (fun l hl=>by omega) (by simpa [DInfo.rank,EL] using qG);have qI:hp 0=σ:=k2 0 (by omega);have nF:(fun q=>([]:List Nat).contains (pm.getD q ops.size))=fun _=>false:=by funext q;rfl
 rw[nF] at iJ;refine Ft (B:=B) (pm:=pm) hS hl hd hQ k3 l (fun _=>false) a w (by rw[qH];exact iJ) ?_ (fun _ _ _=>rfl) (fun j hj=>by cases hj) (ρ0:=ρ) (σ0:=σ) (w0:=w)
 .refine⟨fun j hj hA=>(by cases hA),0,ρ,fun l aW hk=>by simp,by omega,by rw[qI];exact hH,?_,dF,by rw[qI];exact Ext.refl _ _ _⟩;have e:EL (Kp vs pm) env tr (fun _=>false) (Kp vs pm).length=env:=by
   have:∀ m,EL (Kp vs pm) env tr (fun _=>false) m=env:=by
    intro m;induction m with
    |zero=>rfl
    |succ m ih=>simp only[EL,Bool.false_eq_true,if_false];exact ih
   exact this _
  rw[e,qI];exact hL
theorem RK (d:DInfo):∀ (lv:List VOper) (i:Nat),(∀ v∈lv,v.op.kind≠2)->∀ (env:Env) (σ:Heap) (pend:List (Nat×(Heap->Prop))) (K:Env->Heap->Prop),Px S lv env σ K->Z8 S (d.opers lv i) env [σ] σ pend K:=by
 intro lv;induction lv with
 |nil=>intro i _ env σ pend K h;exact h
 |cons v rest ih =>
  intro i hk env σ pend K h;have au:v.op.kind≠2:=hk v (by simp);have dX:∀ u∈rest,u.op.kind≠2:=fun u hu=>hk u (by simp[hu]);simp only[Px] at h;simp only[DInfo.opers,Z8];cases hw:Zo env v.guard with
  |none=>rw[hw] at h;exact h.elim
  |some b =>
   rw[hw] at h;obtain⟨ht,hf⟩:=h;refine⟨fun e=>?_,fun e=>?_⟩
   .have ht:=ht e;have ly:∃ p,Q6 v.op (Q4 env) σ=some p/\Px S rest (Jv env v.dst p.1) p.2 K:=by
     have cH:∀ x:XOp,v.op=.ext x->(∀ y,x≠.nextMap y):=fun x hx y hy=>by rw[hx,hy] at au;exact au rfl
     have:=ht;unfold vop at this;split at this
     .rename_i f bR heq;rw[heq] at au;exact absurd rfl au
     .rename_i f bR heq;rw[heq] at au;exact absurd rfl au
     .rename_i x heq;rw[heq] at au;exact absurd rfl au
     .cases dV:Q6 v.op (Q4 env) σ with
      |none=>rw[dV] at this;exact this.elim
      |some p=>rw[dV] at this;exact⟨p,rfl,this⟩
    obtain⟨p,hp,hr⟩:=ly;have hq:p.2=σ:=G8 au (v:=p.1) (σ':=p.2) hp;rw[hq] at hr;rw[if_neg au];split
    .rw[hp];refine⟨fun τ hτ=>?_,ih (i+1) dX _ _ _ _ hr⟩;have:τ=σ:=by
      have:=List.mem_of_mem_drop hτ;simpa using this
     subst this;show QU (Q6 v.op (Q4 env) τ) _;rw[hp];rfl
    .rw[hp];exact ih (i+1) dX _ _ _ _ hr
   .rw[if_neg au];exact ih (i+1) dX _ _ _ _ (hf e)
theorem Q0q (hS:OkSpecs P S) {ro:Option Nat}{n:Nat}{ops:Array Oper}{vs:List VOper}(cu:ops.toList.mapM (Zs P ops)=some vs) {d0:DInfo}(hb:DBase ops d0) (_hk0:∀ i v,vs[i]?=some v->d0.k i=v.op.kind) {s len:Nat}(hlen:0<len) (jd:s+len<=ops.size) {x:DSeg}(hx:Z16 d0 vs s len=some x)
  {l l2:List Nat}(gf:l.Nodup) (aS:∀ i,i∈l<->(s<=i/\i<s+len)) (bW:∀ pre j post,l=pre++j::post->∀ e∈d0.ed.getD j [],e∈l->e∈pre) (jO:l.Pairwise fun j i=>d0.lt i j=false)
  {rest:List DSeg}{env:Env}{σ:Heap}{K:Env->Heap->Prop}{ρ:Plc}{w:World}{a:Act}(h:Nm S (x::rest) env σ K) (hH:HRel ρ σ w) (hL:LRel ρ σ.n env a.tmps.toList) (dF:Mks B a.defers w)
  {Q:Exit->Act->World->Prop}(hQ:∀ a' w',DT B (List.length env) ρ σ w (fun env σ=>Nm S rest env σ K) a' w'->wpOpsIn (FF ro) n P ops Q l2 a' w'):wpOpsIn (FF ro) n P ops Q (l++l2) a w:=by
 have qb:vs.length=ops.size:=by have:=(Xv _ _ _ cu).1;simpa using this
 unfold Z16 at hx;split at hx
 .rename_i h1;subst h1;obtain rfl:=osj hx;have hs:s<ops.size:=by omega
  have eZ:l=[s]:=by
   have hm:∀ i,i∈l<->i=s:=fun i=>by rw[aS i];omega
   have hp:l.Perm [s]:=(List.perm_ext_iff_of_nodup gf (by simp)).2 fun i=>by rw[hm i];simp
   exact List.perm_singleton.1 hp
  subst eZ;obtain⟨v,hv,hc⟩:=(Xv _ _ _ cu).2 s ops[s] (by simp[hs]);have hg:vs.getD s default=v:=by simp[List.getD_eq_getElem?_getD,hv]
  simp only[Nm,hg] at h;simp only[Px] at h;rw[List.singleton_append,wpOpsIn_cons];unfold wpOpIn;rw[Array.getElem?_eq_getElem hs];simp only;cases hw:Zo env v.guard with
  |none=>rw[hw] at h;exact h.elim
  |some b =>
   rw[hw] at h;obtain⟨ht,hf⟩:=h;obtain⟨dB,bH,bL⟩:=MW hc hL hw;rw[dB];cases b with
   |false =>rw[if_neg (by simp)];refine⟨fun f _=>Fs _ _,hQ _ _ ⟨_,ρ,σ,hf rfl,Zb _ _ _,hH,by rw[bH];exact Y2 hL ZY _,by rw[Ju];exact dF,Ext.refl _ _ _⟩⟩
   |true =>rw[if_pos rfl];refine KX hS bL hH hL (ht rfl) fun c w' ⟨u,ρ',σ',hK,eD,fP,hE⟩=>?_;exact hQ _ _ ⟨_,ρ',σ',hK,Zb _ _ _,fP,by rw[bH];exact Y2 (hE.lrel hL) eD _,by rw[Ju];exact dF.ext hH hE,hE⟩
 .rename_i gG;simp only at hx;split at hx
  .rename_i hP;obtain rfl:=osj hx;simp only[Nm] at h;have nG:(l.filter fun i=>d0.k i==2).Perm ((List.range' s len).filter fun i=>d0.k i==2):=by
    refine (List.Perm.filter _ ?_);refine (List.perm_ext_iff_of_nodup gf List.nodup_range').2 fun j=>?_;rw[aS j,List.mem_range'_1]
   have hs:=RV d0.lt _ _ len nG (by
    refine Nat.le_trans (List.length_filter_le _ _) (by simp)) (jO.filter _)
   have iF:=List.all_eq_true.1 hP _ (List.mem_map.2 ⟨_,hs,rfl⟩);have qG:=h _ (List.mem_map.2 ⟨_,List.mem_map.2 ⟨_,hs,rfl⟩,rfl⟩);exact Ho hS cu hb gf (fun i hi=>by have:=(aS i).1 hi;omega) (fun i=>by rw[aS i,List.mem_range'_1]) bW iF qG hH hL dF (fun a' w' hn=>by
    obtain⟨af,ρ',σ',⟨aV,σ2,hD,hR⟩,n1,n2,n3,n4,n5⟩:=hn;obtain⟨ρ2,d1,d2,d3⟩:=hD ρ w ρ' w' a'.tmps.toList hH n5 n2 n3;exact hQ a' w' ⟨aV,ρ2,σ2,hR,(d1.1.trans n3.1.symm).trans n1,d2,d1,n4,d3⟩)
  .cases hx
theorem FY (hS:OkSpecs P S) {ro:Option Nat}{n:Nat}{ops:Array Oper}{vs:List VOper}(cu:ops.toList.mapM (Zs P ops)=some vs) {d0:DInfo}(hb:DBase ops d0) (iA:∀ i v,vs[i]?=some v->d0.k i=v.op.kind)
  {Q:Exit->Act->World->Prop}{K:Env->Heap->Prop}:∀ (f s:Nat) (aU:List DSeg),Q05 d0 vs f s=some aU->s<=ops.size->∀ (l:List Nat),l.Nodup->(∀ i,i∈l<->(s<=i/\i<ops.size)) ->
   (∀ pre j post,l=pre++j::post->∀ e∈d0.ed.getD j [],e∈l->e∈pre)->(l.Pairwise fun j i=>d0.lt i j=false) ->
   ∀ (env:Env) (σ:Heap) (ρ:Plc) (w:World) (a:Act),Nm S aU env σ K->HRel ρ σ w->LRel ρ σ.n env a.tmps.toList->Mks B a.defers w->(∀ a' w',DT B (List.length env) ρ σ w K a' w'->Q .normal a' w') ->
   wpOpsIn (FF ro) n P ops Q l a w:=by
 intro f
 have fin:∀ (s:Nat) (aU:List DSeg),s=d0.ks.length->[]=aU->∀ (l:List Nat),(∀ i,i∈l<->(s<=i/\i<ops.size))->∀ (env:Env) (σ:Heap) (ρ:Plc) (w:World) (a:Act),Nm S aU env σ K->HRel ρ σ w->LRel ρ σ.n env a.tmps.toList->Mks B a.defers w->(∀ a' w',DT B (List.length env) ρ σ w K a' w'->Q .normal a' w') ->
   wpOpsIn (FF ro) n P ops Q l a w:=by
  intro s aU hs fc l aS env σ ρ w a h hH hL dF hQ;subst fc;have:l=[]:=by
   cases l with
   |nil=>rfl
   |cons x l =>have:=(aS x).1 (by simp);rw[hs,hb.size] at this;omega
  subst this;exact hQ a w ⟨env,ρ,σ,h,rfl,hH,hL,dF,Ext.refl _ _ _⟩
 induction f with
 |zero =>
  intro s aU fc hs l gf aS bW jO env σ ρ w a h hH hL dF hQ;simp only[Q05] at fc;split at fc
  .rename_i he;exact fin s aU he (osj fc) l aS env σ ρ w a h hH hL dF hQ
  .cases fc
 |succ f ih =>
  intro s aU fc hs l gf aS bW jO env σ ρ w a h hH hL dF hQ;simp only[Q05] at fc;split at fc
  .rename_i he;exact fin s aU he (osj fc) l aS env σ ρ w a h hH hL dF hQ
  .rename_i aC;split at fc
   .cases fc
   .rename_i t ht;have qJ:=List.find?_some ht;have nH:=List.mem_range'_1.1 (List.mem_of_find?_eq_some ht);rw[hb.size] at nH;split at fc
    .rename_i x r hx hr;obtain rfl:=osj fc;have ah:∀ i p,i<t->t<=p->p<ops.size->d0.lt i p=true:=fun i p hi hp jj=>by
      have h1:=List.all_eq_true.1 qJ p (List.mem_range'_1.2 ⟨hp,by rw[hb.size];omega⟩);exact List.all_eq_true.1 h1 i (List.mem_range.2 hi)
     have qK:l.Pairwise (fun j i=>¬ (i<t/\t<=j)):=by refine (List.pairwise_iff_forall_sublist.2 fun {j i} gd=>?_);rintro⟨h1,h2⟩;have hj:j∈l:=gd.subset (by simp);have h3:=(List.pairwise_iff_forall_sublist.1 jO) gd;rw[ah i j h1 h2 ((aS j).1 hj).2] at h3;cases h3
     have dj:=AX l qK;have gY:∀ i,i∈l.filter (fun i=>decide (i<t))<->(s<=i/\i<s+(t-s)):=fun i=>by rw[List.mem_filter,aS i,decide_eq_true_eq];omega
     have en:∀ i,i∈l.filter (fun i=>decide (t<=i))<->(t<=i/\i<ops.size):=fun i=>by rw[List.mem_filter,aS i,decide_eq_true_eq];omega
     rw[dj];refine Q0q hS cu hb iA (by omega) (by omega) hx (gf.filter _) gY ?_ (jO.filter _) h hH hL dF ?_
     .intro pre j post he e gh hel;refine bW pre j (post++l.filter (fun i=>decide (t<=i))) ?_ e gh (List.mem_filter.1 hel).1;exact dj.trans (by rw[he,List.append_assoc];rfl)
     .intro a' w' ⟨af,ρ',σ',k1,k0,k2,k3,k4,k5⟩;refine ih t r hr (by omega) _ (gf.filter _) en ?_ (jO.filter _) af σ' ρ' w' a' k1 k2 k3 k4 ?_
      .intro pre j post he e gh hel;have:=bW (l.filter (fun i=>decide (i<t))++pre) j post (dj.trans (by rw[he,List.append_assoc])) e gh (List.mem_filter.1 hel).1;rcases List.mem_append.1 this with h1|h1
       .have h2:=(List.mem_filter.1 h1).2;have h3:=(List.mem_filter.1 hel).2;simp at h2 h3;omega
       .exact h1
      .intro a2 w2 ⟨aV,ρ2,σ2,m1,m0,m2,m3,m4,m5⟩;exact hQ a2 w2 ⟨aV,ρ2,σ2,m1,m0.trans k0,m2,m3,m4,k5.trans m5⟩
    .cases fc
theorem Fb (hm:P.follows .mixedOrders=true) (hS:OkSpecs P S) {ro:Option Nat}{n:Nat}{id:Nat}{ops:Array Oper}{vs:List VOper}(cu:ops.toList.mapM (Zs P ops)=some vs) {aU:List DSeg}(aj:Q5d (YC ops.toList vs) vs=some aU)
  {env:Env}{σ:Heap}{K:Env->Heap->Prop}{ρ:Plc}{w:World}{a:Act}(h:Nm S aU env σ K) (hH:HRel ρ σ w) (hL:LRel ρ σ.n env a.tmps.toList) (dF:Mks B a.defers w)
  {Q:Exit->Act->World->Prop}(hQ:∀ a' w',DT B (List.length env) ρ σ w K a' w'->Q .normal a' w'):(Code.region id ops true).wpIn (FF ro) n P Q a w:=by
 unfold Q5d at aj;split at aj
 .rename_i hB;have hb:=Og cu hB;have fO:∀ i v,vs[i]?=some v->(YC ops.toList vs).k i=v.op.kind:=fun i v hv=>by
   simp[DInfo.k,YC,List.getD_eq_getElem?_getD,hv]
  generalize qq:YC ops.toList vs=d0 at *
  refine wpIn_region_draw fun t=>?_;simp only[Region.schedule,hm,Bool.true_or,if_true];have gi:∀ (j:Nat) (o:Oper),ops[j]?=some o->∀ e∈DK o,e<j:=fun j o ho e he=>hb.edge j (Array.getElem?_eq_some_iff.1 ho).1 e (by rw[hb.ed j o ho];exact he);have hall:∀ i,(Array.replicate ops.size false).getD i false=false:=fun i=>by rw[Array.getD_eq_getD_getElem?,Array.getElem?_replicate];split<;>rfl
  have gZ:=Q48 gi ops.size t (Array.replicate ops.size false) (by simp) (by
   have:∀ m,cnt (fun i=>(Array.replicate ops.size false).getD i false) m<=m:=by
    intro m;induction m with
    |zero=>exact Nat.le_refl _
    |succ m ih=>simp only[cnt];split<;>omega
   exact this _)
  change wpOpsIn _ _ _ _ _ (Region.linearise.go .any ops ops.size t (Array.replicate ops.size false) []) _ _;generalize Region.linearise.go .any ops ops.size t (Array.replicate ops.size false) []=l at *
  obtain⟨jJ,aS⟩:=L_ l _ (by simp) gZ;have jO:=Z0n hb l _ (by simp) (fun j _ hA=>by rw[hall] at hA;cases hA) gZ;have bW:=Af hb l _ (by simp) gZ;refine FY hS cu hb fO _ 0 aU aj (by omega) l jJ (fun i=>by rw[aS i,hall];simp) (fun pre j post he e gh _=>?_) jO env σ ρ _ a h hH.drew hL (dF.ext hH (Ext.drew _ _ _)) (fun a' w' hn=>?_)
  .rcases bW pre j post he e gh with h1|h1
   .rw[hall] at h1;cases h1
   .exact h1
  .obtain⟨af,ρ',σ',n0,n1,n2,n3,n4,n5⟩:=hn;exact hQ a' w' ⟨af,ρ',σ',n0,n1,n2,n3,n4,(Ext.drew _ _ _).trans n5⟩
 .cases aj
theorem SM (hm:P.follows .mixedOrders=true) (hS:OkSpecs P S) {ro:Option Nat}{n:Nat}{id:Nat}{ops:Array Oper}{vs:List VOper}(cu:ops.toList.mapM (Zs P ops)=some vs) (aj:NZ (YC ops.toList vs) vs=true)
  {env:Env}{σ:Heap}{K:Env->Heap->Prop}{ρ:Plc}{w:World}{a:Act}(h:Px S vs env σ K) (hH:HRel ρ σ w) (hL:LRel ρ σ.n env a.tmps.toList) (dF:Mks B a.defers w)
  {Q:Exit->Act->World->Prop}(hQ:∀ a' w',DT B (List.length env) ρ σ w K a' w'->Q .normal a' w'):(Code.region id ops true).wpIn (FF ro) n P Q a w:=by
 simp only[NZ,Bool.and_eq_true] at aj;obtain⟨hB,lD,j5⟩:=aj;have hb:=Og cu hB;have qb:vs.length=ops.size:=by have:=(Xv _ _ _ cu).1;simpa using this
 have au:∀ v∈vs,v.op.kind≠2:=fun v hv=>by have:=List.all_eq_true.1 lD v hv;simpa using this
 have fO:∀ i v,vs[i]?=some v->(YC ops.toList vs).k i=v.op.kind:=fun i v hv=>by simp[DInfo.k,YC,List.getD_eq_getElem?_getD,hv]
 generalize qq:YC ops.toList vs=d0 at *
 refine wpIn_region_draw fun t=>?_;simp only[Region.schedule,hm,Bool.true_or,if_true];have gi:∀ (j:Nat) (o:Oper),ops[j]?=some o->∀ e∈DK o,e<j:=fun j o ho e he=>hb.edge j (Array.getElem?_eq_some_iff.1 ho).1 e (by rw[hb.ed j o ho];exact he);have hall:∀ i,(Array.replicate ops.size false).getD i false=false:=fun i=>by rw[Array.getD_eq_getD_getElem?,Array.getElem?_replicate];split<;>rfl
 have gZ:=Q48 gi ops.size t (Array.replicate ops.size false) (by simp) (by
  have:∀ m,cnt (fun i=>(Array.replicate ops.size false).getD i false) m<=m:=by
   intro m;induction m with
   |zero=>exact Nat.le_refl _
   |succ m ih=>simp only[cnt];split<;>omega
  exact this _)
 change wpOpsIn _ _ _ _ _ (Region.linearise.go .any ops ops.size t (Array.replicate ops.size false) []) _ _;generalize Region.linearise.go .any ops ops.size t (Array.replicate ops.size false) []=l at *
 obtain⟨jJ,aS⟩:=L_ l _ (by simp) gZ;have bW:=Af hb l _ (by simp) gZ;have ah:∀ i∈l,i<ops.size:=fun i hi=>((aS i).1 hi).1;have iH:l.filter (fun i=>d0.k i==2)=[]:=List.filter_eq_nil_iff.2 fun i hi=>by have aQ:=ah i hi;have sE:vs[i]?=some vs[i]:=List.getElem?_eq_getElem (by omega);rw[fO i _ sE];simpa using au _ (List.mem_of_getElem? sE)
 have u6:Kp vs (List.range' 0 d0.ks.length)=vs:=by
  apply List.ext_getElem?;intro i;unfold Kp;rw[List.getElem?_map];rcases Nat.lt_or_ge i vs.length with hi|hi
  .rw[List.getElem?_range' (by rw[hb.size];omega),List.getElem?_eq_getElem hi];simp[List.getD_eq_getElem?_getD,hi]
  .rw[List.getElem?_eq_none (by simp[hb.size];omega),List.getElem?_eq_none hi];rfl
 have hd:=RK (S:=S) (Cj d0 vs (List.range' 0 d0.ks.length)) vs 0 au env σ [] K h;rw[<-List.append_nil l];refine Ho hS cu hb jJ ah (fun i=>by rw[aS i,hall,List.mem_range'_1,hb.size];simp) (fun pre j post he e gh _=>?_) (idx:=List.range' 0 d0.ks.length) (pm:=List.range' 0 d0.ks.length) (by rw[iH];exact j5) (by rw[u6];exact hd) hH.drew hL (dF.ext hH (Ext.drew _ _ _)) (fun a' w' hn=>?_)
 .rcases bW pre j post he e gh with h1|h1
  .rw[hall] at h1;cases h1
  .exact h1
 .obtain⟨af,ρ',σ',n0,n1,n2,n3,n4,n5⟩:=hn;exact hQ a' w' ⟨af,ρ',σ',n0,n1,n2,n3,n4,(Ext.drew _ _ _).trans n5⟩
theorem SX (hS:OkSpecs P S) {id:Nat}{ops:Array Oper}{lv:List VOper}(bT:ops.toList.mapM (Zs P ops)=some lv):Sound P S (.region id ops false) (.region lv):=by intro B cY ro n Q env σ ρ w a h hH hL hd hR Q' hQ;simp only[vwp] at h;refine wpIn_region ?_;rw[List.range_eq_range',<-Array.length_toList,wpOpsIn_eq_wpListIn ops.toList 0 (by simp)];exact FV hS ops Q' ops.toList lv bT env σ _ ρ w a h hH hL hd (fun a' w' hn=>hQ .normal a' w' hn)
theorem cond_true {v:Value}{A B:Prop}(h:IN v A B):∃ t,v=.bool t/\(t=true->A)/\(t=false->B):=by
 unfold IN at h;split at h
 .exact⟨_,rfl,h⟩
 .exact h.elim
theorem FD {c:Code}{vc:VCode}(ih:Sound P S c vc):Sound P S (.loop c) (.loop vc):=by
 intro B cY ro n Q env σ ρ w a h hH hL hd hR Q' hQ;simp only[vwp] at h;obtain⟨live,I,n0,h0,lE⟩:=h;refine wpIn_loop_ghost (fun k a' w'=>DT B (List.length env) ρ σ w (fun af σ'=>I k (Bh live af) σ') a' w') n0 ⟨env,ρ,σ,h0,rfl,hH,hL,hd,Ext.refl _ _ _⟩ ?_;rintro k a1 w1 ⟨bz,ρ1,σ1,k1,k0,k2,k3,k4,k5⟩;have hlen:List.length (JY live (Bh live bz) (List.replicate env.length poison))=List.length env:=by rw[Rm];simp
 refine ih cY ro n _ _ σ1 ρ1 w1 a1 (lE k (Bh live bz) σ1 k1) k2 (I1 live bz _ _ k3 (F9 _ (by rw[<-k3.1,k0]))) k4 (hR.ext k5) _ ?_;rintro e a2 w2 ⟨aV,ρ2,σ2,m1,m0,m2,m3,m4,m5⟩;rw[hlen] at m0;cases e with
 |normal =>obtain⟨n',mE,hI⟩:=m1;exact⟨n',mE,aV,ρ2,σ2,hI,m0,m2,m3,m4,k5.trans m5⟩
 |_=>exact hQ _ a2 w2 ⟨aV,ρ2,σ2,m1,m0,m2,m3,m4,k5.trans m5⟩
theorem My (c:Code):Sound P S c .bad:=by intro B cY ro n Q env σ ρ w a h;exact h.elim
theorem FN (hm:P.follows .mixedOrders=true) (hS:OkSpecs P S):∀ (c:Code) (vc:VCode),comp P c=some vc->Sound P S c vc:=by
 intro c;induction c with
 |skip =>intro vc hc;simp[comp] at hc;subst hc;intro B cY ro n Q env σ ρ w a h hH hL hd hR Q' hQ;exact wpIn_skip (hQ _ _ _ ⟨env,ρ,σ,h,rfl,hH,hL,hd,Ext.refl _ _ _⟩)
 |region id ops dr =>
  intro vc hc;cases dr with
  |false =>simp only[comp,Option.bind_eq_bind,Option.bind_eq_some_iff] at hc;obtain⟨lv,bT,hc⟩:=hc;simp at hc;subst hc;exact SX hS bT
  |true =>
   simp only[comp,Option.bind_eq_bind,Option.bind_eq_some_iff] at hc;obtain⟨lv,bT,hc⟩:=hc;split at hc
   .rename_i aj;simp at hc;subst hc;intro B cY ro n Q env σ ρ w a h hH hL hd hR Q' hQ;exact SM hm hS bT aj h hH hL hd (fun a' w' hn=>hQ .normal a' w' hn)
   split at hc
   .rename_i aU aj;simp at hc;subst hc;intro B cY ro n Q env σ ρ w a h hH hL hd hR Q' hQ;exact Fb hm hS bT aj h hH hL hd (fun a' w' hn=>hQ .normal a' w' hn)
   .simp at hc;subst hc;exact My _
 |seq x y jP nJ =>
  intro vc hc;simp only[comp,Option.bind_eq_bind,Option.bind_eq_some_iff] at hc;obtain⟨vx,hx,vy,hy,hc⟩:=hc;simp at hc;subst hc;intro B cY ro n Q env σ ρ w a h hH hL hd hR Q' hQ;simp only[vwp] at h;refine wpIn_seq (jP vx hx cY ro n _ env σ ρ w a h hH hL hd hR _ ?_);rintro e a1 w1 ⟨bz,ρ1,σ1,k1,k0,k2,k3,k4,k5⟩;cases e with
  |normal =>refine nJ vy hy cY ro n _ bz σ1 ρ1 w1 a1 k1 k2 k3 k4 (hR.ext k5) _ ?_;rintro e2 a2 w2 ⟨aV,ρ2,σ2,m1,m0,m2,m3,m4,m5⟩;exact hQ e2 a2 w2 ⟨aV,ρ2,σ2,m1,m0.trans k0,m2,m3,m4,k5.trans m5⟩
  |_=>exact hQ _ a1 w1 ⟨bz,ρ1,σ1,k1,k0,k2,k3,k4,k5⟩
 |cond c x y jP nJ =>
  intro vc hc;simp only[comp] at hc;split at hc
  .rename_i aj;simp only[Option.bind_eq_bind,Option.bind_eq_some_iff] at hc;obtain⟨vx,hx,vy,hy,hc⟩:=hc;simp at hc;subst hc;intro B cY ro n Q env σ ρ w a h hH hL hd hR Q' hQ;simp only[vwp] at h;obtain⟨t,ht,h1,h2⟩:=cond_true h;have hv:=Xw hL aj;rw[ht] at hv;refine wpIn_cond_split hv.bool_inv (fun e=>?_) (fun e=>?_)
   .exact jP vx hx cY ro n Q env σ ρ w a (h1 e) hH hL hd hR Q' hQ
   .exact nJ vy hy cY ro n Q env σ ρ w a (h2 e) hH hL hd hR Q' hQ
  .simp at hc;subst hc;exact My _
 |block id x jP =>
  intro vc hc;simp only[comp,Option.bind_eq_bind,Option.bind_eq_some_iff] at hc;obtain⟨vx,hx,hc⟩:=hc;simp at hc;subst hc;intro B cY ro n Q env σ ρ w a h hH hL hd hR Q' hQ;simp only[vwp] at h;refine wpIn_block (jP vx hx cY ro n _ env σ ρ w a h hH hL hd hR _ ?_);rintro e a1 w1 ⟨bz,ρ1,σ1,k1,k0,k2,k3,k4,k5⟩;cases e with
  |exit il =>
   simp only[E0] at k1;simp only[Exit.inBlock];split at k1
   .rename_i he;rw[if_pos he];exact hQ _ a1 w1 ⟨bz,ρ1,σ1,k1,k0,k2,k3,k4,k5⟩
   .rename_i he;rw[if_neg he];exact hQ _ a1 w1 ⟨bz,ρ1,σ1,k1,k0,k2,k3,k4,k5⟩
  |_=>exact hQ _ a1 w1 ⟨bz,ρ1,σ1,k1,k0,k2,k3,k4,k5⟩
 |loop x jP =>intro vc hc;simp only[comp,Option.bind_eq_bind,Option.bind_eq_some_iff] at hc;obtain⟨vx,hx,hc⟩:=hc;simp at hc;subst hc;exact FD (jP vx hx)
 |rangeFunc g ps x y jP nJ =>
  intro vc hc;simp only[comp] at hc;split at hc
  .rename_i aj;simp only[Option.bind_eq_bind,Option.bind_eq_some_iff] at hc;obtain⟨vx,hx,vy,hy,hc⟩:=hc;simp at hc;subst hc;exact Cm hS (jP vx hx) (nJ vy hy) g aj ps
  .simp at hc;subst hc;exact My _
 |exit id =>intro vc hc;simp[comp] at hc;subst hc;intro B cY ro n Q env σ ρ w a h hH hL hd hR Q' hQ;exact wpIn_exit (hQ _ _ _ ⟨env,ρ,σ,h,rfl,hH,hL,hd,Ext.refl _ _ _⟩)
 |ret =>intro vc hc;simp[comp] at hc;subst hc;intro B cY ro n Q env σ ρ w a h hH hL hd hR Q' hQ;exact wpIn_ret (hQ _ _ _ ⟨env,ρ,σ,h,rfl,hH,hL,hd,Ext.refl _ _ _⟩)
 |_ =>intro vc hc;simp[comp] at hc;subst hc;exact My _
end
end Go.V
namespace Go.V
open Go
inductive Ren (n:Nat) (π:Nat->Nat):Value->Value->Prop
 |plain (v:Value) (h:QA v=true):Ren n π v v
 |poison (c:Value):Ren n π poison c
 |glob (g o s:Nat):Ren n π (.pointer (some ⟨g,o,some s⟩)) (.pointer (some ⟨g,o,some s⟩))
 |ptr (i o:Nat) (hi:i<n):Ren n π (.pointer (some ⟨i,o,none⟩)) (.pointer (some ⟨π i,o,none⟩))
 |sl (i o len cap:Nat) (hi:i<n):Ren n π (.slice (some ⟨i,o,none⟩) len cap) (.slice (some ⟨π i,o,none⟩) len cap)
 |slx (i o len cap:Nat) (hi:i<n):Ren n π (.slice (some ⟨i,o,some 0⟩) len cap) (.slice (some ⟨π i,o,some 0⟩) len cap)
 |map (i:Nat) (hi:i<n):Ren n π (.map (some i)) (.map (some (π i)))
 |iface (t:TypeId) (v c:Value) (h:Ren n π v c):Ren n π (.iface t v) (.iface t c)
 |yield (i:Nat) (hi:i<n):Ren n π (.func (.yield i) #[] #[]) (.func (.yield (π i)) #[] #[])
 |func (fn:FuncId) (fs gs cs ds:Array Value) (hf:fs.size=gs.size) (hc:cs.size=ds.size)
   (h1:∀ i (h1:i<fs.size) (h2:i<gs.size),Ren n π fs[i] gs[i]) (h2:∀ i (h1:i<cs.size) (h2:i<ds.size),Ren n π cs[i] ds[i]):Ren n π (.func (.func fn) fs cs) (.func (.func fn) gs ds)
 |agg (cs ds:Array Value) (hc:cs.size=ds.size) (h:∀ i (h1:i<cs.size) (h2:i<ds.size),Ren n π cs[i] ds[i]):Ren n π (.agg cs) (.agg ds)
 |tuple (cs ds:Array Value) (hc:cs.size=ds.size) (h:∀ i (h1:i<cs.size) (h2:i<ds.size),Ren n π cs[i] ds[i]):Ren n π (.tuple cs) (.tuple ds)
def LRen (n:Nat) (π:Nat->Nat) (vs cs:List Value):Prop:=vs.length=cs.length/\∀ (i:Nat) (v c:Value),vs[i]?=some v->cs[i]?=some c->Ren n π v c
theorem Ren.rel {ρ:Plc}{nf n':Nat}{π:Nat->Nat}{v' v:Value}(h:Ren n' π v' v):∀ {c:Value},VRel ρ nf v c->VRel (fun i=>if i<n' then ρ (π i) else none) n' v' c:=by
 induction h with
 |plain v h =>intro c hv;have:c=v:=WV h hv;subst this;exact Xi h
 |poison c=>intro c _;exact .poison _
 |glob g o s=>intro c hv;cases hv;exact .glob _ _ _
 |ptr i o hi =>intro c hv;obtain⟨a,rfl,_,h⟩:=hv.ptr_inv';exact .ptr _ _ _ hi fun p hp=>h p (by simpa [hi] using hp)
 |sl i o len cap hi =>intro c hv;obtain⟨a,aq,rfl,_,h⟩:=hv.sl_inv;exact .sl _ _ _ _ _ _ hi fun p hp=>h p (by simpa [hi] using hp)
 |slx i o len cap hi =>
  intro c hv;cases hv with
  |slx _ _ _ _ a _ h=>exact .slx _ _ _ _ _ hi fun p hp=>h p (by simpa [hi] using hp)
 |map i hi =>
  intro c hv;cases hv with
  |map _ r _ h=>exact .map _ _ hi fun p hp=>h p (by simpa [hi] using hp)
 |yield i hi =>
  intro c hv;cases hv with
  |yield _ r _ h=>exact .yield _ _ hi fun p hp=>h p (by simpa [hi] using hp)
 |iface t v c h ih =>
  intro c hv;cases hv with
  |iface _ _ _ h=>exact .iface _ _ _ (ih h)
 |func fn fs gs cs ds hf hc h1 h2 kU kV =>
  intro c hv;cases hv with
  |func _ _ w8 _ ds' lF cJ ia ib =>exact .func _ _ _ _ _ (hf.trans lF) (hc.trans cJ) (fun i k1 k2=>kU i k1 (by omega) (ia i (by omega) k2)) (fun i k1 k2=>kV i k1 (by omega) (ib i (by omega) k2))
 |agg cs ds hc h ih =>
  intro c hv;cases hv with
  |agg _ ds' cJ h'=>exact .agg _ _ (hc.trans cJ) fun i k1 k2=>ih i k1 (by omega) (h' i (by omega) k2)
 |tuple cs ds hc h ih =>
  intro c hv;cases hv with
  |tuple _ ds' cJ h'=>exact .tuple _ _ (hc.trans cJ) fun i k1 k2=>ih i k1 (by omega) (h' i (by omega) k2)
theorem VRel.ren {ρ:Plc}{n n':Nat}{π:Nat->Nat}(hn:n<=n') (hπ:∀ i,i<n->π i=i) {v c:Value}(h:VRel ρ n v c):Ren n' π v v:=by
 induction h with
 |poison c=>exact .poison _
 |bool b=>exact .plain _ rfl
 |int k x=>exact .plain _ rfl
 |string s=>exact .plain _ rfl
 |nilPtr=>exact .plain _ rfl
 |nilSl=>exact .plain _ rfl
 |nilMap=>exact .plain _ rfl
 |nilFunc=>exact .plain _ rfl
 |nilIface=>exact .plain _ rfl
 |glob g o s=>exact .glob _ _ _
 |ptr i o a hi h=>have:=Ren.ptr (n:=n') (π:=π) i o (by omega);rwa [hπ i hi] at this
 |sl i o len cap a aq hi h=>have:=Ren.sl (n:=n') (π:=π) i o len cap (by omega);rwa [hπ i hi] at this
 |slx i o len cap a hi h=>have:=Ren.slx (n:=n') (π:=π) i o len cap (by omega);rwa [hπ i hi] at this
 |map i r hi h=>have:=Ren.map (n:=n') (π:=π) i (by omega);rwa [hπ i hi] at this
 |yield i r hi h=>have:=Ren.yield (n:=n') (π:=π) i (by omega);rwa [hπ i hi] at this
 |iface t v c _ ih=>exact .iface _ _ _ ih
 |func fn fs gs cs ds hf hc _ _ kU kV=>exact .func _ _ _ _ _ rfl rfl (fun i k1 _=>kU i k1 (by omega)) (fun i k1 _=>kV i k1 (by omega))
 |agg cs ds hc _ ih=>exact .agg _ _ rfl fun i k1 _=>ih i k1 (by omega)
 |tuple cs ds hc _ ih=>exact .tuple _ _ rfl fun i k1 _=>ih i k1 (by omega)
theorem LRen.rel {ρ:Plc}{nf n':Nat}{π:Nat->Nat}{cT vs:List Value}(h:LRen n' π cT vs) {cs:List Value}(hL:LRel ρ nf vs cs):LRel (fun i=>if i<n' then ρ (π i) else none) n' cT cs:=by
 refine⟨h.1.trans hL.1,fun i v c hv hc=>?_⟩;have ah:i<vs.length:=by rw[<-h.1];exact(List.getElem?_eq_some_iff.1 hv).1
 exact(h.2 i v _ hv (List.getElem?_eq_getElem ah)).rel (hL.2 i _ c (List.getElem?_eq_getElem ah) hc)
theorem LRel.ren {ρ:Plc}{n n':Nat}{π:Nat->Nat}(hn:n<=n') (hπ:∀ i,i<n->π i=i) {vs cs:List Value}(h:LRel ρ n vs cs):LRen n' π vs vs :=
 ⟨rfl,fun i v u hv hu=>by
  obtain rfl:v=u:=osj (hv.symm.trans hu);obtain⟨c,_,hc⟩:=h.get hv;exact hc.ren hn hπ⟩
def ORen (n:Nat) (π:Nat->Nat):VObj->VObj->Prop
 |.map es clock,.map fs lG=>clock=lG/\es.length=fs.length/\∀ (k:Nat) (a b:Jr),es[k]?=some a->fs[k]?=some b->a.1=b.1/\a.2.2=b.2.2/\Ren n π a.2.1 b.2.1
 |.iter m since seen last,.iter m' lH nK nL=>m'=π m/\m<n/\since=lH/\seen=nK/\last=nL
 |.lp env r st pend,.lp af r' mD bV=>LRen n π env af/\r=r'/\st=mD/\pend=bV
 |_,_=>False
theorem ORen.rel {ρ:Plc}{nf n':Nat}{π:Nat->Nat}{o' o:VObj}(h:ORen n' π o' o) {O:Obj}(hO:ORel ρ nf o O):ORel (fun i=>if i<n' then ρ (π i) else none) n' o' O:=by
 cases o'<;>cases o<;>try exact h.elim
 .obtain⟨rfl,hl,hk⟩:=h;obtain⟨entries,h1,h2,h3⟩:=hO;refine⟨entries,h1,by rw[hl];exact h2,fun k a ha=>?_⟩;have bt:=(List.getElem?_eq_some_iff.1 ha).1;rw[hl] at bt;obtain⟨e,he,h4,h5,h6⟩:=h3 k _ (List.getElem?_eq_getElem bt);obtain⟨k1,k2,k3⟩:=hk k a _ ha (List.getElem?_eq_getElem bt);exact⟨e,he,h4.trans k1.symm,h5.trans k2.symm,k3.rel h6⟩
 .obtain⟨rfl,hm,rfl,rfl,rfl⟩:=h;obtain⟨rm,h1,h2⟩:=hO;exact⟨rm,h1,(Ren.map _ hm).rel h2⟩
 .obtain⟨hl,rfl,rfl,rfl⟩:=h;exact⟨hO.1,hl.rel hO.2⟩
theorem ORel.ren {ρ:Plc}{n n':Nat}{π:Nat->Nat}(hn:n<=n') (hπ:∀ i,i<n->π i=i) {o:VObj}{O:Obj}(h:ORel ρ n o O):ORen n' π o o:=by
 cases o with
 |map es clock =>obtain⟨entries,h1,h2,h3⟩:=h;refine⟨rfl,rfl,fun k a b ha hb=>?_⟩;obtain rfl:a=b:=osj (ha.symm.trans hb);obtain⟨e,_,_,_,hv⟩:=h3 k a ha;exact⟨rfl,rfl,hv.ren hn hπ⟩
 |iter m since seen last =>
  obtain⟨rm,h1,h2⟩:=h;cases h2 with
  |map _ _ hi _=>exact⟨(hπ m hi).symm,by omega,rfl,rfl,rfl⟩
 |lp env r st pend=>exact⟨h.2.ren hn hπ,rfl,rfl,rfl⟩
def BRen (n:Nat) (π:Nat->Nat):Blk->Blk->Prop
 |.cells c esz wr tight,.cells d nM lq iK=>esz=nM/\wr=lq/\tight=iK/\LRen n π c d
 |.obj o wr,.obj o' lq=>wr=lq/\ORen n π o o'
 |_,_=>False
theorem BRen.wr {n:Nat}{π:Nat->Nat}{b c:Blk}(h:BRen n π b c):b.wr=c.wr:=by cases b<;>cases c<;>first|(exact h.elim)|exact h.2.1|exact h.1
theorem BRen.rel {ρ:Plc}{nf n':Nat}{π:Nat->Nat}{p:Pl}{w:World}{b' b:Blk}(h:BRen n' π b' b) (hB:BRel ρ nf p w b):BRel (fun i=>if i<n' then ρ (π i) else none) n' p w b':=by
 cases b' with
 |cells c esz wr tight =>
  cases b with
  |cells d nM lq iK =>
   obtain⟨rfl,rfl,rfl,hl⟩:=h;obtain⟨h1,h2,h3,h4,h5,h6⟩:=hB;refine⟨h1,h2,by rw[hl.1];exact h3,h4,fun k v hk=>?_,h6⟩;have bt:k<d.length:=by rw[<-hl.1];exact(List.getElem?_eq_some_iff.1 hk).1
   obtain⟨u,hu,hv⟩:=h5 k _ (List.getElem?_eq_getElem bt);exact⟨u,hu,(hl.2 k v _ hk (List.getElem?_eq_getElem bt)).rel hv⟩
  |obj _ _=>exact h.elim
 |obj o wr =>
  cases b with
  |cells _ _ _ _=>exact h.elim
  |obj o' lq =>obtain⟨rfl,ho⟩:=h;obtain⟨h0,O,h1,h2⟩:=hB;exact⟨h0,O,h1,ho.rel h2⟩
def VObj.plain:VObj->Bool
 |.map es _=>es.all fun kv=>QA kv.2.1
 |_=>false
def Blk.plain:Blk->Bool
 |.cells c _ _ _=>c.all QA
 |.obj o _=>o.plain
theorem LRen.plain {n:Nat}{π:Nat->Nat}{c:List Value}(h:c.all QA=true):LRen n π c c :=
 ⟨rfl,fun i v u hv hu=>by
  obtain rfl:v=u:=osj (hv.symm.trans hu);exact .plain _ (List.all_eq_true.1 h v (List.mem_of_getElem? hv))⟩
theorem BRen.plain {n:Nat}{π:Nat->Nat}{b:Blk}(h:b.plain=true):BRen n π b b:=by
 cases b with
 |cells c esz wr tight=>exact⟨rfl,rfl,rfl,LRen.plain h⟩
 |obj o wr =>
  cases o with
  |map es clock =>refine⟨rfl,rfl,rfl,fun k a b ha hb=>?_⟩;obtain rfl:a=b:=osj (ha.symm.trans hb);exact⟨rfl,rfl,.plain _ (List.all_eq_true.1 h a (List.mem_of_getElem? ha))⟩
  |_=>cases h
theorem BRel.ren {ρ:Plc}{n n':Nat}{π:Nat->Nat}(hn:n<=n') (hπ:∀ i,i<n->π i=i) {p:Pl}{w:World}{b:Blk}(h:BRel ρ n p w b):BRen n' π b b:=by
 cases b with
 |cells c esz wr tight =>refine⟨rfl,rfl,rfl,rfl,fun i v u hv hu=>?_⟩;obtain rfl:v=u:=osj (hv.symm.trans hu);obtain⟨_,_,u7⟩:=h.2.2.2.2.1 i v hv;exact u7.ren hn hπ
 |obj o wr =>obtain⟨_,O,_,ho⟩:=h;exact⟨rfl,ho.ren hn hπ⟩
def DropTo (σ0:Heap) (v:Value) (σf:Heap) (v':Value) (σ':Heap):Prop :=
 ∀ ρ0 w0 ρ w c,HRel ρ0 σ0 w0->Ext ρ0 σ0 w0 ρ σf w->HRel ρ σf w->VRel ρ σf.n v c->∃ ρ',VRel ρ' σ'.n v' c/\HRel ρ' σ' w/\Ext ρ0 σ0 w0 ρ' σ' w
theorem DropTo.refl (σ0:Heap) (v:Value) (σf:Heap):DropTo σ0 v σf v σf:=fun _ _ ρ _ _ _ hE hH hv=>⟨ρ,hv,hH,hE⟩
theorem DropTo.rename {σ0 σf σ':Heap}{v v':Value}(π:Nat->Nat) (h1:σ0.n<=σ'.n)
  (h2:∀ i,i<σ0.n->π i=i/\σ'.get i=σf.get i/\(σf.get i=σ0.get i\/∃ b,σf.get i=some b/\b.plain=true))
  (h3:∀ i,σ0.n<=i->i<σ'.n->σ0.n<=π i/\∃ b' b,σ'.get i=some b'/\σf.get (π i)=some b/\BRen σ'.n π b' b)
  (h4:∀ i j,σ0.n<=i->i<σ'.n->σ0.n<=j->j<σ'.n->π i=π j->i=j) (h5:Ren σ'.n π v' v):DropTo σ0 v σf v' σ':=by
 intro ρ0 w0 ρ w c fw hE hH hv;have hπ:∀ i,i<σ0.n->π i=i:=fun i hi=>(h2 i hi).1;have aF:∀ i b',σ'.get i=some b'->∃ b,σf.get (π i)=some b/\BRen σ'.n π b' b:=fun i b' hb=>by
  have hi:=σ'.lt hb;rcases Nat.lt_or_ge i σ0.n with ah|bj
  .obtain⟨k1,k2,k3⟩:=h2 i ah;rw[k1];rw[k2] at hb;refine⟨b',hb,?_⟩;rcases k3 with k3|⟨b,k3,k4⟩
   .rw[k3] at hb;obtain⟨p,_,hB⟩:=fw.live i b' hb;exact hB.ren h1 hπ
   .rw[k3] at hb;obtain rfl:=osj hb;exact BRen.plain k4
  .obtain⟨_,b1,b,k1,k2,k3⟩:=h3 i bj hi;rw[k1] at hb;obtain rfl:=osj hb;exact⟨b,k2,k3⟩
 have fe:∀ i j,i<σ'.n->j<σ'.n->π i=π j->i=j:=fun i j hi hj he=>by
  rcases Nat.lt_or_ge i σ0.n with ah|bj<;>rcases Nat.lt_or_ge j σ0.n with b7|iL
  .rw[hπ i ah,hπ j b7] at he;exact he
  .have:=(h3 j iL hj).1;rw[hπ i ah] at he;omega
  .have:=(h3 i bj hi).1;rw[hπ j b7] at he;omega
  .exact h4 i j bj hi iL hj he
 have hX:Ext ρ0 σ0 w0 (fun i=>if i<σ'.n then ρ (π i) else none) σ' w:=by
  refine⟨hE.os,hE.tape,hE.output,hE.size,hE.keep,?_,h1,fun i hi p hp=>?_⟩
  .rintro B hB ⟨i,p,b,hp,hb,hw,rfl⟩;change (if i<σ'.n then ρ (π i) else none)=some p at hp;split at hp
   .obtain⟨b0,bw,cn⟩:=aF i b hb;exact hE.wr _ hB ⟨π i,p,b0,hp,bw,by rw[<-cn.wr];exact hw,rfl⟩
   .cases hp
  .change (if i<σ'.n then ρ (π i) else none)=some p at hp;split at hp
   .rw[hπ i hi] at hp;exact hE.pl i hi p hp
   .cases hp
 refine⟨fun i=>if i<σ'.n then ρ (π i) else none,h5.rel hv,fw.ext ⟨fun i b' hb=>?_,fun i hi=>?_,fun i p hp=>?_,fun i j p q b ct hp hq hb hw hx=>?_⟩ hX,hX⟩
 .obtain⟨b,bw,cn⟩:=aF i b' hb;obtain⟨p,hp,hB⟩:=hH.live _ b bw;exact⟨p,by simp[σ'.lt hb,hp],cn.rel hB⟩
 .show (if i<σ'.n then ρ (π i) else none)=none;split
  .rename_i ah;rcases Nat.lt_or_ge i σ0.n with b7|bj
   .obtain⟨k1,k2,_⟩:=h2 i b7;rw[k1];exact hH.dead i (by rw[<-k2];exact hi)
   .obtain⟨_,b1,b,k1,_⟩:=h3 i bj ah;rw[k1] at hi;cases hi
  .rfl
 .change (if i<σ'.n then ρ (π i) else none)=some p at hp;split at hp
  .exact hH.lt _ p hp
  .cases hp
 .change (if i<σ'.n then ρ (π i) else none)=some p at hp;change (if j<σ'.n then ρ (π j) else none)=some q at hq;split at hp
  .rename_i hi;split at hq
   .rename_i hj;obtain⟨b0,bw,cn⟩:=aF i b hb;exact hH.sep (π i) (π j) p q b0 (fun e=>ct (fe i j hi hj e)) hp hq bw (by rw[<-cn.wr];exact hw) hx
   .cases hq
  .cases hp
def Agree (σ0 σf:Heap):Prop:=∀ i,i<σ0.n->σf.get i=σ0.get i
theorem Agree.refl (σ:Heap):Agree σ σ:=fun _ _=>rfl
theorem Agree.push {σ0 σ:Heap}(h:Agree σ0 σ) (hn:σ0.n<=σ.n) (b:Blk):Agree σ0 (σ.push b):=fun i hi=>(Heap.get_push_lt σ b (by omega)).trans (h i hi)
theorem Agree.trans {σ0 σ1 σ2:Heap}(h:Agree σ0 σ1) (k:Agree σ1 σ2) (hn:σ0.n<=σ1.n):Agree σ0 σ2:=fun i hi=>(k i (by omega)).trans (h i hi)
section
variable {P:Program}{S:VSpecs}
def V0 (tmps:Array Value):ResultVar->Sem Value
 |.tmp t=>pure (tmps.getD t undef)
 |.cell a t=>do loadVar t (<-asAddr (tmps.getD a undef))
theorem T8 (fn:Func) (tmps:Array Value):results fn tmps=(do
  let vs <-fn.results.mapM (V0 tmps)
  pure (if h:vs.size=1 then vs[0] else .tuple vs)):=by
 unfold results;congr 1
theorem RX {ρ:Plc}{σ:Heap}{w:World}{env:Env}{tmps:Array Value}(hH:HRel ρ σ w) (hL:LRel ρ σ.n env tmps.toList) {r:ResultVar}{vr:VResult}
  (hc:J1 P r=some vr) {v:Value}(h:ZO env σ vr=some v):∃ c,VRel ρ σ.n v c/\(V0 tmps r).run P w=.ok c w:=by
 have ak:∀ t,VRel ρ σ.n (env.getD t undef) (tmps.getD t undef):=fun t=>Xw (a:=⟨tmps,[]⟩) hL (x:=.tmp t) rfl;cases r with
 |tmp t =>simp[J1] at hc;subst hc;simp only[ZO,Option.some.injEq] at h;subst h;exact⟨_,ak t,rfl⟩
 |cell a t =>
  simp only[J1] at hc;split at hc
  .rename_i i d hi hu;simp at hc;subst hc;simp only[ZO,Option.map_eq_some_iff] at h;obtain⟨p,hp,rfl⟩:=h;simp only[Q6,Q4] at hp;have ha:=ak a;split at hp
   .rename_i g o s h1;rw[h1] at ha;split at hp
    .rename_i c hb;split at hp
     .rename_i hall;split at hp
      .rename_i v0 hv;simp at hp;subst hp;obtain⟨u,cE,hr⟩:=LO hH hi hu hb hall hv ha;refine⟨u,cE,?_⟩;have:=hr w (Like.refl ρ w);have nN:tmps.getD a undef=.pointer (some ⟨g,o,none⟩):=by
        generalize tmps.getD a undef=c at ha;cases ha;rfl
       rw[nN] at this;simp only[Instr.loadAt,Instr.sureAddr,Sem.run_bind,Sem.run_pure,Result.andThen_ok] at this;simp only[V0,nN,asAddr,Sem.run_bind,Sem.run_pure,Result.andThen_ok];exact this
      .cases hp
     .cases hp
    .cases hp
   .rename_i i' o h1;rw[h1] at ha;split at hp
    .rename_i c esz wr tight hb;split at hp
     .rename_i v0 hv;simp at hp;subst hp;obtain⟨u,cE,hr⟩:=Eo hH hi hu hb hv ha;refine⟨u,cE,?_⟩;have:=hr w (Like.refl ρ w);obtain⟨ad,nN,_⟩:=ha.ptr_inv';rw[nN] at this;simp only[Instr.loadAt,Instr.sureAddr,Sem.run_bind,Sem.run_pure,Result.andThen_ok] at this;simp only[V0,nN,asAddr,Sem.run_bind,Sem.run_pure,Result.andThen_ok];exact this
     .cases hp
    .cases hp
   .cases hp
  .cases hc
theorem CF {α:Type}{ρ:Plc}{n:Nat}(g:α->Sem Value) (w:World) (f:α->Option Value):∀ (l:List α) (vs:List Value),l.mapM f=some vs ->
  (∀ a∈l,∀ v,f a=some v->∃ c,VRel ρ n v c/\(g a).run P w=.ok c w)->∃ cs,LRel ρ n vs cs/\(l.mapM g).run P w=.ok cs w:=by
 intro l;induction l with
 |nil=>intro vs h _;simp at h;subst h;exact⟨[],LRel.nil _ _,rfl⟩
 |cons a l ih =>
  intro vs h hg;rw[List.mapM_cons] at h;cases hf:f a with
  |none=>simp[hf] at h
  |some v =>
   cases hm:l.mapM f with
   |none=>simp[hf,hm] at h
   |some cT =>simp[hf,hm] at h;subst h;obtain⟨c,dL,fg⟩:=hg a (by simp) v hf;obtain⟨cs,qL,jQ⟩:=ih cT hm (fun b hb=>hg b (by simp[hb]));refine⟨c::cs,LRel.cons dL qL,?_⟩;rw[List.mapM_cons];simp[fg,jQ]
theorem PD {ρ:Plc}{σ:Heap}{w:World}{env:Env}{tmps:Array Value}(hH:HRel ρ σ w) (hL:LRel ρ σ.n env tmps.toList) {fn:Func}{rs:List VResult}
  (hc:Vj P fn.results.toList=some rs) {v:Value}(h:Ja env σ rs=some v):∃ c,VRel ρ σ.n v c/\(results fn tmps).run P w=.ok c w:=by
 unfold Vj at hc;have hall:∀ vs,rs.mapM (ZO env σ)=some vs->∃ cs,LRel ρ σ.n vs cs/\(fn.results.mapM (V0 tmps)).run P w=.ok cs.toArray w:=by
  intro vs cu;have nO:fn.results.toList.mapM (fun r=>(J1 P r).bind (ZO env σ))=some vs:=by
   have:∀ (l:List ResultVar) (rs:List VResult) (vs:List Value),l.mapM (J1 P)=some rs->rs.mapM (ZO env σ)=some vs->l.mapM (fun r=>(J1 P r).bind (ZO env σ))=some vs:=by
    intro l;induction l with
    |nil=>intro rs vs h1 h2;simp at h1;subst h1;simpa using h2
    |cons r l ih =>
     intro rs vs h1 h2;rw[List.mapM_cons] at h1;cases hg:J1 P r with
     |none=>simp[hg] at h1
     |some x =>
      cases hm:l.mapM (J1 P) with
      |none=>simp[hg,hm] at h1
      |some bq =>
       simp[hg,hm] at h1;subst h1;rw[List.mapM_cons] at h2;cases hx:ZO env σ x with
       |none=>simp[hx] at h2
       |some y =>
        cases en:bq.mapM (ZO env σ) with
        |none=>simp[hx,en] at h2
        |some cT =>simp[hx,en] at h2;subst h2;rw[List.mapM_cons];simp[hg,hx,ih bq cT hm en]
   exact this _ _ _ hc cu
  obtain⟨cs,k1,k2⟩:=CF (P:=P) (ρ:=ρ) (n:=σ.n) (V0 tmps) w _ _ _ nO (fun r _ v hv=>by
   cases hr:J1 P r with
   |none=>rw[hr] at hv;cases hv
   |some vr=>rw[hr] at hv;exact RX hH hL hr hv)
  refine⟨cs,k1,?_⟩;rw[Array.mapM_eq_mapM_toList];simp[k2]
 unfold Ja at h;split at h
 .rename_i r;obtain⟨cs,k1,k2⟩:=hall [v] (by simp[h]);have cD:cs.length=1:=by rw[<-k1.1];rfl
  obtain⟨c,rfl⟩:=List.length_eq_one_iff.1 cD;refine⟨c,k1.2 0 v c rfl rfl,?_⟩;rw[T8];simp only[Sem.run_bind];rw[k2];simp
 .rename_i aC;simp only[Option.map_eq_some_iff] at h;obtain⟨vs,cu,rfl⟩:=h;obtain⟨cs,k1,k2⟩:=hall vs cu;refine⟨.tuple cs.toArray,VRel.tuple_of k1,?_⟩;have hl:cs.length≠1:=by
   rw[<-k1.1,(Xv _ _ _ cu).1];intro e;obtain⟨r,hr⟩:=List.length_eq_one_iff.1 e;exact aC r hr
  rw[T8];simp only[Sem.run_bind];rw[k2];simp[hl]
theorem Lt {ρ:Plc}{n:Nat}(k:Nat):LRel ρ n (List.replicate k undef) (List.replicate k undef) :=
 ⟨rfl,fun i v c hv hc=>by
  obtain rfl:v=c:=osj (hv.symm.trans hc);have:=List.mem_of_getElem? hv;rw[List.mem_replicate] at this;rw[this.2];exact ZY⟩
theorem DY {w:World}{D:Nat}{ds:List Deferred}(h:w.heap[D]?=some (.deferred (some ds))):(Instr.takeDeferred D).run P w=.ok ds (P4 w D (.deferred none)):=by simp[Instr.takeDeferred,Qq h (fun _ _ _ e=>by cases e),Qz h (fun _ _ _ e=>by cases e)]
theorem Ext.mark {ρ0 ρ:Plc}{σ0 σ:Heap}{w0 w:World}(hE:Ext ρ0 σ0 w0 ρ σ w) {D:Nat}(hD:w0.heap.size<=D) (O:Obj):Ext ρ0 σ0 w0 ρ σ (P4 w D O) :=
 ⟨hE.os,hE.tape,hE.output,by rw[MX];exact hE.size,fun B hB hW=>(Y7 w D O B (by omega)).trans (hE.keep B hB hW),hE.wr,hE.n,hE.pl⟩
theorem HRel.mark {ρ:Plc}{σ:Heap}{w:World}(hH:HRel ρ σ w) {D:Nat}{d:Option (List Deferred)}(hD:w.heap[D]?=some (.deferred d)) (O:Obj):HRel ρ σ (P4 w D O) :=
 hH.world (by rw[MX];exact Nat.le_refl _) (fun i p hp=>Y7 w D O p.blk (hH.not_deferred hD i p hp)) fun g cs hg=>Y7 w D O g fun e=>by obtain⟨⟨e',f,h1⟩,_⟩:=hH.tab g cs hg;rw[e,hD] at h1;cases h1
theorem LC {fn:Func}{tmps:Array Value}{R:Ending->World->Prop}{ρ0:Plc}{σ0:Heap}{w0:World}{ρ:Plc}{σ:Heap}
  (qM:∀ w,HRel ρ σ w->Ext ρ0 σ0 w0 ρ σ w->∃ v,(results fn tmps).run P w=.ok v w/\R (.returned v) w) :
  ∀ (Ds:List Nat) (w:World),Ds.Nodup->(∀ D∈Ds,w0.heap.size<=D/\w.heap[D]?=some (.deferred (some [])))->HRel ρ σ w->Ext ρ0 σ0 w0 ρ σ w ->
   LeavesInM Fence.wide 0 P fn tmps R (Ds.map fun D=>⟨.collected D,#[]⟩) .returning w:=by
 intro Ds;induction Ds with
 |nil=>intro w _ _ hH hE;exact qM w hH hE
 |cons D Ds ih =>intro w jJ hall hH hE;obtain⟨h1,h2⟩:=List.nodup_cons.1 jJ;obtain⟨h3,h4⟩:=hall D (by simp);refine⟨by simp,.inl ⟨D,_,rfl,DY h4,ih _ h2 (fun E bZ=>?_) (hH.mark h4 _) (hE.mark h3 _)⟩⟩;obtain⟨k1,k2⟩:=hall E (by simp[bZ]);exact⟨k1,by rw[Y7 _ _ _ _ (by rintro rfl;exact h1 bZ)];exact k2⟩
theorem Dn (hm:P.follows .mixedOrders=true) (hS:OkSpecs P S) {f:FuncId}{fn:Func}{c:Code}{vc:VCode}{rs:List VResult}(hf:P.funcs[f]?=some fn) (hb:fn.body=some c) (hc:comp P c=some vc) (hr:Vj P fn.results.toList=some rs)
  {args:List Value}{σ:Heap}{R:Value->Heap->Prop}(h:vwp S vc none (Q97 rs fun v σf=>∃ v' σ',DropTo σ v σf v' σ'/\R v' σ') (args++List.replicate (fn.ntmps-args.length) undef) σ):VCallsTo P f args σ R:=by
 intro ρ w av hH hL;refine callsIn_wide.1 (callsIn_of_wp_marks (n:=0) hf hb trivial (FN hm hS c vc hc (B:=w.heap.size) none none 0 _ _ σ ρ w _ h hH ?_ (Mks.nil (Nat.le_refl _)) (.inl ⟨rfl,rfl⟩) _ ?_) rfl)
 .have hl:args.length=av.size:=by have:=hL.1;simpa using this
  have:=hL.append (Lt (ρ:=ρ) (n:=σ.n) (fn.ntmps-args.length));simpa [hl] using this
 .intro e a' w' ⟨af,ρ',σ',k1,_,k2,k3,⟨_,Ds,k4,k6,k7⟩,k5⟩;have fin:(QU (Ja af σ' rs) fun v=>∃ v' aN,DropTo σ v σ' v' aN/\R v' aN)->LeavesInM Fence.wide 0 P fn a'.tmps (fun e w'=>∃ c,e=.returned c/\Got ρ σ w R c w') a'.defers .returning w':=by
   intro hk;rw[k4];refine LC (fun w1 jc fN=>?_) Ds w' k6 k7 k2 k5;cases hv:Ja af σ' rs with
   |none=>rw[hv] at hk;exact hk.elim
   |some v =>rw[hv] at hk;obtain⟨v',aN,hd,hR⟩:=hk;obtain⟨c,dL,fg⟩:=PD jc k3 hr hv;obtain⟨eU,j1,j2,j3⟩:=hd ρ w ρ' w1 c hH fN jc dL;exact⟨c,fg,c,rfl,v',eU,aN,hR,j1,j2,j3⟩
  cases e with
  |normal=>exact fin k1
  |ret=>exact fin k1
  |_=>exact k1.elim
end
end Go.V
namespace Go.V
open Go
def Fun (P:Program) (f:FuncId) (vc:VCode) (rs:List VResult) (nt:Nat):Prop :=
 ∃ fn,P.funcs[f]?=some fn/\fn.body.bind (comp P)=some vc/\Vj P fn.results.toList=some rs/\fn.ntmps=nt/\(fn.name=="runtime.NumGoroutine")=false
def Z0v (σ:Heap) (rs:List VResult) (R:Value->Heap->Prop):Exit->Env->Heap->Prop:=Q97 rs fun v σf=>∃ v' σ',DropTo σ v σf v' σ'/\R v' σ'
section
variable {P:Program}{S:VSpecs}{f:FuncId}{vc:VCode}{rs:List VResult}{nt:Nat}
theorem Fun.calls (h:Fun P f vc rs nt) (hm:P.follows .mixedOrders=true) (hS:OkSpecs P S) {args:List Value}{σ:Heap}{R:Value->Heap->Prop}
  (hw:vwp S vc none (Z0v σ rs R) (args++List.replicate (nt-args.length) undef) σ):VCalled P f args σ R:=by
 obtain⟨fn,h1,h2,h3,h4,h5⟩:=h;cases hb:fn.body with
 |none=>rw[hb] at h2;cases h2
 |some c =>rw[hb] at h2;exact VCallsTo.called ⟨fn,h1,by rw[hb];rfl,h5⟩ (Dn hm hS h1 hb h2 h3 (by rw[h4];exact hw))
theorem Fun.enterable (h:Fun P f vc rs nt):J0 P f:=by
 obtain⟨fn,h1,h2,h3,h4,h5⟩:=h;refine⟨fn,h1,?_,h5⟩;cases hb:fn.body with
 |none=>rw[hb] at h2;cases h2
 |some c=>rfl
theorem Fun.callsTo (h:Fun P f vc rs nt) (hm:P.follows .mixedOrders=true) (hS:OkSpecs P S) {args:List Value}{σ:Heap}{R:Value->Heap->Prop}
  (hw:vwp S vc none (Z0v σ rs R) (args++List.replicate (nt-args.length) undef) σ):VCallsTo P f args σ R:=by
 obtain⟨fn,h1,h2,h3,h4,h5⟩:=h;cases hb:fn.body with
 |none=>rw[hb] at h2;cases h2
 |some c =>rw[hb] at h2;exact Dn hm hS h1 hb h2 h3 (by rw[h4];exact hw)
def Q2 (P:Program):VSpecs where
 fn f:=some fun args σ K=>VCalled P f args σ K
 yl i:=some fun args σ K=>Pa P i args σ K
 it f:=@ite _ (J0 P f) (Classical.propDecidable _) (some fun i Y args σ K=>Kc P i Y->VCallsTo P f args σ K) none
theorem Ro:OkSpecs P (Q2 P) :=
  ⟨fun f s h => by obtain rfl:=osj h; exact fun args σ K h => h,
   fun f s h => by obtain rfl:=osj h; exact fun args σ K h => h,
   fun f T h => by
    simp only [Q2] at h;split at h
    . rename_i he; obtain rfl:=osj h; exact ⟨he, fun i Y hY args σ K h => h hY⟩
    . cases h⟩
end
end Go.V
namespace Go.V
open Go
inductive EB where
 |cells (c:List Value) (esz:El) (wr tight:Bool)
 |map (es:List Jr) (clock:Nat) (wr:Bool)
 |iter (m since:Nat) (seen:List Nat) (last:Nat)
 |lp (st:LoopState) (pend:Option Code)
inductive GT (α:Type) where
 |nil
 |node (v:α) (l r:GT α)
def GT.get {α:Type}(d:α) (t:GT α):Nat->α :=
 GT.rec (motive:=fun _=>Nat->α) (fun _=>d)
  (fun v _ _ gl gr i=>Bool.rec (motive:=fun _=>α) (Bool.rec (motive:=fun _=>α) (gr (i / 2-1)) (gl (i / 2)) (Nat.beq (i % 2) 1)) v (Nat.beq i 0)) t
def GT.set {α:Type}(d:α) (f:Nat):GT α->Nat->α->GT α :=
 Nat.rec (motive:=fun _=>GT α->Nat->α->GT α) (fun t _ _=>t)
  (fun _ ih t i b=>GT.rec (motive:=fun _=>GT α)
   (Bool.rec (motive:=fun _=>GT α) (Bool.rec (motive:=fun _=>GT α) (.node d .nil (ih .nil (i / 2-1) b)) (.node d (ih .nil (i / 2) b) .nil) (Nat.beq (i % 2) 1)) (.node b .nil .nil) (Nat.beq i 0))
   (fun v l r _ _=>Bool.rec (motive:=fun _=>GT α) (Bool.rec (motive:=fun _=>GT α) (.node v l (ih r (i / 2-1) b)) (.node v (ih l (i / 2) b) r) (Nat.beq (i % 2) 1)) (.node b l r) (Nat.beq i 0)) t) f
theorem GT.get_node {α:Type}(d v:α) (l r:GT α) (k:Nat):(GT.node v l r).get d k=if k=0 then v else if k % 2=1 then l.get d (k / 2) else r.get d (k / 2-1):=by
 show (Bool.rec (motive:=fun _=>α) (Bool.rec (motive:=fun _=>α) (r.get d (k / 2-1)) (l.get d (k / 2)) (Nat.beq (k % 2) 1)) v (Nat.beq k 0))=_;by_cases h0:k=0
 .subst h0;rfl
 .have:Nat.beq k 0=false:=by
   cases h:Nat.beq k 0 with
   |false=>rfl
   |true=>exact absurd (Nat.eq_of_beq_eq_true h) h0
  rw[this,if_neg h0];by_cases h1:k % 2=1
  .rw[if_pos h1,h1];rfl
  .have:Nat.beq (k % 2) 1=false:=by
    cases h:Nat.beq (k % 2) 1 with
    |false=>rfl
    |true=>exact absurd (Nat.eq_of_beq_eq_true h) h1
   rw[this,if_neg h1]
theorem GT.set_node {α:Type}(d v:α) (f:Nat) (l r:GT α) (i:Nat) (b:α):(GT.node v l r).set d (f+1) i b=if i=0 then .node b l r else if i % 2=1 then .node v (l.set d f (i / 2) b) r else .node v l (r.set d f (i / 2-1) b):=by
 show (Bool.rec (motive:=fun _=>GT α) (Bool.rec (motive:=fun _=>GT α) (.node v l (r.set d f (i / 2-1) b)) (.node v (l.set d f (i / 2) b) r) (Nat.beq (i % 2) 1)) (.node b l r) (Nat.beq i 0))=_;by_cases h0:i=0
 .subst h0;rfl
 .have:Nat.beq i 0=false:=by
   cases h:Nat.beq i 0 with
   |false=>rfl
   |true=>exact absurd (Nat.eq_of_beq_eq_true h) h0
  rw[this,if_neg h0];by_cases h1:i % 2=1
  .rw[if_pos h1,h1];rfl
  .have:Nat.beq (i % 2) 1=false:=by
    cases h:Nat.beq (i % 2) 1 with
    |false=>rfl
    |true=>exact absurd (Nat.eq_of_beq_eq_true h) h1
   rw[this,if_neg h1]
theorem GT.set_nil {α:Type}(d:α) (f i:Nat) (b:α):(GT.nil:GT α).set d (f+1) i b=(GT.node d .nil .nil).set d (f+1) i b:=rfl
theorem GT.get_set {α:Type}(d:α):∀ (f:Nat) (t:GT α) (i:Nat) (b:α) (j:Nat),i+1<2 ^ f->(t.set d f i b).get d j=if j=i then b else t.get d j:=by
 intro f;induction f with
 |zero=>intro t i b j h;simp at h
 |succ f ih =>
  intro t i b j h;have hp:2 ^ (f+1)=2*2 ^ f:=by rw[Nat.pow_succ];omega
  have gN:∀ v l r,((GT.node v l r).set d (f+1) i b).get d j=if j=i then b else (GT.node v l r).get d j:=by
   intro v l r;rw[GT.set_node];by_cases hi:i=0
   .subst hi;rw[if_pos rfl,GT.get_node,GT.get_node];split<;>rfl
   .rw[if_neg hi];by_cases ho:i % 2=1
    .rw[if_pos ho,GT.get_node,GT.get_node,ih _ _ _ _ (by omega)];by_cases i_:j=0
     .subst i_;rw[if_pos rfl,if_neg (Ne.symm hi),if_pos rfl]
     .rw[if_neg i_,if_neg i_];by_cases iM:j % 2=1
      .rw[if_pos iM,if_pos iM];by_cases aO:j=i
       .subst aO;simp
       .rw[if_neg aO,if_neg (by omega)]
      .rw[if_neg iM,if_neg iM,if_neg (by rintro rfl;exact iM ho)]
    .rw[if_neg ho,GT.get_node,GT.get_node,ih _ _ _ _ (by omega)];by_cases i_:j=0
     .subst i_;rw[if_pos rfl,if_neg (Ne.symm hi),if_pos rfl]
     .rw[if_neg i_,if_neg i_];by_cases iM:j % 2=1
      .rw[if_pos iM,if_pos iM,if_neg (by rintro rfl;exact ho iM)]
      .rw[if_neg iM,if_neg iM];by_cases aO:j=i
       .subst aO;simp
       .rw[if_neg aO,if_neg (by omega)]
  cases t with
  |node v l r=>exact gN v l r
  |nil =>
   rw[GT.set_nil,gN d .nil .nil,GT.get_node];split
   .rfl
   .split
    .rfl
    .split<;>rfl
structure CH where
 t:GT (Option EB)
 n:Nat
def CH.get (h:CH) (i:Nat):Option EB:=Bool.rec (motive:=fun _=>Option EB) none (h.t.get none i) (Nat.blt i h.n)
def CH.upd (h:CH) (i:Nat) (b:EB):CH:=⟨h.t.set none 32 i (some b),h.n⟩
def CH.kill (h:CH) (i:Nat):CH:=⟨h.t.set none 32 i none,h.n⟩
def CH.push (h:CH) (b:EB):CH:=⟨h.t.set none 32 h.n (some b),h.n+1⟩
def CH.room (h:CH):Bool:=Nat.ble h.n 1000000000
def CH.empty:CH:=⟨.nil,0⟩
theorem CH.get_lt {h:CH}{i:Nat}(hi:i<h.n):h.get i=h.t.get none i:=by unfold CH.get;rw[show Nat.blt i h.n=true from Nat.ble_eq_true_of_le hi]
theorem CH.get_ge {h:CH}{i:Nat}(hi:h.n<=i):h.get i=none:=by
 unfold CH.get;cases hb:Nat.blt i h.n with
 |false=>rfl
 |true=>have:=Nat.le_of_ble_eq_true hb;omega
theorem CH.get_upd {h:CH}{i:Nat}{b:EB}(hi:i<h.n) (hs:h.n<=1000000001) (j:Nat):(h.upd i b).get j=if j=i then some b else h.get j:=by
 rcases Nat.lt_or_ge j h.n with hj|hj
 .rw[CH.get_lt (h:=h.upd i b) hj,CH.get_lt hj];exact GT.get_set none 32 _ _ _ _ (by omega)
 .rw[CH.get_ge (h:=h.upd i b) hj,CH.get_ge hj,if_neg (by omega)]
theorem CH.get_kill {h:CH}{i:Nat}(hi:i<h.n) (hs:h.n<=1000000001) (j:Nat):(h.kill i).get j=if j=i then none else h.get j:=by
 rcases Nat.lt_or_ge j h.n with hj|hj
 .rw[CH.get_lt (h:=h.kill i) hj,CH.get_lt hj];exact GT.get_set none 32 _ _ _ _ (by omega)
 .rw[CH.get_ge (h:=h.kill i) hj,CH.get_ge hj];simp
theorem CH.get_push {h:CH}{b:EB}(hs:h.n<=1000000001) (j:Nat):(h.push b).get j=if j=h.n then some b else h.get j:=by
 rcases Nat.lt_or_ge j (h.n+1) with hj|hj
 .rw[CH.get_lt (h:=h.push b) hj];show (h.t.set none 32 h.n (some b)).get none j=_;rw[GT.get_set none 32 _ _ _ _ (by omega)];split
  .rfl
  .rw[CH.get_lt (by omega)]
 .rw[CH.get_ge (h:=h.push b) hj,CH.get_ge (by omega),if_neg (by omega)]
def EB.to (q:Env×Loop):EB->Blk
 |.cells c e w t=>.cells c e w t
 |.map es cl w=>.obj (.map es cl) w
 |.iter m s sn l=>.obj (.iter m s sn l) true
 |.lp st pend=>.obj (.lp q.1 q.2 st pend) true
structure CSim (rs:Nat->Env×Loop) (h:CH) (σ:Heap):Prop where
 n:h.n=σ.n
 sm:h.n<=1000000001
 get:∀ i,σ.get i=(h.get i).map (EB.to (rs i))
theorem CSim.cells {rs:Nat->Env×Loop}{h:CH}{σ:Heap}(hs:CSim rs h σ) {i:Nat}{c:List Value}{e:El}{w t:Bool}(hg:h.get i=some (.cells c e w t)):σ.get i=some (.cells c e w t):=by rw[hs.get,hg];rfl
theorem CSim.map {rs:Nat->Env×Loop}{h:CH}{σ:Heap}(hs:CSim rs h σ) {i:Nat}{es:List Jr}{cl:Nat}{w:Bool}(hg:h.get i=some (.map es cl w)):σ.get i=some (.obj (.map es cl) w):=by rw[hs.get,hg];rfl
theorem CSim.iter {rs:Nat->Env×Loop}{h:CH}{σ:Heap}(hs:CSim rs h σ) {i m s:Nat}{sn:List Nat}{l:Nat}(hg:h.get i=some (.iter m s sn l)):σ.get i=some (.obj (.iter m s sn l) true):=by rw[hs.get,hg];rfl
theorem CSim.lp {rs:Nat->Env×Loop}{h:CH}{σ:Heap}(hs:CSim rs h σ) {i:Nat}{st:LoopState}{pend:Option Code}(hg:h.get i=some (.lp st pend)):σ.get i=some (.obj (.lp (rs i).1 (rs i).2 st pend) true):=by rw[hs.get,hg];rfl
theorem CSim.lt {rs:Nat->Env×Loop}{h:CH}{σ:Heap}(hs:CSim rs h σ) {i:Nat}{b:EB}(hg:h.get i=some b):i<h.n:=by
 have:σ.get i=some (b.to (rs i)):=by rw[hs.get,hg];rfl
 rw[hs.n];exact σ.lt this
theorem CSim.upd {rs:Nat->Env×Loop}{h:CH}{σ:Heap}(hs:CSim rs h σ) {i:Nat}(hi:i<h.n) {b:EB}{b':Blk}(hb:b.to (rs i)=b'):CSim rs (h.upd i b) (σ.upd i b'):=by
 refine⟨hs.n,hs.sm,fun j=>?_⟩;rw[CH.get_upd hi hs.sm];show (if j=i/\i<σ.n then some b' else σ.get j)=_;by_cases hj:j=i
 .subst hj;rw[if_pos ⟨rfl,by rw[<-hs.n];exact hi⟩,if_pos rfl,<-hb];rfl
 .rw[if_neg (fun e=>hj e.1),if_neg hj];exact hs.get j
theorem CSim.kill {rs:Nat->Env×Loop}{h:CH}{σ:Heap}(hs:CSim rs h σ) {i:Nat}(hi:i<h.n):CSim rs (h.kill i) (σ.kill i):=by
 refine⟨hs.n,hs.sm,fun j=>?_⟩;rw[CH.get_kill hi hs.sm];show (if j=i then none else σ.get j)=_;by_cases hj:j=i
 .rw[if_pos hj,if_pos hj];rfl
 .rw[if_neg hj,if_neg hj];exact hs.get j
theorem CSim.push {rs:Nat->Env×Loop}{h:CH}{σ:Heap}(hs:CSim rs h σ) (hr:h.room=true) {b:EB}{b':Blk}(hb:b.to (rs h.n)=b'):CSim rs (h.push b) (σ.push b'):=by
 have hr:h.n<=1000000000:=Nat.le_of_ble_eq_true hr;refine⟨by show h.n+1=σ.n+1;rw[hs.n],by show h.n+1<=_;omega,fun j=>?_⟩;rw[CH.get_push hs.sm];show (if j=σ.n then some b' else σ.get j)=_;rw[<-hs.n];by_cases hj:j=h.n
 .subst hj;rw[if_pos rfl,if_pos rfl,<-hb];rfl
 .rw[if_neg hj,if_neg hj];exact hs.get j
theorem CSim.rs {rs bq:Nat->Env×Loop}{h:CH}{σ:Heap}(hs:CSim rs h σ) (hr:∀ i,i<h.n->bq i=rs i):CSim bq h σ :=
 ⟨hs.n,hs.sm,fun i=>by
  rw[hs.get];cases hg:h.get i with
  |none=>rfl
  |some b=>rw[hr i (hs.lt hg)]⟩
def CH.sl (σ:CH) (esz:Nat):Value->Option (List Value)
 |.slice none 0 0=>some []
 |.slice (some ⟨i,o,none⟩) n _ =>
  match σ.get i with
  |some (.cells c e _ _)=>if e.sz=esz/\o+n*esz<=c.length then some ((c.drop o).take (n*esz)) else none
  |_=>none
 |_=>none
def CH.mapAt (σ:CH) (m:Nat):Option (List Jr×Nat×Bool):=match σ.get m with
 |some (.map es clock wr)=>some (es,clock,wr)
 |_=>none
def VS (σ:CH) (b:EB) (v:Value):Option (Value×CH):=if σ.room=true then some (v,σ.push b) else none
def RF (esz:El) (bytes:Nat) (σ:CH) (s:Value) (m:Nat) (xs:List Value):Option (Value×CH) :=
 match s with
 |.slice none 0 0 =>
  if m=0 then some (s,σ) else
  if m*bytes<=2 ^ 46 then VS σ (.cells xs esz true false) (.slice (some ⟨σ.n,0,none⟩) m m) else none
 |.slice (some ⟨i,o,none⟩) n cap =>
  match σ.get i with
  |some (.cells c e wr tight) =>
   if e=esz/\n<=cap/\o+n*esz.sz<=c.length then
    if m=0 then some (s,σ) else
    if n+m<=cap then
     (if wr=true/\o+(n+m)*esz.sz<=c.length then some (.slice (some ⟨i,o,none⟩) (n+m) cap,σ.upd i (.cells (Wz c (o+n*esz.sz) xs) e wr tight)) else none)
    else if (n+m)*bytes<=2 ^ 46 then
     (if tight then VS σ (.cells ((c.drop o).take (n*esz.sz)++xs) esz true false) (.slice (some ⟨σ.n,0,none⟩) (n+m) (n+m))
     else if wr then VS (σ.kill i) (.cells ((c.drop o).take (n*esz.sz)++xs) esz true false) (.slice (some ⟨σ.n,0,none⟩) (n+m) (n+m))
     else none)
    else none
   else none
  |_=>none
 |.slice (some ⟨i,o,some 0⟩) n cap =>
  match σ.get i with
  |some (.cells c e _ _) =>
   if e=esz/\n=cap/\o+n*esz.sz<=c.length/\m≠0/\(n+m)*bytes<=2 ^ 46 then
    VS σ (.cells ((c.drop o).take (n*esz.sz)++xs) esz true false) (.slice (some ⟨σ.n,0,none⟩) (n+m) (n+m))
   else none
  |_=>none
 |_=>none
def AJ (size:Nat) (σ:CH) (s:Value) (l h:Nat) (m:Option Nat):Option (Value×CH) :=
 match s with
 |.slice none 0 0=>if l=0/\h=0/\(m.getD 0)=0 then some (.slice none 0 0,σ) else none
 |.slice (some ⟨i,o,none⟩) _ cap =>
  match σ.get i with
  |some (.cells _ e _ t) =>
   match m with
   |none=>if e.sz=size/\l<=h/\h<=cap then some (.slice (some ⟨i,o+l*size,none⟩) (h-l) (cap-l),σ) else none
   |some m =>
    if e.sz=size/\l<=h/\h<=m/\m<=cap then
     if m=l then VS σ (.cells [] e false true) (.slice (some ⟨σ.n,0,none⟩) 0 0)
     else if t=false/\h=m then some (.slice (some ⟨i,o+l*size,some 0⟩) (h-l) (m-l),σ)
     else some (.slice (some ⟨i,o+l*size,none⟩) (h-l) (m-l),σ)
    else none
  |_=>none
 |_=>none
def Q5l:Nat->Value->Value->CH->Option Bool
 |0,.pointer none,.pointer none,_=>some true
 |0,.pointer none,.pointer (some _),_=>some false
 |0,.pointer (some _),.pointer none,_=>some false
 |0,.pointer (some ⟨i,o,none⟩),.pointer (some ⟨j,q,none⟩),σ=>if i=j/\o=q/\(σ.get i).isSome=true then some true else none
 |1,.slice none _ _,.slice none _ _,_=>some true
 |1,.slice none _ _,.slice (some _) _ _,_=>some false
 |1,.slice (some _) _ _,.slice none _ _,_=>some false
 |2,.map none,.map none,_=>some true
 |2,.map none,.map (some _),_=>some false
 |2,.map (some _),.map none,_=>some false
 |3,.nilFunc,.nilFunc,_=>some true
 |3,.nilFunc,.func _ _ _,_=>some false
 |3,.func _ _ _,.nilFunc,_=>some false
 |_,_,_,_=>none
def Xe (o:XOp) (ev:Operand->Value) (σ:CH):Option (Value×CH) :=
 match o with
 |.eqAgg neg s x y=>match ev x,ev y with
  |.agg a,.agg b=>if fits s a.toList=true/\fits s b.toList=true then some (.bool (if neg then !(Ql a.toList b.toList) else Ql a.toList b.toList),σ) else none
  |_,_=>none
 |.eqNil kd neg x y=>match Q5l kd (ev x) (ev y) σ with|some b=>some (.bool (if neg then !b else b),σ)|none=>none
 |.makeMap=>VS σ (.map [] 0 true) (.map (some σ.n))
 |.lookup mk z ok x i =>
  let k:=ev i
  if Zp mk k then
   match ev x with
   |.map none=>some (if ok then .tuple #[z,.bool false] else z,σ)
   |.map (some m)=>match σ.mapAt m with
    |some (es,_,_)=>if es.all (fun e=>Zp mk e.1) then
      (match Qu k es with
      |some e=>some (if ok then .tuple #[e.2.1,.bool true] else e.2.1,σ)
      |none=>some (if ok then .tuple #[z,.bool false] else z,σ)) else none
    |none=>none
   |_=>none
  else none
 |.mapUpdate mk m k v=>match ev m with
  |.map (some i)=>match σ.mapAt i with
   |some (es,clock,true)=>if Zp mk (ev k)&&es.all (fun e=>Zp mk e.1) then some (undef,σ.upd i (.map (QO (ev k) (ev v) clock es).1 (QO (ev k) (ev v) clock es).2 true)) else none
   |_=>none
  |_=>none
 |.delete mk m k=>match ev m with
  |.map (some i)=>match σ.mapAt i with
   |some (es,clock,true)=>if Zp mk (ev k)&&es.all (fun e=>Zp mk e.1) then some (.tuple #[],σ.upd i (.map (Dp (ev k) es) clock true)) else none
   |_=>none
  |_=>none
 |.lenMap x=>match ev x with
  |.map none=>some (.int .i64 0,σ)
  |.map (some m)=>match σ.mapAt m with
   |some (es,_,_)=>some (.int .i64 es.length,σ)
   |none=>none
  |_=>none
 |.rangeMap x=>match ev x with
  |.map (some m)=>match σ.mapAt m with
   |some (_,clock,_)=>VS σ (.iter m clock [] clock) (.pointer (some ⟨σ.n,0,none⟩))
   |none=>none
  |_=>none
 |.entry x=>match ev x with
  |.pointer (some ⟨i,0,none⟩)=>match σ.get i with
   |some (.iter m _ seen last)=>match σ.mapAt m,seen.getLast? with
    |some (es,clock,_),some b=>if clock=last then (match es.find? (fun e=>e.2.2==b) with|some e=>if Kl e.1 then some (.tuple #[e.1,e.2.1],σ) else none|none=>none) else none
    |_,_=>none
   |_=>none
  |_=>none
 |.copy size d s=>match ev d,ev s with
  |.slice db dn _,.slice sb sn sc =>
   if min sn dn=0 then some (.int .i64 0,σ) else
   match db,σ.sl size (.slice sb (min sn dn) sc) with
   |some ⟨i,o,none⟩,some xs=>match σ.get i with
    |some (.cells c e wr tight)=>if wr=true/\e.sz=size/\o+xs.length<=c.length/\xs.all cellOk=true then some (.int .i64 (min sn dn:Nat),σ.upd i (.cells (Wz c o xs) e wr tight)) else none
    |_=>none
   |_,_=>none
  |_,_=>none
 |.clear z x=>match ev x with
  |.slice b n _ =>
   if n=0 then some (.tuple #[],σ) else
   match b with
   |some ⟨i,o,none⟩=>match σ.get i with
    |some (.cells c e wr tight)=>if wr=true/\o+n*z.length<=c.length/\z.all cellOk=true then some (.tuple #[],σ.upd i (.cells (Wz c o (Bq n z)) e wr tight)) else none
    |_=>none
   |_=>none
  |_=>none
 |.toUnsafe x=>match ev x with
  |.pointer none=>some (.pointer none,σ)
  |.pointer (some ⟨i,o,none⟩)=>match σ.get i with
   |some (.cells c _ _ _)=>if o<c.length then some (.pointer (some ⟨i,o,none⟩),σ) else none
   |_=>none
  |_=>none
 |.fromUnsafe u size x=>match ev x with
  |.pointer none=>some (.pointer none,σ)
  |.pointer (some ⟨i,o,none⟩)=>match σ.get i with
   |some (.cells c e true true)=>if o=0/\e.ty=u/\size<=c.length then some (.pointer (some ⟨i,o,none⟩),σ) else none
   |_=>none
  |_=>none
 |.sliceData x=>match ev x with
  |.slice none _ _=>some (.pointer none,σ)
  |.slice (some ⟨i,o,none⟩) _ cap=>if cap≠0/\(σ.get i).isSome=true then some (.pointer (some ⟨i,o,none⟩),σ) else none
  |_=>none
 |.unsafeStr e x n=>match ev x,ev n with
  |.pointer p,.int .i64 k =>
   if k=0 then some (.string ⟨#[]⟩,σ) else
   match p with
   |some ⟨i,o,none⟩=>match σ.get i with
    |some (.cells c el true tight) =>
     if 0<k/\k<=2 ^ 62/\el.ty=e/\o+k.toNat<=c.length then
      (match Dk ((c.drop o).take k.toNat) with
      |some s=>some (.string s,σ.upd i (.cells c el false tight))
      |none=>none) else none
    |_=>none
   |_=>none
  |_,_=>none
 |.bytesStr x=>match ev x with
  |.slice a n c=>match σ.sl 1 (.slice a n c) with
   |some xs=>match Dk xs with|some s=>some (.string s,σ)|none=>none
   |none=>none
  |_=>none
 |.strBytes e x=>match ev x with
  |.string s=>if s.size<=2 ^ 62 then VS σ (.cells (s.data.toList.map fun b=>.int .u8 b.toNat) ⟨1,e⟩ true false) (.slice (some ⟨σ.n,0,none⟩) s.size s.size) else none
  |_=>none
 |_=>none
def Heap.empty:Heap:=⟨fun _=>none,0,fun _ _=>rfl⟩
def Q0y (o:VOp) (ev:Operand->Value) (σ:CH):Option (Value×CH) :=
 match o with
 |.alloc t z=>VS σ (.cells z ⟨z.length,t⟩ true true) (.pointer (some ⟨σ.n,0,none⟩))
 |.box t x=>match Yf (ev x) with
  |some vs=>VS σ (.cells vs ⟨vs.length,t⟩ true true) (.pointer (some ⟨σ.n,0,none⟩))
  |none=>none
 |.buildSlice esz z len parts=>match VV (Bq len z) (parts.map fun p=>(p.1*esz.sz,esz.sz,ev p.2)) with
  |some cs=>VS σ (.cells cs esz true true) (.slice (some ⟨σ.n,0,none⟩) len len)
  |none=>none
 |.load agg size a=>match ev a with
  |.pointer (some ⟨g,o,some _⟩)=>(match Q2e g with
   |some c=>if c.all QA then (match Xx agg size c o with|some v=>some (v,σ)|none=>none) else none
   |none=>none)
  |.pointer (some ⟨i,o,none⟩)=>match σ.get i with
   |some (.cells c _ _ _)=>match Xx agg size c o with|some v=>some (v,σ)|none=>none
   |_=>none
  |_=>none
 |.store size a v=>match ev a,Yf (ev v) with
  |.pointer (some ⟨i,o,none⟩),some vs=>match σ.get i with
   |some (.cells c e wr tight)=>if wr=true/\vs.length=size/\o+size<=c.length/\vs.all cellOk=true then some (undef,σ.upd i (.cells (Wz c o vs) e wr tight)) else none
   |_=>none
  |_,_=>none
 |.slice size x lo hi mx =>
  match ev x with
  |.slice a n cap =>
   match ZM ev lo 0,ZM ev hi n,mx with
   |some l,some h,none=>AJ size σ (.slice a n cap) l h none
   |some l,some h,some _=>match ZM ev mx 0,hi with
    |some m,some _=>AJ size σ (.slice a n cap) l h (some m)
    |_,_=>none
   |_,_,_=>none
  |_=>none
 |.makeSlice esz bytes z l c =>
  match ev l,ev c with
  |.int _ a,.int _ b=>if 0<=a/\a<=b/\b*bytes<=2 ^ 46/\b<=2 ^ 46 then VS σ (.cells (Bq b.toNat z) esz true true) (.slice (some ⟨σ.n,0,none⟩) a.toNat b.toNat) else none
  |_,_=>none
 |.append esz bytes s x =>
  match σ.sl esz.sz (ev x),ev x with
  |some xs,.slice _ m _=>if xs.all cellOk then RF esz bytes σ (ev s) m xs else none
  |_,_=>none
 |.ext o=>Xe o ev σ
 |o=>if o.kind=0 then (match Q6 o ev Heap.empty with|some p=>some (p.1,σ)|none=>none) else none
def ESnd (rs:Nat->Env×Loop) (h:CH) (_σ:Heap) (r:Option (Value×Heap)) (p:Value×CH):Prop:=h.n<=p.2.n/\∃ σ',r=some (p.1,σ')/\CSim rs p.2 σ'
theorem ESnd.same {rs:Nat->Env×Loop}{h:CH}{σ:Heap}(hs:CSim rs h σ) {r:Option (Value×Heap)}{v:Value}(hr:r=some (v,σ)):ESnd rs h σ r (v,h):=⟨Nat.le_refl _,σ,hr,hs⟩
theorem ESnd.upd {rs:Nat->Env×Loop}{h:CH}{σ:Heap}(hs:CSim rs h σ) {r:Option (Value×Heap)}{v:Value}{i:Nat}{b:EB}{b0:EB}(hg:h.get i=some b0) {b':Blk}(hb:b.to (rs i)=b') (hr:r=some (v,σ.upd i b')):ESnd rs h σ r (v,h.upd i b):=by have hi:=hs.lt hg;have mH:=hs.sm;exact⟨Nat.le_refl _,_,hr,hs.upd hi hb⟩
theorem ESnd.push {rs:Nat->Env×Loop}{h:CH}{σ:Heap}(hs:CSim rs h σ) {r:Option (Value×Heap)}{v:Value}{p:Value×CH}{b:EB}(hp:VS h b v=some p) {b':Blk}(hb:b.to (rs h.n)=b') (hr:r=some (v,σ.push b')):ESnd rs h σ r p:=by
 unfold VS at hp;split at hp
 .rename_i a7;obtain rfl:=osj hp;have mH:=hs.sm;exact⟨Nat.le_succ _,_,hr,hs.push a7 hb⟩
 .cases hp
theorem CSim.sl {rs:Nat->Env×Loop}{h:CH}{σ:Heap}(hs:CSim rs h σ) {esz:Nat}{v:Value}{xs:List Value}(hx:h.sl esz v=some xs):σ.sl esz v=some xs:=by
 unfold CH.sl at hx;unfold Heap.sl;split at hx
 .exact hx
 .rename_i i o n c;split at hx
  .rename_i cs e wr t hb;simp only[hs.cells hb];exact hx
  .cases hx
 .cases hx
theorem CSim.mapAt {rs:Nat->Env×Loop}{h:CH}{σ:Heap}(hs:CSim rs h σ) {m:Nat}{x:List Jr×Nat×Bool}(hx:h.mapAt m=some x):σ.mapAt m=some x/\h.get m=some (.map x.1 x.2.1 x.2.2):=by
 unfold CH.mapAt at hx;unfold Heap.mapAt;split at hx
 .rename_i es clock wr hb;obtain rfl:=osj hx;exact⟨by simp only[hs.map hb],hb⟩
 .cases hx
theorem C4 {rs:Nat->Env×Loop}{h:CH}{σ:Heap}(hs:CSim rs h σ) {kd:Nat}{a b:Value}{r:Bool}(hx:Q5l kd a b h=some r):ZA kd a b σ=some r:=by
 unfold Q5l at hx;unfold ZA
 split at hx<;>first
  |exact hx
  |(cases hx;done)
  |skip
 rename_i i o j q;split at hx
 .rename_i hc;obtain⟨h1,h2,h3⟩:=hc;have cJ:i=j/\o=q/\(σ.get i).isSome=true:=⟨h1,h2,by rw[hs.get];simpa using h3⟩;simp only[if_pos cJ];exact hx
 .cases hx
theorem Rs {rs:Nat->Env×Loop}{h:CH}{σ:Heap}(hs:CSim rs h σ) {esz:El}{bytes:Nat}{s:Value}{m:Nat}{xs:List Value}{p:Value×CH}(hx:RF esz bytes h s m xs=some p):ESnd rs h σ (WA esz bytes σ s m xs) p:=by
 unfold RF at hx;unfold WA;split at hx
 .split at hx
  .rename_i hm;simp only[if_pos hm];obtain rfl:=osj hx;exact .same hs rfl
  .rename_i hm;simp only[if_neg hm];split at hx
   .rename_i hb;simp only[if_pos hb];rw[hs.n] at hx;exact .push hs hx rfl rfl
   .cases hx
 .rename_i i o n cap;split at hx
  .rename_i c e wr tight hg;have mH:=hs.sm;have hi:=hs.lt hg;simp only[hs.cells hg];split at hx
   .rename_i h1;simp only[if_pos h1];split at hx
    .rename_i h2;simp only[if_pos h2];obtain rfl:=osj hx;exact .same hs rfl
    .rename_i h2;simp only[if_neg h2];split at hx
     .rename_i h3;simp only[if_pos h3];split at hx
      .rename_i h4;simp only[if_pos h4];obtain rfl:=osj hx;exact .upd hs hg rfl rfl
      .cases hx
     .rename_i h3;simp only[if_neg h3];split at hx
      .rename_i h4;simp only[if_pos h4];split at hx
       .rename_i h5;simp only[if_pos h5];rw[hs.n] at hx;exact .push hs hx rfl rfl
       .rename_i h5;simp only[if_neg h5];split at hx
        .rename_i h6;simp only[if_pos h6];rw[hs.n] at hx;have hk:=hs.kill hi;obtain⟨k1,σ',k2,k3⟩:=ESnd.push (r:=some (.slice (some ⟨σ.n,0,none⟩) (n+m) (n+m),(σ.kill i).push (.cells ((c.drop o).take (n*esz.sz)++xs) esz true false))) hk hx rfl rfl;exact⟨k1,σ',k2,k3⟩
        .cases hx
      .cases hx
   .cases hx
  .cases hx
 .rename_i i o n cap;split at hx
  .rename_i c e wr tight hg;simp only[hs.cells hg];split at hx
   .rename_i h1;simp only[if_pos h1];rw[hs.n] at hx;exact .push hs hx rfl rfl
   .cases hx
  .cases hx
 .cases hx
theorem DE {rs:Nat->Env×Loop}{h:CH}{σ:Heap}(hs:CSim rs h σ) {size:Nat}{s:Value}{l k:Nat}{m:Option Nat}{p:Value×CH}(hx:AJ size h s l k m=some p):ESnd rs h σ (WQ size σ s l k m) p:=by
 unfold AJ at hx;unfold WQ;split at hx
 .split at hx
  .rename_i hm;simp only[if_pos hm];obtain rfl:=osj hx;exact .same hs rfl
  .cases hx
 .rename_i i o n cap;split at hx
  .rename_i c e wr tight hg;simp only[hs.cells hg];split at hx
   .split at hx
    .rename_i h1;simp only[if_pos h1];obtain rfl:=osj hx;exact .same hs rfl
    .cases hx
   .split at hx
    .rename_i h1;simp only[if_pos h1];split at hx
     .rename_i h2;simp only[if_pos h2];rw[hs.n] at hx;exact .push hs hx rfl rfl
     .rename_i h2;simp only[if_neg h2];split at hx
      .rename_i h3;simp only[if_pos h3];obtain rfl:=osj hx;exact .same hs rfl
      .rename_i h3;simp only[if_neg h3];obtain rfl:=osj hx;exact .same hs rfl
    .cases hx
  .cases hx
 .cases hx
theorem HW {rs:Nat->Env×Loop}{h:CH}{σ:Heap}(hs:CSim rs h σ) {o:XOp}{ev:Operand->Value}{p:Value×CH}(hx:Xe o ev h=some p):ESnd rs h σ (Z5 o ev σ) p:=by
 cases o
 case eqAgg neg s x y =>
  simp only[Xe] at hx;simp only[Z5];split at hx
  .rename_i a b ha hb;split at hx
   .rename_i hc;rw[ha,hb];simp only;rw[if_pos hc];obtain rfl:=osj hx;exact .same hs rfl
   .cases hx
  .cases hx
 case eqNil kd neg x y =>
  simp only[Xe] at hx;simp only[Z5];split at hx
  .rename_i b hb;rw[C4 hs hb];obtain rfl:=osj hx;exact .same hs rfl
  .cases hx
 case makeMap =>
  simp only[Xe] at hx;simp only[Z5];rw[hs.n] at hx;exact .push hs hx rfl rfl
 case lookup mk z ok x i =>
  simp only[Xe] at hx;simp only[Z5];generalize ev x=q0 at hx |-;generalize ev i=q1 at hx |-;split at hx
  .rename_i hk;simp only[if_pos hk];split at hx
   .obtain rfl:=osj hx;exact .same hs rfl
   .rename_i m hm;split at hx
    .rename_i es cl wr g7;obtain⟨k1,k2⟩:=hs.mapAt g7;simp only[k1];split at hx
     .rename_i hall;simp only[if_pos hall];split at hx
      .rename_i e hf;simp only[hf];obtain rfl:=osj hx;exact .same hs rfl
      .rename_i hf;simp only[hf];obtain rfl:=osj hx;exact .same hs rfl
     .cases hx
    .cases hx
   .cases hx
  .cases hx
 case mapUpdate mk m k v =>
  simp only[Xe] at hx;simp only[Z5];generalize ev m=q0 at hx |-;split at hx
  .rename_i i hi;split at hx
   .rename_i es cl g7;obtain⟨k1,k2⟩:=hs.mapAt g7;simp only[k1];split at hx
    .rename_i hc;simp only[if_pos hc];obtain rfl:=osj hx;exact .upd hs k2 rfl rfl
    .cases hx
   .cases hx
  .cases hx
 case delete mk m k =>
  simp only[Xe] at hx;simp only[Z5];generalize ev m=q0 at hx |-;split at hx
  .rename_i i hi;split at hx
   .rename_i es cl g7;obtain⟨k1,k2⟩:=hs.mapAt g7;simp only[k1];split at hx
    .rename_i hc;simp only[if_pos hc];obtain rfl:=osj hx;exact .upd hs k2 rfl rfl
    .cases hx
   .cases hx
  .cases hx
 case mapEntry=>cases hx
 case entryStore=>cases hx
 case lenMap x =>
  simp only[Xe] at hx;simp only[Z5];generalize ev x=q0 at hx |-;split at hx
  .obtain rfl:=osj hx;exact .same hs rfl
  .split at hx
   .rename_i es cl wr g7;obtain⟨k1,k2⟩:=hs.mapAt g7;simp only[k1];obtain rfl:=osj hx;exact .same hs rfl
   .cases hx
  .cases hx
 case rangeMap x =>
  simp only[Xe] at hx;simp only[Z5];generalize ev x=q0 at hx |-;split at hx
  .split at hx
   .rename_i es cl wr g7;obtain⟨k1,k2⟩:=hs.mapAt g7;simp only[k1];rw[hs.n] at hx;exact .push hs hx rfl rfl
   .cases hx
  .cases hx
 case nextMap=>cases hx
 case entry x =>
  simp only[Xe] at hx;simp only[Z5];generalize ev x=q0 at hx |-;split at hx
  .split at hx
   .rename_i m since seen last hg;simp only[hs.iter hg];split at hx
    .rename_i es clock wr b g7 dS;obtain⟨k1,_⟩:=hs.mapAt g7;simp only[k1,dS];split at hx
     .rename_i hc;rw[if_pos hc];split at hx
      .rename_i e hf;split at hx
       .rename_i hp;rw[hf];simp only[hp,if_true];obtain rfl:=osj hx;exact .same hs rfl
       .cases hx
      .cases hx
     .cases hx
    .cases hx
   .cases hx
  .cases hx
 case copy size d s =>
  simp only[Xe] at hx;simp only[Z5];generalize ev d=q0 at hx |-;generalize ev s=q1 at hx |-;split at hx
  .rename_i db dn dc sb sn sc h1 h2;split at hx
   .rename_i hm;simp only[if_pos hm];obtain rfl:=osj hx;exact .same hs rfl
   .rename_i hm;simp only[if_neg hm];split at hx
    .rename_i i o xs bh;simp only[hs.sl bh];split at hx
     .rename_i c e wr tight hg;simp only[hs.cells hg];split at hx
      .rename_i hc;simp only[if_pos hc];obtain rfl:=osj hx;exact .upd hs hg rfl rfl
      .cases hx
     .cases hx
    .cases hx
  .cases hx
 case clear z x =>
  simp only[Xe] at hx;simp only[Z5];generalize ev x=q0 at hx |-;split at hx
  .rename_i b n cap;split at hx
   .rename_i hm;simp only[if_pos hm];obtain rfl:=osj hx;exact .same hs rfl
   .rename_i hm;simp only[if_neg hm];split at hx
    .rename_i i o;split at hx
     .rename_i c e wr tight hg;simp only[hs.cells hg];split at hx
      .rename_i hc;simp only[if_pos hc];obtain rfl:=osj hx;exact .upd hs hg rfl rfl
      .cases hx
     .cases hx
    .cases hx
  .cases hx
 case toUnsafe x =>
  simp only[Xe] at hx;simp only[Z5];generalize ev x=q0 at hx |-;split at hx
  .obtain rfl:=osj hx;exact .same hs rfl
  .split at hx
   .rename_i c e wr tight hg;simp only[hs.cells hg];split at hx
    .rename_i hc;simp only[if_pos hc];obtain rfl:=osj hx;exact .same hs rfl
    .cases hx
   .cases hx
  .cases hx
 case fromUnsafe u size x =>
  simp only[Xe] at hx;simp only[Z5];generalize ev x=q0 at hx |-;split at hx
  .obtain rfl:=osj hx;exact .same hs rfl
  .split at hx
   .rename_i c e hg;simp only[hs.cells hg];split at hx
    .rename_i hc;simp only[if_pos hc];obtain rfl:=osj hx;exact .same hs rfl
    .cases hx
   .cases hx
  .cases hx
 case sliceData x =>
  simp only[Xe] at hx;simp only[Z5];generalize ev x=q0 at hx |-;split at hx
  .obtain rfl:=osj hx;exact .same hs rfl
  .rename_i i o n cap;split at hx
   .rename_i hc;simp only[if_pos (show cap≠0/\(σ.get i).isSome=true from ⟨hc.1,by rw[hs.get];simpa using hc.2⟩)];obtain rfl:=osj hx;exact .same hs rfl
   .cases hx
  .cases hx
 case unsafeStr e x n =>
  simp only[Xe] at hx;simp only[Z5];generalize ev x=q0 at hx |-;generalize ev n=q1 at hx |-;split at hx
  .rename_i q k h1 h2;split at hx
   .rename_i hk;simp only[if_pos hk];obtain rfl:=osj hx;exact .same hs rfl
   .rename_i hk;simp only[if_neg hk];split at hx
    .rename_i i o;split at hx
     .rename_i c el tight hg;simp only[hs.cells hg];split at hx
      .rename_i hc;simp only[if_pos hc];split at hx
       .rename_i u hu;simp only[hu];obtain rfl:=osj hx;exact .upd hs hg rfl rfl
       .cases hx
      .cases hx
     .cases hx
    .cases hx
  .cases hx
 case bytesStr x =>
  simp only[Xe] at hx;simp only[Z5];generalize ev x=q0 at hx |-;split at hx
  .split at hx
   .rename_i xs bh;simp only[hs.sl bh];split at hx
    .rename_i u hu;simp only[hu];obtain rfl:=osj hx;exact .same hs rfl
    .cases hx
   .cases hx
  .cases hx
 case strBytes e x =>
  simp only[Xe] at hx;simp only[Z5];generalize ev x=q0 at hx |-;split at hx
  .split at hx
   .rename_i h1;simp only[if_pos h1];rw[hs.n] at hx;exact .push hs hx rfl rfl
   .cases hx
  .cases hx
theorem Q0d {rs:Nat->Env×Loop}{h:CH}{σ:Heap}(hs:CSim rs h σ) {o:VOp}{ev:Operand->Value}{p:Value×CH}
  (hx:(if o.kind=0 then (match Q6 o ev Heap.empty with|some p=>some (p.1,h)|none=>none) else none)=some p):ESnd rs h σ (Q6 o ev σ) p:=by
 split at hx
 .rename_i hk;split at hx
  .rename_i q hq;obtain rfl:=osj hx;exact .same hs (BB hk (v:=q.1) (σ1:=q.2) hq)
  .cases hx
 .cases hx
theorem XL {rs:Nat->Env×Loop}{h:CH}{σ:Heap}(hs:CSim rs h σ) {o:VOp}{ev:Operand->Value}{p:Value×CH}(hx:Q0y o ev h=some p):ESnd rs h σ (Q6 o ev σ) p:=by
 cases o
 case alloc t z =>
  simp only[Q0y] at hx;simp only[Q6];rw[hs.n] at hx;exact .push hs hx rfl rfl
 case box t x =>
  simp only[Q0y] at hx;simp only[Q6];generalize Yf (ev x)=q0 at hx |-;split at hx
  .rw[hs.n] at hx;exact .push hs hx rfl rfl
  .cases hx
 case buildSlice esz z len parts =>
  simp only[Q0y] at hx;simp only[Q6];generalize VV (Bq len z) (parts.map fun p=>(p.1*esz.sz,esz.sz,ev p.2))=q0 at hx |-;split at hx
  .rw[hs.n] at hx;exact .push hs hx rfl rfl
  .cases hx
 case load agg size a =>
  simp only[Q0y] at hx;simp only[Q6];generalize ev a=q0 at hx |-;split at hx
  .split at hx
   .rename_i c hg;split at hx
    .rename_i hall;simp only[hg,if_pos hall];split at hx
     .rename_i u hu;simp only[hu];obtain rfl:=osj hx;exact .same hs rfl
     .cases hx
    .cases hx
   .cases hx
  .split at hx
   .rename_i c e wr tight hg;simp only[hs.cells hg];split at hx
    .rename_i u hu;simp only[hu];obtain rfl:=osj hx;exact .same hs rfl
    .cases hx
   .cases hx
  .cases hx
 case store size a v =>
  simp only[Q0y] at hx;simp only[Q6];generalize Yf (ev v)=q0 at hx |-;generalize ev a=q1 at hx |-;split at hx
  .rename_i i o vs h1 h2;split at hx
   .rename_i c e wr tight hg;simp only[hs.cells hg];split at hx
    .rename_i hc;simp only[if_pos hc];obtain rfl:=osj hx;exact .upd hs hg rfl rfl
    .cases hx
   .cases hx
  .cases hx
 case slice size x lo hi mx =>
  simp only[Q0y] at hx;simp only[Q6];generalize ev x=q0 at hx |-;split at hx
  .rename_i a n cap;dsimp only;generalize ZM ev lo 0=q1 at hx |-;generalize ZM ev hi n=q2 at hx |-;split at hx
   .exact DE hs hx
   .rename_i l k m;dsimp only;generalize ZM ev (some m) 0=q3 at hx |-;split at hx
    .exact DE hs hx
    .cases hx
   .cases hx
  .cases hx
 case makeSlice esz bytes z l c =>
  simp only[Q0y] at hx;simp only[Q6];generalize ev l=q0 at hx |-;generalize ev c=q1 at hx |-;split at hx
  .split at hx
   .rename_i hc;simp only[if_pos hc];rw[hs.n] at hx;exact .push hs hx rfl rfl
   .cases hx
  .cases hx
 case append esz bytes s x =>
  simp only[Q0y] at hx;simp only[Q6];generalize ev x=q0 at hx |-;split at hx
  .rename_i bh;simp only[hs.sl bh];split at hx
   .rename_i hc;simp only[if_pos hc];exact Rs hs hx
   .cases hx
  .cases hx
 case ext o=>exact HW hs hx
 all_goals exact Q0d hs hx
def EX (k:IntKind) (n:Int):Int:=match n with
 |.ofNat x=>match Nat.ble x 127 with
  |true=>.ofNat x
  |false=>k.wrap (.ofNat x)
 |.negSucc x=>k.wrap (.negSucc x)
theorem Au (k:IntKind) (n:Int):EX k n=k.wrap n:=by
 cases n with
 |negSucc x=>rfl
 |ofNat x =>
  simp only[EX];split
  .rename_i h;have hx:x<=127:=Nat.le_of_ble_eq_true h;show (x:Int)=k.wrap (x:Int);cases k<;>simp[IntKind.wrap,IntKind.bits,IntKind.signed]<;>omega
  .rfl
def Q8g (c a b:Value):Option Value:=match c with|.bool t=>some (if t then a else b)|_=>none
def Q4l (op:BinOp) (x y:Value):Option Value:=match x,y with|.int k a,.int k' b=>if k=k' then some (.int k (match op with|.add=>EX k (a+b)|.sub=>EX k (a-b)|_=>EX k (a*b))) else none|_,_=>none
def Z2y (op:BinOp) (x y:Value):Option Value:=match x,y with|.int k a,.int k' b=>if k=k'/\b≠0 then some (.int k (Q84 op k a b)) else none|_,_=>none
def Q94 (op:BinOp) (x y:Value):Option Value:=match x,y with|.int k a,.int k' b=>if k=k' then some (.int k (ZG op k a b)) else none|_,_=>none
def Q3e (op:BinOp) (x y:Value):Option Value:=match x,y with|.int k a,.int _ b=>if 0<=b then some (.int k (To op k a b)) else none|_,_=>none
def Z3b (op:BinOp) (x y:Value):Option Value:=match x,y with|.int k a,.int k' b=>if k=k' then some (.bool (Z0z op a b)) else none|_,_=>none
def Z3j (op:BinOp) (x y:Value):Option Value:=match x,y with
  |.string a,.string b=>match op with
   |.add=>if a.size+b.size<=2 ^ 62 then some (.string (a++b)) else none
   |.eql=>some (.bool (a.data.toList==b.data.toList))
   |.neq=>some (.bool (!(a.data.toList==b.data.toList)))
   |.lss=>some (.bool (Op.bytesLess a.data.toList b.data.toList))
   |_=>none
  |_,_=>none
def Z38 (neg:Bool) (x y:Value):Option Value:=match x,y with|.bool a,.bool b=>some (.bool (if neg then !(a==b) else (a==b)))|_,_=>none
def pUn (op:UnOp) (x:Value):Option Value:=match op,x with
  |.not,.bool b=>some (.bool (!b))
  |.neg,.int k n=>some (.int k (k.wrap (0-n)))
  |.xor,.int k n=>some (.int k (ZG .xor k (if k.signed then -1 else k.max) n))
  |_,_=>none
def Q3g (k:IntKind) (x:Value):Option Value:=match x with|.int _ n=>some (.int k (EX k n))|_=>none
def Q3n (x:Value):Option Value:=match x with|.string s=>some (.string s)|_=>none
def Q4u (z:List Value) (l:List (Nat×Nat×Value)):Option Value:=match VV z l with|some cs=>some (.agg cs.toArray)|none=>none
def Tv (off:Nat) (a:Value):Option Value:=match a with
  |.pointer (some ⟨i,o,none⟩)=>some (.pointer (some ⟨i,o+off,none⟩))
  |_=>none
def Q49 (agg:Bool) (off size:Nat) (x:Value):Option Value:=match x with
  |.agg cs=>Xx agg size cs.toList off
  |_=>none
def Tq (size:Nat) (x i:Value):Option Value:=match x,i with
  |.slice (some ⟨b,o,none⟩) n _,.int _ k=>if 0<=k/\k<n then some (.pointer (some ⟨b,o+k.toNat*size,none⟩)) else none
  |_,_=>none
def Gu (len size:Nat) (x i:Value):Option Value:=match x,i with
  |.pointer (some ⟨g,o,some s⟩),.int _ k=>if 0<=k/\k<len then some (.pointer (some ⟨g,o+k.toNat*size,some s⟩)) else none
  |.pointer (some ⟨b,o,none⟩),.int _ k=>if 0<=k/\k<len then some (.pointer (some ⟨b,o+k.toNat*size,none⟩)) else none
  |_,_=>none
def SH (x i:Value):Option Value:=match x,i with
  |.string s,.int _ k=>if 0<=k then (match s.data.toList[k.toNat]? with|some b=>some (.int .u8 b.toNat)|none=>none) else none
  |_,_=>none
def SJ (len:Nat) (agg:Bool) (size:Nat) (x i:Value):Option Value:=match x,i with
  |.agg cs,.int _ k=>if 0<=k/\k<len then Xx agg size cs.toList (k.toNat*size) else none
  |_,_=>none
def LI (ev:Operand->Value) (x:Value) (lo hi:Option Operand):Option Value:=match x with
  |.string s =>
   match ZM ev lo 0,ZM ev hi s.size with
   |some l,some h=>if l<=h/\h<=s.size then some (.string (s.extract l h)) else none
   |_,_=>none
  |_=>none
def Z2z (x:Value):Option Value:=match x with|.slice _ n _=>some (.int .i64 n)|_=>none
def Oj (x:Value):Option Value:=match x with|.string s=>some (.int .i64 s.size)|_=>none
def Q8n (x y z w:Value):Option Value:=match x,y,z,w with|.int k a,.int k2 b,.int k3 c,.int k4 d=>if k=k2/\k=k3/\k=k4 then some (.int k (Ic (Ic (Ic a b) c) d)) else none|_,_,_,_=>none
def Z3n (x y:Value):Option Value:=match x,y with|.int k a,.int k' b=>if k=k' then some (.int k (if b > a then b else a)) else none|_,_=>none
def Z3k (x y:Value):Option Value:=match x,y with|.int k a,.int k' b=>if k=k' then some (.int k (if b<a then b else a)) else none|_,_=>none
def Q4f (t:TypeId) (x:Value):Option Value:=match x with|.chan _=>none|v=>some (.iface t v)
def Ee (i:Nat) (x:Value):Option Value:=match x with
  |.tuple vs=>vs.toList[i]?
  |_=>none
def LR (x:Value):Option Value:=match x with
  |.pointer (some a)=>some (.pointer (some a))
  |.func (.func f) first cap=>some (.func (.func f) first cap)
  |_=>none
def ppp (r:Option Value) (σ:CH):Option (Value×CH):=match r with|some v=>some (v,σ)|none=>none
def Z40 (t:Nat) (x:Value) (σ:CH):Option (Value×CH):=match Yf x with
  |some vs=>VS σ (.cells vs ⟨vs.length,t⟩ true true) (.pointer (some ⟨σ.n,0,none⟩))
  |none=>none
def CB (esz:El) (z:List Value) (len:Nat) (l:List (Nat×Nat×Value)) (σ:CH):Option (Value×CH):=match VV (Bq len z) l with
  |some cs=>VS σ (.cells cs esz true true) (.slice (some ⟨σ.n,0,none⟩) len len)
  |none=>none
def Z0k (agg:Bool) (size:Nat) (a:Value) (σ:CH):Option (Value×CH):=match a with
  |.pointer (some ⟨g,o,some _⟩)=>(match Q2e g with
   |some c=>if c.all QA then (match Xx agg size c o with|some v=>some (v,σ)|none=>none) else none
   |none=>none)
  |.pointer (some ⟨i,o,none⟩)=>match σ.get i with
   |some (.cells c _ _ _)=>match Xx agg size c o with|some v=>some (v,σ)|none=>none
   |_=>none
  |_=>none
def stL (c:List Value) (o:Nat) (vs:List Value):List Value:=match vs with
 |[v]=>c.set o v
 |vs=>c.take o++(vs++c.drop (o+vs.length))
theorem E7:∀ (vs a b c:List Value),vs.length=b.length->Wz (a++(b++c)) a.length vs=a++(vs++c)
 |[],a,b,c,h=>by have:b=[]:=List.eq_nil_of_length_eq_zero (by simpa using h.symm);subst this;rfl
 |v::vs,a,[],c,h=>by simp at h
 |v::vs,a,x::b,c,h=>by
  simp only[Wz];have e:(a++(x::b++c)).set a.length v=(a++[v])++(b++c):=by simp
  rw[e];have:=E7 vs (a++[v]) b c (by simpa using h);rw[List.length_append,List.length_singleton] at this;rw[this];simp
theorem Z06 {c:List Value}{o:Nat}{vs:List Value}(h:o+vs.length<=c.length):stL c o vs=Wz c o vs:=by
 unfold stL;split
 .rfl
 .have h1:c=c.take o++((c.drop o).take vs.length++c.drop (o+vs.length)):=by
   rw[<-List.drop_drop,List.take_append_drop,List.take_append_drop]
  have h2:(c.take o).length=o:=by simp;omega
  have:=E7 vs (c.take o) ((c.drop o).take vs.length) (c.drop (o+vs.length)) (by simp;omega);rw[h2,<-h1] at this;exact this.symm
def Q4g (size:Nat) (a v:Value) (σ:CH):Option (Value×CH):=match a,Yf v with
  |.pointer (some ⟨i,o,none⟩),some vs=>match σ.get i with
   |some (.cells c e wr tight)=>if wr=true/\vs.length=size/\o+size<=c.length/\vs.all cellOk=true then some (undef,σ.upd i (.cells (stL c o vs) e wr tight)) else none
   |_=>none
  |_,_=>none
def Fi (esz:El) (bytes:Nat) (z:List Value) (l c:Value) (σ:CH):Option (Value×CH) :=
  match l,c with
  |.int _ a,.int _ b=>if 0<=a/\a<=b/\b*bytes<=2 ^ 46/\b<=2 ^ 46 then VS σ (.cells (Bq b.toNat z) esz true true) (.slice (some ⟨σ.n,0,none⟩) a.toNat b.toNat) else none
  |_,_=>none
def Z42 (esz:El) (bytes:Nat) (s x:Value) (σ:CH):Option (Value×CH) :=
  match σ.sl esz.sz x,x with
  |some xs,.slice _ m _=>if xs.all cellOk then RF esz bytes σ s m xs else none
  |_,_=>none
def CJ (o:VOp) (ev:Operand->Value) (σ:CH):Option (Value×CH) :=
 match o with
 |.move x=>some (ev x,σ)
 |.pick c a b=>ppp (Q8g (ev c) (ev a) (ev b)) σ
 |.arith op x y=>ppp (Q4l op (ev x) (ev y)) σ
 |.div op x y=>ppp (Z2y op (ev x) (ev y)) σ
 |.bits op x y=>ppp (Q94 op (ev x) (ev y)) σ
 |.shift op x y=>ppp (Q3e op (ev x) (ev y)) σ
 |.cmp op x y=>ppp (Z3b op (ev x) (ev y)) σ
 |.str op x y=>ppp (Z3j op (ev x) (ev y)) σ
 |.eqB n x y=>ppp (Z38 n (ev x) (ev y)) σ
 |.un op x=>ppp (pUn op (ev x)) σ
 |.convI k x=>ppp (Q3g k (ev x)) σ
 |.convS x=>ppp (Q3n (ev x)) σ
 |.build z parts=>ppp (Q4u z (parts.map fun p=>(p.1,p.2.1,ev p.2.2))) σ
 |.fieldAddr off a=>ppp (Tv off (ev a)) σ
 |.field agg off size x=>ppp (Q49 agg off size (ev x)) σ
 |.indexAddr size x i=>ppp (Tq size (ev x) (ev i)) σ
 |.indexAddrArr len size x i=>ppp (Gu len size (ev x) (ev i)) σ
 |.indexStr x i=>ppp (SH (ev x) (ev i)) σ
 |.indexArr len agg size x i=>ppp (SJ len agg size (ev x) (ev i)) σ
 |.sliceStr x lo hi=>ppp (LI ev (ev x) lo hi) σ
 |.len x=>ppp (Z2z (ev x)) σ
 |.lenStr x=>ppp (Oj (ev x)) σ
 |.max x y=>ppp (Z3n (ev x) (ev y)) σ
 |.max4 x y z w=>ppp (Q8n (ev x) (ev y) (ev z) (ev w)) σ
 |.min x y=>ppp (Z3k (ev x) (ev y)) σ
 |.makeFunc fn first cap=>some (.func fn (first.map ev).toArray (cap.map ev).toArray,σ)
 |.iface t x=>ppp (Q4f t (ev x)) σ
 |.extract x i=>ppp (Ee i (ev x)) σ
 |.nilCheck x=>ppp (LR (ev x)) σ
 |.alloc t z=>VS σ (.cells z ⟨z.length,t⟩ true true) (.pointer (some ⟨σ.n,0,none⟩))
 |.box t x=>Z40 t (ev x) σ
 |.buildSlice esz z len parts=>CB esz z len (parts.map fun p=>(p.1*esz.sz,esz.sz,ev p.2)) σ
 |.load agg size a=>Z0k agg size (ev a) σ
 |.store size a v=>Q4g size (ev a) (ev v) σ
 |.slice size x lo hi mx=>Q0y (.slice size x lo hi mx) ev σ
 |.makeSlice esz bytes z l c=>Fi esz bytes z (ev l) (ev c) σ
 |.append esz bytes s x=>Z42 esz bytes (ev s) (ev x) σ
 |.ext o=>Xe o ev σ
 |_=>none
theorem IX {rs:Nat->Env×Loop}{h:CH}{σ:Heap}(hs:CSim rs h σ) {r:Option Value}{r':Option (Value×Heap)}{p:Value×CH}(hr:∀ v,r=some v->r'=some (v,σ)) (hx:ppp r h=some p):ESnd rs h σ r' p:=by
 unfold ppp at hx;split at hx
 .rename_i v;obtain rfl:=osj hx;exact .same hs (hr v rfl)
 .cases hx
theorem Ym {rs:Nat->Env×Loop}{h:CH}{σ:Heap}(hs:CSim rs h σ) {o:VOp}{ev:Operand->Value}{p:Value×CH}(hx:CJ o ev h=some p):ESnd rs h σ (Q6 o ev σ) p:=by
 cases o
 case move x=>exact .same hs (by obtain rfl:=osj hx;rfl) |> fun (h:ESnd rs _ σ (Q6 (.move x) ev σ) (ev x,_))=>by obtain rfl:=osj hx;exact h
 case makeFunc fn a b=>obtain rfl:=osj hx;exact .same hs rfl
 case alloc t z=>exact XL (o:=.alloc t z) hs hx
 case box t x=>exact XL (o:=.box t x) hs hx
 case buildSlice a b c d=>exact XL (o:=.buildSlice a b c d) hs hx
 case load a b c=>exact XL (o:=.load a b c) hs hx
 case store size a v =>
  simp only[CJ] at hx;simp only[Q6];unfold Q4g at hx;generalize Yf (ev v)=q0 at hx |-;generalize ev a=q1 at hx |-;split at hx
  .rename_i i o vs;split at hx
   .rename_i c e wr tight hg;simp only[hs.cells hg];split at hx
    .rename_i hc;simp only[if_pos hc];rw[Z06 (by omega)] at hx;obtain rfl:=osj hx;exact .upd hs hg rfl rfl
    .cases hx
   .cases hx
  .cases hx
 case slice a b c d e=>exact XL (o:=.slice a b c d e) hs hx
 case makeSlice a b c d e=>exact XL (o:=.makeSlice a b c d e) hs hx
 case append a b c d=>exact XL (o:=.append a b c d) hs hx
 case ext o=>exact HW hs hx
 case callF=>cases hx
 case callV=>cases hx
 case bad=>cases hx
 all_goals refine IX hs (fun v hv=>?_) hx
 case arith op x y =>
  simp only[Q6];generalize ev x=a at hv |-;generalize ev y=b at hv |-;unfold Q4l at hv;split at hv
  .split at hv
   .rename_i hk;simp only[if_pos hk];obtain rfl:=osj hv;cases op<;>simp only[Tu,Au]
   .cases hv
  .cases hv
 case convI k x =>
  simp only[Q6];generalize ev x=a at hv |-;unfold Q3g at hv;split at hv
  .obtain rfl:=osj hv;simp only[Au]
  .cases hv
 case pick c a b =>
  simp only[Q6];generalize ev c=q0 at hv |-;generalize ev a=q1 at hv |-;generalize ev b=q2 at hv |-;unfold Q8g at hv
  (repeat' split at hv)<;>first|(cases hv;done)|(obtain rfl:=osj hv;first|rfl|(simp_all;done)|(simp_all;intros;omega))
 case div op x y =>
  simp only[Q6];generalize ev x=q0 at hv |-;generalize ev y=q1 at hv |-;unfold Z2y at hv
  (repeat' split at hv)<;>first|(cases hv;done)|(obtain rfl:=osj hv;first|rfl|(simp_all;done)|(simp_all;intros;omega))
 case bits op x y =>
  simp only[Q6];generalize ev x=q0 at hv |-;generalize ev y=q1 at hv |-;unfold Q94 at hv
  (repeat' split at hv)<;>first|(cases hv;done)|(obtain rfl:=osj hv;first|rfl|(simp_all;done)|(simp_all;intros;omega))
 case shift op x y =>
  simp only[Q6];generalize ev x=q0 at hv |-;generalize ev y=q1 at hv |-;unfold Q3e at hv
  (repeat' split at hv)<;>first|(cases hv;done)|(obtain rfl:=osj hv;first|rfl|(simp_all;done)|(simp_all;intros;omega))
 case cmp op x y =>
  simp only[Q6];generalize ev x=q0 at hv |-;generalize ev y=q1 at hv |-;unfold Z3b at hv
  (repeat' split at hv)<;>first|(cases hv;done)|(obtain rfl:=osj hv;first|rfl|(simp_all;done)|(simp_all;intros;omega))
 case eqB n x y =>
  simp only[Q6];generalize ev x=q0 at hv |-;generalize ev y=q1 at hv |-;unfold Z38 at hv
  (repeat' split at hv)<;>first|(cases hv;done)|(obtain rfl:=osj hv;first|rfl|(simp_all;done)|(simp_all;intros;omega))
 case un op x =>
  simp only[Q6];generalize ev x=q0 at hv |-;unfold pUn at hv
  (repeat' split at hv)<;>first|(cases hv;done)|(obtain rfl:=osj hv;first|rfl|(simp_all;done)|(simp_all;intros;omega))
 case convS x =>
  simp only[Q6];generalize ev x=q0 at hv |-;unfold Q3n at hv
  (repeat' split at hv)<;>first|(cases hv;done)|(obtain rfl:=osj hv;first|rfl|(simp_all;done)|(simp_all;intros;omega))
 case fieldAddr off a =>
  simp only[Q6];generalize ev a=q0 at hv |-;unfold Tv at hv
  (repeat' split at hv)<;>first|(cases hv;done)|(obtain rfl:=osj hv;first|rfl|(simp_all;done)|(simp_all;intros;omega))
 case indexAddr size x i =>
  simp only[Q6];generalize ev x=q0 at hv |-;generalize ev i=q1 at hv |-;unfold Tq at hv
  (repeat' split at hv)<;>first|(cases hv;done)|(obtain rfl:=osj hv;first|rfl|(simp_all;done)|(simp_all;intros;omega))
 case indexAddrArr len size x i =>
  simp only[Q6];generalize ev x=q0 at hv |-;generalize ev i=q1 at hv |-;unfold Gu at hv
  (repeat' split at hv)<;>first|(cases hv;done)|(obtain rfl:=osj hv;first|rfl|(simp_all;done)|(simp_all;intros;omega))
 case len x =>
  simp only[Q6];generalize ev x=q0 at hv |-;unfold Z2z at hv
  (repeat' split at hv)<;>first|(cases hv;done)|(obtain rfl:=osj hv;first|rfl|(simp_all;done)|(simp_all;intros;omega))
 case lenStr x =>
  simp only[Q6];generalize ev x=q0 at hv |-;unfold Oj at hv
  (repeat' split at hv)<;>first|(cases hv;done)|(obtain rfl:=osj hv;first|rfl|(simp_all;done)|(simp_all;intros;omega))
 case max4 x y z w =>
  simp only[Q6];generalize ev x=q0 at hv |-;generalize ev y=q1 at hv |-;generalize ev z=q2 at hv |-;generalize ev w=q3 at hv |-;unfold Q8n at hv
  (repeat' split at hv)<;>first|(cases hv;done)|(rename_i qy;obtain⟨rfl,rfl,rfl⟩:=qy;obtain rfl:=osj hv;simp_all;done)
 case max x y =>
  simp only[Q6];generalize ev x=q0 at hv |-;generalize ev y=q1 at hv |-;unfold Z3n at hv
  (repeat' split at hv)<;>first|(cases hv;done)|(obtain rfl:=osj hv;first|rfl|(simp_all;done)|(simp_all;intros;omega))
 case min x y =>
  simp only[Q6];generalize ev x=q0 at hv |-;generalize ev y=q1 at hv |-;unfold Z3k at hv
  (repeat' split at hv)<;>first|(cases hv;done)|(obtain rfl:=osj hv;first|rfl|(simp_all;done)|(simp_all;intros;omega))
 case nilCheck x =>
  simp only[Q6];generalize ev x=q0 at hv |-;unfold LR at hv
  (repeat' split at hv)<;>first|(cases hv;done)|(obtain rfl:=osj hv;first|rfl|(simp_all;done)|(simp_all;intros;omega))
 case str op x y =>
  simp only[Q6];generalize ev x=q0 at hv |-;generalize ev y=q1 at hv |-;unfold Z3j at hv
  (repeat' split at hv)<;>first|(cases hv;done)|(obtain rfl:=osj hv;first|rfl|(simp_all;done)|(simp_all;intros;omega))
 case build z parts =>
  simp only[Q6];unfold Q4u at hv;split at hv
  .rename_i cs hc;rw[hc];obtain rfl:=osj hv;rfl
  .cases hv
 case field agg off size x =>
  simp only[Q6];generalize ev x=q0 at hv |-;unfold Q49 at hv;split at hv
  .dsimp only;rw[hv]
  .cases hv
 case indexStr x i =>
  simp only[Q6];generalize ev x=q0 at hv |-;generalize ev i=q1 at hv |-;unfold SH at hv;split at hv
  .split at hv
   .rename_i hc;simp only[if_pos hc];split at hv
    .rename_i b hb;simp only[hb];obtain rfl:=osj hv;rfl
    .cases hv
   .cases hv
  .cases hv
 case indexArr len agg size x i =>
  simp only[Q6];generalize ev x=q0 at hv |-;generalize ev i=q1 at hv |-;unfold SJ at hv;split at hv
  .split at hv
   .rename_i hc;simp only[if_pos hc,hv]
   .cases hv
  .cases hv
 case sliceStr x lo hi =>
  simp only[Q6];generalize ev x=q0 at hv |-;unfold LI at hv;split at hv
  .rename_i s;split at hv
   .rename_i l h h1 h2;split at hv
    .rename_i hc;simp only[h1,h2,if_pos hc];obtain rfl:=osj hv;rfl
    .cases hv
   .cases hv
  .cases hv
 case iface t x =>
  simp only[Q6];generalize ev x=q0 at hv |-;unfold Q4f at hv;split at hv
  .cases hv
  .rename_i aC;obtain rfl:=osj hv;split
   .exact absurd rfl (aC _)
   .rfl
 case extract x i =>
  simp only[Q6];generalize ev x=q0 at hv |-;unfold Ee at hv;split at hv
  .dsimp only;rw[hv]
  .cases hv
inductive Sh (a m d:Nat):Value->Value->Prop
 |plain (v:Value) (h:QA v=true):Sh a m d v v
 |ptr (i o:Nat) (h:a<=i) (hi:i<m):Sh a m d (.pointer (some ⟨i,o,none⟩)) (.pointer (some ⟨d+(i-a),o,none⟩))
 |sl (i o len cap:Nat) (h:a<=i) (hi:i<m):Sh a m d (.slice (some ⟨i,o,none⟩) len cap) (.slice (some ⟨d+(i-a),o,none⟩) len cap)
 |agg (cs ds:Array Value) (hc:cs.size=ds.size) (h:∀ i (h1:i<cs.size) (h2:i<ds.size),Sh a m d cs[i] ds[i]):Sh a m d (.agg cs) (.agg ds)
 |tuple (cs ds:Array Value) (hc:cs.size=ds.size) (h:∀ i (h1:i<cs.size) (h2:i<ds.size),Sh a m d cs[i] ds[i]):Sh a m d (.tuple cs) (.tuple ds)
theorem Sh.rel {ρ ρ':Plc}{a m d n':Nat}(hn:d+(m-a)<=n') (hρ:∀ i,a<=i->i<m->ρ' (d+(i-a))=ρ i) {v v':Value}(h:Sh a m d v v') :
  ∀ {c:Value},VRel ρ m v c->VRel ρ' n' v' c:=by
 induction h with
 |plain v h =>intro c hv;have:c=v:=WV h hv;subst this;exact Xi h
 |ptr i o h hi =>intro c hv;obtain⟨a',rfl,_,bF⟩:=hv.ptr_inv';exact .ptr _ _ _ (by omega) fun p hp=>bF p (by rw[<-hρ i h hi];exact hp)
 |sl i o len cap h hi =>intro c hv;obtain⟨a',aq,rfl,_,bF⟩:=hv.sl_inv;exact .sl _ _ _ _ _ _ (by omega) fun p hp=>bF p (by rw[<-hρ i h hi];exact hp)
 |agg cs ds hc h ih =>
  intro c hv;cases hv with
  |agg _ ds' cJ h'=>exact .agg _ _ (hc.symm.trans cJ) fun i k1 k2=>ih i (by omega) k1 (h' i (by omega) k2)
 |tuple cs ds hc h ih =>
  intro c hv;cases hv with
  |tuple _ ds' cJ h'=>exact .tuple _ _ (hc.symm.trans cJ) fun i k1 k2=>ih i (by omega) k1 (h' i (by omega) k2)
theorem BRel.any {ρ ρ':Plc}{n n':Nat}{p:Pl}{w:World}{c:List Value}{esz:El}{wr tight:Bool}(hp:c.all QA=true) (h:BRel ρ n p w (.cells c esz wr tight)) :
  BRel ρ' n' p w (.cells c esz wr tight):=by
 obtain⟨h1,h2,h3,h4,h5,h6⟩:=h;refine⟨h1,h2,h3,h4,fun k v hk=>?_,h6⟩;obtain⟨u,hu,hv⟩:=h5 k v hk;have aR:QA v=true:=List.all_eq_true.1 hp v (List.mem_of_getElem? hk);obtain rfl:u=v:=WV aR hv;exact⟨u,hu,Xi aR⟩
theorem BRel.renRo {ρ:Plc}{nf n':Nat}{π:Nat->Nat}{p:Pl}{w:World}{c c':List Value}{esz:El}{wr tight:Bool}(hr:LRen n' π c c') (h:BRel ρ nf p w (.cells c' esz wr tight)) :
  BRel (fun i=>if i<n' then ρ (π i) else none) n' p w (.cells c esz false tight):=by
 obtain⟨h1,h2,h3,h4,h5,h6⟩:=h;refine⟨h1,h2,by rw[hr.1];exact h3,h4,fun k v hk=>?_,fun h=>by cases h⟩;have ah:k<c'.length:=by rw[<-hr.1];exact(List.getElem?_eq_some_iff.1 hk).1
 obtain⟨u,hu,hv⟩:=h5 k _ (List.getElem?_eq_getElem ah);exact⟨u,hu,(hr.2 k v _ hk (List.getElem?_eq_getElem ah)).rel hv⟩
structure PB where
 c:List Value
 esz:El
 tight:Bool
def PB.blk (wr:Bool) (b:PB):Blk:=.cells b.c b.esz wr b.tight
def Jk (bl fr:List PB):Heap where
 get i:=if i<bl.length then (bl[i]?).map (PB.blk false) else (fr[i-bl.length]?).map (PB.blk true)
 n:=bl.length+fr.length
 wf i h:=by rw[if_neg (by omega),List.getElem?_eq_none (by omega)];rfl
def Xc (σ:Heap) (fr:List PB):Heap where
 get i:=if i<σ.n then σ.get i else (fr[i-σ.n]?).map (PB.blk true)
 n:=σ.n+fr.length
 wf i h:=by rw[if_neg (by omega),List.getElem?_eq_none (by omega)];rfl
theorem VCalled.localize {P:Program}{f:FuncId}{iN args:List Value}{bl fr:List PB}{vm v:Value}{σ:Heap}{π:Nat->Nat}{K:Value->Heap->Prop}
  (hm:VCalled P f iN (Jk bl []) fun u τ=>u=vm/\τ=Jk bl fr)
  (cO:∀ b∈fr,b.c.all QA=true)
  (hπ:∀ i b,bl[i]?=some b->∃ wr c',σ.get (π i)=some (.cells c' b.esz wr b.tight)/\LRen bl.length π b.c c')
  (aB:LRen bl.length π iN args) (hv:Sh bl.length (bl.length+fr.length) σ.n vm v) (hK:K v (Xc σ fr)):VCalled P f args σ K:=by
 intro ρ w av hH hL;have bP:∀ B,¬ Wr (fun i=>if i<bl.length then ρ (π i) else none) (Jk bl []) B:=by
  rintro B ⟨i,p,b,_,hb,hw,_⟩;have hi:i<bl.length:=by have:=(Jk bl []).lt hb;simpa [Jk] using this
  simp only[Jk,if_pos hi] at hb;cases fh:bl[i]? with
  |none=>rw[fh] at hb;cases hb
  |some b0=>rw[fh] at hb;obtain rfl:=osj hb;cases hw
 have u9:HRel (fun i=>if i<bl.length then ρ (π i) else none) (Jk bl []) w:=by
  refine⟨⟨fun i b hb=>?_,fun i hi=>?_,fun i p hp=>?_,fun i j p q b _ hp _ hb hw _=>(bP _ ⟨i,p,b,hp,hb,hw,rfl⟩).elim⟩,fun g cs hg=>⟨(hH.tab g cs hg).1,bP g⟩⟩
  .have hi:i<bl.length:=by have:=(Jk bl []).lt hb;simpa [Jk] using this
   simp only[Jk,if_pos hi] at hb;cases fh:bl[i]? with
   |none=>rw[fh] at hb;cases hb
   |some b0 =>rw[fh] at hb;obtain rfl:=osj hb;obtain⟨wr,c',hg,qN⟩:=hπ i b0 fh;obtain⟨p,hp,hB⟩:=hH.live _ _ hg;exact⟨p,by simp[hi,hp],BRel.renRo qN hB⟩
  .by_cases h:i<bl.length
   .simp only[Jk,if_pos h,List.getElem?_eq_getElem h] at hi;cases hi
   .simp[h]
  .skip
   split at hp
   .exact hH.lt _ p hp
   .cases hp
 have u_:LRel (fun i=>if i<bl.length then ρ (π i) else none) (Jk bl []).n iN av.toList:=by have:=aB.rel hL;simpa [Jk] using this
 have lift:∀ c w',Got (fun i=>if i<bl.length then ρ (π i) else none) (Jk bl []) w (fun u τ=>u=vm/\τ=Jk bl fr) c w'->Got ρ σ w K c w':=by
  rintro c w' ⟨_,ρm,_,⟨rfl,rfl⟩,dU,iO,hE⟩;have d_:∀ B,B<w.heap.size->w'.heap[B]?=w.heap[B]?:=fun B hB=>hE.keep B hB (bP B);have gj:∀ i p,bl.length<=i->ρm i=some p->w.heap.size<=p.blk:=fun i p hi hp=>by
   rcases Nat.lt_or_ge p.blk w.heap.size with h|h
   .refine (bP _ (hE.wr p.blk h ?_)).elim;have iB:=iO.idlt hp;cases hb:(Jk bl fr).get i with
    |none=>rw[iO.dead i hb] at hp;cases hp
    |some b =>
     refine⟨i,p,b,hp,hb,?_,rfl⟩;simp only[Jk,if_neg (Nat.not_lt.2 hi)] at hb;cases fh:fr[i-bl.length]? with
     |none=>rw[fh] at hb;cases hb
     |some b0=>rw[fh] at hb;obtain rfl:=osj hb;rfl
   .exact h
  have hρ:∀ i,σ.n<=i->(if i<σ.n then ρ i else if i<σ.n+fr.length then ρm (bl.length+(i-σ.n)) else none)=if i<σ.n+fr.length then ρm (bl.length+(i-σ.n)) else none:=fun i hi=>if_neg (by omega)
  have hX:Ext ρ σ w (fun i=>if i<σ.n then ρ i else if i<σ.n+fr.length then ρm (bl.length+(i-σ.n)) else none) (Xc σ fr) w':=by
   refine⟨hE.os,hE.tape,hE.output,hE.size,fun B hB _=>d_ B hB,?_,by simp[Xc],fun i hi p hp=>?_⟩
   .rintro B hB ⟨i,p,b,hp,hb,hw,rfl⟩
    replace hp:(if i<σ.n then ρ i else if i<σ.n+fr.length then ρm (bl.length+(i-σ.n)) else none)=some p:=hp
    by_cases hi:i<σ.n
    .rw[if_pos hi] at hp;simp only[Xc,if_pos hi] at hb;exact⟨i,p,b,hp,hb,hw,rfl⟩
    .rw[if_neg hi] at hp;split at hp
     .have:=gj _ p (by omega) hp;omega
     .cases hp
   .skip
    rwa [if_pos hi] at hp
  refine⟨v,fun i=>if i<σ.n then ρ i else if i<σ.n+fr.length then ρm (bl.length+(i-σ.n)) else none,Xc σ fr,hK,?_,hH.ext ⟨fun i b hb=>?_,fun i hi=>?_,fun i p hp=>?_,fun i j p q b ct hp hq hb hw hx=>?_⟩ hX,hX⟩
  .refine hv.rel (by simp[Xc]) (fun i h1 h2=>?_) dU;rw[if_neg (by omega),if_pos (by omega)];congr 1;omega
  .by_cases hi:i<σ.n
   .simp only[Xc,if_pos hi] at hb;obtain⟨p,hp,hB⟩:=hH.live i b hb;exact⟨p,by simp[hi,hp],hB.mono (by simp[Xc]) (fun j hj q hq=>by simpa [hj] using hq) (d_ _ (hH.lt i p hp))⟩
   .simp only[Xc,if_neg hi] at hb;cases fh:fr[i-σ.n]? with
    |none=>rw[fh] at hb;cases hb
    |some b0 =>
     rw[fh] at hb;obtain rfl:=osj hb;have ah:i-σ.n<fr.length:=(List.getElem?_eq_some_iff.1 fh).1;obtain⟨p,hp,hB⟩:=iO.live (bl.length+(i-σ.n)) (b0.blk true) (by
      show (if _ then _ else _)=_;rw[if_neg (by omega),show bl.length+(i-σ.n)-bl.length=i-σ.n by omega,fh];rfl)
     exact⟨p,by rw[if_neg hi,if_pos (by omega)];exact hp,BRel.any (cO b0 (List.mem_of_getElem? fh)) hB⟩
  .by_cases h:i<σ.n
   .simp only[Xc,if_pos h] at hi;rw[if_pos h];exact hH.dead i hi
   .simp only[Xc,if_neg h] at hi;rw[if_neg h];split
    .rename_i h2;have ah:i-σ.n<fr.length:=by omega
     rw[List.getElem?_eq_getElem ah] at hi;cases hi
    .rfl
  .skip
   split at hp
   .exact Nat.lt_of_lt_of_le (hH.lt i p hp) hE.size
   .split at hp
    .exact iO.lt _ p hp
    .cases hp
  .skip
   by_cases hi:i<σ.n<;>by_cases hj:j<σ.n
   .rw[if_pos hi] at hp;rw[if_pos hj] at hq;simp only[Xc,if_pos hi] at hb;exact hH.sep i j p q b ct hp hq hb hw hx
   .rw[if_pos hi] at hp;rw[if_neg hj] at hq;split at hq
    .have h1:=hH.lt i p hp;have h2:=gj _ q (by omega) hq;omega
    .cases hq
   .rw[if_neg hi] at hp;rw[if_pos hj] at hq;split at hp
    .have h1:=hH.lt j q hq;have h2:=gj _ p (by omega) hp;omega
    .cases hp
   .rw[if_neg hi] at hp;rw[if_neg hj] at hq;split at hp
    .split at hq
     .simp only[Xc,if_neg hi] at hb;refine iO.sep (bl.length+(i-σ.n)) (bl.length+(j-σ.n)) p q b (by omega) hp hq ?_ hw hx;show (if _ then _ else _)=_;rw[if_neg (by omega),show bl.length+(i-σ.n)-bl.length=i-σ.n by omega];exact hb
     .cases hq
    .cases hp
 rcases hm _ w av u9 u_ with⟨h1,h2⟩|⟨c,h1,h2⟩
 .refine .inl ⟨h1,?_⟩;exact h2.mono fun e w' he=>by
   obtain⟨c,rfl,hc⟩:=he;exact⟨c,rfl,lift c w' hc⟩
 .refine .inr ⟨c,lift c w h1,fun w' dg=>h2 w' ⟨dg.1,fun i p hp=>?_,dg.tab⟩⟩
  replace hp:(if i<bl.length then ρ (π i) else none)=some p:=hp
  split at hp
  .exact dg.2 _ p hp
  .cases hp
def IM {α:Type}(p:α->α->Bool):List α->List α->Bool
 |[],[]=>true
 |a::l,b::m=>p a b&&IM p l m
 |_,_=>false
theorem Vs {α:Type}{p:α->α->Bool}(hp:∀ a b,p a b=true->a=b):∀ l m,IM p l m=true->l=m
 |[],[],_=>rfl
 |a::l,b::m,h=>by simp only[IM,Bool.and_eq_true] at h;rw[hp a b h.1,Vs hp l m h.2]
 |[],_::_,h=>by cases h
 |_::_,[],h=>by cases h
def CV:Nat->Value->Value->Bool
 |0,_,_=>false
 |f+1,a,b=>match a,b with
  |.bool x,.bool y=>x==y
  |.int k x,.int k' y=>decide (k=k')&&decide (x=y)
  |.string s,.string t=>decide (s.data.toList=t.data.toList)
  |.pointer none,.pointer none=>true
  |.pointer (some ⟨i,o,none⟩),.pointer (some ⟨j,q,none⟩)=>Nat.beq i j&&Nat.beq o q
  |.slice none l c,.slice none l' c'=>Nat.beq l l'&&Nat.beq c c'
  |.slice (some ⟨i,o,none⟩) l c,.slice (some ⟨j,q,none⟩) l' c'=>Nat.beq i j&&(Nat.beq o q&&(Nat.beq l l'&&Nat.beq c c'))
  |.slice (some ⟨i,o,some 0⟩) l c,.slice (some ⟨j,q,some 0⟩) l' c'=>Nat.beq i j&&(Nat.beq o q&&(Nat.beq l l'&&Nat.beq c c'))
  |.map x,.map y=>decide (x=y)
  |.chan none,.chan none=>true
  |.nilFunc,.nilFunc=>true
  |.nilIface,.nilIface=>true
  |.func (.func g) fs cs,.func (.func g') sF cs'=>decide (g=g')&&(IM (CV f) fs.toList sF.toList&&IM (CV f) cs.toList cs'.toList)
  |.func (.yield i) ⟨[]⟩ ⟨[]⟩,.func (.yield j) ⟨[]⟩ ⟨[]⟩=>Nat.beq i j
  |.iface t v,.iface t' v'=>decide (t=t')&&CV f v v'
  |.agg cs,.agg ds=>IM (CV f) cs.toList ds.toList
  |.tuple cs,.tuple ds=>IM (CV f) cs.toList ds.toList
  |_,_=>false
theorem Tn {α:Type}{a b:Array α}(h:a.toList=b.toList):a=b:=by cases a;cases b;simp at h;rw[h]
theorem U2:∀ (f:Nat) (a b:Value),CV f a b=true->a=b:=by
 intro f;induction f with
 |zero=>intro a b h;cases h
 |succ f ih =>
  intro a b h;unfold CV at h
  split at h<;>first
   |(cases h;done)
   |rfl
   |(simp at h;subst h;rfl)
   |(simp at h;obtain⟨rfl,rfl⟩:=h;rfl)
   |(simp at h;obtain⟨rfl,rfl,rfl,rfl⟩:=h;rfl)
   |skip
  .rename_i s t;have h:=of_decide_eq_true h;have:=Tn h;cases s;cases t;simp at this;rw[this]
  .rename_i g fs cs g' sF cs';simp only[Bool.and_eq_true,decide_eq_true_eq] at h;obtain⟨rfl,h1,h2⟩:=h;rw[Tn (Vs ih _ _ h1),Tn (Vs ih _ _ h2)]
  .rename_i t v t' v';simp only[Bool.and_eq_true,decide_eq_true_eq] at h;obtain⟨rfl,h1⟩:=h;rw[ih _ _ h1]
  .rw[Tn (Vs ih _ _ h)]
  .rw[Tn (Vs ih _ _ h)]
def EB.beq:EB->EB->Bool
 |.cells c e w t,.cells c' e' w' t'=>decide (e=e')&&(w==w'&&(t==t'&&IM (CV 20) c c'))
 |.map es cl w,.map bX vd w'=>Nat.beq cl vd&&(w==w'&&IM (fun a b=>CV 20 a.1 b.1&&(CV 20 a.2.1 b.2.1&&Nat.beq a.2.2 b.2.2)) es bX)
 |.iter m s sn l,.iter m' s' ve l'=>Nat.beq m m'&&(Nat.beq s s'&&(Nat.beq l l'&&decide (sn=ve)))
 |.lp .ready none,.lp .ready none=>true
 |.lp .busy none,.lp .busy none=>true
 |_,_=>false
theorem EB.beq_eq {a b:EB}(h:a.beq b=true):a=b:=by
 unfold EB.beq at h
 split at h<;>first
  |(cases h;done)
  |rfl
  |skip
 .simp only[Bool.and_eq_true,decide_eq_true_eq,beq_iff_eq] at h;obtain⟨rfl,rfl,rfl,h⟩:=h;rw[Vs (U2 20) _ _ h]
 .simp only[Bool.and_eq_true,beq_iff_eq,Nat.beq_eq] at h;obtain⟨rfl,rfl,h⟩:=h;rw[Vs (fun a b h=>by
   simp only[Bool.and_eq_true,Nat.beq_eq] at h;obtain⟨a1,a2,a3⟩:=a;obtain⟨b1,b2,b3⟩:=b;obtain⟨h1,h2,h3⟩:=h;simp at h1 h2 h3;rw[U2 _ _ _ h1,U2 _ _ _ h2,h3]) _ _ h]
 .simp only[Bool.and_eq_true,decide_eq_true_eq,Nat.beq_eq] at h;obtain⟨rfl,rfl,rfl,rfl⟩:=h;rfl
def CH.newOk (h h':CH):Bool:=Nat.ble h.n h'.n&&(h'.room&&(List.range' h.n (h'.n-h.n)).all fun i=>match h'.get i with
 |some (.lp _ _)=>false
 |_=>true)
structure AnsOps (A:Type) where
 fail:A
 both:A->A->A
structure Good {A:Type}(R:AnsOps A) (G:A->Prop):Prop where
 fail:¬ G R.fail
 both:∀ a b,G (R.both a b)->G a/\G b
def Kd:AnsOps Bool:=⟨false,and⟩
theorem R3:Good Kd (·=true):=⟨by simp[Kd],fun a b h=>by simpa [Kd] using h⟩
def Eb:AnsOps (Option (Value×CH)):=⟨none,fun _ _=>none⟩
theorem Q7l (x:Value×CH):Good Eb (·=some x):=⟨by simp[Eb],fun a b h=>by simp[Eb] at h⟩
def CH.same (h h':CH):Bool:=Nat.beq h.n h'.n&&(List.range h.n).all fun i=>match h.get i,h'.get i with
 |none,none=>true
 |some a,some b=>a.beq b
 |_,_=>false
def EB.plainE:EB->Bool
 |.cells c _ _ _=>c.all QA
 |.map es _ _=>es.all fun kv=>QA kv.2.1
 |_=>false
def CH.keepOk (h h':CH):Bool:=Nat.ble h.n h'.n&&(List.range h.n).all fun i=>match h.get i,h'.get i with
 |none,none=>true
 |some a,some b=>b.plainE||a.beq b
 |_,_=>false
def gcI (n0:Nat) (refs:List Nat) (i:Nat):Nat×List Nat :=
 if i<n0 then (i,refs) else if refs.contains i=true then (n0+refs.idxOf i,refs) else (n0+refs.length,refs++[i])
def Q0z (g:List Nat->Value->Option (Value×List Nat)):List Value->List Nat->Option (List Value×List Nat)
 |[],refs=>some ([],refs)
 |v::vs,refs=>match g refs v with
  |none=>none
  |some p=>match Q0z g vs p.2 with
   |none=>none
   |some q=>some (p.1::q.1,q.2)
def gcX (n0:Nat):Nat->List Nat->Value->Option (Value×List Nat)
 |0,_,_=>none
 |f+1,refs,v=>match v with
  |.pointer (some ⟨i,o,none⟩)=>some (.pointer (some ⟨(gcI n0 refs i).1,o,none⟩),(gcI n0 refs i).2)
  |.slice (some ⟨i,o,none⟩) l c=>some (.slice (some ⟨(gcI n0 refs i).1,o,none⟩) l c,(gcI n0 refs i).2)
  |.slice (some ⟨i,o,some 0⟩) l c=>some (.slice (some ⟨(gcI n0 refs i).1,o,some 0⟩) l c,(gcI n0 refs i).2)
  |.map (some i)=>some (.map (some (gcI n0 refs i).1),(gcI n0 refs i).2)
  |.chan none=>some (.chan none,refs)
  |.iface t u=>match gcX n0 f refs u with
   |some p=>some (.iface t p.1,p.2)
   |none=>none
  |.agg cs=>match Q0z (gcX n0 f) cs.toList refs with
   |some p=>some (.agg p.1.toArray,p.2)
   |none=>none
  |.tuple cs=>match Q0z (gcX n0 f) cs.toList refs with
   |some p=>some (.tuple p.1.toArray,p.2)
   |none=>none
  |.func (.func g) fs cs=>match Q0z (gcX n0 f) fs.toList refs with
   |some p=>match Q0z (gcX n0 f) cs.toList p.2 with
    |some q=>some (.func (.func g) p.1.toArray q.1.toArray,q.2)
    |none=>none
   |none=>none
  |.func (.yield i) ⟨[]⟩ ⟨[]⟩=>if i<n0 then some (.func (.yield i) ⟨[]⟩ ⟨[]⟩,refs) else none
  |v=>if QA v=true then some (v,refs) else none
def Z0x (n0:Nat):List Jr->List Nat->Option (List Jr×List Nat)
 |[],refs=>some ([],refs)
 |e::es,refs=>match gcX n0 8 refs e.2.1 with
  |none=>none
  |some p=>match Z0x n0 es p.2 with
   |none=>none
   |some q=>some ((e.1,p.1,e.2.2)::q.1,q.2)
def gcB (n0:Nat) (refs:List Nat):EB->Option (EB×List Nat)
 |.cells c e w t=>match Q0z (gcX n0 8) c refs with
  |some p=>some (.cells p.1 e w t,p.2)
  |none=>none
 |.map es cl w=>match Z0x n0 es refs with
  |some p=>some (.map p.1 cl w,p.2)
  |none=>none
 |_=>none
def Q17 (h':CH) (n0:Nat):Nat->Nat->List Nat->CH->Option (CH×List Nat)
 |0,_,_,_=>none
 |f+1,k,refs,acc=>if refs.length<=k then (if k=refs.length then some (acc,refs) else none) else match h'.get (refs.getD k 0) with
  |none=>none
  |some b=>match gcB n0 refs b with
   |none=>none
   |some p=>if acc.room=true then Q17 h' n0 f (k+1) p.2 (acc.push p.1) else none
def Q4i (h h':CH) (refs:List Nat):Option (CH×List Nat) :=
 if h.keepOk h'=true then Q17 h' h.n 100000 0 refs ⟨h'.t,h.n⟩ else none
def LF (h h':CH) (v:Value):Option (Value×CH):=match gcX h.n 8 [] v with
 |none=>none
 |some p=>match Q4i h h' p.2 with
  |none=>none
  |some q=>some (p.1,q.1)
def joinOps:AnsOps (Option (Value×CH)):=⟨none,fun a b=>match a with
 |some x=>match b with
  |some y=>if CV 20 x.1 y.1=true/\x.2.same y.2=true then some x else none
  |none=>none
 |none=>none⟩
structure ET where
 t:GT Value
 m:Nat
def ET.get (e:ET) (i:Nat):Value:=Bool.rec (motive:=fun _=>Value) undef (e.t.get undef i) (Nat.blt i e.m)
def ET.set (e:ET) (i:Nat) (v:Value):ET:=Bool.rec (motive:=fun _=>ET) e ⟨e.t.set undef 32 i v,e.m⟩ (Nat.blt i e.m)
def ET.put (e:ET) (d:Option Nat) (v:Value):ET:=Option.rec (motive:=fun _=>ET) e (fun d=>e.set d v) d
def etL (l:List Value):Nat->GT Value->GT Value:=List.rec (motive:=fun _=>Nat->GT Value->GT Value) (fun _ t=>t) (fun v _ ih i t=>ih (i+1) (t.set undef 32 i v)) l
def ET.of (args:List Value) (nt:Nat):ET:=⟨etL args 0 .nil,args.length+(nt-args.length)⟩
def Ma (e:ET) (x:Operand):Value:=Operand.rec (motive:=fun _=>Value) (fun t=>e.get t) (fun v=>v) (fun g=>.pointer (some ⟨g,0,some 0⟩)) (fun f=>.func (.func f) #[] #[]) x
def Q3w (e:ET) (ps:List Nat):List Value->ET:=List.rec (motive:=fun _=>ET->List Value->ET) (fun e _=>e) (fun p _ ih e vs=>List.rec (motive:=fun _=>ET) e (fun v vs _=>ih (e.set p v) vs) vs) ps e
def O7 (e:ET) (g:Option (Nat×Bool)):Option Bool:=match g with
 |none=>some true
 |some (d,want)=>match e.get d with
  |.bool b=>some (b==want)
  |.tuple _=>some false
  |_=>none
def ET.list (e:ET):List Value:=(List.range e.m).map e.get
def Q9d (h h':CH) (e:ET):Option (Value×CH):=LF h h' (.tuple e.list.toArray)
structure RCtx where
 ps:List Nat
 a:VCode
 b:VCode
 env:ET
abbrev Ys:=List (Nat×RCtx)
def Ys.find:Ys->Nat->Option RCtx
 |[],_=>none
 |(j,c)::l,i=>if Nat.beq i j=true then some c else Ys.find l i
structure Memo where
 args:List Value
 bl:List PB
 v:Value
 fr:List PB
def Q9s (g:Value->Option Value):List Value->Option (List Value)
 |[]=>some []
 |v::vs=>match g v with
  |none=>none
  |some u=>match Q9s g vs with
   |none=>none
   |some us=>some (u::us)
def shX (a m d:Nat):Nat->Value->Option Value
 |0,_=>none
 |f+1,v=>match v with
  |.pointer (some ⟨i,o,none⟩)=>if a<=i/\i<m then some (.pointer (some ⟨d+(i-a),o,none⟩)) else none
  |.slice (some ⟨i,o,none⟩) l c=>if a<=i/\i<m then some (.slice (some ⟨d+(i-a),o,none⟩) l c) else none
  |.agg cs=>match Q9s (shX a m d f) cs.toList with
   |some p=>some (.agg p.toArray)
   |none=>none
  |.tuple cs=>match Q9s (shX a m d f) cs.toList with
   |some p=>some (.tuple p.toArray)
   |none=>none
  |v=>if QA v=true then some v else none
def PZ (h:CH):Nat->List Nat->List PB->Option (List Nat)
 |k,refs,[]=>if refs.length=k then some refs else none
 |k,refs,b::m=>if k<refs.length then
   match h.get (refs.getD k 0) with
   |some (.cells c e _ t)=>(match Q0z (gcX 0 8) c refs with
    |some p=>if (decide (e=b.esz)&&(t==b.tight&&IM (CV 20) p.1 b.c))=true then PZ h (k+1) p.2 m else none
    |none=>none)
   |_=>none
  else none
def YV:List PB->CH->CH
 |[],h=>h
 |b::l,h=>YV l (h.push (.cells b.c b.esz true b.tight))
def E4 (h:CH) (args:List Value) (refs:List Nat):List Memo->Option Memo
 |[]=>none
 |m::ms=>if (IM (CV 20) args m.args&&(PZ h 0 refs m.bl).isSome)=true then some m else E4 h args refs ms
def Rv (h:CH) (args:List Value) (ms:List Memo):Option (Value×CH) :=
 match Q0z (gcX 0 8) args [] with
 |none=>none
 |some p=>match E4 h p.1 p.2 ms with
  |none=>none
  |some m=>match Nat.ble (h.n+m.fr.length) 1000000000 with
   |false=>none
   |true=>match shX m.bl.length (m.bl.length+m.fr.length) h.n 8 m.v with
    |some v=>some (v,YV m.fr h)
    |none=>none
inductive FEnt where
 |code (vc:VCode) (rs:List VResult) (nt:Nat)
 |codeJ (vc:VCode) (rs:List VResult) (nt:Nat)
 |codeM (vc:VCode) (rs:List VResult) (nt:Nat) (ms:List Memo)
 |same
abbrev Tab:=FuncId->Option FEnt
abbrev Q88:=∀ {A:Type},AnsOps A->Ys->VCode->Option Nat->ET->CH->(Exit->ET->CH->A)->A
def H3 (env:ET) (σ:CH):VResult->Option Value
 |.tmp t=>some (env.get t)
 |.cell a agg size=>match Z0k agg size (env.get a) σ with|some p=>some p.1|none=>none
def GA (env:ET) (σ:CH):List VResult->Option (List Value)
 |[]=>some []
 |r::rs=>match H3 env σ r with
  |none=>none
  |some v=>match GA env σ rs with
   |none=>none
   |some vs=>some (v::vs)
def UT (env:ET) (σ:CH) (rs:List VResult):Option Value :=
 match rs with
 |[r]=>H3 env σ r
 |rs=>match GA env σ rs with|some vs=>some (.tuple vs.toArray)|none=>none
section
variable (T:Tab) (ev:Q88) {A:Type}(R:AnsOps A) (ys:Ys)
def Q52 (fail:A) (rs:List VResult) (k:Value->CH->A):Exit->ET->CH->A:=fun e env h'=>match e with
  |.normal=>(match UT env h' rs with|some v=>k v h'|none=>fail)
  |.ret=>(match UT env h' rs with|some v=>k v h'|none=>fail)
  |_=>fail
def Lc (f:FuncId) (args:List Value) (h:CH) (k:Value->CH->A):A :=
 match T f with
 |some (.code vc rs nt)=>match Nat.ble (ET.of args nt).m 1000000 with
  |true=>ev R ys vc none (ET.of args nt) h (Q52 R.fail rs k)
  |false=>R.fail
 |some (.codeJ vc rs nt)=>match Nat.ble (ET.of args nt).m 1000000 with
  |true=>(match ev joinOps ys vc none (ET.of args nt) h (Q52 none rs fun v h'=>LF h h' v) with
   |some x=>if x.2.room=true/\Nat.ble h.n x.2.n=true then k x.1 x.2 else R.fail
   |none=>R.fail)
  |false=>R.fail
 |some (.codeM vc rs nt ms)=>match Rv h args ms with
  |some p=>k p.1 p.2
  |none=>match Nat.ble (ET.of args nt).m 1000000 with
   |true=>ev R ys vc none (ET.of args nt) h (Q52 R.fail rs k)
   |false=>R.fail
 |some .same=>match args with
  |[v]=>k v h
  |_=>R.fail
 |none=>R.fail
def Oc (i:Nat) (k:Value->CH->A):Exit->ET->CH->A:=fun e _ h =>
 match h.get i with
 |some (.lp .busy none)=>match e with
  |.normal=>k (.bool true) (h.upd i (.lp .ready none))
  |.ret=>k (.bool false) (h.upd i (.lp .done (some .ret)))
  |.exit id=>k (.bool false) (h.upd i (.lp .done (some (.exit id))))
  |_=>R.fail
 |_=>R.fail
def Q37 (c:RCtx) (i:Nat) (k:Value->CH->A):Exit->ET->CH->A:=fun e bz h1=>match e with
 |.normal=>(match h1.get i with
  |some (.lp .ready none)=>ev R ys c.b (some i) bz (h1.upd i (.lp .busy none)) (Oc R i k)
  |_=>R.fail)
 |_=>R.fail
def O6 (i:Nat) (args:List Value) (h:CH) (k:Value->CH->A):A :=
 match ys.find i with
 |some c=>match h.get i with
  |some (.lp .ready none)=>if args.length=c.ps.length then ev R ys c.a (some i) (Q3w c.env c.ps args) h (Q37 ev R ys c i k) else R.fail
  |_=>R.fail
 |none=>R.fail
def NL (i m since clock:Nat) (seen:List Nat) (h:CH) (k:Value->CH->A):List Jr->Option A
 |[]=>none
 |e::es=>if seen.contains e.2.2=true then NL i m since clock seen h k es
  else match NL i m since clock seen h k es with
   |none=>some (k (.tuple #[.bool true,e.1,e.2.1]) (h.upd i (.iter m since (seen++[e.2.2]) clock)))
   |some a=>some (R.both (k (.tuple #[.bool true,e.1,e.2.1]) (h.upd i (.iter m since (seen++[e.2.2]) clock))) a)
def Q6x (x:Value) (h:CH) (k:Value->CH->A):A :=
 match x with
 |.pointer (some ⟨i,0,none⟩)=>match h.get i with
  |some (.iter m since seen last)=>match h.mapAt m with
   |some (es,clock,_) =>
    if (seen.isEmpty||es.isEmpty||es.any (fun e=>decide (e.2.2<last)))=true/\es.all (fun e=>Kl e.1)=true then
     (match NL R i m since clock seen h k es with
     |none=>if es.all (fun e=>seen.contains e.2.2||decide (since<=e.2.2))=true then k (.tuple #[.bool false]) h else R.fail
     |some a=>if es.all (fun e=>seen.contains e.2.2||decide (since<=e.2.2))=true then R.both (k (.tuple #[.bool false]) h) a else a)
    else R.fail
   |none=>R.fail
  |_=>R.fail
 |_=>R.fail
def Q3h (f:Value) (args:List Value) (h:CH) (k:Value->CH->A):A:=match f with
  |.func (.func g) first cap=>Lc T ev R ys g (first.toList++args++cap.toList) h k
  |.func (.yield i) _ _=>O6 ev R ys i args h k
  |_=>R.fail
def OL (r:Option (Value×CH)) (k:Value->CH->A):A:=match r with
  |some p=>k p.1 p.2
  |none=>R.fail
def Q5w (o:VOp) (env:ET) (h:CH) (k:Value->CH->A):A :=
 match o with
 |.callF f args=>Lc T ev R ys f (args.map (Ma env)) h k
 |.callV f args=>Q3h T ev R ys (Ma env f) (args.map (Ma env)) h k
 |.ext (.nextMap x)=>Q6x R (Ma env x) h k
 |o=>OL R (CJ o (Ma env) h) k
def OP (l:List VOper):ET->CH->(ET->CH->A)->A :=
 List.rec (motive:=fun _=>ET->CH->(ET->CH->A)->A) (fun env h k=>k env h)
  (fun o _ ih env h k=>match O7 env o.guard with
   |none=>R.fail
   |some true=>Q5w T ev R ys o.op env h fun v h'=>ih (env.put o.dst v) h' k
   |some false=>ih (env.put o.dst undef) h k) l
def Av (op:VOp) (ev:Operand->Value) (v:Value) (h:CH):Bool:=match CJ op ev h with
 |some q=>CV 20 q.1 v
 |none=>false
def IS (r:Nat) (h:CH):List (Nat×(CH->Bool))->Bool
 |[]=>true
 |c::l=>(!(Nat.ble r c.1)||c.2 h)&&IS r h l
def NK:List DOper->ET->List CH->CH->List (Nat×(CH->Bool))->(ET->CH->A)->A
 |[],env,_,h,_,k=>k env h
 |o::rest,env,hs,h,pend,k=>match O7 env o.guard with
  |none=>R.fail
  |some true=>if o.kind=2 then
    (match Q5w T ev Eb ys o.op env h (fun v h'=>some (v,h')) with
    |some p=>if h.newOk p.2=true/\IS hs.length p.2 pend=true then NK rest (env.put o.dst p.1) (hs++[p.2]) p.2 pend k else R.fail
    |none=>R.fail)
   else if o.kind=1 then
    (match CJ o.op (Ma env) h with
    |some p=>if (hs.drop o.kmin).all (Av o.op (Ma env) p.1)=true then
      NK rest (env.put o.dst p.1) hs h (if hs.length<=o.kmax then (o.kmax,Av o.op (Ma env) p.1)::pend else pend) k else R.fail
    |none=>R.fail)
   else match CJ o.op (Ma env) h with
    |some p=>NK rest (env.put o.dst p.1) hs h pend k
    |none=>R.fail
  |some false=>if o.kind=2 then
    (if IS hs.length h pend=true then NK rest (env.put o.dst undef) (hs++[h]) h pend k else R.fail)
   else NK rest (env.put o.dst undef) hs h pend k
def Q6v (env:ET) (h:CH) (a:List DOper):Option (Value×CH):=NK T ev joinOps ys a env [h] h [] fun env h'=>Q9d h h' env
def Aq (env:ET) (h:CH):List (List DOper)->Option (Value×CH)
 |[]=>none
 |[a]=>Q6v T ev ys env h a
 |a::b::r=>joinOps.both (Q6v T ev ys env h a) (Aq env h (b::r))
def HR:List DSeg->ET->CH->(ET->CH->A)->A
 |[],env,h,k=>k env h
 |.one o::rest,env,h,k=>OP T ev R ys [o] env h fun env h=>HR rest env h k
 |.alts [a]::rest,env,h,k=>NK T ev R ys a env [h] h [] fun env h=>HR rest env h k
 |.alts l::rest,env,h,k=>match Aq T ev ys env h l with
  |some x=>(match x.1 with
   |.tuple vs=>if x.2.room=true/\Nat.ble h.n x.2.n=true/\vs.toList.length=env.m then HR rest (ET.of vs.toList 0) x.2 k else R.fail
   |_=>R.fail)
  |none=>R.fail
def Q3x (h:CH):Option Nat->Bool
 |none=>true
 |some i=>match h.get i with
  |some (.lp _ _)=>true
  |_=>false
def Q7s:LoopState->Bool
 |.busy=>false
 |_=>true
def Z04 (env:ET) (i:Nat) (k:Exit->ET->CH->A):Value->CH->A:=fun _ h =>
 match h.get i with
 |some (.lp st pend)=>if Q7s st=true then (match pend with
   |none=>k .normal env (h.kill i)
   |some .ret=>k .ret env (h.kill i)
   |some (.exit id)=>k (.exit id) env (h.kill i)
   |some _=>R.fail) else R.fail
 |_=>R.fail
def Q8s (kb k:Exit->ET->CH->A):Exit->ET->CH->A:=fun e env h=>match e with
 |.normal=>kb .normal env h
 |e=>k e env h
def Ow (id:Nat) (k:Exit->ET->CH->A):Exit->ET->CH->A:=fun e env h=>match e with
 |.exit il=>if il=id then k .normal env h else k (.exit il) env h
 |e=>k e env h
def Q7x (v:Value) (a b:A):A:=match v with
 |.bool true=>a
 |.bool false=>b
 |_=>R.fail
def IU (g:Value) (ps:List Nat) (a b:VCode) (ro:Option Nat) (env:ET) (h:CH) (k:Exit->ET->CH->A):A:=match g with
 |.func (.func f) first cap=>match T f with
  |some (.code _ _ _)=>if Q3x h ro=true/\h.room=true then
    Lc T ev R ((h.n,⟨ps,a,b,env⟩)::ys) f (first.toList++[.func (.yield h.n) #[] #[]]++cap.toList) (h.push (.lp .ready none)) (Z04 R env h.n k)
   else R.fail
  |_=>R.fail
 |_=>R.fail
def S_ (c:VCode):Option Nat->ET->CH->(Exit->ET->CH->A)->A :=
 VCode.rec (motive:=fun _=>Option Nat->ET->CH->(Exit->ET->CH->A)->A)
  (fun _ env h k=>k .normal env h)
  (fun ops _ env h k=>OP T ev R ys ops env h (k .normal))
  (fun aU _ env h k=>HR T ev R ys aU env h (k .normal))
  (fun g ps a b _ _ ro env h k=>IU T ev R ys (Ma env g) ps a b ro env h k)
  (fun _ _ fF fj ro env h k=>fF ro env h (Q8s (fun _ af h'=>fj ro af h' k) k))
  (fun c _ _ fF fj ro env h k=>Q7x R (Ma env c) (fF ro env h k) (fj ro env h k))
  (fun id _ ih ro env h k=>ih ro env h (Ow id k))
  (fun b ih ro env h k=>ih ro env h (Q8s (fun _ af h'=>ev R ys (.loop b) ro af h' k) k))
  (fun id _ env h k=>k (.exit id) env h)
  (fun _ env h k=>k .ret env h)
  (fun _ _ _ _=>R.fail) c
end
def Re (T:Tab) (n:Nat):Q88 :=
 Nat.rec (motive:=fun _=>Q88) (fun R _ _ _ _ _ _=>R.fail) (fun _ ih {_} R ys c ro env h k=>S_ T ih R ys c ro env h k) n
end Go.V