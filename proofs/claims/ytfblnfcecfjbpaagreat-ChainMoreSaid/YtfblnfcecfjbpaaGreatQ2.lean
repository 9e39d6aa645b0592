/- A framework for walks, contracts of functions, and their proofs: part 2. -/
import Derived.RangeFuncLeaves
import Derived.RangeFuncCalls
import Derived.OrdersIn
import Derived.TacticsIn
import Derived.Sort.LoopGhostIn
import Derived.Deep.LoopGhost
import Derived.Test.YtfblnfcecfjbpaaGreatQ1
noncomputable section
namespace Go.V
open Go
section
variable {P:Program}{S:VSpecs}{B:Nat}
def FF:Option Nat->Fence
 |none=>Fence.wide
 |some l=>Fence.wide.inRound l
theorem Aw (ro:Option Nat) (f:FuncId):(FF ro).fn f:=by cases ro<;>trivial
theorem RV (ro:Option Nat):(FF ro).depth=none:=by cases ro<;>rfl
theorem Oa (ro:Option Nat):(FF ro).round=ro:=by cases ro<;>rfl
theorem Ad {ro:Option Nat}{n:Nat}{f:FuncId}{args:Array Value}{w:World}{R:Ending->World->Prop}(h:Calls P f args w R):CallsIn (FF ro) n P f args w R:=by
 cases ro with
 |none=>exact callsIn_wide.2 h
 |some l=>exact CallsIn.inRound l (callsIn_wide.2 h)
theorem LA {ro:Option Nat}{n m:Nat}{l:Nat}{f:FuncId}{tmps:Array Value}{eX body:Code}{w:World}{R:Ending->World->Prop}(h:RoundIn Fence.wide m P l f tmps eX body w R):RoundIn (FF ro) n P l f tmps eX body w R:=by refine⟨Aw _ _,λc cs _=>?_⟩;obtain⟨e,w',r,s⟩:=h.2 c cs (room_wide _);refine⟨e,w',r,?_⟩;cases ro<;>exact s
def Got (ρ:Plc) (U:Heap) (w:World) (R:Value->Heap->Prop) (c:Value) (w':World):Prop :=
 ∃ v ρ' U',R v U'/\VRel ρ' U'.n v c/\HRel ρ' U' w'/\Ext ρ U w ρ' U' w'
def VCallsTo (P:Program) (f:FuncId) (args:List Value) (U:Heap) (R:Value->Heap->Prop):Prop :=
 ∀ ρ w (aw:Array Value),HRel ρ U w->LRel ρ U.n args aw.toList->Calls P f aw w λe w'=>∃ c,e=.returned c/\Got ρ U w R c w'
def VCalled (P:Program) (f:FuncId) (args:List Value) (U:Heap) (R:Value->Heap->Prop):Prop :=
 ∀ ρ w (aw:Array Value),HRel ρ U w->LRel ρ U.n args aw.toList ->
  ((∀ w,(callFunc f aw).run P w=.ok (.enter f aw) w)/\Calls P f aw w λe w'=>∃ c,e=.returned c/\Got ρ U w R c w') \/
  (∃ c,Got ρ U w R c w/\∀ w',Like ρ w w'->(callFunc f aw).run P w'=.ok (.value c) w')
def VYields (P:Program) (i:Nat) (args:List Value) (U:Heap) (R:Value->Heap->Prop):Prop :=
 ∀ ρ w (aw:Array Value),HRel ρ U w->LRel ρ U.n args aw.toList ->
  ∃ p,ρ i=some p/\∃ fn tmps eX body,(Instr.yield p.blk aw).run P w=.ok (.round p.blk fn tmps eX body) w /\
   RoundIn Fence.wide 0 P p.blk fn tmps eX body w λe w'=>∃ c,e=.returned c/\Got ρ U w R c w'
def J8 (P:Program) (f:FuncId):Prop:=∃ fn,P.funcs[f]?=some fn/\fn.body.isSome=true/\(fn.name=="runtime.NumGoroutine")=false
def Q8q (P:Program) (f:FuncId) (s:HD):Prop:=∀ args U K,s args U K->VCalled P f args U K
def Ke (P:Program) (i:Nat) (s:HD):Prop:=∀ args U K,s args U K->VYields P i args U K
def Q93 (P:Program) (f:FuncId) (T:Nat->HD->HD):Prop:=J8 P f/\∀ i Y,Ke P i Y->∀ args U K,T i Y args U K->VCallsTo P f args U K
structure OkSpecs (P:Program) (S:VSpecs):Prop where
 fn:∀ f s,S.fn f=some s->Q8q P f s
 yl:∀ i s,S.yl i=some s->Ke P i s
 it:∀ f T,S.it f=some T->Q93 P f T
theorem Yl {f:FuncId}(h:J8 P f) (args:Array Value) (w:World):(callFunc f args).run P w=.ok (.enter f args) w:=by
 obtain⟨fn,h1,h2,h3⟩:=h;have h4:¬ fn.body=none:=λe=>by rw[e] at h2;cases h2
 have h5:¬ fn.name="runtime.NumGoroutine":=λe=>by rw[e] at h3;simp at h3
 simp[callFunc,h1,h4,h5]
theorem VCallsTo.called {f:FuncId}{args:List Value}{U:Heap}{R:Value->Heap->Prop}(he:J8 P f) (h:VCallsTo P f args U R):VCalled P f args U R :=
 fun ρ w aw hH hL=>.inl ⟨λw=>Yl he aw w,h ρ w aw hH hL⟩
theorem Got.mono {ρ:Plc}{U:Heap}{w:World}{R R':Value->Heap->Prop}{c:Value}{w':World}(h:Got ρ U w R c w') (hr:∀ v U',R v U'->R' v U'):Got ρ U w R' c w' :=
 let ⟨v,ρ',U',h1,h2⟩:=h;⟨v,ρ',U',hr _ _ h1,h2⟩
theorem VCallsTo.mono {f:FuncId}{args:List Value}{U:Heap}{R R':Value->Heap->Prop}(h:VCallsTo P f args U R) (hr:∀ v U',R v U'->R' v U'):VCallsTo P f args U R' :=
 fun ρ w aw hH hL=>(h ρ w aw hH hL).mono λ_ _ ⟨c,he,hg⟩=>⟨c,he,hg.mono hr⟩
theorem YR {ρ:Plc}{n:Nat}{env:Env}{a:Act}(h:LRel ρ n env a.tmps.toList) {v c:Value}(hv:VRel ρ n v c) (d:Option Nat):LRel ρ n (X0 env d v) (a.put d c).tmps.toList:=by
 cases d with
 |none=>exact h
 |some d=>simp only[X0,Act.put,Array.toList_setIfInBounds];exact h.set d hv
theorem Zs (env:Env) (d:Option Nat) (v:Value):List.length (X0 env d v)=List.length env:=by cases d<;>simp[X0]
theorem X5 (a:Act) (d:Option Nat) (c:Value):(a.put d c).defers=a.defers:=by cases d<;>rfl
theorem Gy {ρ:Plc}{n:Nat}{env:Env}{a:Act}{ops:Array Oper}{o:Oper}{vo:VOper}(hc:J5 P ops o=some vo) (hL:LRel ρ n env a.tmps.toList) {b:Bool}(h:J3 env vo.guard=some b) :
  Region.wanted o (yielded ops a.tmps)=b/\vo.dst=o.dst/\KK P o.op=vo.op:=by
 unfold J5 at hc;simp only[zO] at hc;cases hg:o.guard with
 |none =>simp[hg] at hc;subst hc;simp[J3] at h;subst h;simp[Region.wanted,hg]
 |some jw =>
  obtain⟨j,want⟩:=jw;simp[hg] at hc;cases hj:ops[j]? with
  |none=>simp[hj] at hc
  |some oj =>
   cases hd:oj.dst with
   |none=>simp[hj,hd] at hc
   |some d =>
    simp[hj,hd] at hc;subst hc;refine⟨?_,rfl,rfl⟩;simp only[J3] at h;simp only[Region.wanted,hg,yielded,hj,xu,hd];have hlen:List.length env=a.tmps.size:=by have:=hL.1;rw[Array.length_toList] at this;exact this
    rcases zn d (List.length env) with ah|bn
    .have cf:d<a.tmps.size:=by rw[<-hlen];exact ah
     have hr:=hL.2 d env[d] a.tmps[d] (z6 ah) (by simp[cf]);have he:env.getD d undef=env[d]:=by simp[List.getD,ah]
     rw[he] at h;simp only[xg cf];split at h
     .rename_i b' heq;rw[heq] at hr;rw[hr.q1d];simp at h;simp[<-h]
     .rename_i vs heq;rw[heq] at hr;obtain⟨ds,hds,_⟩:=hr.q1j;rw[hds];simp at h;subst h;simp
     .cases h
    .have he:env.getD d undef=undef:=by simp[List.getD,zm bn]
     rw[he] at h;have:a.tmps[d]?=none:=Array.getElem?_eq_none (by rw[<-hlen];exact bn);simp only[this];simp[undef] at h;subst h;simp
theorem Ob {o:Oper}{vo:VOp}(hc:VP P o.op=some vo) {ρ:Plc}{U:Heap}{env:Env}{a:Act}(hL:LRel ρ U.n env a.tmps.toList) {K:Value->Heap->Prop}
  (aG:(∃ f bT,vo=.callF f bT)\/(∃ f bT,vo=.callV f bT)) {σ0:Heap}(h:vop S vo env σ0 K) :
  (∃ f args aw,vcall S f args σ0 K/\LRel ρ U.n args aw.toList/\∀ w,(execOp a.eval o).run P w=(callFunc f aw).run P w) \/
  (∃ i r args aw,Ac S i args σ0 K/\VRel ρ U.n (.func (.yield i) #[] #[]) (.func (.yield r) #[] #[])/\LRel ρ U.n args aw.toList/\∀ w,(execOp a.eval o).run P w=(Instr.yield r aw).run P w):=by
 have bj:=hc;cases dE:VP P o.op with
 |none=>rw[dE] at hc;cases hc
 |some tR =>
  clear dE hc tR;obtain⟨dst,op,ty,pos,after,guard⟩:=o;simp only at bj;unfold VP at bj;split at bj
  .cases bj
  rename_i ai;simp only[xB,xq] at ai;cases op
  case call c =>
   simp only[Op.operands] at ai bj;split at bj
   .rename_i f aK;simp at bj;subst bj;simp only[vop] at h;have ax:(c.args.toList).all X1=true:=by
     simp only[Call.operands,aK,Array.toList_append,List.all_append,z7] at ai;exact ai.2
    refine .inl ⟨f,_,c.args.map a.eval,h,by have:=RY (λx hx=>Wm hL hx) ax;simpa using this,λw=>?_⟩;simp[execOp,resolve,aK,Act.eval,Deferred.ofValue,invoke]
   .rename_i fo aB aK;simp at bj;subst bj;simp only[vop] at h;simp only[Call.operands,aK,Array.toList_append,List.all_append,z7] at ai;have hf:=Wm hL (x:=fo) (by simpa using ai.1);have has:=RY (λx hx=>Wm hL hx) ai.2;split at h
    .rename_i g first cap heq
     rw[heq] at hf;cases k_:a.eval fo with
     |func fn gs ds =>
      rw[k_] at hf;cases hf with
      |func _ _ _ _ _ h1 h2 h3 h4 =>
       refine .inl ⟨g,_,gs++c.args.map a.eval++ds,h,?_,λw=>?_⟩
       .have ff:=LRel.of_array h1 h3;have cu:=LRel.of_array h2 h4;have:=(ff.append has).append cu;simpa using this
       .simp[execOp,resolve,aK,k_,Deferred.ofValue,invoke]
     |_=>rw[k_] at hf;cases hf
    .rename_i i first cap heq
     rw[heq] at hf;have hinv:∀ c,VRel ρ U.n (.func (.yield i) first cap) c->∃ r,c=.func (.yield r) #[] #[]/\VRel ρ U.n (.func (.yield i) #[] #[]) (.func (.yield r) #[] #[]):=by
      intro c h;cases h with
      |yield _ r hi hr=>exact⟨r,rfl,.yield i r hi hr⟩
     obtain⟨r,k_,hv⟩:=hinv _ hf;refine .inr ⟨i,r,_,c.args.map a.eval,h,hv,by simpa using has,λw=>?_⟩;simp[execOp,resolve,aK,k_,Deferred.ofValue,invoke]
    .cases h
   all_goals
    repeat' first
     |(cases bj;done)
     |(simp at bj;subst bj;rcases aG with⟨f,bT,h⟩|⟨f,bT,h⟩<;>cases h;done)
     |split at bj
   all_goals
    simp only[zO,xc] at bj;obtain⟨_,_,_,_,bj⟩:=bj;split at bj<;>simp at bj;subst bj;rcases aG with⟨f,bT,h⟩|⟨f,bT,h⟩<;>cases h
  all_goals simp only[Op.operands] at ai bj
  all_goals
   repeat' first
    |(cases bj;done)
    |(simp at bj;subst bj;rcases aG with⟨f,bT,h⟩|⟨f,bT,h⟩<;>cases h;done)
    |split at bj
  all_goals simp only[zO,xc,reduceCtorEq,and_false,exists_false] at bj
  all_goals first
   |(obtain⟨_,_,bj⟩:=bj;simp at bj;subst bj;rcases aG with⟨f,bT,h⟩|⟨f,bT,h⟩<;>cases h;done)
   |(obtain⟨_,_,_,_,bj⟩:=bj;simp at bj;subst bj;rcases aG with⟨f,bT,h⟩|⟨f,bT,h⟩<;>cases h;done)
   |(obtain⟨_,_,_,_,_,_,bj⟩:=bj;simp at bj;subst bj;rcases aG with⟨f,bT,h⟩|⟨f,bT,h⟩<;>cases h;done)
   |(obtain⟨d,_,bj⟩:=bj;cases d<;>simp at bj<;>subst bj<;>rcases aG with⟨f,bT,h⟩|⟨f,bT,h⟩<;>cases h;done)
   |(obtain⟨_,_,_,_,bj⟩:=bj;split at bj<;>simp at bj;subst bj;rcases aG with⟨f,bT,h⟩|⟨f,bT,h⟩<;>cases h;done)
   |(obtain⟨_,_,bj⟩:=bj;split at bj<;>simp at bj;subst bj;rcases aG with⟨f,bT,h⟩|⟨f,bT,h⟩<;>cases h;done)
theorem Ns {o:Op}{vo:VOp}(h:KK P o=vo) (hv:vo≠.bad):VP P o=some vo\/∃ x,PS P o=some x/\vo=.ext x:=by
 unfold KK at h;split at h
 .rename_i v gS;subst h;exact .inl gS
 .split at h
  .rename_i x hx;exact .inr ⟨x,hx,h.symm⟩
  .exact absurd h.symm hv
theorem Ax {o:Op}{x:XOp}(h:VP P o=some (.ext x)):False:=by
 unfold VP at h
 repeat' first
  |contradiction
  |(cases h;done)
  |(simp at h;done)
  |(rw[zO,xc] at h;obtain⟨_,_,h⟩:=h)
  |split at h
theorem TU {o:Op}{vo:VOp}(h:KK P o=vo) (hv:vo≠.bad) (c:Call):o≠.defer c:=by
 rintro rfl;rcases Ns h hv with h|⟨x,h,_⟩
 .unfold VP at h;split at h<;>simp at h
 .unfold PS at h;split at h<;>simp at h
theorem Ed {o:Oper}{x:Operand}(hc:PS P o.op=some (.nextMap x)) {ρ:Plc}{U:Heap}{w:World}{env:Env}{ev:Operand->Value}(hH:HRel ρ U w) (hE:∀ x,X1 x=true->VRel ρ U.n (Q3 env x) (ev x))
  {K:Value->Heap->Prop}(h:C6 (Q3 env x) U K):∃ c w',(execOp ev o).run P w=.ok (.value c) w'/\Got ρ U w K c w':=by
 obtain⟨dst,op,ty,pos,after,guard⟩:=o;simp only at hc;unfold PS at hc;split at hc
 .cases hc
 rename_i ai;simp only[xB,xq] at ai;have bL:op=.next x false:=by
  cases op
  case next y b=>cases b<;>simp at hc;subst hc;rfl
  all_goals
   simp only at hc
   repeat' first
    |contradiction
    |(obtain⟨_,h⟩:=AA hc;cases h;done)
    |(cases hc;done)
    |(simp at hc;done)
    |(rw[zO,xc] at hc;obtain⟨_,_,hc⟩:=hc)
    |split at hc
 subst bL;clear hc;simp[Op.operands] at ai;have hx:=hE x ai;unfold C6 at h;split at h
 .rename_i i bt;rw[bt] at hx;split at h
  .rename_i m since seen last hb;split at h
   .rename_i es clock wr aH;obtain⟨h1,ae,h2,h3⟩:=h;obtain⟨p,hp,⟨_,fj⟩,O,hO,rm,rfl,pE⟩:=hH.live i _ hb;obtain⟨q,entries,iQ,cS,aC,aI⟩:=Xh hH aH pE;simp at iQ;subst iQ;obtain⟨_,_,cE⟩:=hx.q0x hp;rw[fj,x3] at cE;have iB:(getObj p.blk).run P w=.ok (.mapIter (some q.blk) since seen.toArray last) w:=Qu hO (λ_ _ _ e=>by cases e);have cO:(getObj q.blk).run P w=.ok (.map entries clock) w:=Qu aC (λ_ _ _ e=>by cases e);let left:=entries.filter λe=>!seen.toArray.contains e.born;let aX:=left.filter (·.born<since);let new:=left.filter (·.born>=since);let bM:Array (Option MapEntry):=(if aX.isEmpty then #[none] else #[])++(aX++new).map some;have bk:0<bM.size:=by
     by_cases ho:aX.isEmpty=true
     .simp only[bM,ho,zB,Array.size_append];show 0<1+_;omega
     .have:aX.size≠0:=λe=>ho (by simp[Array.isEmpty,e]);simp only[bM,Array.size_append,Array.size_map];omega
    obtain⟨k,w1,hk,fk,qB⟩:∃ k w1,k<bM.size/\(choose (.mapNext bM.size)).run P w=.ok k w1/\(w1=w\/w1=w.drew):=by
     rw[run_choose_drew];by_cases hf:(Question.mapNext bM.size).forced=true
     .exact⟨0,w,bk,by rw[z8 hf],.inl rfl⟩
     .refine⟨_,w.drew,?_,by rw[zd hf],.inr rfl⟩;exact wA _ bk
    have jx:HRel ρ U w1:=by rcases qB with rfl|rfl;exact hH;exact hH.drew
    have ga:Ext ρ U w ρ U w1:=by rcases qB with rfl|rfl;exact Ext.refl _ _ _;exact Ext.drew _ _ _
    have tS:w1.heap[p.blk]?=some (.mapIter (some q.blk) since seen.toArray last):=by rcases qB with rfl|rfl<;>exact hO
    have ak:¬ ((!seen.toArray.isEmpty&&!entries.isEmpty&&entries.all (λe=>decide (e.born>=last)))=true):=by
     intro hh;simp only[z7] at hh;obtain⟨⟨h4,h5⟩,h6⟩:=hh;simp only[zC] at h1;rcases h1 with (h1|h1)|h1
     .rw[List.isEmpty_iff] at h1;subst h1;simp at h4
     .rw[List.isEmpty_iff] at h1;subst h1;have:entries=#[]:=by have:=aI.1;simpa using this
      subst this;simp at h5
     .obtain⟨kv,dF,ah⟩:=xF.1 h1;obtain⟨j,hj⟩:=xn.1 dF;have bX:j<entries.toList.length:=by rw[aI.1];exact(zh.1 hj).1
      have he:=aI.2 j entries.toList[j] kv (z6 bX) hj;have:=Array.all_eq_true'.1 h6 entries.toList[j] (by rw[<-Array.mem_toList_iff];exact zr bX);have h7:=he.2.1;simp at this ah;simp at h7;omega
    have aT:∀ r,(match bM[k]? with
      |some (some e)=>(do setObj p.blk (.mapIter (some q.blk) since (seen.toArray.push e.born) clock);pure (Value.tuple #[.bool true,e.key,e.val]):Sem Value)
      |some none=>pure (.tuple #[.bool false])
      |none=>stuck "Next: no such candidate").run P w1=r->(Instr.next (ev x) false ty).run P w=r:=by
     intro r hr;rw[<-hr];simp only[Instr.next,cE,zA,iB,cO,zj];rw[zd ak];simp only[zA];change ((choose (Question.mapNext bM.size)).run P w).andThen _=_;rw[fk];rfl
    have hval:∀ c w',(Instr.next (ev x) false ty).run P w=.ok c w'->(execOp ev ⟨dst,.next x false,ty,pos,after,guard⟩).run P w=.ok (.value c) w':=λc w' h=>by simp[execOp,h]
    have fD:bM[k]?=some bM[k]:=xg hk;cases hx:bM[k] with
    |none =>
     rw[hx] at fD;have aN:none∈bM:=hx▸Array.getElem_mem hk;have hold:aX.isEmpty=true:=by
      cases ho:aX.isEmpty with
      |true=>rfl
      |false=>simp[bM,ho] at aN
     refine⟨_,w1,hval _ _ (aT _ (by rw[fD];rfl)),_,ρ,U,h2 ?_,VRel.q0j (LRel.cons (.bool _) (LRel.nil _ _)),jx,ga⟩;refine zg.2 λkv dF=>?_;obtain⟨j,hj⟩:=xn.1 dF;have bX:j<entries.toList.length:=by rw[aI.1];exact(zh.1 hj).1
     have he:=aI.2 j entries.toList[j] kv (z6 bX) hj;cases tT:seen.contains kv.2.2 with
     |true=>rfl
     |false =>
      simp only[Bool.false_or,zk];rcases zn kv.2.2 since with ah|bn
      .exfalso;have:entries.toList[j]∈aX:=by
        simp only[aX,left,Array.mem_filter,zk];refine⟨⟨by rw[<-Array.mem_toList_iff];exact zr bX,?_⟩,by rw[he.2.1];exact ah⟩;rw[he.2.1];simpa using tT
       rw[Array.isEmpty_iff] at hold;rw[hold] at this;simp at this
      .exact bn
    |some e =>
     rw[hx] at fD;have aN:some e∈bM:=hx▸Array.getElem_mem hk;have nV:e∈left:=by
      have h4:e∈aX++new:=by
       simp only[bM,Array.mem_append,Array.mem_map] at aN;rcases aN with aN|⟨a,ha,pD⟩
       .split at aN<;>simp at aN
       .simp at pD;subst pD;simpa using ha
      rcases Array.mem_append.1 h4 with h4|h4
      .exact(Array.mem_filter.1 h4).1
      .exact(Array.mem_filter.1 h4).1
     obtain⟨hel,m_⟩:=Array.mem_filter.1 nV;rw[<-Array.mem_toList_iff] at hel;obtain⟨j,hj⟩:=xn.1 hel;have bX:j<es.length:=by rw[<-aI.1];exact(zh.1 hj).1
     have he:=aI.2 j e es[j] hj (z6 bX);have jr:=h3 es[j] (zr bX) (by rw[<-he.2.1];simpa using m_);obtain⟨k1,k2⟩:=jx.setObj (o':=.iter m since (seen++[es[j].2.2]) clock) (O':=.mapIter (some q.blk) since (seen.toArray.push e.born) clock) hp hb ⟨q.blk,by rw[he.2.1];simp,pE⟩;have bI:VRel ρ U.n es[j].1 e.key:=by rw[he.1];exact VL (zg.1 ae _ (zr bX))
     refine⟨_,_,hval _ _ (aT _ (by
      rw[fD];simp only[zA,QL tS (λ_ _ _ e=>by cases e),zj,xd])),_,ρ,_,jr,VRel.q0j (LRel.cons (.bool _) (LRel.cons bI (LRel.cons he.2.2 (LRel.nil _ _)))),k1,ga.trans k2⟩
   .exact h.elim
  .exact h.elim
 .exact h.elim
theorem EF (hS:OkSpecs P S) {f:FuncId}{args:List Value}{U:Heap}{K:Value->Heap->Prop}(h:vcall S f args U K):VCalled P f args U K:=by
 unfold vcall at h;split at h
 .rename_i s hs;exact hS.fn f s hs _ _ _ h
 .exact h.elim
theorem As (hS:OkSpecs P S) {i:Nat}{args:List Value}{U:Heap}{K:Value->Heap->Prop}(h:Ac S i args U K):VYields P i args U K:=by
 unfold Ac at h;split at h
 .rename_i s hs;exact hS.yl i s hs _ _ _ h
 .exact h.elim
theorem FP {o:Oper}{vo:VOp}(hc:KK P o.op=vo) {ρ:Plc}{U:Heap}{w:World}{env:Env}{a:Act}(hH:HRel ρ U w) (hL:LRel ρ U.n env a.tmps.toList) {v:Value}{U':Heap}
  (h:Q6 vo (Q3 env) U=some (v,U')):R7 P ρ U w v U' (execOp a.eval o):=by
 cases hq:vo.quiet with
 |false=>exact Q00 hc hq hH (λx hx=>Wm hL hx) h
 |true =>obtain⟨rfl,c,eO,hr⟩:=IE hc hq hH (λx hx=>Wm hL hx) h;exact⟨c,w,ρ,.inl (hr w (Like.refl ρ w)),eO,hH,Ext.refl _ _ _⟩
theorem VV (hS:OkSpecs P S) {ro:Option Nat}{n:Nat}{o:Oper}{vo:VOp}(bL:KK P o.op=vo) {ρ:Plc}{U:Heap}{w:World}{env:Env}{a:Act}(hH:HRel ρ U w) (hL:LRel ρ U.n env a.tmps.toList)
  {K:Value->Heap->Prop}(h:vop S vo env U K) {next:Act->World->Prop}{Q':Exit->Act->World->Prop}(hn:∀ c w',Got ρ U w K c w'->next (a.put o.dst c) w'):o.wpIn (FF ro) n P a w next Q':=by
 refine⟨λf _=>Aw _ _,?_⟩;have cR:vo≠.bad:=by rintro rfl;exact h.elim
 rw[Oper.semAt_eq _ _ _ (TU bL cR)];by_cases aG:(∃ f bT,vo=.callF f bT)\/(∃ f bT,vo=.callV f bT)
 .have hc:VP P o.op=some vo:=by
   rcases Ns bL cR with hc|⟨x,_,hx⟩
   .exact hc
   .subst hx;rcases aG with⟨f,bT,hh⟩|⟨f,bT,hh⟩<;>cases hh
  rcases Ob (S:=S) hc hL aG h with⟨f,args,aw,hv,nO,hr⟩|⟨i,r,args,aw,hv,bY,nO,hr⟩
  .rcases EF hS hv ρ w aw hH nO with⟨h1,h2⟩|⟨c,hg,h2⟩
   .rw[hr,h1];exact⟨(λhd=>by rw[RV] at hd;cases hd),(Ad h2).mono λe w' ⟨c,he,hg⟩=>by subst he;exact hn c w' hg⟩
   .rw[hr,h2 w (Like.refl ρ w)];exact hn c w hg
  .obtain⟨p,hp,fn,tmps,eX,body,h1,h2⟩:=As hS hv ρ w aw hH nO;have tU:r=p.blk:=by
    cases bY with
    |yield _ _ _ hh=>exact hh p hp
   rw[hr,tU,h1];exact⟨(λhd=>by rw[RV] at hd;cases hd),(LA h2).mono λe w' ⟨c,he,hg⟩=>by subst he;exact hn c w' hg⟩
 .by_cases eY:∃ x,vo=.ext (.nextMap x)
  .obtain⟨x,rfl⟩:=eY;have hc:PS P o.op=some (.nextMap x):=by
    rcases Ns bL cR with hc|⟨y,hy,hx⟩
    .have:=Ax hc;exact this.elim
    .cases hx;exact hy
   obtain⟨c,w',hr,hg⟩:=Ed hc hH (λx hx=>Wm hL hx) h;rw[hr];exact hn c w' hg
  .have gF:∃ v U',Q6 vo (Q3 env) U=some (v,U')/\K v U':=by
    unfold vop at h;split at h
    .exact absurd (.inl ⟨_,_,rfl⟩) aG
    .exact absurd (.inr ⟨_,_,rfl⟩) aG
    .exact absurd ⟨_,rfl⟩ eY
    .cases d_:Q6 vo (Q3 env) U with
     |none=>rw[d_] at h;exact h.elim
     |some p=>rw[d_] at h;exact⟨p.1,p.2,rfl,h⟩
   obtain⟨v,U',d_,hK⟩:=gF;obtain⟨c,w',ρ',aT,eO,gW,hE⟩:=FP bL hH hL d_;have hg:Got ρ U w K c w':=⟨v,ρ',U',hK,eO,gW,hE⟩;rcases aT with aT|⟨aT,rfl⟩
   .rw[aT];exact hn c w' hg
   .rw[aT];exact hn undef w' hg
def Mks (B:Nat) (ds:List Deferred) (w:World):Prop:=B<=w.heap.size/\∃ Ds:List Nat,ds=Ds.map (λD=>⟨.collected D,#[]⟩)/\Ds.Nodup/\∀ D∈Ds,B<=D/\w.heap[D]?=some (.deferred (some []))
theorem Mks.nil {w:World}(h:B<=w.heap.size):Mks B [] w:=⟨h,[],rfl,List.nodup_nil,λ_ h=>by cases h⟩
theorem Mks.ext {ds:List Deferred}{ρ ρ':Plc}{U U':Heap}{w w':World}(h:Mks B ds w) (hH:HRel ρ U w) (hE:Ext ρ U w ρ' U' w'):Mks B ds w':=by
 obtain⟨h0,Ds,h1,h2,h3⟩:=h;refine⟨zX h0 hE.size,Ds,h1,h2,λD hD=>⟨(h3 D hD).1,?_⟩⟩;have hb:=(h3 D hD).2;have ah:D<w.heap.size:=by
  rcases zn D w.heap.size with h'|h'
  .exact h'
  .rw[Array.getElem?_eq_none h'] at hb;cases hb
 rw[hE.keep D ah (λ⟨i,p,b,hp,_,_,tV⟩=>hH.q0m hb i p hp tV)];exact hb
def BN (B m:Nat) (ρ:Plc) (U:Heap) (w:World) (K:Env->Heap->Prop) (a':Act) (w':World):Prop :=
 ∃ af ρ' U',K af U'/\List.length af=m/\HRel ρ' U' w'/\LRel ρ' U'.n af a'.tmps.toList/\Mks B a'.defers w'/\Ext ρ U w ρ' U' w'
theorem Ec (hS:OkSpecs P S) {ro:Option Nat}{n:Nat}(ops:Array Oper) (Q:Exit->Act->World->Prop):∀ (l:List Oper) (lv:List VOper),l.mapM (J5 P ops)=some lv ->
  ∀ (env:Env) (U:Heap) (K:Env->Heap->Prop) (ρ:Plc) (w:World) (a:Act),DT S lv env U K->HRel ρ U w->LRel ρ U.n env a.tmps.toList->Mks B a.defers w ->
  (∀ a' w',BN B (List.length env) ρ U w K a' w'->Q .normal a' w')->wpListIn (FF ro) n P ops Q l a w:=by
 intro l;induction l with
 |nil =>intro lv bW env U K ρ w a h hH hL hd hQ;simp at bW;subst bW;exact hQ a w ⟨env,ρ,U,h,rfl,hH,hL,hd,Ext.refl _ _ _⟩
 |cons o l ih =>
  intro lv bW env U K ρ w a h hH hL hd hQ;rw[xt] at bW;cases bj:J5 P ops o with
  |none=>simp[bj] at bW
  |some vo =>
   cases iP:l.mapM (J5 P ops) with
   |none=>simp[bj,iP] at bW
   |some sh =>
    simp[bj,iP] at bW;subst bW;simp only[DT] at h;cases hw:J3 env vo.guard with
    |none=>rw[hw] at h;exact h.elim
    |some b =>
     rw[hw] at h;obtain⟨dI,bJ,bL⟩:=Gy bj hL hw;obtain⟨ht,hf⟩:=h;simp only[wpListIn];rw[dI];cases b with
     |false =>rw[zd (by simp)];exact⟨λf _=>Aw _ _,ih sh iP (X0 env vo.dst undef) U K ρ w _ (hf rfl) hH (by rw[bJ];exact YR hL Ju o.dst) (by rw[X5];exact hd) (λa' w' hn=>hQ a' w' (by rw[Zs] at hn;exact hn))⟩
     |true =>
      rw[z8 rfl];refine VV hS bL hH hL (ht rfl) λc w' ⟨v,ρ',U',hK,eO,gW,hE⟩=>?_
      exact ih sh iP (X0 env vo.dst v) U' K ρ' w' _ hK gW (by rw[bJ];exact YR (hE.lrel hL) eO o.dst) (by rw[X5];exact hd.ext hH hE)
       (λa' pz ⟨nW,fc,aE,k1,k0,k2,k3,k4,k5⟩=>hQ a' pz ⟨nW,fc,aE,k1,by rw[k0,Zs],k2,k3,k4,hE.trans k5⟩)
theorem Rn:∀ (l:List Nat) (vs:List Value) (env:Env),(Xe l vs env).length=env.length:=by
 intro l;induction l with
 |nil=>intro vs env;cases vs<;>rfl
 |cons i l ih =>
  intro vs env;cases vs with
  |nil=>rfl
  |cons v vs=>simp only[Xe];rw[ih];simp
theorem Ev {ρ:Plc}{n:Nat}:∀ (l:List Nat) (env base:Env) (cs:List Value),LRel ρ n env cs->LRel ρ n base cs->LRel ρ n (Xe l (GH l env) base) cs:=by
 intro l;induction l with
 |nil=>intro env base cs _ hb;exact hb
 |cons i l ih =>
  intro env base cs he hb;simp only[GH,zE,Xe];refine ih env _ cs he ?_;refine⟨by simp[hb.1],λj v c hv hc=>?_⟩;by_cases cq:i=j
  .subst cq;rcases zn i (List.length base) with ah|bn
   .rw[List.getElem?_set_self ah] at hv;obtain rfl:=osj hv;have cf:i<List.length env:=by rw[he.1,<-hb.1];exact ah
    have:env.getD i poison=env[i]:=by simp[List.getD,cf]
    rw[this];exact he.2 i _ c (z6 cf) hc
   .rw[zm (by simp;exact bn)] at hv;cases hv
  .rw[List.getElem?_set_ne cq] at hv;exact hb.2 j v c hv hc
theorem Am {ρ:Plc}{n:Nat}(cs:List Value) {m:Nat}(h:m=cs.length):LRel ρ n (List.replicate m poison) cs :=
 ⟨by simp[h],λi v c hv _=>by
  have:=zH hv;rw[List.mem_replicate] at this;rw[this.2];exact .poison c⟩
def RoRel (dk ro:Option Nat) (ρ:Plc) (n:Nat):Prop:=(dk=none/\ro=none)\/∃ i l,dk=some i/\ro=some l/\i<n/\∀ p,ρ i=some p->p.blk=l
theorem RoRel.ext {dk ro:Option Nat}{ρ ρ':Plc}{U U':Heap}{w w':World}(h:RoRel dk ro ρ U.n) (hE:Ext ρ U w ρ' U' w'):RoRel dk ro ρ' U'.n:=by
 rcases h with h|⟨i,l,h1,h2,h3,h4⟩
 .exact .inl h
 .exact .inr ⟨i,l,h1,h2,xj h3 hE.n,λp hp=>h4 p (hE.pl i h3 p hp)⟩
def Sound (P:Program) (S:VSpecs) (c:Code) (vc:VCode):Prop :=
 ∀ ⦃B:Nat⦄ (dk ro:Option Nat) (n:Nat) (Q:Exit->Env->Heap->Prop) (env:Env) (U:Heap) (ρ:Plc) (w:World) (a:Act),vwp S vc dk Q env U->HRel ρ U w->LRel ρ U.n env a.tmps.toList->Mks B a.defers w->RoRel dk ro ρ U.n ->
  ∀ (Q':Exit->Act->World->Prop),(∀ e a' w',BN B (List.length env) ρ U w (Q e) a' w'->Q' e a' w')->c.wpIn (FF ro) n P Q' a w
theorem I5 {ρ:Plc}{n:Nat}:∀ (ps:List Nat) (vs cs:List Value) (env:Env) (tmps:Array Value),LRel ρ n env tmps.toList->LRel ρ n vs cs ->
  LRel ρ n (Pf env ps vs) ((ps.zip cs).foldl (λ(tmps:Array Value) (q:Nat×Value)=>tmps.setIfInBounds q.1 q.2) tmps).toList:=by
 intro ps;induction ps with
 |nil=>intro vs cs env tmps h _;cases vs<;>exact h
 |cons p ps ih =>
  intro vs cs env tmps h hv;cases vs with
  |nil =>
   cases cs with
   |nil=>exact h
   |cons _ _=>have:=hv.1;simp at this
  |cons v vs =>
   cases cs with
   |nil=>have:=hv.1;simp at this
   |cons c cs =>simp only[Pf,List.zip_cons_cons,w6];refine ih vs cs _ _ ?_ ⟨by have:=hv.1;simpa using this,λi a b ha hb=>hv.2 (i+1) a b (by simpa using ha) (by simpa using hb)⟩;rw[Array.toList_setIfInBounds];exact h.set p (hv.2 0 v c rfl rfl)
theorem Xy {w:World}{l:Nat}{r:Loop}(h:w.heap[l]?=some (.loop r)):(Instr.getLoop l).run P w=.ok r w:=by simp[Instr.getLoop,Qu h (λ_ _ _ e=>by cases e)]
theorem Mi {ρ:Plc}{U:Heap}{w:World}(hH:HRel ρ U w) {i:Nat}{env:Env}{r:Loop}{st:LoopState}{pend:Option Code}{wr:Bool}(h:U.get i=some (.obj (.lp env r st pend) wr)) :
  ∃ p,ρ i=some p/\w.heap[p.blk]?=some (.loop {r with state:=st,pending:=pend})/\LRel ρ U.n env r.tmps.toList:=by
 obtain⟨p,hp,_,O,h1,rfl,h2⟩:=hH.live i _ h;exact⟨p,hp,h1,h2⟩
theorem S5 {ρ:Plc}{U:Heap}{w:World}(hH:HRel ρ U w) {i:Nat}{env:Env}{r:Loop}{st:LoopState}{pend:Option Code}{p:Pl}(hp:ρ i=some p) (h:U.get i=some (.obj (.lp env r st pend) true)) (na:LoopState) (bZ:Option Code) :
  HRel ρ (U.upd i (.obj (.lp env r na bZ) true)) (HO w p.blk (.loop {r with state:=na,pending:=bZ})) /\
  Ext ρ U w ρ (U.upd i (.obj (.lp env r na bZ) true)) (HO w p.blk (.loop {r with state:=na,pending:=bZ})):=by
 obtain⟨p',bA,h1,h2⟩:=Mi hH h;exact hH.setObj hp h ⟨rfl,h2⟩
theorem L_ {eX body:Code}{va vb:VCode}(ha:Sound P S eX va) (hb:Sound P S body vb) (ps:List Nat) (env:Env) (r:Loop) (gf:r.assign=eX) (ec:r.body=body) (j9:r.params.toList=ps) (i:Nat) :
  Ke P i (Ck (vwp S va (some i)) (vwp S vb (some i)) ps env r i):=by
 intro args U K h ρ w aw hH hL;obtain⟨h1,h2,h3⟩:=h;obtain⟨p,hp,aC,l5⟩:=Mi hH h1;refine⟨p,hp,r.fn,(r.params.zip aw).foldl (λtmps (t,a)=>tmps.setIfInBounds t a) r.tmps,r.assign,r.body,?_,?_⟩
 .have aF:aw.size=r.params.size:=by
   have h4:=hL.1;have:r.params.size=ps.length:=by rw[<-j9];simp
   simp at h4;omega
  simp[Instr.yield,Xy aC,aF]
 .refine roundIn_of_wpIn (F:=Fence.wide) trivial ?_;rw[gf,ec];refine ha (some i) (some p.blk) 0 _ _ U ρ w _ h3 hH ?_ (Mks.nil (zf _)) (.inr ⟨i,p.blk,rfl,rfl,U.lt h1,λq hq=>by rw[hp] at hq;obtain rfl:=osj hq;rfl⟩) _ ?_
  .have:=I5 ps args aw.toList env r.tmps l5 hL;rw[<-j9,<-Array.toList_zip,Array.foldl_toList] at this;rw[j9] at this;exact this
  .intro e a1 w1 ⟨bC,ρ1,σ1,k1,k0,k2,k3,k4,k5⟩;cases e with
   |normal =>
    obtain⟨k6,k7⟩:=k1;obtain⟨p1,j_,ld,sj⟩:=Mi k2 k6;have mY:p1=p:=by have:=k5.pl i (U.lt h1) p1 j_;rw[hp] at this;exact(osj this).symm
    subst mY;obtain⟨j1,j2⟩:=S5 k2 j_ k6 .busy none;refine⟨_,by simp[Instr.beginRound,Xy ld,QL ld (λ_ _ _ e=>by cases e)];rfl,?_⟩;refine hb (some i) (some p1.blk) 0 _ _ _ ρ1 _ a1 k7 j1 k3 (k4.ext k2 j2) (.inr ⟨i,p1.blk,rfl,rfl,σ1.lt k6,λq hq=>by rw[j_] at hq;obtain rfl:=osj hq;rfl⟩) _ ?_;intro e2 a2 w2 ⟨aU,ρ2,σ2,m1,m0,m2,m3,m4,m5⟩;obtain⟨m6,m7⟩:=m1;obtain⟨p2,dG,eZ,sk⟩:=Mi m2 m6;have mY:p2=p1:=by have h8:=m5.pl i (by rw[Heap.q2p];exact σ1.lt k6) p2 dG;rw[j_] at h8;exact(osj h8).symm
    subst mY;cases e2 with
    |normal =>obtain⟨q1,q2⟩:=S5 m2 dG m6 .ready none;refine⟨.bool true,_,?_,_,rfl,.bool true,ρ2,_,m7,.bool _,q1,k5.trans (j2.trans (m5.trans q2))⟩;simp[Instr.endRound,Xy eZ,QL eZ (λ_ _ _ e=>by cases e)]
    |ret =>obtain⟨q1,q2⟩:=S5 m2 dG m6 .done (some .ret);refine⟨.bool false,_,?_,_,rfl,.bool false,ρ2,_,m7,.bool _,q1,k5.trans (j2.trans (m5.trans q2))⟩;simp[Instr.endRound,Xy eZ,QL eZ (λ_ _ _ e=>by cases e)]
    |exit id =>obtain⟨q1,q2⟩:=S5 m2 dG m6 .done (some (.exit id));refine⟨.bool false,_,?_,_,rfl,.bool false,ρ2,_,m7,.bool _,q1,k5.trans (j2.trans (m5.trans q2))⟩;simp[Instr.endRound,Xy eZ,QL eZ (λ_ _ _ e=>by cases e)]
    |goto l=>exact m7.elim
    |panic ch=>exact m7.elim
    |outgrown=>exact m7.elim
   |exit id=>exact k1.elim
   |goto l=>exact k1.elim
   |ret=>exact k1.elim
   |panic ch=>exact k1.elim
   |outgrown=>exact k1.elim
theorem Heap.ext' {U U':Heap}(h:∀ j,U.get j=U'.get j) (hn:U.n=U'.n):U=U':=by obtain⟨g,n,wf⟩:=U;obtain⟨g',n',vT⟩:=U';have hg:g=g':=funext h;have pH:n=n':=hn;subst hg;subst pH;rfl
theorem Mks.push {ds:List Deferred}{w:World}(h:Mks B ds w):Mks B ({target:=.collected w.heap.size,args:=#[]}::ds) (w.alloc (.deferred (some []))):=by
 obtain⟨h0,Ds,h1,h2,h3⟩:=h;have ah:∀ D∈Ds,D<w.heap.size:=λD hD=>by
  rcases zn D w.heap.size with h'|h'
  .exact h'
  .have:=(h3 D hD).2;rw[Array.getElem?_eq_none h'] at this;cases this
 refine⟨by rw[World.size_alloc];omega,w.heap.size::Ds,by rw[h1];rfl,xr.2 ⟨λhh=>wH _ (ah _ hh),h2⟩,λD hD=>?_⟩;rcases zo.1 hD with rfl|hD
 .refine⟨h0,?_⟩;show (w.heap.push _)[w.heap.size]?=_;simp
 .refine⟨(h3 D hD).1,?_⟩;show (w.heap.push _)[D]?=_;rw[Array.getElem?_push,zd (by have:=ah D hD;omega)];exact(h3 D hD).2
theorem Ext.q1f {ρ:Plc}{U:Heap}(w:World) (O:Obj):Ext ρ U w ρ U (w.alloc O) :=
 ⟨rfl,rfl,rfl,by have:=World.size_alloc w O;omega,λB hB _=>by show (w.heap.push _)[B]?=_;rw[Array.getElem?_push,zd (by omega)],λ_ _ h=>h,zf _,λ_ _ _ h=>h⟩
theorem HRel.q1f {ρ:Plc}{U:Heap}{w:World}(h:HRel ρ U w) (O:Obj):HRel ρ U (w.alloc O) :=
 h.world (by have:=World.size_alloc w O;omega) (λi p hp=>by show (w.heap.push _)[p.blk]?=_;rw[Array.getElem?_push,zd (by have:=h.lt i p hp;omega)]) λg cs hg=>by show (w.heap.push _)[g]?=_;rw[Array.getElem?_push,zd (by have:=h.tab.lt hg;omega)]
theorem Lz {dk ro:Option Nat}{ρ:Plc}{U:Heap}{w:World}{a:Act}{env:Env}(hH:HRel ρ U w) (hL:LRel ρ U.n env a.tmps.toList) (hd:Mks B a.defers w) (hR:RoRel dk ro ρ U.n) (aO:Z4c U dk) (fn:FuncId) (ps:Array Nat) (eX body:Code) :
  ∃ (r:Loop) (mark:List Deferred) (w1:World) (ρ1:Plc),(Instr.enterLoop fn a.tmps ps eX body ro).run P w=.ok (w1.heap.size-1,mark) w1/\r.assign=eX/\r.body=body/\r.params=ps /\
   HRel ρ1 (U.push (.obj (.lp env r .ready none) true)) w1/\Ext ρ U w ρ1 (U.push (.obj (.lp env r .ready none) true)) w1/\Mks B (mark++a.defers) w1 /\
   (∀ p,ρ1 U.n=some p->p.blk=w1.heap.size-1):=by
 rcases hR with⟨rfl,rfl⟩|⟨i,l,rfl,rfl,hi,ic⟩
 .let w0:=w.alloc (.deferred (some []));have gG:HRel ρ U w0:=hH.q1f _;have qC:Ext ρ U w ρ U w0:=Ext.q1f _ _;let r:Loop:={state:=.ready,pending:=none,fn,tmps:=a.tmps,params:=ps,assign:=eX,body:=body,defers:=w.heap.size};obtain⟨ρ1,h1,h2,h3⟩:=gG.newObj (.lp env r .ready none) (.loop r) ⟨rfl,hL⟩;have aF:(w0.alloc (.loop r)).heap.size-1=w0.heap.size:=by have:=World.size_alloc w0 (.loop r);omega
  refine⟨r,[{target:=.collected w.heap.size,args:=#[]}],w0.alloc (.loop r),ρ1,?_,rfl,rfl,rfl,h2,qC.trans h3,?_,λp hp=>?_⟩
  .rw[aF];simp[Instr.enterLoop];exact⟨(World.size_alloc w _).symm,rfl⟩
  .exact(hd.push).ext gG h3
  .rw[h1] at hp;obtain rfl:=osj hp;rw[aF]
 .obtain⟨tW,r0,st,pend,hb⟩:=aO;obtain⟨p,hp,aC,_⟩:=Mi hH hb;have aQ:=ic p hp;subst aQ;let r:Loop:={state:=.ready,pending:=none,fn,tmps:=a.tmps,params:=ps,assign:=eX,body:=body,defers:=r0.defers};obtain⟨ρ1,h1,h2,h3⟩:=hH.newObj (.lp env r .ready none) (.loop r) ⟨rfl,hL⟩;have aF:(w.alloc (.loop r)).heap.size-1=w.heap.size:=by have:=World.size_alloc w (.loop r);omega
  refine⟨r,[],w.alloc (.loop r),ρ1,?_,rfl,rfl,rfl,h2,h3,?_,λp hp=>?_⟩
  .rw[aF];simp[Instr.enterLoop,Xy aC];rfl
  .exact hd.ext hH h3
  .rw[h1] at hp;obtain rfl:=osj hp;rw[aF]
theorem Cc (hS:OkSpecs P S) {eX body:Code}{va vb:VCode}(ha:Sound P S eX va) (hb:Sound P S body vb) (g:Operand) (hg:X1 g=true) (ps:Array Nat):Sound P S (.rangeFunc g ps eX body) (.rangeF g ps.toList va vb):=by
 intro B dk ro n Q env U ρ w a h hH hL hd hR Q' hQ;simp only[vwp,Lk] at h;have gH:=Wm hL hg;split at h
 .rename_i f first cap bn
  rw[bn] at gH;split at h
  .rename_i T hT;obtain⟨aO,h⟩:=h;refine wpIn_rangeFunc λfn _=>?_;obtain⟨r,mark,w1,ρ1,he,gf,ec,j9,jx,ga,tX,ff⟩:=Lz (P:=P) hH hL hd hR aO fn ps eX body;obtain⟨iT,gX⟩:=hS.it f T hT;obtain⟨gs,ds,pI,lR,jO⟩:∃ gs ds,a.eval g=.func (.func f) gs ds/\LRel ρ U.n first.toList gs.toList/\LRel ρ U.n cap.toList ds.toList:=by
    cases pI:a.eval g with
    |func vU gs ds =>
     rw[pI] at gH;cases gH with
     |func _ _ _ _ _ k1 k2 k3 k4=>exact⟨gs,ds,rfl,LRel.of_array k1 k3,LRel.of_array k2 k4⟩
    |_=>rw[pI] at gH;cases gH
   have hY:Ke P U.n (Ck (vwp S va (some U.n)) (vwp S vb (some U.n)) ps.toList env r U.n):=L_ ha hb ps.toList env r gf ec (by rw[j9]) U.n;have l6:=gX U.n _ hY _ _ _ (h r) ρ1 w1 (gs++#[.func (.yield (w1.heap.size-1)) #[] #[]]++ds) jx (by
    have k1:=ga.lrel lR;have k2:=ga.lrel jO;have k3:LRel ρ1 (U.push (.obj (.lp env r .ready none) true)).n [.func (.yield U.n) #[] #[]] [.func (.yield (w1.heap.size-1)) #[] #[]] :=
     LRel.cons (.yield _ _ (by simp) (λp hp=>(ff p hp).symm)) (LRel.nil _ _)
    have:=(k1.append k3).append k2;simpa using this)
   refine⟨w1.heap.size-1,mark,w1,{target:=.fn (.func f) ds,args:=gs++#[.func (.yield (w1.heap.size-1)) #[] #[]]},w1,f,gs++#[.func (.yield (w1.heap.size-1)) #[] #[]]++ds,w1,?_,?_,λ_ _=>Aw _ _,?_,(λhh=>by rw[RV] at hh;cases hh),?_⟩
   .rw[Oa];exact he
   .simp[resolve,pI,Deferred.ofValue];rfl
   .simp only[invoke];exact Yl iT _ _
   .refine (Ad l6).mono λe w3 ⟨c,tY,v,ρ3,σ3,k1,k2,k3,k4⟩=>?_;subst tY;unfold Om at k1;split at k1
    .rename_i af r' st pend nK;obtain⟨bg,k1⟩:=k1;obtain⟨p3,sq,iU,su⟩:=Mi k3 nK;have aQ:p3.blk=w1.heap.size-1:=ff p3 (k4.pl U.n (by simp) p3 sq);obtain⟨q1,q2⟩:=S5 k3 sq nK .exhausted pend;rw[aQ] at iU q1 q2;obtain⟨q3,q4⟩:=q1.kill U.n;have gd:(σ3.upd U.n (.obj (.lp af r' .exhausted pend) true)).kill U.n=σ3.kill U.n:=by
      apply Heap.ext'
      .intro j;by_cases hj:j=U.n
       .subst hj;rw[Heap.q0g,Heap.q0g]
       .rw[Heap.q0d _ hj,Heap.q0d _ hj,Heap.q0b _ _ hj]
      .rfl
     rw[gd] at q3 q4;have lf:=ga.trans (k4.trans (q2.trans q4));have cF:=tX.ext jx (k4.trans (q2.trans q4));refine⟨pend,_,by simp[Instr.endLoop,Xy iU,QL iU (λ_ _ _ e=>by cases e),bg];rfl,?_⟩;have eY:∀ K:Env->Heap->Prop,K env (σ3.kill U.n)->BN B (List.length env) ρ U w K {a with defers:=mark++a.defers} (HO w3 (w1.heap.size-1) (.loop {r' with state:=.exhausted,pending:=pend})):=λK hK =>
      ⟨env,_,_,hK,rfl,q3,lf.lrel hL,cF,lf⟩
     cases pend with
     |none=>exact hQ _ _ _ (eY _ k1)
     |some c =>
      cases c with
      |ret=>exact wpIn_ret (hQ _ _ _ (eY _ k1))
      |exit id=>exact wpIn_exit (hQ _ _ _ (eY _ k1))
      |_=>exact k1.elim
    .exact k1.elim
  .exact h.elim
 .exact h.elim
end
end Go.V
namespace Go.V
open Go
theorem Y9 {ev gg:Operand->Value}(x:Option Operand) (d:Nat) (h:∀ y∈x.toList,ev y=gg y):Z_ ev x d=Z_ gg x d:=by
 cases x with
 |none=>rfl
 |some y=>simp only[Z_];rw[h y (by simp)]
theorem Ea {o:XOp}{ev gg:Operand->Value}{U:Heap}(h:∀ x∈o.opds,ev x=gg x):Zc o ev U=Zc o gg U:=by cases o<;>simp only[XOp.opds,zo,List.not_mem_nil,or_false,forall_eq_or_imp,forall_eq] at h<;>simp only[Zc]<;>(try simp only[h])
theorem DY {o:VOp}{ev gg:Operand->Value}{U:Heap}(h:∀ x∈o.opds,ev x=gg x):Q6 o ev U=Q6 o gg U:=by
 cases o
 case build z ps =>
  have:(ps.map λp=>(p.1,p.2.1,ev p.2.2))=ps.map λp=>(p.1,p.2.1,gg p.2.2):=x9 λp hp=>by rw[h p.2.2 (zI.2 ⟨p,hp,rfl⟩)]
  simp only[Q6,this]
 case buildSlice e z n ps =>
  have:(ps.map λp=>(p.1*e.sz,e.sz,ev p.2))=ps.map λp=>(p.1*e.sz,e.sz,gg p.2):=x9 λp hp=>by rw[h p.2 (zI.2 ⟨p,hp,rfl⟩)]
  simp only[Q6,this]
 case makeFunc fn a b =>
  have h1:a.map ev=a.map gg:=x9 λx hx=>h x (xY _ hx);have h2:b.map ev=b.map gg:=x9 λx hx=>h x (xW _ hx);simp only[Q6,h1,h2]
 case slice size x lo hi mx =>
  have h1:=Y9 lo 0 (λy hy=>h y (by simp[VOp.opds] at *;exact .inr (.inl hy)));have h2:∀ n,Z_ ev hi n=Z_ gg hi n:=λn=>Y9 hi n (λy hy=>h y (by simp[VOp.opds] at *;exact .inr (.inr (.inl hy))));have h3:=Y9 mx 0 (λy hy=>h y (by simp[VOp.opds] at *;exact .inr (.inr (.inr hy))));have h4:=h x (by simp[VOp.opds]);simp only[Q6,h4];cases gg x<;>simp only[h1,h2,h3]
 case sliceStr x lo hi =>
  have h1:=Y9 lo 0 (λy hy=>h y (by simp[VOp.opds] at *;exact .inr (.inl hy)));have h2:∀ n,Z_ ev hi n=Z_ gg hi n:=λn=>Y9 hi n (λy hy=>h y (by simp[VOp.opds] at *;exact .inr (.inr hy)));have h4:=h x (by simp[VOp.opds]);simp only[Q6,h4];cases gg x<;>simp only[h1,h2]
 case ext o=>exact Ea h
 all_goals
  simp only[VOp.opds,zo,List.not_mem_nil,or_false,forall_eq_or_imp,forall_eq] at h;simp only[Q6];try simp only[h]
theorem Su {S:VSpecs}{o:VOp}{env af:Env}{U:Heap}{K:Value->Heap->Prop}(h:∀ x∈o.opds,Q3 env x=Q3 af x):vop S o env U K=vop S o af U K:=by
 cases o
 case callF f bT =>
  have:bT.map (Q3 env)=bT.map (Q3 af):=x9 h;simp only[vop,this]
 case callV f bT =>
  have h1:Q3 env f=Q3 af f:=h f (by simp[VOp.opds]);have h2:bT.map (Q3 env)=bT.map (Q3 af):=x9 λx hx=>h x (by simp[VOp.opds,hx]);simp only[vop,h1,h2]
 case ext o =>
  by_cases hx:∃ x,o=.nextMap x
  .obtain⟨x,rfl⟩:=hx;have h1:Q3 env x=Q3 af x:=h x (by simp[VOp.opds,XOp.opds]);simp only[vop,h1]
  .have e1:=DY (U:=U) h;cases o<;>first|exact absurd ⟨_,rfl⟩ hx|(simp only[vop];rw[e1])
 all_goals
  have e1:=DY (U:=U) h;simp only[vop];rw[e1]
theorem Heap.Le.refl (U:Heap):U.Le U:=⟨zf _,λ_ _ h=>h⟩
theorem Heap.Le.trans {U U' aE:Heap}(h:U.Le U') (k:U'.Le aE):U.Le aE:=⟨zX h.1 k.1,λi b hb=>k.2 i b (h.2 i b hb)⟩
theorem Z1h {U U':Heap}(h:U.Le U') {esz:Nat}{v:Value}{xs:List Value}(hx:U.sl esz v=some xs):U'.sl esz v=some xs:=by
 unfold Heap.sl at hx |-;split at hx
 .exact hx
 .rename_i i o n c;split at hx
  .rename_i cs e wr t hb;simp only[h.2 i _ hb];exact hx
  .cases hx
 .cases hx
theorem Rf {U U':Heap}(h:U.Le U') {m:Nat}{x:List Jx×Nat×Bool}(hx:U.mapAt m=some x):U'.mapAt m=some x:=by
 unfold Heap.mapAt at hx |-;split at hx
 .rename_i es clock wr hb;simp only[h.2 m _ hb];exact hx
 .cases hx
theorem Ay {U U':Heap}(h:U.Le U') {kd:Nat}{a b:Value}{r:Bool}(hx:Jb kd a b U=some r):Jb kd a b U'=some r:=by
 unfold Jb at hx |-
 split at hx<;>first
  |exact hx
  |(cases hx;done)
  |skip
 rename_i i o j q;split at hx
 .rename_i hc;obtain⟨h1,h2,h3⟩:=hc;obtain⟨b,hb⟩:=Option.isSome_iff_exists.1 h3;rw[z8 ⟨h1,h2,by rw[h.2 _ _ hb];rfl⟩];exact hx
 .cases hx
theorem SG {neg:Bool}{s:List MK}{x y:Operand}{ev:Operand->Value}{U U' σ1:Heap}{v:Value}(h:Zc (.eqAgg neg s x y) ev U=some (v,σ1)):Zc (.eqAgg neg s x y) ev U'=some (v,U'):=by
 simp only[Zc] at h |-;split at h
 .split at h
  .rename_i hc;rw[z8 hc];simp at h;obtain⟨rfl,_⟩:=h;rfl
  .cases h
 .cases h
theorem F2 {o:XOp}{ev:Operand->Value}{U U' σ1:Heap}{v:Value}(hk:(VOp.ext o).kind≠2) (h:Zc o ev U=some (v,σ1)) (hl:U.Le U'):Zc o ev U'=some (v,U'):=by
 cases o<;>simp only[VOp.kind,VOp.quiet,XOp.quiet] at hk<;>try (exact absurd rfl hk)
 case eqAgg neg s x y=>exact SG h
 case eqNil kd neg x y =>
  simp only[Zc] at h |-;split at h
  .rename_i r hr;rw[Ay hl hr];simp at h;obtain⟨rfl,_⟩:=h;rfl
  .cases h
 case lookup mk z ok x i =>
  simp only[Zc] at h |-;split at h
  .rename_i bU;rw[z8 bU];split at h
   .simp at h;obtain⟨rfl,_⟩:=h;rfl
   .rename_i m vV;split at h
    .rename_i es clock wr hm;simp only[Rf hl hm];split at h
     .rename_i ae;rw[z8 ae];split at h<;>(rename_i hf;simp at h;obtain⟨rfl,_⟩:=h;rfl)
     .cases h
    .cases h
   .cases h
  .cases h
 case lenMap x =>
  simp only[Zc] at h |-;split at h
  .simp at h;obtain⟨rfl,_⟩:=h;rfl
  .split at h
   .rename_i es clock wr hm;simp only[Rf hl hm];simp at h;obtain⟨rfl,_⟩:=h;rfl
   .cases h
  .cases h
 case entry x =>
  simp only[Zc] at h |-;split at h
  .rename_i i hx;split at h
   .rename_i m since seen last wr hb;simp only[hl.2 i _ hb];split at h
    .rename_i es clock kX b hm dY;simp only[Rf hl hm,dY];split at h
     .rename_i cg;rw[z8 cg];split at h
      .rename_i e hf;split at h
       .rename_i hp;rw[z8 hp];simp at h;obtain⟨rfl,_⟩:=h;rfl
       .cases h
      .cases h
     .cases h
    .cases h
   .cases h
  .cases h
 case toUnsafe x =>
  simp only[Zc] at h |-;split at h
  .simp at h;obtain⟨rfl,_⟩:=h;rfl
  .rename_i i o hx;split at h
   .rename_i c e wr t hb;simp only[hl.2 i _ hb];split at h
    .rename_i hc;rw[z8 hc];simp at h;obtain⟨rfl,_⟩:=h;rfl
    .cases h
   .cases h
  .cases h
 case fromUnsafe u sz x =>
  simp only[Zc] at h |-;split at h
  .simp at h;obtain⟨rfl,_⟩:=h;rfl
  .rename_i i o hx;split at h
   .rename_i c e hb;simp only[hl.2 i _ hb];split at h
    .rename_i hc;rw[z8 hc];simp at h;obtain⟨rfl,_⟩:=h;rfl
    .cases h
   .cases h
  .cases h
 case sliceData x =>
  simp only[Zc] at h |-;split at h
  .simp at h;obtain⟨rfl,_⟩:=h;rfl
  .rename_i i o n cap hx;split at h
   .rename_i hc;obtain⟨h1,h2⟩:=hc;obtain⟨b,hb⟩:=Option.isSome_iff_exists.1 h2;rw[z8 ⟨h1,by rw[hl.2 _ _ hb];rfl⟩];simp at h;obtain⟨rfl,_⟩:=h;rfl
   .cases h
  .cases h
 case bytesStr x =>
  simp only[Zc] at h |-;split at h
  .rename_i a n c hx;split at h
   .rename_i xs bu;simp only[Z1h hl bu];split at h
    .rename_i s hs;simp at h;obtain⟨rfl,_⟩:=h;rfl
    .cases h
   .cases h
  .cases h
theorem PI {o:VOp}{ev:Operand -> Value}{U U' σ1:Heap}{v:Value}(hk:o.kind = 0) (h:Q6 o ev U = some (v, σ1)):Q6 o ev U' = some (v, U'):=by
  cases o
  case ext o =>
    cases o <;> first | (simp [VOp.kind, VOp.quiet, XOp.quiet] at hk; done) | skip
    case eqAgg neg s x y => exact SG h
  case slice size x lo hi mx => cases mx <;> simp [VOp.kind, VOp.quiet] at hk
  case build z ps =>
    simp only [Q6] at h |-;split at h
    . simp at h; obtain ⟨rfl, _⟩:=h; rfl
    . cases h
  all_goals first
    | (simp [VOp.kind, VOp.quiet] at hk; done)
    | skip
  all_goals
    simp only [Q6] at h |-
    (repeat' split at h) <;> first
      | (cases h; done)
      | (rename_i qD; obtain ⟨rfl, rfl, rfl⟩:=qD; simp_all; done)
      | (simp_all; done)
      | (simp_all
         obtain ⟨rfl, _⟩:=h
         first
          | rw [zd (by omega)]
          | rw [z8 (by omega)])
theorem Pr {o:VOp}{ev:Operand->Value}{U U' σ1:Heap}{v:Value}(hk:o.kind≠2) (h:Q6 o ev U=some (v,σ1)) (hl:U.Le U'):Q6 o ev U'=some (v,U'):=by
 cases o
 case ext o=>exact F2 hk h hl
 case load agg size a =>
  simp only[Q6] at h |-;split at h
  .split at h
   .split at h
    .rename_i ae;rw[z8 ae];split at h
     .simp at h;obtain⟨rfl,_⟩:=h;rfl
     .cases h
    .cases h
   .cases h
  .rename_i i o hx;split at h
   .rename_i c e wr t hb;simp only[hl.2 i _ hb];split at h
    .rename_i u hu;simp at h;obtain⟨rfl,_⟩:=h;rfl
    .cases h
   .cases h
  .cases h
 case slice size x lo hi mx =>
  cases mx with
  |some m=>simp[VOp.kind,VOp.quiet] at hk
  |none =>
   simp only[Q6] at h |-;split at h
   .rename_i a n cap hx;split at h
    .rename_i l k ff cu;unfold Wv at h |-;split at h
     .rename_i heq;split at h
      .rename_i hc;rw[z8 hc];simp at h;obtain⟨rfl,_⟩:=h;rfl
      .cases h
     .rename_i i o n' au heq;split at h
      .rename_i c e wr t hb;simp only[hl.2 i _ hb];simp only at h;split at h
       .rename_i hc;rw[z8 hc];simp at h;obtain⟨rfl,_⟩:=h;rfl
       .cases h
      .cases h
     .cases h
    .rename_i hm;cases hm
    .cases h
   .cases h
 all_goals first
  |(exact absurd rfl hk)
  |(exact PI rfl h)
section
variable {P:Program}{S:VSpecs}{B:Nat}
def EL (lv:List VOper) (env:Env) (tr:Nat->Value) (A:Nat->Bool):Nat->Env
 |0=>env
 |i+1=>if A i then X0 (EL lv env tr A i) ((lv[i]?).bind (·.dst)) (tr i) else EL lv env tr A i
theorem Kz (lv:List VOper) (env:Env) (tr:Nat->Value) (A:Nat->Bool):∀ i,List.length (EL lv env tr A i)=List.length env
 |0=>rfl
 |i+1=>by
  simp only[EL];split
  .rw[Zs];exact Kz lv env tr A i
  .exact Kz lv env tr A i
theorem KP (lv:List VOper) (env:Env) {tr tr':Nat->Value}{A B:Nat->Bool}:∀ i,(∀ l,l<i->tr l=tr' l)->(∀ l,l<i->A l=B l)->EL lv env tr A i=EL lv env tr' B i
 |0,_,_=>rfl
 |i+1,h,h'=>by simp only[EL];rw[KP lv env i (λl hl=>h l (by omega)) (λl hl=>h' l (by omega)),h i (by omega),h' i (by omega)]
theorem K7 (env:Env) (d:Option Nat) (v:Value) {x:Nat}(h:d≠some x):(X0 env d v)[x]?=env[x]?:=by
 cases d with
 |none=>rfl
 |some d=>simp only[X0];rw[List.getElem?_set_ne (by rintro rfl;exact h rfl)]
theorem Q7x (lv:List VOper) (env:Env) {tr tr':Nat->Value}{A:Nat->Bool}:∀ i,(∀ l,l<i->A l=true->tr l=tr' l)->EL lv env tr A i=EL lv env tr' A i
 |0,_=>rfl
 |i+1,h=>by
  simp only[EL];rw[Q7x lv env i λl hl hA=>h l (by omega) hA];split
  .rename_i hA;rw[h i (by omega) hA]
  .rfl
theorem G7 (lv:List VOper) (env:Env) (tr:Nat->Value) {A B:Nat->Bool}(x:Nat):∀ i,(∀ l,l<i->(lv[l]?).bind (·.dst)=some x->A l=B l)->(EL lv env tr A i)[x]?=(EL lv env tr B i)[x]?
 |0,_=>rfl
 |i+1,h=>by
  have ih:=G7 lv env tr x i (λl hl hd=>h l (by omega) hd);by_cases hd:(lv[i]?).bind (·.dst)=some x
  .have l7:=h i (by omega) hd;simp only[EL];rw[l7];split
   .rw[hd];simp only[X0,xI];rw[Kz,Kz];rfl
   .exact ih
  .simp only[EL]
   split<;>split<;>first
    |exact ih
    |(rw[K7 _ _ _ hd];exact ih)
    |(rw[K7 _ _ _ hd,K7 _ _ _ hd];exact ih)
theorem Dl (lv:List VOper) (env:Env) (tr:Nat->Value) (j:Nat):∀ i,j<=i->EL lv env tr (λl=>decide (l<j)) i=EL lv env tr (λ_=>true) j
 |0,h=>by
  obtain rfl:j=0:=by omega
  rfl
 |i+1,h=>by
  by_cases hj:j=i+1
  .subst hj;exact KP lv env _ (λ_ _=>rfl) (λl hl=>by simp[hl])
  .simp only[EL];rw[zd (by simp;omega)];exact Dl lv env tr j i (by omega)
def DFact (S:VSpecs) (d:DInfo) (lv:List VOper) (env:Env) (tr:Nat->Value) (hp:Nat->Heap) (u:Nat) (i:Nat):Prop :=
 ∀ v,lv[i]?=some v->∃ b,J3 (EL lv env tr (λ_=>true) i) v.guard=some b /\
  (b=true->v.op.kind=2->vop S v.op (EL lv env tr (λ_=>true) i) (hp (d.rank i)) (λv' U'=>v'=tr i/\U'=hp (d.rank i+1))) /\
  (b=true->v.op.kind=1->∀ r,d.kmin i<=r->r<=d.kmax i->r<=u->∃ U',Q6 v.op (Q3 (EL lv env tr (λ_=>true) i)) (hp r)=some (tr i,U')) /\
  (b=true->v.op.kind≠1->v.op.kind≠2->∃ U',Q6 v.op (Q3 (EL lv env tr (λ_=>true) i)) (hp (d.rank i))=some (tr i,U')) /\
  (b=false->tr i=undef/\(v.op.kind=2->hp (d.rank i+1)=hp (d.rank i)))
def Q9o (d:DInfo) (lv:List VOper) (env:Env) (tr:Nat->Value) (i:Nat) (pend:List (Nat×(Heap->Prop))):Prop :=
 ∀ l,l<i->∀ v,lv[l]?=some v->J3 (EL lv env tr (λ_=>true) l) v.guard=some true->v.op.kind=1->d.rank i+1<=d.kmax l->(d.kmax l,JV v.op (Q3 (EL lv env tr (λ_=>true) l)) (tr l))∈pend
inductive Know (S:VSpecs) (d:DInfo) (lv:List VOper) (env:Env) (K:Env->Heap->Prop):List Nat->Nat->(Nat->Value)->(Nat->Heap)->Prop
 |full {nd:List Nat}{tr:Nat->Value}{hp:Nat->Heap}(hF:∀ l,l<lv.length->l∉nd->DFact S d lv env tr hp (d.rank lv.length) l) (hK:K (EL lv env tr (λ_=>true) lv.length) (hp (d.rank lv.length))):Know S d lv env K nd lv.length tr hp
 |part {nd:List Nat}{i:Nat}{tr:Nat->Value}{hp:Nat->Heap}{v:VOper}(hv:lv[i]?=some v) (hk:v.op.kind=2) (hw:J3 (EL lv env tr (λ_=>true) i) v.guard=some true)
   (hF:∀ l,l<i->l∉nd->DFact S d lv env tr hp (d.rank i) l) (lg:∀ j,i<j->j<lv.length->∃ e u,i<=e/\e<j/\lv[e]?=some u/\((∃ x,u.dst=some x/\∀ v,lv[j]?=some v->x∈KQ v)\/(u.op.kind=2/\∀ v,lv[j]?=some v->v.op.kind=2)))
   (R:Value->Heap->Prop) (gI:vop S v.op (EL lv env tr (λ_=>true) i) (hp (d.rank i)) R)
   (I:∀ u U',R u U'->Nat) (T:∀ u U',R u U'->Nat->Value) (H:∀ u U',R u U'->Nat->Heap)
   (hT:∀ u U' h,i<I u U' h/\(∀ l,l<i->T u U' h l=tr l)/\T u U' h i=u/\(∀ r,r<=d.rank i->H u U' h r=hp r)/\H u U' h (d.rank i+1)=U')
   (next:∀ u U' h,Know S d lv env K (i::nd) (I u U' h) (T u U' h) (H u U' h)):Know S d lv env K nd i tr hp
theorem Lb {r:Nat}{U:Heap}:∀ {l:List (Nat×(Heap->Prop))},JP r U l->∀ c∈l,r<=c.1->c.2 U
 |[],_,_,h=>by cases h
 |x::l,h,c,hc=>by
  rcases zo.1 hc with rfl|hc
  .exact h.1
  .exact Lb h.2 c hc
theorem Pa {op:VOp}{ev:Operand->Value}{v:Value}{Z:Heap}(h:JV op ev v Z):∃ U',Q6 op ev Z=some (v,U'):=by
 unfold JV at h;cases hv:Q6 op ev Z with
 |none=>rw[hv] at h;exact h.elim
 |some q =>rw[hv] at h;have h:q.1=v:=h;exact⟨q.2,by rw[<-h]⟩
theorem DFact.congr {d:DInfo}{lv:List VOper}{env:Env}{tr tr':Nat->Value}{hp bA:Nat->Heap}{u u' l:Nat}(h:DFact S d lv env tr hp u l) (ht:∀ k,k<=l->tr' k=tr k) (hh:∀ r,r<=u->bA r=hp r) (hr:d.rank l<=u) (h2:∀ v,lv[l]?=some v->v.op.kind=2->d.rank l+1<=u)
  (hu:∀ v,lv[l]?=some v->J3 (EL lv env tr (λ_=>true) l) v.guard=some true->v.op.kind=1->∀ r,u<r->r<=u'->r<=d.kmax l->∃ U',Q6 v.op (Q3 (EL lv env tr (λ_=>true) l)) (bA r)=some (tr l,U')):DFact S d lv env tr' bA u' l:=by
 intro v hv;obtain⟨b,f1,f2,f3,f4,f5⟩:=h v hv;have e:=KP lv env (tr:=tr') (tr':=tr) (A:=λ_=>true) (B:=λ_=>true) l (λk hk=>ht k (by omega)) (λ_ _=>rfl);rw[e,ht l (zf _),hh _ hr];refine⟨b,f1,λhb hk=>?_,λhb hk r r1 r2 r3=>?_,f4,λhb=>⟨(f5 hb).1,λhk=>?_⟩⟩
 .rw[hh _ (h2 v hv hk)];exact f2 hb hk
 .rcases zn u r with ah|bn
  .subst hb;exact hu v hv f1 hk r ah r3 r2
  .rw[hh r bn];exact f3 hb hk r r1 r2 bn
 .rw[hh _ (h2 v hv hk)];exact(f5 hb).2 hk
theorem Tz:∀ (d:DInfo) (rest:List VOper) (i:Nat) (xs:List Nat),waits xs (d.opers rest i)=true->∀ (k:Nat) (v:VOper),rest[k]?=some v->v.op.kind=2\/(∃ x∈xs,x∈KQ v)\/∃ (e:Nat) (u:VOper) (x:Nat),e<k/\rest[e]?=some u/\u.dst=some x/\x∈KQ v
 |d,[],i,xs,_,k,v,hv=>by simp at hv
 |d,o::rest,i,xs,h,k,v,hv=>by
  simp only[DInfo.opers,waits,z7,zC,xF,zT] at h;obtain⟨h1,h2⟩:=h;cases k with
  |zero =>
   obtain rfl:o=v:=by simpa using hv
   rcases h1 with h1|⟨x,hx,bu⟩
   .exact .inl h1
   refine .inr (.inl ⟨x,by simpa using bu,?_⟩);simp only[KQ,zQ] at hx |-;rcases hx with hx|hx
   .exact .inl (.inr hx)
   .exact .inr hx
  |succ k =>
   rcases Tz d rest (i+1) _ h2 k v (by simpa using hv) with h3|⟨y,hy,sw⟩|⟨e,u,y,he,hu,hd,hn⟩
   .exact .inl h3
   .rcases zQ.1 hy with hy|hy
    .exact .inr (.inr ⟨0,o,y,by omega,rfl,by simpa using hy,sw⟩)
    .exact .inr (.inl ⟨y,hy,sw⟩)
   .exact .inr (.inr ⟨e+1,u,y,by omega,by simpa using hu,hd,hn⟩)
theorem Sg (d:DInfo) {i j:Nat}(h:i<=j):d.rank i<=d.rank j:=by
 induction j with
 |zero =>
  obtain rfl:i=0:=by omega
  exact zf _
 |succ j ih =>
  by_cases cq:i=j+1
  .subst cq;exact zf _
  .have:=ih (by omega);simp only[DInfo.rank];split<;>omega
theorem Q98 (d:DInfo) (lv:List VOper) (jC:∀ i v,lv[i]?=some v->d.k i=v.op.kind) (env:Env) (K:Env->Heap->Prop):∀ (rest:List VOper) (i:Nat),i<=lv.length->lv.drop i=rest->∀ (nd:List Nat) (tp:Nat->Value) (hq:Nat->Heap) (pend:List (Nat×(Heap->Prop))),
  (∀ l,l<i->l∉nd->DFact S d lv env tp hq (d.rank i) l)->Q9o d lv env tp i pend ->
  Zp S (d.opers rest i) (EL lv env tp (λ_=>true) i) ((List.range (d.rank i+1)).map hq) (hq (d.rank i)) pend K ->
  ∃ k tr hp,i<=k/\(∀ l,l<i->tr l=tp l)/\(∀ r,r<=d.rank i->hp r=hq r)/\Know S d lv env K nd k tr hp:=by
 intro rest;induction rest with
 |nil =>
  intro i ic hi nd tp hq pend hF hP h;have hl:lv.length<=i:=by simpa using hi
  obtain rfl:i=lv.length:=by omega
  simp only[DInfo.opers,Zp] at h;exact⟨_,tp,hq,zf _,λ_ _=>rfl,λ_ _=>rfl,.full hF h⟩
 |cons v rest ih =>
  intro i ic hi nd tp hq pend hF hP h;have ah:i<lv.length:=by
   rcases zn i lv.length with h'|h'
   .exact h'
   .rw[List.drop_eq_nil_of_le h'] at hi;cases hi
  have hv:lv[i]?=some v:=by have:=congrArg List.head? hi;rw[List.head?_drop] at this;simpa using this
  have ef:lv.drop (i+1)=rest:=by have:=congrArg List.tail hi;simpa using this
  have hk:=jC i v hv;have gf:v.op.kind=2->d.rank (i+1)=d.rank i+1:=λe=>by simp only[DInfo.rank,hk,e,zB]
  have jy:v.op.kind≠2->d.rank (i+1)=d.rank i:=λe=>by simp only[DInfo.rank,hk,e,if_false]
  have dH:∀ l,l<i->d.rank l<=d.rank i/\∀ w,lv[l]?=some w->w.op.kind=2->d.rank l+1<=d.rank i:=λl hl=>by have h1:=Sg d (show l+1<=i by omega);refine⟨by simp only[DInfo.rank] at h1;split at h1<;>omega,λw hw h2=>?_⟩;simp only[DInfo.rank,jC l w hw,h2,zB] at h1;exact h1
  simp only[DInfo.opers,Zp] at h;have hlen:((List.range (d.rank i+1)).map hq).length=d.rank i+1:=by simp
  cases hw:J3 (EL lv env tp (λ_=>true) i) v.guard with
  |none=>rw[hw] at h;exact h.elim
  |some b =>
   rw[hw] at h;obtain⟨ht,hf⟩:=h
   have go:∀ (jD:List Nat) (u:Value) (U':Heap) (bZ:List (Nat×(Heap->Prop))),(∀ l,l∈nd->l∈jD) ->
     Zp S (d.opers rest (i+1)) (X0 (EL lv env tp (λ_=>true) i) v.dst u) (if v.op.kind=2 then (List.range (d.rank i+1)).map hq++[U'] else (List.range (d.rank i+1)).map hq) (if v.op.kind=2 then U' else hq (d.rank i)) bZ K ->
     (v.op.kind=2->JP (d.rank i+1) U' pend)->(∀ c∈pend,c∈bZ) ->
     (b=true->v.op.kind=1->d.rank i+1<=d.kmax i->(d.kmax i,JV v.op (Q3 (EL lv env tp (λ_=>true) i)) u)∈bZ) ->
     (i∉jD->∀ tr hp,(∀ l,l<i->tr l=tp l)->tr i=u->(∀ r,r<=d.rank i->hp r=hq r)->(v.op.kind=2->hp (d.rank i+1)=U')->DFact S d lv env tr hp (d.rank (i+1)) i) ->
     ∃ k tr hp,i<k/\(∀ l,l<i->tr l=tp l)/\tr i=u/\(∀ r,r<=d.rank i->hp r=hq r)/\(v.op.kind=2->hp (d.rank i+1)=U')/\Know S d lv env K jD k tr hp:=by
    intro jD u U' bZ ka h lh gJ jE nX;let iE:Nat->Value:=λl=>if l=i then u else tp l
    let cS:Nat->Heap:=λr=>if v.op.kind=2/\r=d.rank i+1 then U' else hq r
    have et:∀ l,l<i->iE l=tp l:=λl hl=>by simp[iE];intro e;omega
    have ei:iE i=u:=by simp[iE]
    have eh:∀ r,r<=d.rank i->cS r=hq r:=λr hr=>by simp only[cS];rw[zd (by omega)]
    have qE:v.op.kind=2->cS (d.rank i+1)=U':=λav=>by simp[cS,av]
    have e1:EL lv env iE (λ_=>true) (i+1)=X0 (EL lv env tp (λ_=>true) i) v.dst u:=by simp only[EL,zB];rw[KP lv env (tr:=iE) (tr':=tp) i et (λ_ _=>rfl),hv,ei];rfl
    have e2:(List.range (d.rank (i+1)+1)).map cS=if v.op.kind=2 then (List.range (d.rank i+1)).map hq++[U'] else (List.range (d.rank i+1)).map hq:=by
     simp only[DInfo.rank,hk];split
     .rename_i av;rw[List.range_succ,xQ];congr 1
      .exact x9 λr hr=>eh r (by have:=zF.1 hr;omega)
      .simp[cS,av]
     .rename_i av;exact x9 λr hr=>by simp[cS,av]
    have e3:cS (d.rank (i+1))=if v.op.kind=2 then U' else hq (d.rank i):=by simp only[DInfo.rank,hk];split<;>rename_i av<;>simp[cS,av]
    have tZ:∀ l,l<i+1->l∉jD->DFact S d lv env iE cS (d.rank (i+1)) l:=λl hl gK=>by
     by_cases iV:l=i
     .subst iV;exact nX gK iE cS et ei eh qE
     .have iV:l<i:=by omega
      refine (hF l iV λh=>gK (ka l h)).congr (λk hk=>et k (by omega)) eh (dH l iV).1 (dH l iV).2 λw dw l8 bw r r1 r2 r3=>?_;by_cases av:v.op.kind=2
      .rw[gf av] at r2;obtain rfl:r=d.rank i+1:=by omega
       rw[qE av];exact Pa (Lb (lh av) _ (hP l iV w dw l8 bw (by omega)) (by simpa using r3))
      .rw[jy av] at r2;omega
    have t_:Q9o d lv env iE (i+1) bZ:=λl hl w dw l8 bw pG=>by
     by_cases iV:l=i
     .subst iV;rw[hv] at dw;obtain rfl:=osj dw;have e:=KP lv env (tr:=iE) (tr':=tp) (A:=λ_=>true) (B:=λ_=>true) l et (λ_ _=>rfl);rw[e] at l8 |-;rw[hw] at l8;obtain rfl:b=true:=by simpa using l8
      rw[ei];exact jE rfl bw (by rw[jy (by omega)] at pG;exact pG)
     .have iV:l<i:=by omega
      have e:=KP lv env (tr:=iE) (tr':=tp) (A:=λ_=>true) (B:=λ_=>true) l (λk hk=>et k (by omega)) (λ_ _=>rfl);rw[e] at l8 |-;rw[et l iV];have hle:d.rank i<=d.rank (i+1):=by simp only[DInfo.rank];split<;>omega
      exact gJ _ (hP l iV w dw l8 bw (by omega))
    obtain⟨k,tr,hp,k0,k1,k2,k3⟩:=ih (i+1) (by omega) ef jD iE cS bZ tZ t_ (by rw[e1,e2,e3];exact h);have hle:d.rank i<=d.rank (i+1):=by simp only[DInfo.rank];split<;>omega
    exact⟨k,tr,hp,by omega,λl hl=>by rw[k1 l (by omega),et l hl],by rw[k1 i (by omega),ei],λr hr=>by rw[k2 r (by omega),eh r hr],λav=>by rw[k2 _ (by rw[gf av];exact zf _),qE av],k3⟩
   have weak:∀ {jD:List Nat}{u:Value}{U':Heap},(∃ k tr hp,i<k/\(∀ l,l<i->tr l=tp l)/\tr i=u/\(∀ r,r<=d.rank i->hp r=hq r)/\(v.op.kind=2->hp (d.rank i+1)=U')/\Know S d lv env K jD k tr hp)->∃ k tr hp,i<=k/\(∀ l,l<i->tr l=tp l)/\(∀ r,r<=d.rank i->hp r=hq r)/\Know S d lv env K jD k tr hp:=by rintro jD u U' ⟨k,tr,hp,h0,h1,_,h2,_,h3⟩;exact⟨k,tr,hp,by omega,h1,h2,h3⟩
   have fact:∀ {u:Value}{U':Heap},(b=true->v.op.kind=1->∀ r,d.kmin i<=r->r<=d.rank i->JV v.op (Q3 (EL lv env tp (λ_=>true) i)) u (hq r))->(b=true->v.op.kind≠1->v.op.kind≠2->∃ aE,Q6 v.op (Q3 (EL lv env tp (λ_=>true) i)) (hq (d.rank i))=some (u,aE))->(b=false->u=undef/\(v.op.kind=2->U'=hq (d.rank i)))->(b=true->v.op.kind=2->vop S v.op (EL lv env tp (λ_=>true) i) (hq (d.rank i)) (λv' aE=>v'=u/\aE=U')) ->
     ∀ tr hp,(∀ l,l<i->tr l=tp l)->tr i=u->(∀ r,r<=d.rank i->hp r=hq r)->(v.op.kind=2->hp (d.rank i+1)=U')->DFact S d lv env tr hp (d.rank (i+1)) i:=by
    intro u U' g1 g2 g3 k5 tr hp k1 k2 k3 k4 v' gS;rw[hv] at gS;obtain rfl:=osj gS;have e:=KP lv env (tr:=tr) (tr':=tp) (A:=λ_=>true) (B:=λ_=>true) i k1 (λ_ _=>rfl);rw[e,k2,k3 _ (zf _)];refine⟨b,hw,λhb av=>by rw[k4 av];exact k5 hb av,λhb bw r r1 r2 r3=>?_,g2,λhb=>⟨(g3 hb).1,λav=>by rw[k4 av];exact(g3 hb).2 av⟩⟩;rw[jy (by omega)] at r3;rw[k3 r r3];exact Pa (g1 hb bw r r1 r3)
   cases b with
   |false =>
    have hf:=hf rfl;by_cases av:v.op.kind=2
    .rw[z8 av] at hf;obtain⟨j_,hf⟩:=hf;exact weak (go nd undef (hq (d.rank i)) pend (λ_ h=>h) (by rw[z8 av,ite_self];exact hf) (λ_=>by rw[hlen] at j_;exact j_) (λ_ h=>h) (λh=>by cases h) (λ_=>fact (λh=>by cases h) (λh=>by cases h) (λ_=>⟨rfl,λ_=>rfl⟩) (λh=>by cases h)))
    .rw[zd av] at hf;exact weak (go nd undef (hq (d.rank i)) pend (λ_ h=>h) (by rw[zd av,ite_self];exact hf) (λh=>absurd h av) (λ_ h=>h) (λh=>by cases h) (λ_=>fact (λh=>by cases h) (λh=>by cases h) (λ_=>⟨rfl,λ_=>rfl⟩) (λh=>by cases h)))
   |true =>
    have ht:=ht rfl;by_cases av:v.op.kind=2
    .rw[z8 av] at ht;rw[hlen] at ht;rcases ht with⟨u,U',h1,h2,h3⟩|⟨ie,gI⟩
     .exact weak (go nd u U' pend (λ_ h=>h) (by rw[z8 av,z8 av];exact h3) (λ_=>h2) (λ_ h=>h) (λ_ hk=>by omega) (λ_=>fact (λ_ hk=>by omega) (λ_ _ hk=>absurd av hk) (λh=>by cases h) (λ_ _=>h1)))
     .have nx:∀ u U',(JP (d.rank i+1) U' pend/\Zp S (d.opers rest (i+1)) (X0 (EL lv env tp (λ_=>true) i) v.dst u) ((List.range (d.rank i+1)).map hq++[U']) U' pend K) ->
        ∃ k tr hp,i<k/\(∀ l,l<i->tr l=tp l)/\tr i=u/\(∀ r,r<=d.rank i->hp r=hq r)/\(v.op.kind=2->hp (d.rank i+1)=U')/\Know S d lv env K (i::nd) k tr hp:=λu U' ⟨h2,h3⟩ =>
       go (i::nd) u U' pend (λ_ h=>zi _ h) (by rw[z8 av,z8 av];exact h3) (λ_=>h2) (λ_ h=>h) (λ_ hk=>by omega) (λh=>absurd zq h)
      refine⟨i,tp,hq,zf _,λ_ _=>rfl,λ_ _=>rfl,.part hv av hw hF (λj hj aP=>?_) _ gI (λu U' h=>(nx u U' h).choose) (λu U' h=>(nx u U' h).choose_spec.choose) (λu U' h=>(nx u U' h).choose_spec.choose_spec.choose) (λu U' h=>?_) (λu U' h=>?_)⟩
      .obtain⟨n,hn⟩:∃ n,j=i+1+n:=⟨j-(i+1),by omega⟩;subst hn;have ua:∀ k w,lv[i+1+k]?=some w->rest[k]?=some w:=λk w dw=>by
        rw[<-ef,zz];exact dw
       have qF:∀ k w,rest[k]?=some w->lv[i+1+k]?=some w:=λk w dw=>by rw[<-ef,zz] at dw;exact dw
       have pJ:=z6 aP;rcases Tz d rest (i+1) _ ie n _ (ua n _ pJ) with nY|⟨x,hx,ke⟩|⟨e,u,x,he,hu,hd,ke⟩
       .exact⟨i,v,zf _,by omega,hv,.inr ⟨av,λw dw=>by rw[pJ] at dw;obtain rfl:=osj dw;exact nY⟩⟩
       .exact⟨i,v,zf _,by omega,hv,.inl ⟨x,by simpa using hx,λw dw=>by rw[pJ] at dw;obtain rfl:=osj dw;exact ke⟩⟩
       .exact⟨i+1+e,u,by omega,by omega,qF e u hu,.inl ⟨x,hd,λw dw=>by rw[pJ] at dw;obtain rfl:=osj dw;exact ke⟩⟩
      .obtain⟨q1,q2,q3,q4,q5,_⟩:=(nx u U' h).choose_spec.choose_spec.choose_spec;exact⟨q1,q2,q3,q4,q5 av⟩
      .exact(nx u U' h).choose_spec.choose_spec.choose_spec.2.2.2.2.2
    .rw[zd av] at ht;by_cases bw:v.op.kind=1
     .rw[z8 bw] at ht;cases d_:Q6 v.op (Q3 (EL lv env tp (λ_=>true) i)) (hq (d.rank i)) with
      |none=>rw[d_] at ht;exact ht.elim
      |some p =>
       rw[d_] at ht;obtain⟨g1,g2⟩:=ht;refine weak (go nd p.1 (hq (d.rank i)) _ (λ_ h=>h) (by rw[zd av,ite_self];exact g2) (λh=>absurd h av) (λc hc=>?_) (λ_ _ hr=>?_) (λ_=>fact (λ_ _ r ub uc=>?_) (λ_ hk=>absurd bw hk) (λh=>by cases h) (λ_ hk=>absurd hk av)))
       .split
        .exact zi _ hc
        .exact hc
       .rw[z8 (by rw[hlen];exact hr)];simp
       .refine g1 _ ?_;rw[xn];refine⟨r-d.kmin i,?_⟩;rw[zz,zU,List.getElem?_range (by omega)];simp;congr 1;omega
     .rw[zd bw] at ht;cases d_:Q6 v.op (Q3 (EL lv env tp (λ_=>true) i)) (hq (d.rank i)) with
      |none=>rw[d_] at ht;exact ht.elim
      |some p =>rw[d_] at ht;exact weak (go nd p.1 (hq (d.rank i)) pend (λ_ h=>h) (by rw[zd av,ite_self];exact ht) (λh=>absurd h av) (λ_ h=>h) (λ_ hk=>absurd hk bw) (λ_=>fact (λ_ hk=>absurd hk bw) (λ_ _ _=>⟨p.2,d_⟩) (λh=>by cases h) (λ_ hk=>absurd hk av)))
structure DOk (d:DInfo) (n:Nat):Prop where
 edge:∀ j,j<n->∀ e∈d.ed.getD j [],e<j
 path:∀ j,j<n->∀ i,i<j->d.lt i j=true->∃ e∈d.ed.getD j [],e=i\/(i<e/\d.lt i e=true)
 free:∀ j,j<n->∀ i,i<j->d.lt i j=false->d.touch i j=false/\¬(d.k i=2/\d.k j=2)
 kmin:∀ j,j<n->d.k j=1->(d.kmin j<=d.rank j/\d.rank j<=d.kmax j)/\d.kmax j<=d.rank n/\∀ l,l<n->d.k l=2->((d.lt l j=true<->d.rank l<d.kmin j)/\(d.lt j l=true<->d.kmax j<=d.rank l))
theorem DOk.of {d:DInfo}(h:d.ok=true):DOk d d.ks.length:=by
 have h0:∀ j,j<d.ks.length->d.okE j=true/\d.okP j=true/\d.okK j=true:=λj hj=>by have:=zg.1 h j (zF.2 hj);simpa [z7] using this
 refine⟨λj hj e he=>?_,λj hj i hi ah=>?_,λj hj i hi ah=>?_,λj hj hk=>?_⟩
 .have:=zg.1 (h0 j hj).1 e he;simpa using this
 .have:=zg.1 (h0 j hj).2.1 i (zF.2 hi);simp only[ah,zB,xF,zC,z7,zk,zT] at this;exact this
 .have:=zg.1 (h0 j hj).2.1 i (zF.2 hi);simp[ah] at this;exact⟨this.1,λhk=>this.2.elim (λh=>h hk.1) (λh=>h hk.2)⟩
 .have:=(h0 j hj).2.2;simp only[DInfo.okK,hk,BEq.rfl,wu,Bool.false_or,z7,zk] at this;refine⟨this.1,this.2.1,λl hl av=>?_⟩;have h1:=zg.1 this.2.2 l (zF.2 hl);simp only[av,BEq.rfl,wu,Bool.false_or,z7,zT] at h1;rw[h1.1,h1.2];simp
theorem Gs (d:DInfo) {i j:Nat}(h:i<j) (hk:d.k i=2):d.rank i<d.rank j:=by have:=Sg d (show i+1<=j from h);simp only[DInfo.rank,hk,zB] at this;omega
theorem Uc (d:DInfo):∀ j r,r<d.rank j->∃ l,l<j/\d.k l=2/\d.rank l=r
 |0,r,h=>by simp[DInfo.rank] at h
 |j+1,r,h=>by
  simp only[DInfo.rank] at h;split at h
  .rename_i hk;rcases zn r (d.rank j) with h'|h'
   .obtain⟨l,h1,h2⟩:=Uc d j r h';exact⟨l,by omega,h2⟩
   .exact⟨j,by omega,hk,by omega⟩
  .obtain⟨l,h1,h2⟩:=Uc d j r h;exact⟨l,by omega,h2⟩
theorem NH {d:DInfo}{n:Nat}(hd:DOk d n) {A:Nat->Bool}(hc:∀ j,j<n->A j=true->∀ e∈d.ed.getD j [],A e=true):∀ j,j<n->A j=true->∀ i,i<j->d.lt i j=true->A i=true:=by
 intro j;induction j using Nat.strongRecOn with
 |ind j ih =>
  intro hj hA i hi ah;obtain⟨e,he,h⟩:=hd.path j hj i hi ah;have nZ:=hd.edge j hj e he;have gY:=hc j hj hA e he;rcases h with rfl|⟨h1,h2⟩
  .exact gY
  .exact ih e nZ (by omega) gY i h1 h2
def cnt (A:Nat->Bool):Nat->Nat
 |0=>0
 |i+1=>cnt A i+if A i then 0 else 1
theorem CC {A:Nat->Bool}:∀ {n},cnt A n=0->∀ i,i<n->A i=true
 |0,_,i,h=>by omega
 |n+1,hc,i,h=>by
  simp only[cnt] at hc;by_cases hi:i=n
  .subst hi;split at hc
   .assumption
   .omega
  .exact CC (n:=n) (by omega) i (by omega)
theorem EV {A B:Nat->Bool}{j:Nat}(hA:A j=false) (hB:B j=true) (h:∀ i,i≠j->A i=B i):∀ n,j<n->cnt A n=cnt B n+1
 |0,hj=>by omega
 |n+1,hj=>by
  simp only[cnt];by_cases aP:j=n
  .subst aP;have:cnt A j=cnt B j:=by
    have key:∀ m,m<=j->cnt A m=cnt B m:=by
     intro m;induction m with
     |zero=>intro _;rfl
     |succ m ih=>intro hm;simp only[cnt];rw[ih (by omega),h m (by omega)]
    exact key j (zf _)
   simp[hA,hB,this]
  .have:=EV hA hB h n (by omega);rw[h n (by omega)];omega
theorem Q45 (o:VOp):o.kind<=2:=by
 unfold VOp.kind;split<;>try omega
 split<;>omega
theorem Q4x {o:VOp}{env:Env}{U:Heap}{p:Value×Heap}{K:Value->Heap->Prop}(hk:o.kind≠2) (h:Q6 o (Q3 env) U=some p) (hK:K p.1 p.2):vop S o env U K:=by
 cases o
 case callF=>exact absurd rfl hk
 case callV=>exact absurd rfl hk
 case ext x =>
  cases x
  case nextMap=>exact absurd rfl hk
  all_goals (simp only[vop];rw[h];exact hK)
 all_goals (simp only[vop];rw[h];exact hK)
theorem Db {o:VOp}{ev:Operand->Value}{U U':Heap}{v:Value}(hk:o.kind≠2) (h:Q6 o ev U=some (v,U')):U'=U:=by have:=Pr hk h (Heap.Le.refl U);rw[h] at this;simp at this;exact this
theorem Tr {env af:Env}{g:Option (Nat×Bool)}(h:∀ x b,g=some (x,b)->env[x]?=af[x]?):J3 env g=J3 af g:=by
 cases g with
 |none=>rfl
 |some p =>obtain⟨x,b⟩:=p;simp only[J3,ze];rw[h x b rfl]
theorem Tq {env af:Env}{x:Operand}(h:∀ t,x=.tmp t->env[t]?=af[t]?):Q3 env x=Q3 af x:=by
 cases x<;>try rfl
 rename_i t;simp only[Q3,ze];rw[h t rfl]
structure DInv (B:Nat) (d:DInfo) (lv:List VOper) (env:Env) (tr:Nat->Value) (hp:Nat->Heap) (ρ0:Plc) (σ0:Heap) (w0:World) (A:Nat->Bool) (a:Act) (w:World):Prop where
 closed:∀ j,j<lv.length->A j=true->∀ e∈d.ed.getD j [],A e=true
 run:∃ m ρ,(∀ l,l<lv.length->d.k l=2->(A l=true<->d.rank l<m))/\m<=d.rank lv.length/\HRel ρ (hp m) w/\LRel ρ (hp m).n (EL lv env tr A lv.length) a.tmps.toList/\Mks B a.defers w/\Ext ρ0 σ0 w0 ρ (hp m) w
structure DLink (P:Program) (ops:Array Oper) (pm:List Nat) (d:DInfo) (lv:List VOper):Prop where
 comp:∀ (p:Nat) (v:VOper),lv[p]?=some v->∃ o,ops[pm.getD p 0]?=some o/\J5 P ops o=some v/\d.k p=v.op.kind
 touch:∀ (i j:Nat) (u v:VOper),lv[i]?=some u->lv[j]?=some v->d.touch i j=false->(∀ x,u.dst=some x->x∉KQ v)/\(∀ x,v.dst=some x->x∉KQ u)
 size:pm.length=lv.length
theorem DLink.of {ops:Array Oper}{vs:List VOper}(h:ops.toList.mapM (J5 P ops)=some vs) {d0:DInfo}{pm:List Nat}(kP:∀ i∈pm,i<vs.length):DLink P ops pm (Lv d0 vs pm) (VG vs pm):=by
 obtain⟨h1,h2⟩:=Wq _ _ _ h;refine⟨λp v hv=>?_,λi j u v hu hv ht=>?_,by simp[VG]⟩
 .simp only[VG,zU,zx] at hv;obtain⟨i,hi,rfl⟩:=hv;have aO:=kP i (zH hi);have kf:i<ops.toList.length:=by omega
  obtain⟨v,hv,hc⟩:=h2 i _ (z6 kf);have hg:vs.getD i default=v:=by simp[ze,hv]
  have hp:pm.getD p 0=i:=by simp[ze,hi]
  refine⟨ops.toList[i],?_,by rw[hg];exact hc,?_⟩
  .rw[hp];simp
  .simp[DInfo.k,Lv,VG,ze,hi]
 .simp only[DInfo.touch,Lv,Q2r,ze,zU,hu,hv,z_,Option.getD_some,Bool.or_eq_false_iff] at ht;refine⟨λx hx hm=>?_,λx hx hm=>?_⟩
  .have:=ht.1;rw[hx] at this;simp at this;exact this hm
  .have:=ht.2;rw[hx] at this;simp at this;exact this hm
theorem CY {v:VOper}{x:Nat}(h:v.dst=some x):x∈KQ v:=by simp[KQ,h]
theorem CE {v:VOper}{x:Nat}(h:Operand.tmp x∈v.op.opds):x∈KQ v:=by refine xY _ (xW _ ?_);exact List.mem_filterMap.2 ⟨_,h,rfl⟩
theorem TA {v:VOper}{x:Nat}{b:Bool}(h:v.guard=some (x,b)):x∈KQ v:=by refine xW _ ?_;simp[h]
theorem P5 (hS:OkSpecs P S) {ro:Option Nat}{n:Nat}{ops:Array Oper}{pm:List Nat}{d:DInfo}{lv:List VOper}(hl:DLink P ops pm d lv) (hd:DOk d lv.length) {env:Env}{tr:Nat->Value}{hp:Nat->Heap}
  {bd j:Nat}(hF:DFact S d lv env tr hp bd j)
  {Q:Exit->Act->World->Prop}{ρ0:Plc}{σ0:Heap}{w0:World}{A:Nat->Bool}{a:Act}{w:World}(lj:∀ m,(∀ l,l<lv.length->d.k l=2->(A l=true<->d.rank l<m))->m<=d.rank lv.length->m<=bd) (hI:DInv B d lv env tr hp ρ0 σ0 w0 A a w)
  (aP:j<lv.length) (eg:A j=false) (ek:∀ e∈d.ed.getD j [],A e=true) {A':Nat->Bool}(aW:∀ i,A' i=if i=j then true else A i) {K:Act->World->Prop}(hK:∀ a' w',DInv B d lv env tr hp ρ0 σ0 w0 A' a' w'->K a' w'):wpOpIn (FF ro) n P ops Q (pm.getD j 0) K a w:=by
 obtain⟨v,hv⟩:∃ v,lv[j]?=some v:=⟨_,z6 aP⟩;obtain⟨o,ho,hc,hk⟩:=hl.comp j v hv;obtain⟨bR,m,ρ,hm,kg,hH,hL,dM,hE⟩:=hI;have dJ:∀ i,i<j->d.lt i j=true->A i=true:=by
  intro i hi ah;obtain⟨e,he,h⟩:=hd.path j aP i hi ah;have nZ:=hd.edge j aP e he;have gY:A e=true:=ek e he;rcases h with rfl|⟨h1,h2⟩
  .exact gY
  .exact NH hd bR e (by omega) gY i h1 h2
 have e_:∀ i,i<lv.length->j<i->d.lt j i=true->A i=false:=by
  intro i hi aM ah;cases hA:A i with
  |false=>rfl
  |true=>rw[NH hd bR i hi hA j aM ah] at eg;cases eg
 have fO:∀ x,x∈KQ v->(EL lv env tr A lv.length)[x]?=(EL lv env tr (λ_=>true) j)[x]?:=by
  intro x hx;rw[<-Dl lv env tr j lv.length (by omega)];refine G7 lv env tr x lv.length λl aR bJ=>?_;cases bW:lv[l]? with
  |none=>rw[bW] at bJ;cases bJ
  |some u =>
   rw[bW] at bJ;rcases Nat.lt_trichotomy l j with h|h|h
   .have ah:d.lt l j=true:=by
     cases ah:d.lt l j with
     |true=>rfl
     |false=>exact absurd hx ((hl.touch l j u v bW hv (hd.free j aP l h ah).1).1 x bJ)
    simp only[h,decide_true];exact dJ l h ah
   .subst h;simp only[wH,decide_false];exact eg
   .have ah:d.lt j l=true:=by
     cases ah:d.lt j l with
     |true=>rfl
     |false=>exact absurd hx ((hl.touch j l v u hv bW (hd.free l aR j h ah).1).2 x bJ)
    have:¬ l<j:=by omega
    simp only[this,decide_false];exact e_ l aR h ah
 obtain⟨b,f1,f2,f3,ud,f4⟩:=hF v hv;have hw:J3 (EL lv env tr A lv.length) v.guard=some b:=by rw[Tr (λx b' hg=>fO x (TA hg))];exact f1
 have ki:∀ x∈v.op.opds,Q3 (EL lv env tr A lv.length) x=Q3 (EL lv env tr (λ_=>true) j) x:=λx hx=>Tq λt ht=>fO t (CE (ht▸hx));obtain⟨dI,bJ,bL⟩:=Gy hc hL hw;have dx:EL lv env tr A' lv.length=X0 (EL lv env tr A lv.length) v.dst (tr j):=by
  apply zV;intro x;by_cases hx:v.dst=some x
  .have h1:(EL lv env tr A' lv.length)[x]?=(EL lv env tr (λl=>decide (l<j+1)) lv.length)[x]?:=by
    refine G7 lv env tr x lv.length λl aR bz=>?_;rw[aW];by_cases ig:l=j
    .subst ig;simp
    .rw[zd ig];cases bW:lv[l]? with
     |none=>rw[bW] at bz;cases bz
     |some u =>
      rw[bW] at bz;have kj:=CY hx;rcases zn l j with h|h
      .have ah:d.lt l j=true:=by
        cases ah:d.lt l j with
        |true=>rfl
        |false=>exact absurd kj ((hl.touch l j u v bW hv (hd.free j aP l h ah).1).1 x bz)
       have:l<j+1:=by omega
       simp only[this,decide_true];exact dJ l h ah
      .have h':j<l:=by omega
       have ah:d.lt j l=true:=by
        cases ah:d.lt j l with
        |true=>rfl
        |false=>exact absurd kj ((hl.touch j l v u hv bW (hd.free l aR j h' ah).1).2 x bz)
       have:¬ l<j+1:=by omega
       simp only[this,decide_false];exact e_ l aR h' ah
   rw[h1,Dl lv env tr (j+1) lv.length (by omega)];simp only[EL,zB,hv,xu,hx,X0];rw[xI,xI];simp only[zB,Kz]
  .rw[K7 _ _ _ hx];refine G7 lv env tr x lv.length λl aR bz=>?_;rw[aW];split
   .rename_i h;subst h;rw[hv] at bz;exact absurd bz hx
   .rfl
 have cG:∀ i,i<lv.length->A' i=true->∀ e∈d.ed.getD i [],A' e=true:=by
  intro i hi hA e he;rw[aW] at hA |-;split
  .rfl
  .by_cases cq:i=j
   .subst cq;exact ek e he
   .rw[zd cq] at hA;exact bR i hi hA e he
 have lk:d.k j=2->d.rank j=m:=by
  intro av;have h1:¬ d.rank j<m:=λh=>by rw[(hm j aP av).2 h] at eg;cases eg
  by_cases h2:d.rank j=m
  .exact h2
  .obtain⟨l,ig,br,dH⟩:=Uc d j m (by omega);have ah:d.lt l j=true:=by
    cases ah:d.lt l j with
    |true=>rfl
    |false=>exact absurd ⟨br,av⟩ (hd.free j aP l ig ah).2
   have:=(hm l (by omega) br).1 (dJ l ig ah);omega
 have ij:d.k j=2->∀ l,l<lv.length->d.k l=2->(A' l=true<->d.rank l<m+1):=by
  intro av l aR br;rw[aW];have fE:=lk av;split
  .rename_i h;subst h;simp;omega
  .rename_i h;rw[hm l aR br];have:d.rank l≠m:=by
    rcases zn l j with h'|h'
    .have:=Gs d h' br;omega
    .have:=Gs d (show j<l by omega) av;omega
   omega
 have l9:d.k j≠2->∀ l,l<lv.length->d.k l=2->(A' l=true<->d.rank l<m):=by intro av l aR br;rw[aW,zd (by rintro rfl;exact av br)];exact hm l aR br
 have kn:d.k j=2->m+1<=d.rank lv.length:=λav=>by have:=Gs d aP av;have:=lk av;omega
 unfold wpOpIn;simp only[ho];cases b with
 |false =>
  rw[dI,zd (by simp)];obtain⟨g1,g2⟩:=f4 rfl;refine⟨λf _=>Aw _ _,hK _ _ ⟨cG,?_⟩⟩;by_cases av:d.k j=2
  .have fE:=lk av;have hh:hp (m+1)=hp m:=by rw[<-fE];exact g2 (hk▸av)
   refine⟨m+1,ρ,ij av,kn av,by rw[hh];exact hH,?_,by rw[X5];exact dM,by rw[hh];exact hE⟩;rw[hh,dx,g1,bJ];exact YR hL Ju o.dst
  .refine⟨m,ρ,l9 av,kg,hH,?_,by rw[X5];exact dM,hE⟩;rw[dx,g1,bJ];exact YR hL Ju o.dst
 |true =>
  rw[dI,z8 rfl];by_cases av:d.k j=2
  .have fE:=lk av;have g1:=f2 rfl (hk▸av);rw[fE] at g1;rw[<-Su ki] at g1;refine VV hS bL hH hL g1 λc w' ⟨u,ρ',U',⟨hu,hσ⟩,eO,gW,b_⟩=>hK _ _ ⟨cG,?_⟩;subst hu;subst hσ;refine⟨m+1,ρ',ij av,kn av,gW,?_,by rw[X5];exact dM.ext hH b_,hE.trans b_⟩;rw[dx,bJ];exact YR (b_.lrel hL) eO o.dst
  .have g2:∃ σ1,Q6 v.op (Q3 (EL lv env tr A lv.length)) (hp m)=some (tr j,σ1):=by
    rw[DY ki];by_cases bw:d.k j=1
    .obtain⟨⟨k1,k4⟩,k3,k2⟩:=hd.kmin j aP bw;refine f3 rfl (hk▸bw) m ?_ ?_ (lj m hm kg)
     .rcases zn m (d.kmin j) with h|h
      .obtain⟨l,aR,br,dH⟩:=Uc d j m (by omega);have ah:=(k2 l (by omega) br).1.2 (by omega);have:=(hm l (by omega) br).1 (dJ l aR ah);omega
      .exact h
     .rcases zn (d.kmax j) m with h|h
      .obtain⟨l,aR,br,dH⟩:=Uc d lv.length (d.kmax j) (by omega);have ah:=(k2 l aR br).2.2 (by omega);have ll:=(hm l aR br).2 (by omega);rcases Nat.lt_trichotomy j l with h'|h'|h'
       .rw[e_ l aR h' ah] at ll;cases ll
       .subst h';omega
       .exfalso;have gf:d.rank l<d.rank j:=Gs d h' br;omega
      .exact h
    .have jA:v.op.kind=0:=by
      have h2:v.op.kind<=2:=Q45 v.op;omega
     obtain⟨σ1,g1⟩:=ud rfl (by omega) (by omega);exact⟨hp m,PI jA g1⟩
   obtain⟨σ1,g2⟩:=g2;have hq:=Db (hk▸av) g2;subst hq;refine VV hS (K:=λv' U'=>v'=tr j/\U'=hp m) bL hH hL (Q4x (hk▸av) g2 ⟨rfl,rfl⟩) λc w' ⟨u,ρ',U',⟨hu,hσ⟩,eO,gW,b_⟩=>hK _ _ ⟨cG,?_⟩;subst hu;subst hσ;refine⟨m,ρ',l9 av,kg,gW,?_,by rw[X5];exact dM.ext hH b_,hE.trans b_⟩;rw[dx,bJ];exact YR (b_.lrel hL) eO o.dst
theorem C7 (hS:OkSpecs P S) {ro:Option Nat}{n:Nat}{ops:Array Oper}{pm:List Nat}{d:DInfo}{lv:List VOper}(hl:DLink P ops pm d lv) (hd:DOk d lv.length) {env:Env}{tr:Nat->Value}{hp:Nat->Heap}
  {j:Nat}{v:VOper}(hv:lv[j]?=some v) (qG:v.op.kind=2) (qH:J3 (EL lv env tr (λ_=>true) j) v.guard=some true) {R:Value->Heap->Prop}(gI:vop S v.op (EL lv env tr (λ_=>true) j) (hp (d.rank j)) R)
  {Q:Exit->Act->World->Prop}{ρ0:Plc}{σ0:Heap}{w0:World}{A:Nat->Bool}{a:Act}{w:World}(hI:DInv B d lv env tr hp ρ0 σ0 w0 A a w) (n6:∀ l,j<=l->l<lv.length->A l=false)
  (aP:j<lv.length) (eg:A j=false) (ek:∀ e∈d.ed.getD j [],A e=true) {A':Nat->Bool}(aW:∀ i,A' i=if i=j then true else A i) {K:Act->World->Prop}
  (hK:∀ u U' a' w',R u U'->(∀ tr' bA,(∀ l,l<j->tr' l=tr l)->tr' j=u->(∀ r,r<=d.rank j->bA r=hp r)->bA (d.rank j+1)=U'->DInv B d lv env tr' bA ρ0 σ0 w0 A' a' w')->K a' w'):wpOpIn (FF ro) n P ops Q (pm.getD j 0) K a w:=by
 obtain⟨o,ho,hc,hk⟩:=hl.comp j v hv;obtain⟨bR,m,ρ,hm,kg,hH,hL,dM,hE⟩:=hI;have dJ:∀ i,i<j->d.lt i j=true->A i=true:=by
  intro i hi ah;obtain⟨e,he,h⟩:=hd.path j aP i hi ah;have nZ:=hd.edge j aP e he;have gY:A e=true:=ek e he;rcases h with rfl|⟨h1,h2⟩
  .exact gY
  .exact NH hd bR e (by omega) gY i h1 h2
 have e_:∀ i,i<lv.length->j<i->d.lt j i=true->A i=false:=by
  intro i hi aM ah;cases hA:A i with
  |false=>rfl
  |true=>rw[NH hd bR i hi hA j aM ah] at eg;cases eg
 have fO:∀ x,x∈KQ v->(EL lv env tr A lv.length)[x]?=(EL lv env tr (λ_=>true) j)[x]?:=by
  intro x hx;rw[<-Dl lv env tr j lv.length (by omega)];refine G7 lv env tr x lv.length λl aR bJ=>?_;cases bW:lv[l]? with
  |none=>rw[bW] at bJ;cases bJ
  |some u =>
   rw[bW] at bJ;rcases Nat.lt_trichotomy l j with h|h|h
   .have ah:d.lt l j=true:=by
     cases ah:d.lt l j with
     |true=>rfl
     |false=>exact absurd hx ((hl.touch l j u v bW hv (hd.free j aP l h ah).1).1 x bJ)
    simp only[h,decide_true];exact dJ l h ah
   .subst h;simp only[wH,decide_false];exact eg
   .have ah:d.lt j l=true:=by
     cases ah:d.lt j l with
     |true=>rfl
     |false=>exact absurd hx ((hl.touch j l v u hv bW (hd.free l aR j h ah).1).2 x bJ)
    have:¬ l<j:=by omega
    simp only[this,decide_false];exact e_ l aR h ah
 have hw:J3 (EL lv env tr A lv.length) v.guard=some true:=by rw[Tr (λx b' hg=>fO x (TA hg))];exact qH
 have ki:∀ x∈v.op.opds,Q3 (EL lv env tr A lv.length) x=Q3 (EL lv env tr (λ_=>true) j) x:=λx hx=>Tq λt ht=>fO t (CE (ht▸hx));obtain⟨dI,bJ,bL⟩:=Gy hc hL hw;have dx:∀ tr:Nat->Value,EL lv env tr A' lv.length=X0 (EL lv env tr A lv.length) v.dst (tr j):=λtr=>by
  apply zV;intro x;by_cases hx:v.dst=some x
  .have h1:(EL lv env tr A' lv.length)[x]?=(EL lv env tr (λl=>decide (l<j+1)) lv.length)[x]?:=by
    refine G7 lv env tr x lv.length λl aR bz=>?_;rw[aW];by_cases ig:l=j
    .subst ig;simp
    .rw[zd ig];cases bW:lv[l]? with
     |none=>rw[bW] at bz;cases bz
     |some u =>
      rw[bW] at bz;have kj:=CY hx;rcases zn l j with h|h
      .have ah:d.lt l j=true:=by
        cases ah:d.lt l j with
        |true=>rfl
        |false=>exact absurd kj ((hl.touch l j u v bW hv (hd.free j aP l h ah).1).1 x bz)
       have:l<j+1:=by omega
       simp only[this,decide_true];exact dJ l h ah
      .have h':j<l:=by omega
       have ah:d.lt j l=true:=by
        cases ah:d.lt j l with
        |true=>rfl
        |false=>exact absurd kj ((hl.touch j l v u hv bW (hd.free l aR j h' ah).1).2 x bz)
       have:¬ l<j+1:=by omega
       simp only[this,decide_false];exact e_ l aR h' ah
   rw[h1,Dl lv env tr (j+1) lv.length (by omega)];simp only[EL,zB,hv,xu,hx,X0];rw[xI,xI];simp only[zB,Kz]
  .rw[K7 _ _ _ hx];refine G7 lv env tr x lv.length λl aR bz=>?_;rw[aW];split
   .rename_i h;subst h;rw[hv] at bz;exact absurd bz hx
   .rfl
 have cG:∀ i,i<lv.length->A' i=true->∀ e∈d.ed.getD i [],A' e=true:=by
  intro i hi hA e he;rw[aW] at hA |-;split
  .rfl
  .by_cases cq:i=j
   .subst cq;exact ek e he
   .rw[zd cq] at hA;exact bR i hi hA e he
 have lk:d.k j=2->d.rank j=m:=by
  intro av;have h1:¬ d.rank j<m:=λh=>by rw[(hm j aP av).2 h] at eg;cases eg
  by_cases h2:d.rank j=m
  .exact h2
  .obtain⟨l,ig,br,dH⟩:=Uc d j m (by omega);have ah:d.lt l j=true:=by
    cases ah:d.lt l j with
    |true=>rfl
    |false=>exact absurd ⟨br,av⟩ (hd.free j aP l ig ah).2
   have:=(hm l (by omega) br).1 (dJ l ig ah);omega
 have ij:d.k j=2->∀ l,l<lv.length->d.k l=2->(A' l=true<->d.rank l<m+1):=by
  intro av l aR br;rw[aW];have fE:=lk av;split
  .rename_i h;subst h;simp;omega
  .rename_i h;rw[hm l aR br];have:d.rank l≠m:=by
    rcases zn l j with h'|h'
    .have:=Gs d h' br;omega
    .have:=Gs d (show j<l by omega) av;omega
   omega
 have l9:d.k j≠2->∀ l,l<lv.length->d.k l=2->(A' l=true<->d.rank l<m):=by intro av l aR br;rw[aW,zd (by rintro rfl;exact av br)];exact hm l aR br
 have kn:d.k j=2->m+1<=d.rank lv.length:=λav=>by have:=Gs d aP av;have:=lk av;omega
 unfold wpOpIn;simp only[ho];rw[dI,z8 rfl];have av:d.k j=2:=hk.trans qG;have fE:=lk av;rw[fE,<-Su ki] at gI;refine VV hS bL hH hL gI λc w' ⟨u,ρ',U',hR,eO,gW,b_⟩=>hK u U' _ _ hR λtr' bA t1 t2 t3 t4=>⟨cG,m+1,ρ',ij av,kn av,?_,?_,?_,?_⟩
 .rw[<-fE,t4];exact gW
 .have e0:EL lv env tr' A lv.length=EL lv env tr A lv.length:=Q7x lv env lv.length λl aR hA=>t1 l (by
   rcases zn l j with h|h
   .exact h
   .rw[n6 l h aR] at hA;cases hA)
  rw[<-fE,t4,dx tr',e0,bJ,t2];exact YR (b_.lrel hL) eO o.dst
 .rw[X5];exact dM.ext hH b_
 .rw[<-fE,t4];exact hE.trans b_
theorem Z4v {ops:Array Oper}{pm:List Nat}{d:DInfo}{lv:List VOper}(_hl:DLink P ops pm d lv) {env:Env}{tr:Nat->Value}{hp:Nat->Heap}{ρ0:Plc}{σ0:Heap}{w0:World}{A:Nat->Bool}{a:Act}{w:World}
  (hI:DInv B d lv env tr hp ρ0 σ0 w0 A a w) (ae:∀ j,j<lv.length->A j=true):BN B (List.length env) ρ0 σ0 w0 (λaf U'=>af=EL lv env tr (λ_=>true) lv.length/\U'=hp (d.rank lv.length)) a w:=by
 obtain⟨bR,m,ρ,hm,kg,hH,hL,dM,hE⟩:=hI;have fP:m=d.rank lv.length:=by
  rcases zn m (d.rank lv.length) with h|h
  .obtain⟨l,h1,h2,h3⟩:=Uc d _ _ h;have:=(hm l h1 h2).1 (ae l h1);omega
  .omega
 subst fP;have e:=KP lv env (tr:=tr) (tr':=tr) (A:=A) (B:=λ_=>true) lv.length (λ_ _=>rfl) (λl hl=>ae l hl);exact⟨_,ρ,_,⟨rfl,rfl⟩,Kz _ _ _ _ _,hH,by rw[<-e];exact hL,dM,hE⟩
def Fm (pm:List Nat) (d:DInfo) (n:Nat):(Nat->Bool)->List Nat->Prop
 |A,[]=>∀ p,p<n->A p=true
 |A,j::rest=>∃ p,p<n/\pm.getD p 0=j/\A p=false/\(∀ e∈d.ed.getD p [],A e=true)/\Fm pm d n (λq=>if q=p then true else A q) rest
theorem Ee (hS:OkSpecs P S) {ro:Option Nat}{n:Nat}{ops:Array Oper}{pm:List Nat}{d:DInfo}{lv:List VOper}(hl:DLink P ops pm d lv) (hd:DOk d lv.length) {env:Env}{K:Env->Heap->Prop}
  {Q:Exit->Act->World->Prop}{ρ0:Plc}{σ0:Heap}{w0:World}{l2:List Nat}(hQ:∀ a w,BN B (List.length env) ρ0 σ0 w0 K a w->wpOpsIn (FF ro) n P ops Q l2 a w) {nd:List Nat}{i:Nat}{tr:Nat->Value}{hp:Nat->Heap}(uf:Know S d lv env K nd i tr hp) :
  ∀ (l:List Nat) (A:Nat->Bool) (a:Act) (w:World),Fm pm d lv.length A l->DInv B d lv env tr hp ρ0 σ0 w0 A a w->(∀ j,i<=j->j<lv.length->A j=false)->(∀ j,j∈nd->j<lv.length->A j=true)->wpOpsIn (FF ro) n P ops Q (l++l2) a w:=by
 induction uf with
 |full hF hK =>
  intro l;induction l with
  |nil =>intro A a w hs hI _ _;obtain⟨af,ρ',U',⟨e1,e2⟩,n1⟩:=Z4v hl hI hs;exact hQ a w ⟨af,ρ',U',by rw[e1,e2];exact hK,n1⟩
  |cons j rest ih =>
   intro A a w hs hI hA hN;obtain⟨p,bA,rfl,ln,he,aZ⟩:=hs;rw[xA,wpOpsIn_cons];refine P5 hS hl hd (hF p bA λh=>?_) (λm _ h=>h) hI bA ln he (λ_=>rfl) λa' w' n7=>ih _ a' w' aZ n7 (λj h1 h2=>by omega) (λj hj dD=>?_)
   .rw[hN p h bA] at ln;cases ln
   .split
    .rfl
    .exact hN j hj dD
 |part hv hk hw hF lg R gI I T H hT next pK =>
  rename_i nd i tr hp v;have aO:i<lv.length:=by
   rcases zn i lv.length with h|h
   .exact h
   .rw[zm h] at hv;cases hv
  intro l;induction l with
  |nil =>intro A a w hs hI hA _;have:=hs i aO;rw[hA i (zf _) aO] at this;cases this
  |cons j rest ih =>
   intro A a w hs hI hA hN;obtain⟨p,bA,rfl,ln,he,aZ⟩:=hs;rw[xA,wpOpsIn_cons];have kN:d.k i=2:=by obtain⟨_,_,_,h⟩:=hl.comp i v hv;exact h.trans hk
   rcases Nat.lt_trichotomy p i with jF|rfl|jF
   .refine P5 hS hl hd (hF p jF λh=>?_) (λm hm _=>?_) hI bA ln he (λ_=>rfl) λa' w' n7=>ih _ a' w' aZ n7 (λj h1 h2=>?_) (λj hj dD=>?_)
    .rw[hN p h bA] at ln;cases ln
    .have h1:¬ d.rank i<m:=λh=>by
      have:=(hm i aO kN).2 h;rw[hA i (zf _) aO] at this;cases this
     omega
    .rw[zd (by omega)];exact hA j h1 h2
    .split
     .rfl
     .exact hN j hj dD
   .refine C7 hS hl hd hv hk hw gI hI hA bA ln he (λ_=>rfl) λu U' a' w' hR n7=>?_;obtain⟨q1,q2,q3,q4,q5⟩:=hT u U' hR;refine pK u U' hR _ _ a' w' aZ (n7 _ _ q2 q3 q4 q5) (λj h1 h2=>?_) (λj hj dD=>?_)
    .rw[zd (by omega)];exact hA j (by omega) h2
    .split
     .rfl
     .rename_i aB;rcases zo.1 hj with h|h
      .exact absurd h aB
      .exact hN j h dD
   .exfalso;obtain⟨e,u,h1,h2,hu,hn⟩:=lg p jF bA;have lh:=z6 bA;have ah:d.lt e p=true:=by
     cases h:d.lt e p with
     |true=>rfl
     |false =>
      rcases hn with⟨x,hx,hn⟩|⟨fL,dT⟩
      .exact absurd (hn _ lh) ((hl.touch e p u _ hu lh (hd.free p bA e h2 h).1).1 x hx)
      .obtain⟨_,_,_,q1⟩:=hl.comp e u hu;obtain⟨_,_,_,q2⟩:=hl.comp p _ lh;exact absurd ⟨q1.trans fL,q2.trans (dT _ lh)⟩ (hd.free p bA e h2 h).2
    have gY:A e=true:=by
     obtain⟨e',sx,h3⟩:=hd.path p bA e h2 ah;have n8:=he e' sx;rcases h3 with rfl|⟨h3,h4⟩
     .exact n8
     .exact NH hd hI.closed e' (by have:=hd.edge p bA e' sx;omega) n8 e h3 h4
    rw[hA e h1 (by omega)] at gY;cases gY
def V2 (ops:Array Oper):Array Bool->List Nat->Prop
 |L,[]=>∀ j,j<ops.size->L.getD j false=true
 |L,j::rest=>j∈Region.ready .any ops L/\V2 ops (L.setIfInBounds j true) rest
theorem KN (L:Array Bool) (j i:Nat) (hj:j<L.size):(L.setIfInBounds j true).getD i false=if i=j then true else L.getD i false:=by
 by_cases h:i=j
 .subst h;simp[hj]
 .simp[h,Array.getElem?_setIfInBounds_ne (Ne.symm h)]
theorem IP {ops:Array Oper}(iW:∀ (j:Nat) (o:Oper),ops[j]?=some o->∀ e∈Bu o,e<j) {L:Array Bool}(hs:L.size=ops.size) (h:Region.ready .any ops L=[]):∀ j,j<ops.size->L.getD j false=true:=by
 intro j;induction j using Nat.strongRecOn with
 |ind j ih =>
  intro hj;cases hA:L.getD j false with
  |true=>rfl
  |false =>
   exfalso;have:j∈Region.ready .any ops L:=by
    refine mem_ready.2 ⟨?_,ops[j],xg hj,λe he hb=>?_⟩
    .have h1:L.getD j true=L[j]:=by simp[hs,hj]
     have h2:L.getD j false=L[j]:=by simp[hs,hj]
     rw[h1,<-h2];exact hA
    .have:=iW j ops[j] (xg hj) e.on (zI.2 ⟨e,zY.2 ⟨by simpa using he,hb⟩,rfl⟩);exact ih _ this (by omega)
   rw[h] at this;cases this
theorem Hh {ops:Array Oper}{L:Array Bool}(hs:L.size=ops.size) {j:Nat}(h:j∈Region.ready .any ops L):j<ops.size/\L.getD j false=false/\∃ o,ops[j]?=some o/\∀ e∈Bu o,L.getD e false=true:=by obtain⟨h1,o,ho,h2⟩:=mem_ready.1 h;have aP:j<ops.size:=(x8.1 ho).1;refine⟨aP,by simp[hs,aP] at h1 |-;exact h1,o,ho,λe he=>?_⟩;obtain⟨x,hx,rfl⟩:=zI.1 he;obtain⟨ug,uh⟩:=zY.1 hx;exact h2 x (by simpa using ug) uh
theorem Q10 {ops:Array Oper}(iW:∀ (j:Nat) (o:Oper),ops[j]?=some o->∀ e∈Bu o,e<j):∀ (fuel t:Nat) (L:Array Bool),L.size=ops.size->cnt (λi=>L.getD i false) ops.size<=fuel ->
  V2 ops L (Region.linearise.go .any ops fuel t L []):=by
 intro fuel;induction fuel with
 |zero =>intro t L hs hc;simp only[Region.linearise.go,List.reverse_nil,V2];exact CC (by omega)
 |succ fuel ih =>
  intro t L hs hc;simp only[Region.linearise.go]
  change V2 ops L (match (Region.ready .any ops L)[t % (Region.ready .any ops L).length]? with
   |some i=>Region.linearise.go .any ops fuel (t / (Region.ready .any ops L).length) (L.setIfInBounds i true) [i]
   |none=>[].reverse)
  cases hi:(Region.ready .any ops L)[t % (Region.ready .any ops L).length]? with
  |none =>
   have iX:Region.ready .any ops L=[]:=by
    cases hr:Region.ready .any ops L with
    |nil=>rfl
    |cons x xs =>rw[hr] at hi;have ah:t % (x::xs).length<(x::xs).length:=wA _ (by simp);simp at hi;simp at ah;omega
   simp only[List.reverse_nil,V2];exact IP iW hs iX
  |some i =>
   simp only[];rw[linearise_go_acc,List.reverse_singleton,List.singleton_append];have lq:=zH hi;obtain⟨aO,n9,_⟩:=Hh hs lq;refine⟨lq,ih _ _ (by simp[hs]) ?_⟩;have iY:i<L.size:=by rw[hs];exact aO
   have:=EV (A:=λi=>L.getD i false) (B:=λk=>(L.setIfInBounds i true).getD k false) (j:=i) n9 (by simp only[KN L i i iY,zB]) (λk hk=>by simp only[KN L i k iY,zd hk]) ops.size aO;omega
theorem Ce {ops:Array Oper}:∀ (l:List Nat) (L:Array Bool),L.size=ops.size->V2 ops L l->l.Nodup/\∀ j,j∈l<->(j<ops.size/\L.getD j false=false):=by
 intro l;induction l with
 |nil=>intro L hs h;exact⟨List.nodup_nil,λj=>⟨λh=>(by cases h),λ⟨h1,h2⟩=>by rw[h j h1] at h2;cases h2⟩⟩
 |cons i l ih =>
  intro L hs h;obtain⟨lq,h'⟩:=h;obtain⟨aO,n9,_⟩:=Hh hs lq;have iY:i<L.size:=by rw[hs];exact aO
  obtain⟨k1,k2⟩:=ih _ (by simp[hs]) h';refine⟨xr.2 ⟨λhm=>?_,k1⟩,λj=>?_⟩
  .have:=((k2 i).1 hm).2;rw[KN L i i iY,z8 rfl] at this;cases this
  .rw[zo,k2 j,KN L i j iY];by_cases aM:j=i
   .subst aM;simp[aO,n9]
   .simp[aM]
structure DBase (ops:Array Oper) (d:DInfo):Prop where
 ed:∀ (j:Nat) (o:Oper),ops[j]?=some o->d.ed.getD j []=Bu o
 edge:∀ j,j<ops.size->∀ e∈d.ed.getD j [],e<j
 path:∀ j,j<ops.size->∀ i,i<j->d.lt i j=true->∃ e∈d.ed.getD j [],e=i\/(i<e/\d.lt i e=true)
 up:∀ i j,d.lt i j=true->i<j
 size:d.ks.length=ops.size
theorem LV {ops:Array Oper}{d:DInfo}(hb:DBase ops d) {A:Nat->Bool}(hc:∀ j,j<ops.size->A j=true->∀ e∈d.ed.getD j [],A e=true):∀ j,j<ops.size->A j=true->∀ i,i<j->d.lt i j=true->A i=true:=by
 intro j;induction j using Nat.strongRecOn with
 |ind j ih =>
  intro hj hA i hi ah;obtain⟨e,he,h⟩:=hb.path j hj i hi ah;have nZ:=hb.edge j hj e he;have gY:=hc j hj hA e he;rcases h with rfl|⟨h1,h2⟩
  .exact gY
  .exact ih e nZ (by omega) gY i h1 h2
theorem Q6z {ops:Array Oper}{d:DInfo}(hb:DBase ops d):∀ (l:List Nat) (L:Array Bool),L.size=ops.size->(∀ j,j<ops.size->L.getD j false=true->∀ e∈d.ed.getD j [],L.getD e false=true)->V2 ops L l ->
  l.Pairwise λj i=>d.lt i j=false:=by
 intro l;induction l with
 |nil=>intro L _ _ _;exact List.Pairwise.nil
 |cons j l ih =>
  intro L hs hc h;obtain⟨lq,h'⟩:=h;obtain⟨aO,n9,o,ho,iW⟩:=Hh hs lq;have iY:j<L.size:=by rw[hs];exact aO
  have cL:∀ k,k<ops.size->(L.setIfInBounds j true).getD k false=true->∀ e∈d.ed.getD k [],(L.setIfInBounds j true).getD e false=true:=by
   intro k hk hA e he;rw[KN L j e iY];split
   .rfl
   .rw[KN L j k iY] at hA;split at hA
    .rename_i ui;subst ui;rw[hb.ed _ o ho] at he;exact iW e he
    .exact hc k hk hA e he
  obtain⟨k1,k2⟩:=Ce l _ (by simp[hs]) h';refine List.Pairwise.cons (λi hi=>?_) (ih _ (by simp[hs]) cL h');cases ah:d.lt i j with
  |false=>rfl
  |true =>
   exfalso;have cq:=hb.up i j ah;have hA:(L.setIfInBounds j true).getD j false=true:=by rw[KN L j j iY,z8 rfl]
   have:=LV hb cL j aO hA i cq ah;rw[((k2 i).1 hi).2] at this;cases this
theorem TW (lt:Nat->Nat->Bool):∀ (s l:List Nat) (n:Nat),s.Perm l->l.length<=n->s.Pairwise (λj i=>lt i j=false)->s∈exts lt n l:=by
 intro s;induction s with
 |nil =>intro l n hp hn _;have:l=[]:=hp.symm.eq_nil;subst this;cases n<;>simp[exts]
 |cons k s ih =>
  intro l n hp hn hs;have hk:k∈l:=hp.mem_iff.1 (by simp);cases l with
  |nil=>cases hk
  |cons x xs =>
   cases n with
   |zero=>simp at hn
   |succ n =>
    simp only[exts];refine List.mem_flatMap.2 ⟨k,hk,?_⟩;obtain⟨h1,h2⟩:=wJ.1 hs;have ae:((x::xs).all λi=>i==k||!lt i k)=true:=by
     refine zg.2 λi hi=>?_;have:i∈k::s:=hp.mem_iff.2 hi;rcases zo.1 this with rfl|h
     .simp
     .simp[h1 i h]
    rw[z8 ae];refine zI.2 ⟨s,ih _ n ?_ ?_ h2,rfl⟩
    .exact(List.cons_perm_iff_perm_erase.1 hp).2
    .rw[List.length_erase_of_mem hk];simp at hn |-;omega
theorem I_ {j:Nat}:∀ (a a' b b':List Nat),j∉a->j∉a'->a++j::b=a'++j::b'->a=a':=by
 intro a;induction a with
 |nil =>
  intro a' b b' _ h' h;cases a' with
  |nil=>rfl
  |cons x a'=>simp at h;exact absurd h.1 (by rintro rfl;exact h' (by simp))
 |cons x a ih =>
  intro a' b b' h1 h2 h;cases a' with
  |nil=>simp at h;exact absurd h.1 (by rintro rfl;exact h1 (by simp))
  |cons y a' =>simp at h;obtain⟨rfl,h⟩:=h;rw[ih a' b b' (λhm=>h1 (by simp[hm])) (λhm=>h2 (by simp[hm])) h]
theorem Cl {ops:Array Oper}{d:DInfo}(hb:DBase ops d):∀ (l:List Nat) (L:Array Bool),L.size=ops.size->V2 ops L l->∀ pre j post,l=pre++j::post->∀ e∈d.ed.getD j [],L.getD e false=true\/e∈pre:=by
 intro l;induction l with
 |nil=>intro L _ _ pre j post h;simp at h
 |cons i l ih =>
  intro L hs h pre j post he e gL;obtain⟨lq,h'⟩:=h;obtain⟨aO,n9,o,ho,iW⟩:=Hh hs lq;have iY:i<L.size:=by rw[hs];exact aO
  cases pre with
  |nil =>simp at he;obtain⟨rfl,_⟩:=he;rw[hb.ed _ o ho] at gL;exact .inl (iW e gL)
  |cons x pre =>
   simp at he;obtain⟨rfl,he⟩:=he;rcases ih _ (by simp[hs]) h' pre j post he e gL with h1|h1
   .rw[KN L i e iY] at h1;split at h1
    .rename_i cK;subst cK;exact .inr (by simp)
    .exact .inl h1
   .exact .inr (by simp[h1])
theorem L6 {d0 d:DInfo}{pm l:List Nat}(N:Nat) (hN:∀ i∈l,i<N) (jE:pm.Nodup) (gK:l.Nodup) (aN:∀ i,i∈pm<->i∈l) (b6:∀ pre j post,l=pre++j::post->∀ e∈d0.ed.getD j [],e∈l->e∈pre)
  (iW:∀ p,p<pm.length->d.ed.getD p []=Q59 d0 pm p) (hf:pm.filter (λi=>d0.k i==2)=l.filter (λi=>d0.k i==2)) :
  ∀ (post pre:List Nat),l=pre++post->Fm pm d pm.length (λq=>pre.contains (pm.getD q N)) post:=by
 intro post;induction post with
 |nil =>
  intro pre hl p hp;have hm:pm.getD p N∈pm:=by simp[ze,hp]
  have:=(aN _).1 hm;rw[hl,xJ] at this;simpa using this
 |cons j post ih =>
  intro pre hl;have bX:j∈l:=by rw[hl];simp
  have fE:=(aN j).2 bX;have hp:pm.idxOf j<pm.length:=List.idxOf_lt_length_of_mem fE;have sy:pm[pm.idxOf j]'hp=j:=List.getElem_idxOf hp;have hg:∀ z,pm.getD (pm.idxOf j) z=j:=λz=>by simp[ze,hp]
  have lr:j∉pre:=λhm=>by rw[hl] at gK;exact(List.nodup_append.1 gK).2.2 j hm j (by simp) rfl
  refine⟨pm.idxOf j,hp,hg 0,by simp only[hg];simpa using lr,λe he=>?_,?_⟩
  .rw[iW _ hp] at he;rcases zQ.1 he with he|he
   .obtain⟨e0,l4,rfl⟩:=zI.1 he;rw[hg] at l4;obtain⟨iD,gV⟩:=zY.1 l4;have gV:e0∈pm:=by simpa using gV
    have uj:pm.idxOf e0<pm.length:=List.idxOf_lt_length_of_mem gV;have:pm.getD (pm.idxOf e0) N=e0:=by simp[ze,uj]
    simp only[this];have:=b6 pre j post hl e0 iD ((aN e0).1 gV);simpa using this
   .split at he
    .rename_i av;rw[hg] at av;obtain⟨hq,hk⟩:=zY.1 (List.mem_of_getLast? (Option.mem_toList.1 he));have cS:e<pm.idxOf j:=zF.1 hq;have hel:e<pm.length:=by omega
     have heq:pm.getD e N=pm[e]'hel:=by simp[ze,hel]
     have qI:pm.getD e 0=pm[e]'hel:=by simp[ze,hel]
     rw[qI] at hk;simp only[heq];have dy:pm=pm.take (pm.idxOf j)++j::pm.drop (pm.idxOf j+1):=by conv=>lhs;rw[<-xU (pm.idxOf j) pm,wE hp,sy]
     have n_:j∉pm.take (pm.idxOf j):=by intro hm;have hn:=jE;rw[dy] at hn;exact(List.nodup_append.1 hn).2.2 j hm j (by simp) rfl
     have uk:(pm.take (pm.idxOf j)).filter (λi=>d0.k i==2)++j::(pm.drop (pm.idxOf j+1)).filter (λi=>d0.k i==2)=pre.filter (λi=>d0.k i==2)++j::post.filter (λi=>d0.k i==2):=by have h1:=hf;rw[dy,hl] at h1;simp only[List.filter_append,wN,av,zB] at h1;exact h1
     have:=I_ _ _ _ _ (λhm=>n_ (zY.1 hm).1) (λhm=>lr (zY.1 hm).1) uk;have aO:pm[e]∈(pm.take (pm.idxOf j)).filter (λi=>d0.k i==2):=zY.2 ⟨List.mem_take_iff_getElem.2 ⟨e,by omega,rfl⟩,hk⟩;rw[this] at aO;have:=(zY.1 aO).1;simpa using this
    .cases he
  .have qJ:(λq=>if q=pm.idxOf j then true else pre.contains (pm.getD q N))=λq=>(pre++[j]).contains (pm.getD q N):=by
    funext q
    by_cases hq:q=pm.idxOf j
    .subst hq;simp only[zB,hg];simp
    .rw[zd hq];have aB:pm.getD q N≠j:=by
      intro he;rcases zn q pm.length with nb|nb
      .have h1:pm[q]=j:=by simpa [ze,nb] using he
       exact hq ((List.getElem_inj (h₀:=nb) (h₁:=hp) jE).1 (h1.trans sy.symm))
      .simp[ze,zm nb] at he;have:=hN j bX;omega
     rw[Bool.eq_iff_iff];simp only[List.contains_iff_mem,zQ,zp,aB,or_false]
   rw[qJ];exact ih (pre++[j]) (by rw[hl];simp)
theorem F_ {ops:Array Oper}{vs:List VOper}(h:ops.toList.mapM (J5 P ops)=some vs) (ai:(Kg ops.toList vs).okB=true):DBase ops (Kg ops.toList vs):=by
 have hlen:vs.length=ops.size:=by have:=(Wq _ _ _ h).1;simpa using this
 have jC:(Kg ops.toList vs).ks.length=ops.size:=by simp[Kg,hlen]
 have dj:=ai;unfold DInfo.okB at dj;rw[z7,zk] at dj;obtain⟨um,lW⟩:=dj;have h0:∀ j,j<ops.size->(Kg ops.toList vs).okE j=true/\(Kg ops.toList vs).an.getD j 0<2 ^ j/\((List.range j).all λi=>!((Kg ops.toList vs).lt i j)||((Kg ops.toList vs).ed.getD j []).any (λe=>e==i||decide (i<e)&&(Kg ops.toList vs).lt i e))=true:=λj hj=>by have:=zg.1 lW j (zF.2 (by rw[jC];exact hj));rw[z7,z7,zk] at this;exact this
 have oa:∀ j,j<ops.size->∀ e∈(Kg ops.toList vs).ed.getD j [],e<j:=λj hj e he=>by have:=zg.1 (h0 j hj).1 e he;simpa using this
 refine⟨λj o ho=>by simp[Kg,ze,ho],oa,λj hj i hi ah=>?_,λi j ah=>?_,jC⟩
 .have:=zg.1 (h0 j hj).2.2 i (zF.2 hi);simp only[ah,wu,Bool.false_or,xF,zC,z7,zk,zT] at this;exact this
 .rcases zn i j with h|h
  .exact h
  .exfalso;unfold DInfo.lt at ah;rcases zn j ops.size with hj|hj
   .have h1:=(h0 j hj).2.1;have h2:(Kg ops.toList vs).an.getD j 0<2 ^ i:=xj h1 (Nat.pow_le_pow_right (by omega) h);rw[Nat.testBit_lt_two_pow h2] at ah;cases ah
   .have:(Kg ops.toList vs).an.getD j 0=0:=by
     rw[ze,zm (by rw[um,jC];exact hj)];rfl
    rw[this,Nat.zero_testBit] at ah;cases ah
theorem A4 {t:Nat}:∀ (l:List Nat),l.Pairwise (λj i=>¬ (i<t/\t<=j))->l=l.filter (λi=>decide (i<t))++l.filter (λi=>decide (t<=i))
 |[],_=>rfl
 |x::l,h=>by
  obtain⟨h1,h2⟩:=wJ.1 h;have ih:=A4 l h2;by_cases hx:x<t
  .have nB:¬ t<=x:=by omega
   simp only[wN,hx,decide_true,zB,nB,decide_false,xA,zD,if_false];rw[<-ih]
  .have nB:t<=x:=by omega
   have iX:l.filter (λi=>decide (i<t))=[]:=List.filter_eq_nil_iff.2 λi hi=>by have:=h1 i hi;simp;omega
   have ae:l.filter (λi=>decide (t<=i))=l:=List.filter_eq_self.2 λi hi=>by have:=h1 i hi;simp;omega
   simp only[wN,hx,decide_false,nB,decide_true,zB,iX,ae];simp
theorem Hx (hS:OkSpecs P S) {ro:Option Nat}{n:Nat}{ops:Array Oper}{vs:List VOper}(cN:ops.toList.mapM (J5 P ops)=some vs) {d0:DInfo}(_hb:DBase ops d0) {l l2 idx pm:List Nat}(gK:l.Nodup) (ah:∀ i∈l,i<ops.size) (qK:∀ i,i∈l<->i∈idx)
  (b6:∀ pre j post,l=pre++j::post->∀ e∈d0.ed.getD j [],e∈l->e∈pre) (fP:Z0k d0 vs idx (l.filter λi=>d0.k i==2) pm=true)
  {env:Env}{U:Heap}{K:Env->Heap->Prop}{ρ:Plc}{w:World}{a:Act}(qL:Zp S ((Lv d0 vs pm).opers (VG vs pm) 0) env [U] U [] K) (hH:HRel ρ U w) (hL:LRel ρ U.n env a.tmps.toList) (dM:Mks B a.defers w)
  {Q:Exit->Act->World->Prop}(hQ:∀ a' w',BN B (List.length env) ρ U w K a' w'->wpOpsIn (FF ro) n P ops Q l2 a' w'):wpOpsIn (FF ro) n P ops Q (l++l2) a w:=by
 have nH:vs.length=ops.size:=by have:=(Wq _ _ _ cN).1;simpa using this
 simp only[Z0k,z7,zk,zg,List.contains_iff_mem] at fP;obtain⟨m1,m2,m3,m4,m5⟩:=fP;have lu:∀ i,i∈pm<->i∈l:=λi=>by rw[qK i];exact⟨λhi=>m2 i hi,λhi=>m1 i hi⟩
 have jF:∀ i∈pm,i<vs.length:=λi hi=>by have:=ah i ((lu i).1 hi);omega
 have hl:DLink P ops pm (Lv d0 vs pm) (VG vs pm):=DLink.of cN jF;have qM:(VG vs pm).length=pm.length:=by simp[VG]
 have jC:(Lv d0 vs pm).ks.length=(VG vs pm).length:=by simp[Lv]
 have hd:=DOk.of m5;rw[jC] at hd;have iW:∀ p,p<pm.length->(Lv d0 vs pm).ed.getD p []=Q59 d0 pm p:=λp hp=>by simp[Lv,ze,hp]
 have iZ:=L6 (d:=Lv d0 vs pm) ops.size ah m3 gK lu b6 iW m4 l [] (by simp);have gd:∀ i v,(VG vs pm)[i]?=some v->(Lv d0 vs pm).k i=v.op.kind:=λi v hv=>(hl.comp i v hv).choose_spec.2.2;obtain⟨k,tr,hp,_,_,k2,k3⟩:=Q98 (Lv d0 vs pm) (VG vs pm) gd env K (VG vs pm) 0 (by omega) rfl [] (λ_=>undef) (λ_=>U) [] (λl hl=>by omega) (λl hl=>by omega) (by simpa [DInfo.rank,EL] using qL);have qN:hp 0=U:=k2 0 (by omega);have ob:(λq=>([]:List Nat).contains (pm.getD q ops.size))=λ_=>false:=by funext q;rfl
 rw[ob] at iZ;refine Ee (B:=B) (pm:=pm) hS hl hd hQ k3 l (λ_=>false) a w (by rw[qM];exact iZ) ?_ (λ_ _ _=>rfl) (λj hj=>by cases hj) (ρ0:=ρ) (σ0:=U) (w0:=w)
 .refine⟨λj hj hA=>(by cases hA),0,ρ,λl aR hk=>by simp,by omega,by rw[qN];exact hH,?_,dM,by rw[qN];exact Ext.refl _ _ _⟩;have e:EL (VG vs pm) env tr (λ_=>false) (VG vs pm).length=env:=by
   have:∀ m,EL (VG vs pm) env tr (λ_=>false) m=env:=by
    intro m;induction m with
    |zero=>rfl
    |succ m ih=>simp only[EL,zD,if_false];exact ih
   exact this _
  rw[e,qN];exact hL
theorem Rw (d:DInfo):∀ (lv:List VOper) (i:Nat),(∀ v∈lv,v.op.kind≠2)->∀ (env:Env) (U:Heap) (pend:List (Nat×(Heap->Prop))) (K:Env->Heap->Prop),DT S lv env U K->Zp S (d.opers lv i) env [U] U pend K:=by
 intro lv;induction lv with
 |nil=>intro i _ env U pend K h;exact h
 |cons v rest ih =>
  intro i hk env U pend K h;have av:v.op.kind≠2:=hk v (by simp);have ef:∀ u∈rest,u.op.kind≠2:=λu hu=>hk u (by simp[hu]);simp only[DT] at h;simp only[DInfo.opers,Zp];cases hw:J3 env v.guard with
  |none=>rw[hw] at h;exact h.elim
  |some b =>
   rw[hw] at h;obtain⟨ht,hf⟩:=h;refine⟨λe=>?_,λe=>?_⟩
   .have ht:=ht e;have gF:∃ p,Q6 v.op (Q3 env) U=some p/\DT S rest (X0 env v.dst p.1) p.2 K:=by
     have cR:∀ x:XOp,v.op=.ext x->(∀ y,x≠.nextMap y):=λx hx y hy=>by rw[hx,hy] at av;exact av rfl
     have:=ht;unfold vop at this;split at this
     .rename_i f bT heq;rw[heq] at av;exact absurd rfl av
     .rename_i f bT heq;rw[heq] at av;exact absurd rfl av
     .rename_i x heq;rw[heq] at av;exact absurd rfl av
     .cases d_:Q6 v.op (Q3 env) U with
      |none=>rw[d_] at this;exact this.elim
      |some p=>rw[d_] at this;exact⟨p,rfl,this⟩
    obtain⟨p,hp,hr⟩:=gF;have hq:p.2=U:=Db av (v:=p.1) (U':=p.2) hp;rw[hq] at hr;rw[zd av];split
    .rw[hp];refine⟨λZ hτ=>?_,ih (i+1) ef _ _ _ _ hr⟩;have:Z=U:=by
      have:=List.mem_of_mem_drop hτ;simpa using this
     subst this;show QS (Q6 v.op (Q3 env) Z) _;rw[hp];rfl
    .rw[hp];exact ih (i+1) ef _ _ _ _ hr
   .rw[zd av];exact ih (i+1) ef _ _ _ _ (hf e)
theorem Ik (hS:OkSpecs P S) {ro:Option Nat}{n:Nat}{ops:Array Oper}{vs:List VOper}(cN:ops.toList.mapM (J5 P ops)=some vs) {d0:DInfo}(hb:DBase ops d0) (_hk0:∀ i v,vs[i]?=some v->d0.k i=v.op.kind) {s len:Nat}(hlen:0<len) (fh:s+len<=ops.size) {x:DSeg}(hx:Z0v d0 vs s len=some x)
  {l l2:List Nat}(gK:l.Nodup) (aN:∀ i,i∈l<->(s<=i/\i<s+len)) (b6:∀ pre j post,l=pre++j::post->∀ e∈d0.ed.getD j [],e∈l->e∈pre) (lx:l.Pairwise λj i=>d0.lt i j=false)
  {rest:List DSeg}{env:Env}{U:Heap}{K:Env->Heap->Prop}{ρ:Plc}{w:World}{a:Act}(h:Mt S (x::rest) env U K) (hH:HRel ρ U w) (hL:LRel ρ U.n env a.tmps.toList) (dM:Mks B a.defers w)
  {Q:Exit->Act->World->Prop}(hQ:∀ a' w',BN B (List.length env) ρ U w (λenv U=>Mt S rest env U K) a' w'->wpOpsIn (FF ro) n P ops Q l2 a' w'):wpOpsIn (FF ro) n P ops Q (l++l2) a w:=by
 have nH:vs.length=ops.size:=by have:=(Wq _ _ _ cN).1;simpa using this
 unfold Z0v at hx;split at hx
 .rename_i h1;subst h1;obtain rfl:=osj hx;have hs:s<ops.size:=by omega
  have ff:l=[s]:=by
   have hm:∀ i,i∈l<->i=s:=λi=>by rw[aN i];omega
   have hp:l.Perm [s]:=(wq gK (by simp)).2 λi=>by rw[hm i];simp
   exact List.perm_singleton.1 hp
  subst ff;obtain⟨v,hv,hc⟩:=(Wq _ _ _ cN).2 s ops[s] (by simp[hs]);have hg:vs.getD s default=v:=by simp[ze,hv]
  simp only[Mt,hg] at h;simp only[DT] at h;rw[List.singleton_append,wpOpsIn_cons];unfold wpOpIn;rw[xg hs];simp only;cases hw:J3 env v.guard with
  |none=>rw[hw] at h;exact h.elim
  |some b =>
   rw[hw] at h;obtain⟨ht,hf⟩:=h;obtain⟨dI,bJ,bL⟩:=Gy hc hL hw;rw[dI];cases b with
   |false =>rw[zd (by simp)];refine⟨λf _=>Aw _ _,hQ _ _ ⟨_,ρ,U,hf rfl,Zs _ _ _,hH,by rw[bJ];exact YR hL Ju _,by rw[X5];exact dM,Ext.refl _ _ _⟩⟩
   |true =>rw[z8 rfl];refine VV hS bL hH hL (ht rfl) λc w' ⟨u,ρ',U',hK,eO,gW,hE⟩=>?_;exact hQ _ _ ⟨_,ρ',U',hK,Zs _ _ _,gW,by rw[bJ];exact YR (hE.lrel hL) eO _,by rw[X5];exact dM.ext hH hE,hE⟩
 .rename_i fL;simp only at hx;split at hx
  .rename_i hP;obtain rfl:=osj hx;simp only[Mt] at h;have oc:(l.filter λi=>d0.k i==2).Perm ((List.range' s len).filter λi=>d0.k i==2):=by
    refine (List.Perm.filter _ ?_);refine (wq gK List.nodup_range').2 λj=>?_;rw[aN j,List.mem_range'_1]
   have hs:=TW d0.lt _ _ len oc (by
    refine zX (List.length_filter_le _ _) (by simp)) (lx.filter _)
   have fP:=zg.1 hP _ (zI.2 ⟨_,hs,rfl⟩);have qL:=h _ (zI.2 ⟨_,zI.2 ⟨_,hs,rfl⟩,rfl⟩);exact Hx hS cN hb gK (λi hi=>by have:=(aN i).1 hi;omega) (λi=>by rw[aN i,List.mem_range'_1]) b6 fP qL hH hL dM (λa' w' hn=>by
    obtain⟨af,ρ',U',⟨aU,σ2,hD,hR⟩,n1,n2,n3,n4,n5⟩:=hn;obtain⟨ρ2,d1,d2,d3⟩:=hD ρ w ρ' w' a'.tmps.toList hH n5 n2 n3;exact hQ a' w' ⟨aU,ρ2,σ2,hR,(d1.1.trans n3.1.symm).trans n1,d2,d1,n4,d3⟩)
  .cases hx
theorem AN (hS:OkSpecs P S) {ro:Option Nat}{n:Nat}{ops:Array Oper}{vs:List VOper}(cN:ops.toList.mapM (J5 P ops)=some vs) {d0:DInfo}(hb:DBase ops d0) (jA:∀ i v,vs[i]?=some v->d0.k i=v.op.kind)
  {Q:Exit->Act->World->Prop}{K:Env->Heap->Prop}:∀ (f s:Nat) (aS:List DSeg),Ii d0 vs f s=some aS->s<=ops.size->∀ (l:List Nat),l.Nodup->(∀ i,i∈l<->(s<=i/\i<ops.size)) ->
   (∀ pre j post,l=pre++j::post->∀ e∈d0.ed.getD j [],e∈l->e∈pre)->(l.Pairwise λj i=>d0.lt i j=false) ->
   ∀ (env:Env) (U:Heap) (ρ:Plc) (w:World) (a:Act),Mt S aS env U K->HRel ρ U w->LRel ρ U.n env a.tmps.toList->Mks B a.defers w->(∀ a' w',BN B (List.length env) ρ U w K a' w'->Q .normal a' w') ->
   wpOpsIn (FF ro) n P ops Q l a w:=by
 intro f
 have fin:∀ (s:Nat) (aS:List DSeg),s=d0.ks.length->[]=aS->∀ (l:List Nat),(∀ i,i∈l<->(s<=i/\i<ops.size))->∀ (env:Env) (U:Heap) (ρ:Plc) (w:World) (a:Act),Mt S aS env U K->HRel ρ U w->LRel ρ U.n env a.tmps.toList->Mks B a.defers w->(∀ a' w',BN B (List.length env) ρ U w K a' w'->Q .normal a' w') ->
   wpOpsIn (FF ro) n P ops Q l a w:=by
  intro s aS hs fl l aN env U ρ w a h hH hL dM hQ;subst fl;have:l=[]:=by
   cases l with
   |nil=>rfl
   |cons x l =>have:=(aN x).1 (by simp);rw[hs,hb.size] at this;omega
  subst this;exact hQ a w ⟨env,ρ,U,h,rfl,hH,hL,dM,Ext.refl _ _ _⟩
 induction f with
 |zero =>
  intro s aS fl hs l gK aN b6 lx env U ρ w a h hH hL dM hQ;simp only[Ii] at fl;split at fl
  .rename_i he;exact fin s aS he (osj fl) l aN env U ρ w a h hH hL dM hQ
  .cases fl
 |succ f ih =>
  intro s aS fl hs l gK aN b6 lx env U ρ w a h hH hL dM hQ;simp only[Ii] at fl;split at fl
  .rename_i he;exact fin s aS he (osj fl) l aN env U ρ w a h hH hL dM hQ
  .rename_i aB;split at fl
   .cases fl
   .rename_i t ht;have qO:=List.find?_some ht;have od:=List.mem_range'_1.1 (List.mem_of_find?_eq_some ht);rw[hb.size] at od;split at fl
    .rename_i x r hx hr;obtain rfl:=osj fl;have ah:∀ i p,i<t->t<=p->p<ops.size->d0.lt i p=true:=λi p hi hp jE=>by
      have h1:=zg.1 qO p (List.mem_range'_1.2 ⟨hp,by rw[hb.size];omega⟩);exact zg.1 h1 i (zF.2 hi)
     have qP:l.Pairwise (λj i=>¬ (i<t/\t<=j)):=by refine (List.pairwise_iff_forall_sublist.2 λ{j i} gJ=>?_);rintro⟨h1,h2⟩;have hj:j∈l:=gJ.subset (by simp);have h3:=(List.pairwise_iff_forall_sublist.1 lx) gJ;rw[ah i j h1 h2 ((aN j).1 hj).2] at h3;cases h3
     have dy:=A4 l qP;have l9:∀ i,i∈l.filter (λi=>decide (i<t))<->(s<=i/\i<s+(t-s)):=λi=>by rw[zY,aN i,zk];omega
     have ij:∀ i,i∈l.filter (λi=>decide (t<=i))<->(t<=i/\i<ops.size):=λi=>by rw[zY,aN i,zk];omega
     rw[dy];refine Ik hS cN hb jA (by omega) (by omega) hx (gK.filter _) l9 ?_ (lx.filter _) h hH hL dM ?_
     .intro pre j post he e gL hel;refine b6 pre j (post++l.filter (λi=>decide (t<=i))) ?_ e gL (zY.1 hel).1;exact dy.trans (by rw[he,zZ];rfl)
     .intro a' w' ⟨af,ρ',U',k1,k0,k2,k3,k4,k5⟩;refine ih t r hr (by omega) _ (gK.filter _) ij ?_ (lx.filter _) af U' ρ' w' a' k1 k2 k3 k4 ?_
      .intro pre j post he e gL hel;have:=b6 (l.filter (λi=>decide (i<t))++pre) j post (dy.trans (by rw[he,zZ])) e gL (zY.1 hel).1;rcases zQ.1 this with h1|h1
       .have h2:=(zY.1 h1).2;have h3:=(zY.1 hel).2;simp at h2 h3;omega
       .exact h1
      .intro a2 w2 ⟨aU,ρ2,σ2,m1,m0,m2,m3,m4,m5⟩;exact hQ a2 w2 ⟨aU,ρ2,σ2,m1,m0.trans k0,m2,m3,m4,k5.trans m5⟩
    .cases fl
theorem AG (hm:P.follows .mixedOrders=true) (hS:OkSpecs P S) {ro:Option Nat}{n:Nat}{id:Nat}{ops:Array Oper}{vs:List VOper}(cN:ops.toList.mapM (J5 P ops)=some vs) {aS:List DSeg}(ai:Q5l (Kg ops.toList vs) vs=some aS)
  {env:Env}{U:Heap}{K:Env->Heap->Prop}{ρ:Plc}{w:World}{a:Act}(h:Mt S aS env U K) (hH:HRel ρ U w) (hL:LRel ρ U.n env a.tmps.toList) (dM:Mks B a.defers w)
  {Q:Exit->Act->World->Prop}(hQ:∀ a' w',BN B (List.length env) ρ U w K a' w'->Q .normal a' w'):(Code.region id ops true).wpIn (FF ro) n P Q a w:=by
 unfold Q5l at ai;split at ai
 .rename_i hB;have hb:=F_ cN hB;have gd:∀ i v,vs[i]?=some v->(Kg ops.toList vs).k i=v.op.kind:=λi v hv=>by
   simp[DInfo.k,Kg,ze,hv]
  generalize qy:Kg ops.toList vs=d0 at *
  refine wpIn_region_draw λt=>?_;simp only[Region.schedule,hm,Bool.true_or,zB];have gM:∀ (j:Nat) (o:Oper),ops[j]?=some o->∀ e∈Bu o,e<j:=λj o ho e he=>hb.edge j (x8.1 ho).1 e (by rw[hb.ed j o ho];exact he);have ae:∀ i,(Array.replicate ops.size false).getD i false=false:=λi=>by rw[Array.getD_eq_getD_getElem?,Array.getElem?_replicate];split<;>rfl
  have il:=Q10 gM ops.size t (Array.replicate ops.size false) (by simp) (by
   have:∀ m,cnt (λi=>(Array.replicate ops.size false).getD i false) m<=m:=by
    intro m;induction m with
    |zero=>exact zf _
    |succ m ih=>simp only[cnt];split<;>omega
   exact this _)
  change wpOpsIn _ _ _ _ _ (Region.linearise.go .any ops ops.size t (Array.replicate ops.size false) []) _ _;generalize Region.linearise.go .any ops ops.size t (Array.replicate ops.size false) []=l at *
  obtain⟨ka,aN⟩:=Ce l _ (by simp) il;have lx:=Q6z hb l _ (by simp) (λj _ hA=>by rw[ae] at hA;cases hA) il;have b6:=Cl hb l _ (by simp) il;refine AN hS cN hb gd _ 0 aS ai (by omega) l ka (λi=>by rw[aN i,ae];simp) (λpre j post he e gL _=>?_) lx env U ρ _ a h hH.drew hL (dM.ext hH (Ext.drew _ _ _)) (λa' w' hn=>?_)
  .rcases b6 pre j post he e gL with h1|h1
   .rw[ae] at h1;cases h1
   .exact h1
  .obtain⟨af,ρ',U',n0,n1,n2,n3,n4,n5⟩:=hn;exact hQ a' w' ⟨af,ρ',U',n0,n1,n2,n3,n4,(Ext.drew _ _ _).trans n5⟩
 .cases ai
theorem Lg (hm:P.follows .mixedOrders=true) (hS:OkSpecs P S) {ro:Option Nat}{n:Nat}{id:Nat}{ops:Array Oper}{vs:List VOper}(cN:ops.toList.mapM (J5 P ops)=some vs) (ai:Gf (Kg ops.toList vs) vs=true)
  {env:Env}{U:Heap}{K:Env->Heap->Prop}{ρ:Plc}{w:World}{a:Act}(h:DT S vs env U K) (hH:HRel ρ U w) (hL:LRel ρ U.n env a.tmps.toList) (dM:Mks B a.defers w)
  {Q:Exit->Act->World->Prop}(hQ:∀ a' w',BN B (List.length env) ρ U w K a' w'->Q .normal a' w'):(Code.region id ops true).wpIn (FF ro) n P Q a w:=by
 simp only[Gf,z7] at ai;obtain⟨hB,l_,kP⟩:=ai;have hb:=F_ cN hB;have nH:vs.length=ops.size:=by have:=(Wq _ _ _ cN).1;simpa using this
 have av:∀ v∈vs,v.op.kind≠2:=λv hv=>by have:=zg.1 l_ v hv;simpa using this
 have gd:∀ i v,vs[i]?=some v->(Kg ops.toList vs).k i=v.op.kind:=λi v hv=>by simp[DInfo.k,Kg,ze,hv]
 generalize qy:Kg ops.toList vs=d0 at *
 refine wpIn_region_draw λt=>?_;simp only[Region.schedule,hm,Bool.true_or,zB];have gM:∀ (j:Nat) (o:Oper),ops[j]?=some o->∀ e∈Bu o,e<j:=λj o ho e he=>hb.edge j (x8.1 ho).1 e (by rw[hb.ed j o ho];exact he);have ae:∀ i,(Array.replicate ops.size false).getD i false=false:=λi=>by rw[Array.getD_eq_getD_getElem?,Array.getElem?_replicate];split<;>rfl
 have il:=Q10 gM ops.size t (Array.replicate ops.size false) (by simp) (by
  have:∀ m,cnt (λi=>(Array.replicate ops.size false).getD i false) m<=m:=by
   intro m;induction m with
   |zero=>exact zf _
   |succ m ih=>simp only[cnt];split<;>omega
  exact this _)
 change wpOpsIn _ _ _ _ _ (Region.linearise.go .any ops ops.size t (Array.replicate ops.size false) []) _ _;generalize Region.linearise.go .any ops ops.size t (Array.replicate ops.size false) []=l at *
 obtain⟨ka,aN⟩:=Ce l _ (by simp) il;have b6:=Cl hb l _ (by simp) il;have ah:∀ i∈l,i<ops.size:=λi hi=>((aN i).1 hi).1;have iX:l.filter (λi=>d0.k i==2)=[]:=List.filter_eq_nil_iff.2 λi hi=>by have aO:=ah i hi;have sA:vs[i]?=some vs[i]:=z6 (by omega);rw[gd i _ sA];simpa using av _ (zH sA)
 have qQ:VG vs (List.range' 0 d0.ks.length)=vs:=by
  apply zV;intro i;unfold VG;rw[zU];rcases zn i vs.length with hi|hi
  .rw[List.getElem?_range' (by rw[hb.size];omega),z6 hi];simp[ze,hi]
  .rw[zm (by simp[hb.size];omega),zm hi];rfl
 have hd:=Rw (S:=S) (Lv d0 vs (List.range' 0 d0.ks.length)) vs 0 av env U [] K h;rw[<-xJ l];refine Hx hS cN hb ka ah (λi=>by rw[aN i,ae,List.mem_range'_1,hb.size];simp) (λpre j post he e gL _=>?_) (idx:=List.range' 0 d0.ks.length) (pm:=List.range' 0 d0.ks.length) (by rw[iX];exact kP) (by rw[qQ];exact hd) hH.drew hL (dM.ext hH (Ext.drew _ _ _)) (λa' w' hn=>?_)
 .rcases b6 pre j post he e gL with h1|h1
  .rw[ae] at h1;cases h1
  .exact h1
 .obtain⟨af,ρ',U',n0,n1,n2,n3,n4,n5⟩:=hn;exact hQ a' w' ⟨af,ρ',U',n0,n1,n2,n3,n4,(Ext.drew _ _ _).trans n5⟩
theorem Sx (hS:OkSpecs P S) {id:Nat}{ops:Array Oper}{lv:List VOper}(bW:ops.toList.mapM (J5 P ops)=some lv):Sound P S (.region id ops false) (.region lv):=by intro B dk ro n Q env U ρ w a h hH hL hd hR Q' hQ;simp only[vwp] at h;refine wpIn_region ?_;rw[List.range_eq_range',<-Array.length_toList,wpOpsIn_eq_wpListIn ops.toList 0 (by simp)];exact Ec hS ops Q' ops.toList lv bW env U _ ρ w a h hH hL hd (λa' w' hn=>hQ .normal a' w' hn)
theorem cond_true {v:Value}{A B:Prop}(h:SO v A B):∃ t,v=.bool t/\(t=true->A)/\(t=false->B):=by
 unfold SO at h;split at h
 .exact⟨_,rfl,h⟩
 .exact h.elim
theorem A_ {c:Code}{vc:VCode}(ih:Sound P S c vc):Sound P S (.loop c) (.loop vc):=by
 intro B dk ro n Q env U ρ w a h hH hL hd hR Q' hQ;simp only[vwp] at h;obtain⟨live,I,n0,h0,en⟩:=h;refine wpIn_loop_ghost (λk a' w'=>BN B (List.length env) ρ U w (λaf U'=>I k (GH live af) U') a' w') n0 ⟨env,ρ,U,h0,rfl,hH,hL,hd,Ext.refl _ _ _⟩ ?_;rintro k a1 w1 ⟨bC,ρ1,σ1,k1,k0,k2,k3,k4,k5⟩;have hlen:List.length (Xe live (GH live bC) (List.replicate env.length poison))=List.length env:=by rw[Rn];simp
 refine ih dk ro n _ _ σ1 ρ1 w1 a1 (en k (GH live bC) σ1 k1) k2 (Ev live bC _ _ k3 (Am _ (by rw[<-k3.1,k0]))) k4 (hR.ext k5) _ ?_;rintro e a2 w2 ⟨aU,ρ2,σ2,m1,m0,m2,m3,m4,m5⟩;rw[hlen] at m0;cases e with
 |normal =>obtain⟨n',pH,hI⟩:=m1;exact⟨n',pH,aU,ρ2,σ2,hI,m0,m2,m3,m4,k5.trans m5⟩
 |_=>exact hQ _ a2 w2 ⟨aU,ρ2,σ2,m1,m0,m2,m3,m4,k5.trans m5⟩
theorem Dx (c:Code):Sound P S c .bad:=by intro B dk ro n Q env U ρ w a h;exact h.elim
theorem Ag (hm:P.follows .mixedOrders=true) (hS:OkSpecs P S):∀ (c:Code) (vc:VCode),comp P c=some vc->Sound P S c vc:=by
 intro c;induction c with
 |skip =>intro vc hc;simp[comp] at hc;subst hc;intro B dk ro n Q env U ρ w a h hH hL hd hR Q' hQ;exact wpIn_skip (hQ _ _ _ ⟨env,ρ,U,h,rfl,hH,hL,hd,Ext.refl _ _ _⟩)
 |region id ops dr =>
  intro vc hc;cases dr with
  |false =>simp only[comp,zO,xc] at hc;obtain⟨lv,bW,hc⟩:=hc;simp at hc;subst hc;exact Sx hS bW
  |true =>
   simp only[comp,zO,xc] at hc;obtain⟨lv,bW,hc⟩:=hc;split at hc
   .rename_i ai;simp at hc;subst hc;intro B dk ro n Q env U ρ w a h hH hL hd hR Q' hQ;exact Lg hm hS bW ai h hH hL hd (λa' w' hn=>hQ .normal a' w' hn)
   split at hc
   .rename_i aS ai;simp at hc;subst hc;intro B dk ro n Q env U ρ w a h hH hL hd hR Q' hQ;exact AG hm hS bW ai h hH hL hd (λa' w' hn=>hQ .normal a' w' hn)
   .simp at hc;subst hc;exact Dx _
 |seq x y kp oe =>
  intro vc hc;simp only[comp,zO,xc] at hc;obtain⟨vx,hx,vy,hy,hc⟩:=hc;simp at hc;subst hc;intro B dk ro n Q env U ρ w a h hH hL hd hR Q' hQ;simp only[vwp] at h;refine wpIn_seq (kp vx hx dk ro n _ env U ρ w a h hH hL hd hR _ ?_);rintro e a1 w1 ⟨bC,ρ1,σ1,k1,k0,k2,k3,k4,k5⟩;cases e with
  |normal =>refine oe vy hy dk ro n _ bC σ1 ρ1 w1 a1 k1 k2 k3 k4 (hR.ext k5) _ ?_;rintro e2 a2 w2 ⟨aU,ρ2,σ2,m1,m0,m2,m3,m4,m5⟩;exact hQ e2 a2 w2 ⟨aU,ρ2,σ2,m1,m0.trans k0,m2,m3,m4,k5.trans m5⟩
  |_=>exact hQ _ a1 w1 ⟨bC,ρ1,σ1,k1,k0,k2,k3,k4,k5⟩
 |cond c x y kp oe =>
  intro vc hc;simp only[comp] at hc;split at hc
  .rename_i ai;simp only[zO,xc] at hc;obtain⟨vx,hx,vy,hy,hc⟩:=hc;simp at hc;subst hc;intro B dk ro n Q env U ρ w a h hH hL hd hR Q' hQ;simp only[vwp] at h;obtain⟨t,ht,h1,h2⟩:=cond_true h;have hv:=Wm hL ai;rw[ht] at hv;refine wpIn_cond_split hv.q1d (λe=>?_) (λe=>?_)
   .exact kp vx hx dk ro n Q env U ρ w a (h1 e) hH hL hd hR Q' hQ
   .exact oe vy hy dk ro n Q env U ρ w a (h2 e) hH hL hd hR Q' hQ
  .simp at hc;subst hc;exact Dx _
 |block id x kp =>
  intro vc hc;simp only[comp,zO,xc] at hc;obtain⟨vx,hx,hc⟩:=hc;simp at hc;subst hc;intro B dk ro n Q env U ρ w a h hH hL hd hR Q' hQ;simp only[vwp] at h;refine wpIn_block (kp vx hx dk ro n _ env U ρ w a h hH hL hd hR _ ?_);rintro e a1 w1 ⟨bC,ρ1,σ1,k1,k0,k2,k3,k4,k5⟩;cases e with
  |exit iM =>
   simp only[Ss] at k1;simp only[Exit.inBlock];split at k1
   .rename_i he;rw[z8 he];exact hQ _ a1 w1 ⟨bC,ρ1,σ1,k1,k0,k2,k3,k4,k5⟩
   .rename_i he;rw[zd he];exact hQ _ a1 w1 ⟨bC,ρ1,σ1,k1,k0,k2,k3,k4,k5⟩
  |_=>exact hQ _ a1 w1 ⟨bC,ρ1,σ1,k1,k0,k2,k3,k4,k5⟩
 |loop x kp =>intro vc hc;simp only[comp,zO,xc] at hc;obtain⟨vx,hx,hc⟩:=hc;simp at hc;subst hc;exact A_ (kp vx hx)
 |rangeFunc g ps x y kp oe =>
  intro vc hc;simp only[comp] at hc;split at hc
  .rename_i ai;simp only[zO,xc] at hc;obtain⟨vx,hx,vy,hy,hc⟩:=hc;simp at hc;subst hc;exact Cc hS (kp vx hx) (oe vy hy) g ai ps
  .simp at hc;subst hc;exact Dx _
 |exit id =>intro vc hc;simp[comp] at hc;subst hc;intro B dk ro n Q env U ρ w a h hH hL hd hR Q' hQ;exact wpIn_exit (hQ _ _ _ ⟨env,ρ,U,h,rfl,hH,hL,hd,Ext.refl _ _ _⟩)
 |ret =>intro vc hc;simp[comp] at hc;subst hc;intro B dk ro n Q env U ρ w a h hH hL hd hR Q' hQ;exact wpIn_ret (hQ _ _ _ ⟨env,ρ,U,h,rfl,hH,hL,hd,Ext.refl _ _ _⟩)
 |_ =>intro vc hc;simp[comp] at hc;subst hc;exact Dx _
end
end Go.V
namespace Go.V
open Go
inductive Ren (n:Nat) (π:Nat->Nat):Value->Value->Prop
 |plain (v:Value) (h:QK v=true):Ren n π v v
 |poison (c:Value):Ren n π poison c
 |glob (g o s:Nat):Ren n π (.pointer (some ⟨g,o,some s⟩)) (.pointer (some ⟨g,o,some s⟩))
 |ptr (i o:Nat) (hi:i<n):Ren n π (.pointer (some ⟨i,o,none⟩)) (.pointer (some ⟨π i,o,none⟩))
 |sl (i o len cap:Nat) (hi:i<n):Ren n π (.slice (some ⟨i,o,none⟩) len cap) (.slice (some ⟨π i,o,none⟩) len cap)
 |slx (i o len cap:Nat) (hi:i<n):Ren n π (.slice (some ⟨i,o,some 0⟩) len cap) (.slice (some ⟨π i,o,some 0⟩) len cap)
 |map (i:Nat) (hi:i<n):Ren n π (.map (some i)) (.map (some (π i)))
 |iface (t:TypeId) (v c:Value) (h:Ren n π v c):Ren n π (.iface t v) (.iface t c)
 |yield (i:Nat) (hi:i<n):Ren n π (.func (.yield i) #[] #[]) (.func (.yield (π i)) #[] #[])
 |func (fn:FuncId) (fs gs cs ds:Array Value) (hf:fs.size=gs.size) (hc:cs.size=ds.size)
   (h1:∀ i (h1:i<fs.size) (h2:i<gs.size),Ren n π fs[i] gs[i]) (h2:∀ i (h1:i<cs.size) (h2:i<ds.size),Ren n π cs[i] ds[i]):Ren n π (.func (.func fn) fs cs) (.func (.func fn) gs ds)
 |agg (cs ds:Array Value) (hc:cs.size=ds.size) (h:∀ i (h1:i<cs.size) (h2:i<ds.size),Ren n π cs[i] ds[i]):Ren n π (.agg cs) (.agg ds)
 |tuple (cs ds:Array Value) (hc:cs.size=ds.size) (h:∀ i (h1:i<cs.size) (h2:i<ds.size),Ren n π cs[i] ds[i]):Ren n π (.tuple cs) (.tuple ds)
def LRen (n:Nat) (π:Nat->Nat) (vs cs:List Value):Prop:=vs.length=cs.length/\∀ (i:Nat) (v c:Value),vs[i]?=some v->cs[i]?=some c->Ren n π v c
theorem Ren.rel {ρ:Plc}{nf n':Nat}{π:Nat->Nat}{v' v:Value}(h:Ren n' π v' v):∀ {c:Value},VRel ρ nf v c->VRel (λi=>if i<n' then ρ (π i) else none) n' v' c:=by
 induction h with
 |plain v h =>intro c hv;have:c=v:=YQ h hv;subst this;exact Wt h
 |poison c=>intro c _;exact .poison _
 |glob g o s=>intro c hv;cases hv;exact .glob _ _ _
 |ptr i o hi =>intro c hv;obtain⟨a,rfl,_,h⟩:=hv.q1h;exact .ptr _ _ _ hi λp hp=>h p (by simpa [hi] using hp)
 |sl i o len cap hi =>intro c hv;obtain⟨a,au,rfl,_,h⟩:=hv.q1b;exact .sl _ _ _ _ _ _ hi λp hp=>h p (by simpa [hi] using hp)
 |slx i o len cap hi =>
  intro c hv;cases hv with
  |slx _ _ _ _ a _ h=>exact .slx _ _ _ _ _ hi λp hp=>h p (by simpa [hi] using hp)
 |map i hi =>
  intro c hv;cases hv with
  |map _ r _ h=>exact .map _ _ hi λp hp=>h p (by simpa [hi] using hp)
 |yield i hi =>
  intro c hv;cases hv with
  |yield _ r _ h=>exact .yield _ _ hi λp hp=>h p (by simpa [hi] using hp)
 |iface t v c h ih =>
  intro c hv;cases hv with
  |iface _ _ _ h=>exact .iface _ _ _ (ih h)
 |func fn fs gs cs ds hf hc h1 h2 lN lO =>
  intro c hv;cases hv with
  |func _ _ vW _ ds' ma cL jG nc =>exact .func _ _ _ _ _ (hf.trans ma) (hc.trans cL) (λi k1 k2=>lN i k1 (by omega) (jG i (by omega) k2)) (λi k1 k2=>lO i k1 (by omega) (nc i (by omega) k2))
 |agg cs ds hc h ih =>
  intro c hv;cases hv with
  |agg _ ds' cL h'=>exact .agg _ _ (hc.trans cL) λi k1 k2=>ih i k1 (by omega) (h' i (by omega) k2)
 |tuple cs ds hc h ih =>
  intro c hv;cases hv with
  |tuple _ ds' cL h'=>exact .tuple _ _ (hc.trans cL) λi k1 k2=>ih i k1 (by omega) (h' i (by omega) k2)
theorem VRel.ren {ρ:Plc}{n n':Nat}{π:Nat->Nat}(hn:n<=n') (hπ:∀ i,i<n->π i=i) {v c:Value}(h:VRel ρ n v c):Ren n' π v v:=by
 induction h with
 |poison c=>exact .poison _
 |bool b=>exact .plain _ rfl
 |int k x=>exact .plain _ rfl
 |string s=>exact .plain _ rfl
 |nilPtr=>exact .plain _ rfl
 |nilSl=>exact .plain _ rfl
 |nilMap=>exact .plain _ rfl
 |nilFunc=>exact .plain _ rfl
 |nilIface=>exact .plain _ rfl
 |glob g o s=>exact .glob _ _ _
 |ptr i o a hi h=>have:=Ren.ptr (n:=n') (π:=π) i o (by omega);rwa [hπ i hi] at this
 |sl i o len cap a au hi h=>have:=Ren.sl (n:=n') (π:=π) i o len cap (by omega);rwa [hπ i hi] at this
 |slx i o len cap a hi h=>have:=Ren.slx (n:=n') (π:=π) i o len cap (by omega);rwa [hπ i hi] at this
 |map i r hi h=>have:=Ren.map (n:=n') (π:=π) i (by omega);rwa [hπ i hi] at this
 |yield i r hi h=>have:=Ren.yield (n:=n') (π:=π) i (by omega);rwa [hπ i hi] at this
 |iface t v c _ ih=>exact .iface _ _ _ ih
 |func fn fs gs cs ds hf hc _ _ lN lO=>exact .func _ _ _ _ _ rfl rfl (λi k1 _=>lN i k1 (by omega)) (λi k1 _=>lO i k1 (by omega))
 |agg cs ds hc _ ih=>exact .agg _ _ rfl λi k1 _=>ih i k1 (by omega)
 |tuple cs ds hc _ ih=>exact .tuple _ _ rfl λi k1 _=>ih i k1 (by omega)
theorem LRen.rel {ρ:Plc}{nf n':Nat}{π:Nat->Nat}{cW vs:List Value}(h:LRen n' π cW vs) {cs:List Value}(hL:LRel ρ nf vs cs):LRel (λi=>if i<n' then ρ (π i) else none) n' cW cs:=by
 refine⟨h.1.trans hL.1,λi v c hv hc=>?_⟩;have ah:i<vs.length:=by rw[<-h.1];exact(zh.1 hv).1
 exact(h.2 i v _ hv (z6 ah)).rel (hL.2 i _ c (z6 ah) hc)
theorem LRel.ren {ρ:Plc}{n n':Nat}{π:Nat->Nat}(hn:n<=n') (hπ:∀ i,i<n->π i=i) {vs cs:List Value}(h:LRel ρ n vs cs):LRen n' π vs vs :=
 ⟨rfl,λi v u hv hu=>by
  obtain rfl:v=u:=osj (hv.symm.trans hu);obtain⟨c,_,hc⟩:=h.get hv;exact hc.ren hn hπ⟩
def ORen (n:Nat) (π:Nat->Nat):VObj->VObj->Prop
 |.map es clock,.map fs mb=>clock=mb/\es.length=fs.length/\∀ (k:Nat) (a b:Jx),es[k]?=some a->fs[k]?=some b->a.1=b.1/\a.2.2=b.2.2/\Ren n π a.2.1 b.2.1
 |.iter m since seen last,.iter m' mc og oh=>m'=π m/\m<n/\since=mc/\seen=og/\last=oh
 |.lp env r st pend,.lp af r' na bZ=>LRen n π env af/\r=r'/\st=na/\pend=bZ
 |_,_=>False
theorem ORen.rel {ρ:Plc}{nf n':Nat}{π:Nat->Nat}{o' o:VObj}(h:ORen n' π o' o) {O:Obj}(hO:ORel ρ nf o O):ORel (λi=>if i<n' then ρ (π i) else none) n' o' O:=by
 cases o'<;>cases o<;>try exact h.elim
 .obtain⟨rfl,hl,hk⟩:=h;obtain⟨entries,h1,h2,h3⟩:=hO;refine⟨entries,h1,by rw[hl];exact h2,λk a ha=>?_⟩;have br:=(zh.1 ha).1;rw[hl] at br;obtain⟨e,he,h4,h5,h6⟩:=h3 k _ (z6 br);obtain⟨k1,k2,k3⟩:=hk k a _ ha (z6 br);exact⟨e,he,h4.trans k1.symm,h5.trans k2.symm,k3.rel h6⟩
 .obtain⟨rfl,hm,rfl,rfl,rfl⟩:=h;obtain⟨rm,h1,h2⟩:=hO;exact⟨rm,h1,(Ren.map _ hm).rel h2⟩
 .obtain⟨hl,rfl,rfl,rfl⟩:=h;exact⟨hO.1,hl.rel hO.2⟩
theorem ORel.ren {ρ:Plc}{n n':Nat}{π:Nat->Nat}(hn:n<=n') (hπ:∀ i,i<n->π i=i) {o:VObj}{O:Obj}(h:ORel ρ n o O):ORen n' π o o:=by
 cases o with
 |map es clock =>obtain⟨entries,h1,h2,h3⟩:=h;refine⟨rfl,rfl,λk a b ha hb=>?_⟩;obtain rfl:a=b:=osj (ha.symm.trans hb);obtain⟨e,_,_,_,hv⟩:=h3 k a ha;exact⟨rfl,rfl,hv.ren hn hπ⟩
 |iter m since seen last =>
  obtain⟨rm,h1,h2⟩:=h;cases h2 with
  |map _ _ hi _=>exact⟨(hπ m hi).symm,by omega,rfl,rfl,rfl⟩
 |lp env r st pend=>exact⟨h.2.ren hn hπ,rfl,rfl,rfl⟩
def BRen (n:Nat) (π:Nat->Nat):Blk->Blk->Prop
 |.cells c esz wr tight,.cells d oi kX i_=>esz=oi/\wr=kX/\tight=i_/\LRen n π c d
 |.obj o wr,.obj o' kX=>wr=kX/\ORen n π o o'
 |_,_=>False
theorem BRen.wr {n:Nat}{π:Nat->Nat}{b c:Blk}(h:BRen n π b c):b.wr=c.wr:=by cases b<;>cases c<;>first|(exact h.elim)|exact h.2.1|exact h.1
theorem BRen.rel {ρ:Plc}{nf n':Nat}{π:Nat->Nat}{p:Pl}{w:World}{b' b:Blk}(h:BRen n' π b' b) (hB:BRel ρ nf p w b):BRel (λi=>if i<n' then ρ (π i) else none) n' p w b':=by
 cases b' with
 |cells c esz wr tight =>
  cases b with
  |cells d oi kX i_ =>
   obtain⟨rfl,rfl,rfl,hl⟩:=h;obtain⟨h1,h2,h3,h4,h5,h6⟩:=hB;refine⟨h1,h2,by rw[hl.1];exact h3,h4,λk v hk=>?_,h6⟩;have br:k<d.length:=by rw[<-hl.1];exact(zh.1 hk).1
   obtain⟨u,hu,hv⟩:=h5 k _ (z6 br);exact⟨u,hu,(hl.2 k v _ hk (z6 br)).rel hv⟩
  |obj _ _=>exact h.elim
 |obj o wr =>
  cases b with
  |cells _ _ _ _=>exact h.elim
  |obj o' kX =>obtain⟨rfl,ho⟩:=h;obtain⟨h0,O,h1,h2⟩:=hB;exact⟨h0,O,h1,ho.rel h2⟩
def VObj.plain:VObj->Bool
 |.map es _=>es.all λkv=>QK kv.2.1
 |_=>false
def Blk.plain:Blk->Bool
 |.cells c _ _ _=>c.all QK
 |.obj o _=>o.plain
theorem LRen.plain {n:Nat}{π:Nat->Nat}{c:List Value}(h:c.all QK=true):LRen n π c c :=
 ⟨rfl,λi v u hv hu=>by
  obtain rfl:v=u:=osj (hv.symm.trans hu);exact .plain _ (zg.1 h v (zH hv))⟩
theorem BRen.plain {n:Nat}{π:Nat->Nat}{b:Blk}(h:b.plain=true):BRen n π b b:=by
 cases b with
 |cells c esz wr tight=>exact⟨rfl,rfl,rfl,LRen.plain h⟩
 |obj o wr =>
  cases o with
  |map es clock =>refine⟨rfl,rfl,rfl,λk a b ha hb=>?_⟩;obtain rfl:a=b:=osj (ha.symm.trans hb);exact⟨rfl,rfl,.plain _ (zg.1 h a (zH ha))⟩
  |_=>cases h
theorem BRel.ren {ρ:Plc}{n n':Nat}{π:Nat->Nat}(hn:n<=n') (hπ:∀ i,i<n->π i=i) {p:Pl}{w:World}{b:Blk}(h:BRel ρ n p w b):BRen n' π b b:=by
 cases b with
 |cells c esz wr tight =>refine⟨rfl,rfl,rfl,rfl,λi v u hv hu=>?_⟩;obtain rfl:v=u:=osj (hv.symm.trans hu);obtain⟨_,_,uo⟩:=h.2.2.2.2.1 i v hv;exact uo.ren hn hπ
 |obj o wr =>obtain⟨_,O,_,ho⟩:=h;exact⟨rfl,ho.ren hn hπ⟩
def DropTo (σ0:Heap) (v:Value) (σf:Heap) (v':Value) (U':Heap):Prop :=
 ∀ ρ0 w0 ρ w c,HRel ρ0 σ0 w0->Ext ρ0 σ0 w0 ρ σf w->HRel ρ σf w->VRel ρ σf.n v c->∃ ρ',VRel ρ' U'.n v' c/\HRel ρ' U' w/\Ext ρ0 σ0 w0 ρ' U' w
theorem DropTo.refl (σ0:Heap) (v:Value) (σf:Heap):DropTo σ0 v σf v σf:=λ_ _ ρ _ _ _ hE hH hv=>⟨ρ,hv,hH,hE⟩
theorem DropTo.rename {σ0 σf U':Heap}{v v':Value}(π:Nat->Nat) (h1:σ0.n<=U'.n)
  (h2:∀ i,i<σ0.n->π i=i/\U'.get i=σf.get i/\(σf.get i=σ0.get i\/∃ b,σf.get i=some b/\b.plain=true))
  (h3:∀ i,σ0.n<=i->i<U'.n->σ0.n<=π i/\∃ b' b,U'.get i=some b'/\σf.get (π i)=some b/\BRen U'.n π b' b)
  (h4:∀ i j,σ0.n<=i->i<U'.n->σ0.n<=j->j<U'.n->π i=π j->i=j) (h5:Ren U'.n π v' v):DropTo σ0 v σf v' U':=by
 intro ρ0 w0 ρ w c gG hE hH hv;have hπ:∀ i,i<σ0.n->π i=i:=λi hi=>(h2 i hi).1;have aC:∀ i b',U'.get i=some b'->∃ b,σf.get (π i)=some b/\BRen U'.n π b' b:=λi b' hb=>by
  have hi:=U'.lt hb;rcases zn i σ0.n with ah|bn
  .obtain⟨k1,k2,k3⟩:=h2 i ah;rw[k1];rw[k2] at hb;refine⟨b',hb,?_⟩;rcases k3 with k3|⟨b,k3,k4⟩
   .rw[k3] at hb;obtain⟨p,_,hB⟩:=gG.live i b' hb;exact hB.ren h1 hπ
   .rw[k3] at hb;obtain rfl:=osj hb;exact BRen.plain k4
  .obtain⟨_,b1,b,k1,k2,k3⟩:=h3 i bn hi;rw[k1] at hb;obtain rfl:=osj hb;exact⟨b,k2,k3⟩
 have eo:∀ i j,i<U'.n->j<U'.n->π i=π j->i=j:=λi j hi hj he=>by
  rcases zn i σ0.n with ah|bn<;>rcases zn j σ0.n with cf|ja
  .rw[hπ i ah,hπ j cf] at he;exact he
  .have:=(h3 j ja hj).1;rw[hπ i ah] at he;omega
  .have:=(h3 i bn hi).1;rw[hπ j cf] at he;omega
  .exact h4 i j bn hi ja hj he
 have hX:Ext ρ0 σ0 w0 (λi=>if i<U'.n then ρ (π i) else none) U' w:=by
  refine⟨hE.os,hE.tape,hE.output,hE.size,hE.keep,?_,h1,λi hi p hp=>?_⟩
  .rintro B hB ⟨i,p,b,hp,hb,hw,rfl⟩;change (if i<U'.n then ρ (π i) else none)=some p at hp;split at hp
   .obtain⟨b0,bB,cA⟩:=aC i b hb;exact hE.wr _ hB ⟨π i,p,b0,hp,bB,by rw[<-cA.wr];exact hw,rfl⟩
   .cases hp
  .change (if i<U'.n then ρ (π i) else none)=some p at hp;split at hp
   .rw[hπ i hi] at hp;exact hE.pl i hi p hp
   .cases hp
 refine⟨λi=>if i<U'.n then ρ (π i) else none,h5.rel hv,gG.ext ⟨λi b' hb=>?_,λi hi=>?_,λi p hp=>?_,λi j p q b cq hp hq hb hw hx=>?_⟩ hX,hX⟩
 .obtain⟨b,bB,cA⟩:=aC i b' hb;obtain⟨p,hp,hB⟩:=hH.live _ b bB;exact⟨p,by simp[U'.lt hb,hp],cA.rel hB⟩
 .show (if i<U'.n then ρ (π i) else none)=none;split
  .rename_i ah;rcases zn i σ0.n with cf|bn
   .obtain⟨k1,k2,_⟩:=h2 i cf;rw[k1];exact hH.dead i (by rw[<-k2];exact hi)
   .obtain⟨_,b1,b,k1,_⟩:=h3 i bn ah;rw[k1] at hi;cases hi
  .rfl
 .change (if i<U'.n then ρ (π i) else none)=some p at hp;split at hp
  .exact hH.lt _ p hp
  .cases hp
 .change (if i<U'.n then ρ (π i) else none)=some p at hp;change (if j<U'.n then ρ (π j) else none)=some q at hq;split at hp
  .rename_i hi;split at hq
   .rename_i hj;obtain⟨b0,bB,cA⟩:=aC i b hb;exact hH.sep (π i) (π j) p q b0 (λe=>cq (eo i j hi hj e)) hp hq bB (by rw[<-cA.wr];exact hw) hx
   .cases hq
  .cases hp
def Agree (σ0 σf:Heap):Prop:=∀ i,i<σ0.n->σf.get i=σ0.get i
theorem Agree.refl (U:Heap):Agree U U:=λ_ _=>rfl
theorem Agree.push {σ0 U:Heap}(h:Agree σ0 U) (hn:σ0.n<=U.n) (b:Blk):Agree σ0 (U.push b):=λi hi=>(Heap.q0i U b (by omega)).trans (h i hi)
theorem Agree.trans {σ0 σ1 σ2:Heap}(h:Agree σ0 σ1) (k:Agree σ1 σ2) (hn:σ0.n<=σ1.n):Agree σ0 σ2:=λi hi=>(k i (by omega)).trans (h i hi)
section
variable {P:Program}{S:VSpecs}
def Vs (tmps:Array Value):ResultVar->Sem Value
 |.tmp t=>pure (tmps.getD t undef)
 |.cell a t=>do loadVar t (<-asAddr (tmps.getD a undef))
theorem Tu (fn:Func) (tmps:Array Value):results fn tmps=(do
  let vs <-fn.results.mapM (Vs tmps)
  pure (if h:vs.size=1 then vs[0] else .tuple vs)):=by
 unfold results;congr 1
theorem RK {ρ:Plc}{U:Heap}{w:World}{env:Env}{tmps:Array Value}(hH:HRel ρ U w) (hL:LRel ρ U.n env tmps.toList) {r:ResultVar}{vr:VResult}
  (hc:Jy P r=some vr) {v:Value}(h:Jq env U vr=some v):∃ c,VRel ρ U.n v c/\(Vs tmps r).run P w=.ok c w:=by
 have aj:∀ t,VRel ρ U.n (env.getD t undef) (tmps.getD t undef):=λt=>Wm (a:=⟨tmps,[]⟩) hL (x:=.tmp t) rfl;cases r with
 |tmp t =>simp[Jy] at hc;subst hc;simp only[Jq,x6] at h;subst h;exact⟨_,aj t,rfl⟩
 |cell a t =>
  simp only[Jy] at hc;split at hc
  .rename_i i d hi hu;simp at hc;subst hc;simp only[Jq,zx] at h;obtain⟨p,hp,rfl⟩:=h;simp only[Q6,Q3] at hp;have ha:=aj a;split at hp
   .rename_i g o s h1;rw[h1] at ha;split at hp
    .rename_i c hb;split at hp
     .rename_i ae;split at hp
      .rename_i v0 hv;simp at hp;subst hp;obtain⟨u,cM,hr⟩:=Lr hH hi hu hb ae hv ha;refine⟨u,cM,?_⟩;have:=hr w (Like.refl ρ w);have om:tmps.getD a undef=.pointer (some ⟨g,o,none⟩):=by
        generalize tmps.getD a undef=c at ha;cases ha;rfl
       rw[om] at this;simp only[Instr.loadAt,Instr.sureAddr,zA,xd,zj] at this;simp only[Vs,om,asAddr,zA,xd,zj];exact this
      .cases hp
     .cases hp
    .cases hp
   .rename_i i' o h1;rw[h1] at ha;split at hp
    .rename_i c esz wr tight hb;split at hp
     .rename_i v0 hv;simp at hp;subst hp;obtain⟨u,cM,hr⟩:=CF hH hi hu hb hv ha;refine⟨u,cM,?_⟩;have:=hr w (Like.refl ρ w);obtain⟨ad,om,_⟩:=ha.q1h;rw[om] at this;simp only[Instr.loadAt,Instr.sureAddr,zA,xd,zj] at this;simp only[Vs,om,asAddr,zA,xd,zj];exact this
     .cases hp
    .cases hp
   .cases hp
  .cases hc
theorem LL {α:Type}{ρ:Plc}{n:Nat}(g:α->Sem Value) (w:World) (f:α->Option Value):∀ (l:List α) (vs:List Value),l.mapM f=some vs ->
  (∀ a∈l,∀ v,f a=some v->∃ c,VRel ρ n v c/\(g a).run P w=.ok c w)->∃ cs,LRel ρ n vs cs/\(l.mapM g).run P w=.ok cs w:=by
 intro l;induction l with
 |nil=>intro vs h _;simp at h;subst h;exact⟨[],LRel.nil _ _,rfl⟩
 |cons a l ih =>
  intro vs h hg;rw[xt] at h;cases hf:f a with
  |none=>simp[hf] at h
  |some v =>
   cases hm:l.mapM f with
   |none=>simp[hf,hm] at h
   |some cW =>simp[hf,hm] at h;subst h;obtain⟨c,fZ,iF⟩:=hg a (by simp) v hf;obtain⟨cs,qR,ku⟩:=ih cW hm (λb hb=>hg b (by simp[hb]));refine⟨c::cs,LRel.cons fZ qR,?_⟩;rw[xt];simp[iF,ku]
theorem PN {ρ:Plc}{U:Heap}{w:World}{env:Env}{tmps:Array Value}(hH:HRel ρ U w) (hL:LRel ρ U.n env tmps.toList) {fn:Func}{rs:List VResult}
  (hc:Uk P fn.results.toList=some rs) {v:Value}(h:Zu env U rs=some v):∃ c,VRel ρ U.n v c/\(results fn tmps).run P w=.ok c w:=by
 unfold Uk at hc;have ae:∀ vs,rs.mapM (Jq env U)=some vs->∃ cs,LRel ρ U.n vs cs/\(fn.results.mapM (Vs tmps)).run P w=.ok cs.toArray w:=by
  intro vs cN;have oo:fn.results.toList.mapM (λr=>(Jy P r).bind (Jq env U))=some vs:=by
   have:∀ (l:List ResultVar) (rs:List VResult) (vs:List Value),l.mapM (Jy P)=some rs->rs.mapM (Jq env U)=some vs->l.mapM (λr=>(Jy P r).bind (Jq env U))=some vs:=by
    intro l;induction l with
    |nil=>intro rs vs h1 h2;simp at h1;subst h1;simpa using h2
    |cons r l ih =>
     intro rs vs h1 h2;rw[xt] at h1;cases hg:Jy P r with
     |none=>simp[hg] at h1
     |some x =>
      cases hm:l.mapM (Jy P) with
      |none=>simp[hg,hm] at h1
      |some bp =>
       simp[hg,hm] at h1;subst h1;rw[xt] at h2;cases hx:Jq env U x with
       |none=>simp[hx] at h2
       |some y =>
        cases ij:bp.mapM (Jq env U) with
        |none=>simp[hx,ij] at h2
        |some cW =>simp[hx,ij] at h2;subst h2;rw[xt];simp[hg,hx,ih bp cW hm ij]
   exact this _ _ _ hc cN
  obtain⟨cs,k1,k2⟩:=LL (P:=P) (ρ:=ρ) (n:=U.n) (Vs tmps) w _ _ _ oo (λr _ v hv=>by
   cases hr:Jy P r with
   |none=>rw[hr] at hv;cases hv
   |some vr=>rw[hr] at hv;exact RK hH hL hr hv)
  refine⟨cs,k1,?_⟩;rw[Array.mapM_eq_mapM_toList];simp[k2]
 unfold Zu at h;split at h
 .rename_i r;obtain⟨cs,k1,k2⟩:=ae [v] (by simp[h]);have cg:cs.length=1:=by rw[<-k1.1];rfl
  obtain⟨c,rfl⟩:=x7.1 cg;refine⟨c,k1.2 0 v c rfl rfl,?_⟩;rw[Tu];simp only[zA];rw[k2];simp
 .rename_i aB;simp only[zx] at h;obtain⟨vs,cN,rfl⟩:=h;obtain⟨cs,k1,k2⟩:=ae vs cN;refine⟨.tuple cs.toArray,VRel.q0j k1,?_⟩;have hl:cs.length≠1:=by
   rw[<-k1.1,(Wq _ _ _ cN).1];intro e;obtain⟨r,hr⟩:=x7.1 e;exact aB r hr
  rw[Tu];simp only[zA];rw[k2];simp[hl]
theorem SM {ρ:Plc}{n:Nat}(k:Nat):LRel ρ n (List.replicate k undef) (List.replicate k undef) :=
 ⟨rfl,λi v c hv hc=>by
  obtain rfl:v=c:=osj (hv.symm.trans hc);have:=zH hv;rw[List.mem_replicate] at this;rw[this.2];exact Ju⟩
theorem BU {w:World}{D:Nat}{ds:List Deferred}(h:w.heap[D]?=some (.deferred (some ds))):(Instr.takeDeferred D).run P w=.ok ds (HO w D (.deferred none)):=by simp[Instr.takeDeferred,Qu h (λ_ _ _ e=>by cases e),QL h (λ_ _ _ e=>by cases e)]
theorem Ext.mark {ρ0 ρ:Plc}{σ0 U:Heap}{w0 w:World}(hE:Ext ρ0 σ0 w0 ρ U w) {D:Nat}(hD:w0.heap.size<=D) (O:Obj):Ext ρ0 σ0 w0 ρ U (HO w D O) :=
 ⟨hE.os,hE.tape,hE.output,by rw[GI];exact hE.size,λB hB hW=>(YW w D O B (by omega)).trans (hE.keep B hB hW),hE.wr,hE.n,hE.pl⟩
theorem HRel.mark {ρ:Plc}{U:Heap}{w:World}(hH:HRel ρ U w) {D:Nat}{d:Option (List Deferred)}(hD:w.heap[D]?=some (.deferred d)) (O:Obj):HRel ρ U (HO w D O) :=
 hH.world (by rw[GI];exact zf _) (λi p hp=>YW w D O p.blk (hH.q0m hD i p hp)) λg cs hg=>YW w D O g λe=>by obtain⟨⟨e',f,h1⟩,_⟩:=hH.tab g cs hg;rw[e,hD] at h1;cases h1
theorem SE {fn:Func}{tmps:Array Value}{R:Ending->World->Prop}{ρ0:Plc}{σ0:Heap}{w0:World}{ρ:Plc}{U:Heap}
  (qS:∀ w,HRel ρ U w->Ext ρ0 σ0 w0 ρ U w->∃ v,(results fn tmps).run P w=.ok v w/\R (.returned v) w) :
  ∀ (Ds:List Nat) (w:World),Ds.Nodup->(∀ D∈Ds,w0.heap.size<=D/\w.heap[D]?=some (.deferred (some [])))->HRel ρ U w->Ext ρ0 σ0 w0 ρ U w ->
   LeavesInM Fence.wide 0 P fn tmps R (Ds.map λD=>⟨.collected D,#[]⟩) .returning w:=by
 intro Ds;induction Ds with
 |nil=>intro w _ _ hH hE;exact qS w hH hE
 |cons D Ds ih =>intro w ka ae hH hE;obtain⟨h1,h2⟩:=xr.1 ka;obtain⟨h3,h4⟩:=ae D (by simp);refine⟨by simp,.inl ⟨D,_,rfl,BU h4,ih _ h2 (λE b_=>?_) (hH.mark h4 _) (hE.mark h3 _)⟩⟩;obtain⟨k1,k2⟩:=ae E (by simp[b_]);exact⟨k1,by rw[YW _ _ _ _ (by rintro rfl;exact h1 b_)];exact k2⟩
theorem Bs (hm:P.follows .mixedOrders=true) (hS:OkSpecs P S) {f:FuncId}{fn:Func}{c:Code}{vc:VCode}{rs:List VResult}(hf:P.funcs[f]?=some fn) (hb:fn.body=some c) (hc:comp P c=some vc) (hr:Uk P fn.results.toList=some rs)
  {args:List Value}{U:Heap}{R:Value->Heap->Prop}(h:vwp S vc none (Q9g rs λv σf=>∃ v' U',DropTo U v σf v' U'/\R v' U') (args++List.replicate (fn.ntmps-args.length) undef) U):VCallsTo P f args U R:=by
 intro ρ w aw hH hL;refine callsIn_wide.1 (callsIn_of_wp_marks (n:=0) hf hb trivial (Ag hm hS c vc hc (B:=w.heap.size) none none 0 _ _ U ρ w _ h hH ?_ (Mks.nil (zf _)) (.inl ⟨rfl,rfl⟩) _ ?_) rfl)
 .have hl:args.length=aw.size:=by have:=hL.1;simpa using this
  have:=hL.append (SM (ρ:=ρ) (n:=U.n) (fn.ntmps-args.length));simpa [hl] using this
 .intro e a' w' ⟨af,ρ',U',k1,_,k2,k3,⟨_,Ds,k4,k6,k7⟩,k5⟩;have fin:(QS (Zu af U' rs) λv=>∃ v' aE,DropTo U v U' v' aE/\R v' aE)->LeavesInM Fence.wide 0 P fn a'.tmps (λe w'=>∃ c,e=.returned c/\Got ρ U w R c w') a'.defers .returning w':=by
   intro hk;rw[k4];refine SE (λw1 jx ga=>?_) Ds w' k6 k7 k2 k5;cases hv:Zu af U' rs with
   |none=>rw[hv] at hk;exact hk.elim
   |some v =>rw[hv] at hk;obtain⟨v',aE,hd,hR⟩:=hk;obtain⟨c,fZ,iF⟩:=PN jx k3 hr hv;obtain⟨fc,j1,j2,j3⟩:=hd ρ w ρ' w1 c hH ga jx fZ;exact⟨c,iF,c,rfl,v',fc,aE,hR,j1,j2,j3⟩
  cases e with
  |normal=>exact fin k1
  |ret=>exact fin k1
  |_=>exact k1.elim
end
end Go.V
namespace Go.V
open Go
def Fun (P:Program) (f:FuncId) (vc:VCode) (rs:List VResult) (nt:Nat):Prop :=
 ∃ fn,P.funcs[f]?=some fn/\fn.body.bind (comp P)=some vc/\Uk P fn.results.toList=some rs/\fn.ntmps=nt/\(fn.name=="runtime.NumGoroutine")=false
def Z0o (U:Heap) (rs:List VResult) (R:Value->Heap->Prop):Exit->Env->Heap->Prop:=Q9g rs λv σf=>∃ v' U',DropTo U v σf v' U'/\R v' U'
section
variable {P:Program}{S:VSpecs}{f:FuncId}{vc:VCode}{rs:List VResult}{nt:Nat}
theorem Fun.calls (h:Fun P f vc rs nt) (hm:P.follows .mixedOrders=true) (hS:OkSpecs P S) {args:List Value}{U:Heap}{R:Value->Heap->Prop}
  (hw:vwp S vc none (Z0o U rs R) (args++List.replicate (nt-args.length) undef) U):VCalled P f args U R:=by
 obtain⟨fn,h1,h2,h3,h4,h5⟩:=h;cases hb:fn.body with
 |none=>rw[hb] at h2;cases h2
 |some c =>rw[hb] at h2;exact VCallsTo.called ⟨fn,h1,by rw[hb];rfl,h5⟩ (Bs hm hS h1 hb h2 h3 (by rw[h4];exact hw))
theorem Fun.enterable (h:Fun P f vc rs nt):J8 P f:=by
 obtain⟨fn,h1,h2,h3,h4,h5⟩:=h;refine⟨fn,h1,?_,h5⟩;cases hb:fn.body with
 |none=>rw[hb] at h2;cases h2
 |some c=>rfl
theorem Fun.callsTo (h:Fun P f vc rs nt) (hm:P.follows .mixedOrders=true) (hS:OkSpecs P S) {args:List Value}{U:Heap}{R:Value->Heap->Prop}
  (hw:vwp S vc none (Z0o U rs R) (args++List.replicate (nt-args.length) undef) U):VCallsTo P f args U R:=by
 obtain⟨fn,h1,h2,h3,h4,h5⟩:=h;cases hb:fn.body with
 |none=>rw[hb] at h2;cases h2
 |some c =>rw[hb] at h2;exact Bs hm hS h1 hb h2 h3 (by rw[h4];exact hw)
def Q2 (P:Program):VSpecs where
 fn f:=some λargs U K=>VCalled P f args U K
 yl i:=some λargs U K=>VYields P i args U K
 it f:=@ite _ (J8 P f) (Classical.propDecidable _) (some λi Y args U K=>Ke P i Y->VCallsTo P f args U K) none
theorem GC:OkSpecs P (Q2 P) :=
  ⟨λf s h => by obtain rfl:=osj h; exactλargs U K h => h,
   λf s h => by obtain rfl:=osj h; exactλargs U K h => h,
   λf T h => by
    simp only [Q2] at h;split at h
    . rename_i he; obtain rfl:=osj h; exact ⟨he, λi Y hY args U K h => h hY⟩
    . cases h⟩
end
theorem Se {x:Int}(h:-9223372036854775808<=x/\x<=9223372036854775807):IntKind.i64.wrap x=x:=IntWalk.i64_in x (by omega)
end Go.V
namespace Go.V
open Go
inductive EB where
 |cells (c:List Value) (esz:El) (wr tight:Bool)
 |map (es:List Jx) (clock:Nat) (wr:Bool)
 |iter (m since:Nat) (seen:List Nat) (last:Nat)
 |lp (st:LoopState) (pend:Option Code)
inductive GT (α:Type) where
 |nil
 |node (v:α) (l r:GT α)
def GT.get {α:Type}(d:α) (t:GT α):Nat->α :=
 GT.rec (motive:=λ_=>Nat->α) (λ_=>d)
  (λv _ _ gl gr i=>Bool.rec (motive:=λ_=>α) (Bool.rec (motive:=λ_=>α) (gr (i / 2-1)) (gl (i / 2)) (Nat.beq (i % 2) 1)) v (Nat.beq i 0)) t
def GT.set {α:Type}(d:α) (f:Nat):GT α->Nat->α->GT α :=
 Nat.rec (motive:=λ_=>GT α->Nat->α->GT α) (λt _ _=>t)
  (λ_ ih t i b=>GT.rec (motive:=λ_=>GT α)
   (Bool.rec (motive:=λ_=>GT α) (Bool.rec (motive:=λ_=>GT α) (.node d .nil (ih .nil (i / 2-1) b)) (.node d (ih .nil (i / 2) b) .nil) (Nat.beq (i % 2) 1)) (.node b .nil .nil) (Nat.beq i 0))
   (λv l r _ _=>Bool.rec (motive:=λ_=>GT α) (Bool.rec (motive:=λ_=>GT α) (.node v l (ih r (i / 2-1) b)) (.node v (ih l (i / 2) b) r) (Nat.beq (i % 2) 1)) (.node b l r) (Nat.beq i 0)) t) f
theorem GT.q0z {α:Type}(d v:α) (l r:GT α) (k:Nat):(GT.node v l r).get d k=if k=0 then v else if k % 2=1 then l.get d (k / 2) else r.get d (k / 2-1):=by
 show (Bool.rec (motive:=λ_=>α) (Bool.rec (motive:=λ_=>α) (r.get d (k / 2-1)) (l.get d (k / 2)) (Nat.beq (k % 2) 1)) v (Nat.beq k 0))=_;by_cases h0:k=0
 .subst h0;rfl
 .have:Nat.beq k 0=false:=by
   cases h:Nat.beq k 0 with
   |false=>rfl
   |true=>exact absurd (zN h) h0
  rw[this,zd h0];by_cases h1:k % 2=1
  .rw[z8 h1,h1];rfl
  .have:Nat.beq (k % 2) 1=false:=by
    cases h:Nat.beq (k % 2) 1 with
    |false=>rfl
    |true=>exact absurd (zN h) h1
   rw[this,zd h1]
theorem GT.q2j {α:Type}(d v:α) (f:Nat) (l r:GT α) (i:Nat) (b:α):(GT.node v l r).set d (f+1) i b=if i=0 then .node b l r else if i % 2=1 then .node v (l.set d f (i / 2) b) r else .node v l (r.set d f (i / 2-1) b):=by
 show (Bool.rec (motive:=λ_=>GT α) (Bool.rec (motive:=λ_=>GT α) (.node v l (r.set d f (i / 2-1) b)) (.node v (l.set d f (i / 2) b) r) (Nat.beq (i % 2) 1)) (.node b l r) (Nat.beq i 0))=_;by_cases h0:i=0
 .subst h0;rfl
 .have:Nat.beq i 0=false:=by
   cases h:Nat.beq i 0 with
   |false=>rfl
   |true=>exact absurd (zN h) h0
  rw[this,zd h0];by_cases h1:i % 2=1
  .rw[z8 h1,h1];rfl
  .have:Nat.beq (i % 2) 1=false:=by
    cases h:Nat.beq (i % 2) 1 with
    |false=>rfl
    |true=>exact absurd (zN h) h1
   rw[this,zd h1]
theorem GT.set_nil {α:Type}(d:α) (f i:Nat) (b:α):(GT.nil:GT α).set d (f+1) i b=(GT.node d .nil .nil).set d (f+1) i b:=rfl
theorem GT.q1e {α:Type}(d:α):∀ (f:Nat) (t:GT α) (i:Nat) (b:α) (j:Nat),i+1<2 ^ f->(t.set d f i b).get d j=if j=i then b else t.get d j:=by
 intro f;induction f with
 |zero=>intro t i b j h;simp at h
 |succ f ih =>
  intro t i b j h;have hp:2 ^ (f+1)=2*2 ^ f:=by rw[Nat.pow_succ];omega
  have gZ:∀ v l r,((GT.node v l r).set d (f+1) i b).get d j=if j=i then b else (GT.node v l r).get d j:=by
   intro v l r;rw[GT.q2j];by_cases hi:i=0
   .subst hi;rw[z8 rfl,GT.q0z,GT.q0z];split<;>rfl
   .rw[zd hi];by_cases ho:i % 2=1
    .rw[z8 ho,GT.q0z,GT.q0z,ih _ _ _ _ (by omega)];by_cases jt:j=0
     .subst jt;rw[z8 rfl,zd (Ne.symm hi),z8 rfl]
     .rw[zd jt,zd jt];by_cases jb:j % 2=1
      .rw[z8 jb,z8 jb];by_cases aM:j=i
       .subst aM;simp
       .rw[zd aM,zd (by omega)]
      .rw[zd jb,zd jb,zd (by rintro rfl;exact jb ho)]
    .rw[zd ho,GT.q0z,GT.q0z,ih _ _ _ _ (by omega)];by_cases jt:j=0
     .subst jt;rw[z8 rfl,zd (Ne.symm hi),z8 rfl]
     .rw[zd jt,zd jt];by_cases jb:j % 2=1
      .rw[z8 jb,z8 jb,zd (by rintro rfl;exact ho jb)]
      .rw[zd jb,zd jb];by_cases aM:j=i
       .subst aM;simp
       .rw[zd aM,zd (by omega)]
  cases t with
  |node v l r=>exact gZ v l r
  |nil =>
   rw[GT.set_nil,gZ d .nil .nil,GT.q0z];split
   .rfl
   .split
    .rfl
    .split<;>rfl
structure CH where
 t:GT (Option EB)
 n:Nat
def CH.get (h:CH) (i:Nat):Option EB:=Bool.rec (motive:=λ_=>Option EB) none (h.t.get none i) (Nat.blt i h.n)
def CH.upd (h:CH) (i:Nat) (b:EB):CH:=⟨h.t.set none 32 i (some b),h.n⟩
def CH.kill (h:CH) (i:Nat):CH:=⟨h.t.set none 32 i none,h.n⟩
def CH.push (h:CH) (b:EB):CH:=⟨h.t.set none 32 h.n (some b),h.n+1⟩
def CH.room (h:CH):Bool:=Nat.ble h.n 1000000000
def CH.empty:CH:=⟨.nil,0⟩
theorem CH.q0v {h:CH}{i:Nat}(hi:i<h.n):h.get i=h.t.get none i:=by unfold CH.get;rw[show Nat.blt i h.n=true from Nat.ble_eq_true_of_le hi]
theorem CH.q0u {h:CH}{i:Nat}(hi:h.n<=i):h.get i=none:=by
 unfold CH.get;cases hb:Nat.blt i h.n with
 |false=>rfl
 |true=>have:=zG hb;omega
theorem CH.q2l {h:CH}{i:Nat}{b:EB}(hi:i<h.n) (hs:h.n<=1000000001) (j:Nat):(h.upd i b).get j=if j=i then some b else h.get j:=by
 rcases zn j h.n with hj|hj
 .rw[CH.q0v (h:=h.upd i b) hj,CH.q0v hj];exact GT.q1e none 32 _ _ _ _ (by omega)
 .rw[CH.q0u (h:=h.upd i b) hj,CH.q0u hj,zd (by omega)]
theorem CH.q2h {h:CH}{i:Nat}(hi:i<h.n) (hs:h.n<=1000000001) (j:Nat):(h.kill i).get j=if j=i then none else h.get j:=by
 rcases zn j h.n with hj|hj
 .rw[CH.q0v (h:=h.kill i) hj,CH.q0v hj];exact GT.q1e none 32 _ _ _ _ (by omega)
 .rw[CH.q0u (h:=h.kill i) hj,CH.q0u hj];simp
theorem CH.q1t {h:CH}{b:EB}(hs:h.n<=1000000001) (j:Nat):(h.push b).get j=if j=h.n then some b else h.get j:=by
 rcases zn j (h.n+1) with hj|hj
 .rw[CH.q0v (h:=h.push b) hj];show (h.t.set none 32 h.n (some b)).get none j=_;rw[GT.q1e none 32 _ _ _ _ (by omega)];split
  .rfl
  .rw[CH.q0v (by omega)]
 .rw[CH.q0u (h:=h.push b) hj,CH.q0u (by omega),zd (by omega)]
def EB.to (q:Env×Loop):EB->Blk
 |.cells c e w t=>.cells c e w t
 |.map es cl w=>.obj (.map es cl) w
 |.iter m s sn l=>.obj (.iter m s sn l) true
 |.lp st pend=>.obj (.lp q.1 q.2 st pend) true
structure CSim (rs:Nat->Env×Loop) (h:CH) (U:Heap):Prop where
 n:h.n=U.n
 sm:h.n<=1000000001
 get:∀ i,U.get i=(h.get i).map (EB.to (rs i))
theorem CSim.cells {rs:Nat->Env×Loop}{h:CH}{U:Heap}(hs:CSim rs h U) {i:Nat}{c:List Value}{e:El}{w t:Bool}(hg:h.get i=some (.cells c e w t)):U.get i=some (.cells c e w t):=by rw[hs.get,hg];rfl
theorem CSim.map {rs:Nat->Env×Loop}{h:CH}{U:Heap}(hs:CSim rs h U) {i:Nat}{es:List Jx}{cl:Nat}{w:Bool}(hg:h.get i=some (.map es cl w)):U.get i=some (.obj (.map es cl) w):=by rw[hs.get,hg];rfl
theorem CSim.iter {rs:Nat->Env×Loop}{h:CH}{U:Heap}(hs:CSim rs h U) {i m s:Nat}{sn:List Nat}{l:Nat}(hg:h.get i=some (.iter m s sn l)):U.get i=some (.obj (.iter m s sn l) true):=by rw[hs.get,hg];rfl
theorem CSim.lp {rs:Nat->Env×Loop}{h:CH}{U:Heap}(hs:CSim rs h U) {i:Nat}{st:LoopState}{pend:Option Code}(hg:h.get i=some (.lp st pend)):U.get i=some (.obj (.lp (rs i).1 (rs i).2 st pend) true):=by rw[hs.get,hg];rfl
theorem CSim.lt {rs:Nat->Env×Loop}{h:CH}{U:Heap}(hs:CSim rs h U) {i:Nat}{b:EB}(hg:h.get i=some b):i<h.n:=by
 have:U.get i=some (b.to (rs i)):=by rw[hs.get,hg];rfl
 rw[hs.n];exact U.lt this
theorem CSim.upd {rs:Nat->Env×Loop}{h:CH}{U:Heap}(hs:CSim rs h U) {i:Nat}(hi:i<h.n) {b:EB}{b':Blk}(hb:b.to (rs i)=b'):CSim rs (h.upd i b) (U.upd i b'):=by
 refine⟨hs.n,hs.sm,λj=>?_⟩;rw[CH.q2l hi hs.sm];show (if j=i/\i<U.n then some b' else U.get j)=_;by_cases hj:j=i
 .subst hj;rw[z8 ⟨rfl,by rw[<-hs.n];exact hi⟩,z8 rfl,<-hb];rfl
 .rw[zd (λe=>hj e.1),zd hj];exact hs.get j
theorem CSim.kill {rs:Nat->Env×Loop}{h:CH}{U:Heap}(hs:CSim rs h U) {i:Nat}(hi:i<h.n):CSim rs (h.kill i) (U.kill i):=by
 refine⟨hs.n,hs.sm,λj=>?_⟩;rw[CH.q2h hi hs.sm];show (if j=i then none else U.get j)=_;by_cases hj:j=i
 .rw[z8 hj,z8 hj];rfl
 .rw[zd hj,zd hj];exact hs.get j
theorem CSim.push {rs:Nat->Env×Loop}{h:CH}{U:Heap}(hs:CSim rs h U) (hr:h.room=true) {b:EB}{b':Blk}(hb:b.to (rs h.n)=b'):CSim rs (h.push b) (U.push b'):=by
 have hr:h.n<=1000000000:=zG hr;refine⟨by show h.n+1=U.n+1;rw[hs.n],by show h.n+1<=_;omega,λj=>?_⟩;rw[CH.q1t hs.sm];show (if j=U.n then some b' else U.get j)=_;rw[<-hs.n];by_cases hj:j=h.n
 .subst hj;rw[z8 rfl,z8 rfl,<-hb];rfl
 .rw[zd hj,zd hj];exact hs.get j
theorem CSim.rs {rs bp:Nat->Env×Loop}{h:CH}{U:Heap}(hs:CSim rs h U) (hr:∀ i,i<h.n->bp i=rs i):CSim bp h U :=
 ⟨hs.n,hs.sm,λi=>by
  rw[hs.get];cases hg:h.get i with
  |none=>rfl
  |some b=>rw[hr i (hs.lt hg)]⟩
def CH.sl (U:CH) (esz:Nat):Value->Option (List Value)
 |.slice none 0 0=>some []
 |.slice (some ⟨i,o,none⟩) n _ =>
  match U.get i with
  |some (.cells c e _ _)=>if e.sz=esz/\o+n*esz<=c.length then some ((c.drop o).take (n*esz)) else none
  |_=>none
 |_=>none
def CH.mapAt (U:CH) (m:Nat):Option (List Jx×Nat×Bool):=match U.get m with
 |some (.map es clock wr)=>some (es,clock,wr)
 |_=>none
def UW (U:CH) (b:EB) (v:Value):Option (Value×CH):=if U.room=true then some (v,U.push b) else none
def R6 (esz:El) (bytes:Nat) (U:CH) (s:Value) (m:Nat) (xs:List Value):Option (Value×CH) :=
 match s with
 |.slice none 0 0 =>
  if m=0 then some (s,U) else
  if m*bytes<=2 ^ 46 then UW U (.cells xs esz true false) (.slice (some ⟨U.n,0,none⟩) m m) else none
 |.slice (some ⟨i,o,none⟩) n cap =>
  match U.get i with
  |some (.cells c e wr tight) =>
   if e=esz/\n<=cap/\o+n*esz.sz<=c.length then
    if m=0 then some (s,U) else
    if n+m<=cap then
     (if wr=true/\o+(n+m)*esz.sz<=c.length then some (.slice (some ⟨i,o,none⟩) (n+m) cap,U.upd i (.cells (Yi c (o+n*esz.sz) xs) e wr tight)) else none)
    else if (n+m)*bytes<=2 ^ 46 then
     (if tight then UW U (.cells ((c.drop o).take (n*esz.sz)++xs) esz true false) (.slice (some ⟨U.n,0,none⟩) (n+m) (n+m))
     else if wr then UW (U.kill i) (.cells ((c.drop o).take (n*esz.sz)++xs) esz true false) (.slice (some ⟨U.n,0,none⟩) (n+m) (n+m))
     else none)
    else none
   else none
  |_=>none
 |.slice (some ⟨i,o,some 0⟩) n cap =>
  match U.get i with
  |some (.cells c e _ _) =>
   if e=esz/\n=cap/\o+n*esz.sz<=c.length/\m≠0/\(n+m)*bytes<=2 ^ 46 then
    UW U (.cells ((c.drop o).take (n*esz.sz)++xs) esz true false) (.slice (some ⟨U.n,0,none⟩) (n+m) (n+m))
   else none
  |_=>none
 |_=>none
def CA (size:Nat) (U:CH) (s:Value) (l h:Nat) (m:Option Nat):Option (Value×CH) :=
 match s with
 |.slice none 0 0=>if l=0/\h=0/\(m.getD 0)=0 then some (.slice none 0 0,U) else none
 |.slice (some ⟨i,o,none⟩) _ cap =>
  match U.get i with
  |some (.cells _ e _ t) =>
   match m with
   |none=>if e.sz=size/\l<=h/\h<=cap then some (.slice (some ⟨i,o+l*size,none⟩) (h-l) (cap-l),U) else none
   |some m =>
    if e.sz=size/\l<=h/\h<=m/\m<=cap then
     if m=l then UW U (.cells [] e false true) (.slice (some ⟨U.n,0,none⟩) 0 0)
     else if t=false/\h=m then some (.slice (some ⟨i,o+l*size,some 0⟩) (h-l) (m-l),U)
     else some (.slice (some ⟨i,o+l*size,none⟩) (h-l) (m-l),U)
    else none
  |_=>none
 |_=>none
def Q5h:Nat->Value->Value->CH->Option Bool
 |0,.pointer none,.pointer none,_=>some true
 |0,.pointer none,.pointer (some _),_=>some false
 |0,.pointer (some _),.pointer none,_=>some false
 |0,.pointer (some ⟨i,o,none⟩),.pointer (some ⟨j,q,none⟩),U=>if i=j/\o=q/\(U.get i).isSome=true then some true else none
 |1,.slice none _ _,.slice none _ _,_=>some true
 |1,.slice none _ _,.slice (some _) _ _,_=>some false
 |1,.slice (some _) _ _,.slice none _ _,_=>some false
 |2,.map none,.map none,_=>some true
 |2,.map none,.map (some _),_=>some false
 |2,.map (some _),.map none,_=>some false
 |3,.nilFunc,.nilFunc,_=>some true
 |3,.nilFunc,.func _ _ _,_=>some false
 |3,.func _ _ _,.nilFunc,_=>some false
 |_,_,_,_=>none
def XS (o:XOp) (ev:Operand->Value) (U:CH):Option (Value×CH) :=
 match o with
 |.eqAgg neg s x y=>match ev x,ev y with
  |.agg a,.agg b=>if fits s a.toList=true/\fits s b.toList=true then some (.bool (if neg then !(Ql a.toList b.toList) else Ql a.toList b.toList),U) else none
  |_,_=>none
 |.eqNil kd neg x y=>match Q5h kd (ev x) (ev y) U with|some b=>some (.bool (if neg then !b else b),U)|none=>none
 |.makeMap=>UW U (.map [] 0 true) (.map (some U.n))
 |.lookup mk z ok x i =>
  let k:=ev i
  if Zm mk k then
   match ev x with
   |.map none=>some (if ok then .tuple #[z,.bool false] else z,U)
   |.map (some m)=>match U.mapAt m with
    |some (es,_,_)=>if es.all (λe=>Zm mk e.1) then
      (match Qg k es with
      |some e=>some (if ok then .tuple #[e.2.1,.bool true] else e.2.1,U)
      |none=>some (if ok then .tuple #[z,.bool false] else z,U)) else none
    |none=>none
   |_=>none
  else none
 |.mapUpdate mk m k v=>match ev m with
  |.map (some i)=>match U.mapAt i with
   |some (es,clock,true)=>if Zm mk (ev k)&&es.all (λe=>Zm mk e.1) then some (undef,U.upd i (.map (Qs (ev k) (ev v) clock es).1 (Qs (ev k) (ev v) clock es).2 true)) else none
   |_=>none
  |_=>none
 |.delete mk m k=>match ev m with
  |.map (some i)=>match U.mapAt i with
   |some (es,clock,true)=>if Zm mk (ev k)&&es.all (λe=>Zm mk e.1) then some (.tuple #[],U.upd i (.map (Br (ev k) es) clock true)) else none
   |_=>none
  |_=>none
 |.lenMap x=>match ev x with
  |.map none=>some (.int .i64 0,U)
  |.map (some m)=>match U.mapAt m with
   |some (es,_,_)=>some (.int .i64 es.length,U)
   |none=>none
  |_=>none
 |.rangeMap x=>match ev x with
  |.map (some m)=>match U.mapAt m with
   |some (_,clock,_)=>UW U (.iter m clock [] clock) (.pointer (some ⟨U.n,0,none⟩))
   |none=>none
  |_=>none
 |.entry x=>match ev x with
  |.pointer (some ⟨i,0,none⟩)=>match U.get i with
   |some (.iter m _ seen last)=>match U.mapAt m,seen.getLast? with
    |some (es,clock,_),some b=>if clock=last then (match es.find? (λe=>e.2.2==b) with|some e=>if Vi e.1 then some (.tuple #[e.1,e.2.1],U) else none|none=>none) else none
    |_,_=>none
   |_=>none
  |_=>none
 |.copy size d s=>match ev d,ev s with
  |.slice db dn _,.slice sb sn sc =>
   if min sn dn=0 then some (.int .i64 0,U) else
   match db,U.sl size (.slice sb (min sn dn) sc) with
   |some ⟨i,o,none⟩,some xs=>match U.get i with
    |some (.cells c e wr tight)=>if wr=true/\e.sz=size/\o+xs.length<=c.length/\xs.all cellOk=true then some (.int .i64 (min sn dn:Nat),U.upd i (.cells (Yi c o xs) e wr tight)) else none
    |_=>none
   |_,_=>none
  |_,_=>none
 |.clear z x=>match ev x with
  |.slice b n _ =>
   if n=0 then some (.tuple #[],U) else
   match b with
   |some ⟨i,o,none⟩=>match U.get i with
    |some (.cells c e wr tight)=>if wr=true/\o+n*z.length<=c.length/\z.all cellOk=true then some (.tuple #[],U.upd i (.cells (Yi c o (Hg n z)) e wr tight)) else none
    |_=>none
   |_=>none
  |_=>none
 |.toUnsafe x=>match ev x with
  |.pointer none=>some (.pointer none,U)
  |.pointer (some ⟨i,o,none⟩)=>match U.get i with
   |some (.cells c _ _ _)=>if o<c.length then some (.pointer (some ⟨i,o,none⟩),U) else none
   |_=>none
  |_=>none
 |.fromUnsafe u size x=>match ev x with
  |.pointer none=>some (.pointer none,U)
  |.pointer (some ⟨i,o,none⟩)=>match U.get i with
   |some (.cells c e true true)=>if o=0/\e.ty=u/\size<=c.length then some (.pointer (some ⟨i,o,none⟩),U) else none
   |_=>none
  |_=>none
 |.sliceData x=>match ev x with
  |.slice none _ _=>some (.pointer none,U)
  |.slice (some ⟨i,o,none⟩) _ cap=>if cap≠0/\(U.get i).isSome=true then some (.pointer (some ⟨i,o,none⟩),U) else none
  |_=>none
 |.unsafeStr e x n=>match ev x,ev n with
  |.pointer p,.int .i64 k =>
   if k=0 then some (.string ⟨#[]⟩,U) else
   match p with
   |some ⟨i,o,none⟩=>match U.get i with
    |some (.cells c el true tight) =>
     if 0<k/\k<=2 ^ 62/\el.ty=e/\o+k.toNat<=c.length then
      (match BA ((c.drop o).take k.toNat) with
      |some s=>some (.string s,U.upd i (.cells c el false tight))
      |none=>none) else none
    |_=>none
   |_=>none
  |_,_=>none
 |.bytesStr x=>match ev x with
  |.slice a n c=>match U.sl 1 (.slice a n c) with
   |some xs=>match BA xs with|some s=>some (.string s,U)|none=>none
   |none=>none
  |_=>none
 |.strBytes e x=>match ev x with
  |.string s=>if s.size<=2 ^ 62 then UW U (.cells (s.data.toList.map λb=>.int .u8 b.toNat) ⟨1,e⟩ true false) (.slice (some ⟨U.n,0,none⟩) s.size s.size) else none
  |_=>none
 |_=>none
def Heap.empty:Heap:=⟨λ_=>none,0,λ_ _=>rfl⟩
def IV (o:VOp) (ev:Operand->Value) (U:CH):Option (Value×CH) :=
 match o with
 |.alloc t z=>UW U (.cells z ⟨z.length,t⟩ true true) (.pointer (some ⟨U.n,0,none⟩))
 |.box t x=>match Ka (ev x) with
  |some vs=>UW U (.cells vs ⟨vs.length,t⟩ true true) (.pointer (some ⟨U.n,0,none⟩))
  |none=>none
 |.buildSlice esz z len parts=>match NT (Hg len z) (parts.map λp=>(p.1*esz.sz,esz.sz,ev p.2)) with
  |some cs=>UW U (.cells cs esz true true) (.slice (some ⟨U.n,0,none⟩) len len)
  |none=>none
 |.load agg size a=>match ev a with
  |.pointer (some ⟨g,o,some _⟩)=>(match Q0a g with
   |some c=>if c.all QK then (match Xb agg size c o with|some v=>some (v,U)|none=>none) else none
   |none=>none)
  |.pointer (some ⟨i,o,none⟩)=>match U.get i with
   |some (.cells c _ _ _)=>match Xb agg size c o with|some v=>some (v,U)|none=>none
   |_=>none
  |_=>none
 |.store size a v=>match ev a,Ka (ev v) with
  |.pointer (some ⟨i,o,none⟩),some vs=>match U.get i with
   |some (.cells c e wr tight)=>if wr=true/\vs.length=size/\o+size<=c.length/\vs.all cellOk=true then some (undef,U.upd i (.cells (Yi c o vs) e wr tight)) else none
   |_=>none
  |_,_=>none
 |.slice size x lo hi mx =>
  match ev x with
  |.slice a n cap =>
   match Z_ ev lo 0,Z_ ev hi n,mx with
   |some l,some h,none=>CA size U (.slice a n cap) l h none
   |some l,some h,some _=>match Z_ ev mx 0,hi with
    |some m,some _=>CA size U (.slice a n cap) l h (some m)
    |_,_=>none
   |_,_,_=>none
  |_=>none
 |.makeSlice esz bytes z l c =>
  match ev l,ev c with
  |.int _ a,.int _ b=>if 0<=a/\a<=b/\b*bytes<=2 ^ 46/\b<=2 ^ 46 then UW U (.cells (Hg b.toNat z) esz true true) (.slice (some ⟨U.n,0,none⟩) a.toNat b.toNat) else none
  |_,_=>none
 |.append esz bytes s x =>
  match U.sl esz.sz (ev x),ev x with
  |some xs,.slice _ m _=>if xs.all cellOk then R6 esz bytes U (ev s) m xs else none
  |_,_=>none
 |.ext o=>XS o ev U
 |o=>if o.kind=0 then (match Q6 o ev Heap.empty with|some p=>some (p.1,U)|none=>none) else none
def ESnd (rs:Nat->Env×Loop) (h:CH) (_σ:Heap) (r:Option (Value×Heap)) (p:Value×CH):Prop:=h.n<=p.2.n/\∃ U',r=some (p.1,U')/\CSim rs p.2 U'
theorem ESnd.same {rs:Nat->Env×Loop}{h:CH}{U:Heap}(hs:CSim rs h U) {r:Option (Value×Heap)}{v:Value}(hr:r=some (v,U)):ESnd rs h U r (v,h):=⟨zf _,U,hr,hs⟩
theorem ESnd.upd {rs:Nat->Env×Loop}{h:CH}{U:Heap}(hs:CSim rs h U) {r:Option (Value×Heap)}{v:Value}{i:Nat}{b:EB}{b0:EB}(hg:h.get i=some b0) {b':Blk}(hb:b.to (rs i)=b') (hr:r=some (v,U.upd i b')):ESnd rs h U r (v,h.upd i b):=by have hi:=hs.lt hg;have ng:=hs.sm;exact⟨zf _,_,hr,hs.upd hi hb⟩
theorem ESnd.push {rs:Nat->Env×Loop}{h:CH}{U:Heap}(hs:CSim rs h U) {r:Option (Value×Heap)}{v:Value}{p:Value×CH}{b:EB}(hp:UW h b v=some p) {b':Blk}(hb:b.to (rs h.n)=b') (hr:r=some (v,U.push b')):ESnd rs h U r p:=by
 unfold UW at hp;split at hp
 .rename_i aY;obtain rfl:=osj hp;have ng:=hs.sm;exact⟨Nat.le_succ _,_,hr,hs.push aY hb⟩
 .cases hp
theorem CSim.sl {rs:Nat->Env×Loop}{h:CH}{U:Heap}(hs:CSim rs h U) {esz:Nat}{v:Value}{xs:List Value}(hx:h.sl esz v=some xs):U.sl esz v=some xs:=by
 unfold CH.sl at hx;unfold Heap.sl;split at hx
 .exact hx
 .rename_i i o n c;split at hx
  .rename_i cs e wr t hb;simp only[hs.cells hb];exact hx
  .cases hx
 .cases hx
theorem CSim.mapAt {rs:Nat->Env×Loop}{h:CH}{U:Heap}(hs:CSim rs h U) {m:Nat}{x:List Jx×Nat×Bool}(hx:h.mapAt m=some x):U.mapAt m=some x/\h.get m=some (.map x.1 x.2.1 x.2.2):=by
 unfold CH.mapAt at hx;unfold Heap.mapAt;split at hx
 .rename_i es clock wr hb;obtain rfl:=osj hx;exact⟨by simp only[hs.map hb],hb⟩
 .cases hx
theorem LG {rs:Nat->Env×Loop}{h:CH}{U:Heap}(hs:CSim rs h U) {kd:Nat}{a b:Value}{r:Bool}(hx:Q5h kd a b h=some r):Jb kd a b U=some r:=by
 unfold Q5h at hx;unfold Jb
 split at hx<;>first
  |exact hx
  |(cases hx;done)
  |skip
 rename_i i o j q;split at hx
 .rename_i hc;obtain⟨h1,h2,h3⟩:=hc;have cL:i=j/\o=q/\(U.get i).isSome=true:=⟨h1,h2,by rw[hs.get];simpa using h3⟩;simp only[z8 cL];exact hx
 .cases hx
theorem RZ {rs:Nat->Env×Loop}{h:CH}{U:Heap}(hs:CSim rs h U) {esz:El}{bytes:Nat}{s:Value}{m:Nat}{xs:List Value}{p:Value×CH}(hx:R6 esz bytes h s m xs=some p):ESnd rs h U (Yt esz bytes U s m xs) p:=by
 unfold R6 at hx;unfold Yt;split at hx
 .split at hx
  .rename_i hm;simp only[z8 hm];obtain rfl:=osj hx;exact .same hs rfl
  .rename_i hm;simp only[zd hm];split at hx
   .rename_i hb;simp only[z8 hb];rw[hs.n] at hx;exact .push hs hx rfl rfl
   .cases hx
 .rename_i i o n cap;split at hx
  .rename_i c e wr tight hg;have ng:=hs.sm;have hi:=hs.lt hg;simp only[hs.cells hg];split at hx
   .rename_i h1;simp only[z8 h1];split at hx
    .rename_i h2;simp only[z8 h2];obtain rfl:=osj hx;exact .same hs rfl
    .rename_i h2;simp only[zd h2];split at hx
     .rename_i h3;simp only[z8 h3];split at hx
      .rename_i h4;simp only[z8 h4];obtain rfl:=osj hx;exact .upd hs hg rfl rfl
      .cases hx
     .rename_i h3;simp only[zd h3];split at hx
      .rename_i h4;simp only[z8 h4];split at hx
       .rename_i h5;simp only[z8 h5];rw[hs.n] at hx;exact .push hs hx rfl rfl
       .rename_i h5;simp only[zd h5];split at hx
        .rename_i h6;simp only[z8 h6];rw[hs.n] at hx;have hk:=hs.kill hi;obtain⟨k1,U',k2,k3⟩:=ESnd.push (r:=some (.slice (some ⟨U.n,0,none⟩) (n+m) (n+m),(U.kill i).push (.cells ((c.drop o).take (n*esz.sz)++xs) esz true false))) hk hx rfl rfl;exact⟨k1,U',k2,k3⟩
        .cases hx
      .cases hx
   .cases hx
  .cases hx
 .rename_i i o n cap;split at hx
  .rename_i c e wr tight hg;simp only[hs.cells hg];split at hx
   .rename_i h1;simp only[z8 h1];rw[hs.n] at hx;exact .push hs hx rfl rfl
   .cases hx
  .cases hx
 .cases hx
theorem Bp {rs:Nat->Env×Loop}{h:CH}{U:Heap}(hs:CSim rs h U) {size:Nat}{s:Value}{l k:Nat}{m:Option Nat}{p:Value×CH}(hx:CA size h s l k m=some p):ESnd rs h U (Wv size U s l k m) p:=by
 unfold CA at hx;unfold Wv;split at hx
 .split at hx
  .rename_i hm;simp only[z8 hm];obtain rfl:=osj hx;exact .same hs rfl
  .cases hx
 .rename_i i o n cap;split at hx
  .rename_i c e wr tight hg;simp only[hs.cells hg];split at hx
   .split at hx
    .rename_i h1;simp only[z8 h1];obtain rfl:=osj hx;exact .same hs rfl
    .cases hx
   .split at hx
    .rename_i h1;simp only[z8 h1];split at hx
     .rename_i h2;simp only[z8 h2];rw[hs.n] at hx;exact .push hs hx rfl rfl
     .rename_i h2;simp only[zd h2];split at hx
      .rename_i h3;simp only[z8 h3];obtain rfl:=osj hx;exact .same hs rfl
      .rename_i h3;simp only[zd h3];obtain rfl:=osj hx;exact .same hs rfl
    .cases hx
  .cases hx
 .cases hx
theorem P4 {rs:Nat->Env×Loop}{h:CH}{U:Heap}(hs:CSim rs h U) {o:XOp}{ev:Operand->Value}{p:Value×CH}(hx:XS o ev h=some p):ESnd rs h U (Zc o ev U) p:=by
 cases o
 case eqAgg neg s x y =>
  simp only[XS] at hx;simp only[Zc];split at hx
  .rename_i a b ha hb;split at hx
   .rename_i hc;rw[ha,hb];simp only;rw[z8 hc];obtain rfl:=osj hx;exact .same hs rfl
   .cases hx
  .cases hx
 case eqNil kd neg x y =>
  simp only[XS] at hx;simp only[Zc];split at hx
  .rename_i b hb;rw[LG hs hb];obtain rfl:=osj hx;exact .same hs rfl
  .cases hx
 case makeMap =>
  simp only[XS] at hx;simp only[Zc];rw[hs.n] at hx;exact .push hs hx rfl rfl
 case lookup mk z ok x i =>
  simp only[XS] at hx;simp only[Zc];generalize ev x=q0 at hx |-;generalize ev i=q1 at hx |-;split at hx
  .rename_i hk;simp only[z8 hk];split at hx
   .obtain rfl:=osj hx;exact .same hs rfl
   .rename_i m hm;split at hx
    .rename_i es cl wr iq;obtain⟨k1,k2⟩:=hs.mapAt iq;simp only[k1];split at hx
     .rename_i ae;simp only[z8 ae];split at hx
      .rename_i e hf;simp only[hf];obtain rfl:=osj hx;exact .same hs rfl
      .rename_i hf;simp only[hf];obtain rfl:=osj hx;exact .same hs rfl
     .cases hx
    .cases hx
   .cases hx
  .cases hx
 case mapUpdate mk m k v =>
  simp only[XS] at hx;simp only[Zc];generalize ev m=q0 at hx |-;split at hx
  .rename_i i hi;split at hx
   .rename_i es cl iq;obtain⟨k1,k2⟩:=hs.mapAt iq;simp only[k1];split at hx
    .rename_i hc;simp only[z8 hc];obtain rfl:=osj hx;exact .upd hs k2 rfl rfl
    .cases hx
   .cases hx
  .cases hx
 case delete mk m k =>
  simp only[XS] at hx;simp only[Zc];generalize ev m=q0 at hx |-;split at hx
  .rename_i i hi;split at hx
   .rename_i es cl iq;obtain⟨k1,k2⟩:=hs.mapAt iq;simp only[k1];split at hx
    .rename_i hc;simp only[z8 hc];obtain rfl:=osj hx;exact .upd hs k2 rfl rfl
    .cases hx
   .cases hx
  .cases hx
 case mapEntry=>cases hx
 case entryStore=>cases hx
 case lenMap x =>
  simp only[XS] at hx;simp only[Zc];generalize ev x=q0 at hx |-;split at hx
  .obtain rfl:=osj hx;exact .same hs rfl
  .split at hx
   .rename_i es cl wr iq;obtain⟨k1,k2⟩:=hs.mapAt iq;simp only[k1];obtain rfl:=osj hx;exact .same hs rfl
   .cases hx
  .cases hx
 case rangeMap x =>
  simp only[XS] at hx;simp only[Zc];generalize ev x=q0 at hx |-;split at hx
  .split at hx
   .rename_i es cl wr iq;obtain⟨k1,k2⟩:=hs.mapAt iq;simp only[k1];rw[hs.n] at hx;exact .push hs hx rfl rfl
   .cases hx
  .cases hx
 case nextMap=>cases hx
 case entry x =>
  simp only[XS] at hx;simp only[Zc];generalize ev x=q0 at hx |-;split at hx
  .split at hx
   .rename_i m since seen last hg;simp only[hs.iter hg];split at hx
    .rename_i es clock wr b iq dY;obtain⟨k1,_⟩:=hs.mapAt iq;simp only[k1,dY];split at hx
     .rename_i hc;rw[z8 hc];split at hx
      .rename_i e hf;split at hx
       .rename_i hp;rw[hf];simp only[hp,zB];obtain rfl:=osj hx;exact .same hs rfl
       .cases hx
      .cases hx
     .cases hx
    .cases hx
   .cases hx
  .cases hx
 case copy size d s =>
  simp only[XS] at hx;simp only[Zc];generalize ev d=q0 at hx |-;generalize ev s=q1 at hx |-;split at hx
  .rename_i db dn dc sb sn sc h1 h2;split at hx
   .rename_i hm;simp only[z8 hm];obtain rfl:=osj hx;exact .same hs rfl
   .rename_i hm;simp only[zd hm];split at hx
    .rename_i i o xs bu;simp only[hs.sl bu];split at hx
     .rename_i c e wr tight hg;simp only[hs.cells hg];split at hx
      .rename_i hc;simp only[z8 hc];obtain rfl:=osj hx;exact .upd hs hg rfl rfl
      .cases hx
     .cases hx
    .cases hx
  .cases hx
 case clear z x =>
  simp only[XS] at hx;simp only[Zc];generalize ev x=q0 at hx |-;split at hx
  .rename_i b n cap;split at hx
   .rename_i hm;simp only[z8 hm];obtain rfl:=osj hx;exact .same hs rfl
   .rename_i hm;simp only[zd hm];split at hx
    .rename_i i o;split at hx
     .rename_i c e wr tight hg;simp only[hs.cells hg];split at hx
      .rename_i hc;simp only[z8 hc];obtain rfl:=osj hx;exact .upd hs hg rfl rfl
      .cases hx
     .cases hx
    .cases hx
  .cases hx
 case toUnsafe x =>
  simp only[XS] at hx;simp only[Zc];generalize ev x=q0 at hx |-;split at hx
  .obtain rfl:=osj hx;exact .same hs rfl
  .split at hx
   .rename_i c e wr tight hg;simp only[hs.cells hg];split at hx
    .rename_i hc;simp only[z8 hc];obtain rfl:=osj hx;exact .same hs rfl
    .cases hx
   .cases hx
  .cases hx
 case fromUnsafe u size x =>
  simp only[XS] at hx;simp only[Zc];generalize ev x=q0 at hx |-;split at hx
  .obtain rfl:=osj hx;exact .same hs rfl
  .split at hx
   .rename_i c e hg;simp only[hs.cells hg];split at hx
    .rename_i hc;simp only[z8 hc];obtain rfl:=osj hx;exact .same hs rfl
    .cases hx
   .cases hx
  .cases hx
 case sliceData x =>
  simp only[XS] at hx;simp only[Zc];generalize ev x=q0 at hx |-;split at hx
  .obtain rfl:=osj hx;exact .same hs rfl
  .rename_i i o n cap;split at hx
   .rename_i hc;simp only[z8 (show cap≠0/\(U.get i).isSome=true from ⟨hc.1,by rw[hs.get];simpa using hc.2⟩)];obtain rfl:=osj hx;exact .same hs rfl
   .cases hx
  .cases hx
 case unsafeStr e x n =>
  simp only[XS] at hx;simp only[Zc];generalize ev x=q0 at hx |-;generalize ev n=q1 at hx |-;split at hx
  .rename_i q k h1 h2;split at hx
   .rename_i hk;simp only[z8 hk];obtain rfl:=osj hx;exact .same hs rfl
   .rename_i hk;simp only[zd hk];split at hx
    .rename_i i o;split at hx
     .rename_i c el tight hg;simp only[hs.cells hg];split at hx
      .rename_i hc;simp only[z8 hc];split at hx
       .rename_i u hu;simp only[hu];obtain rfl:=osj hx;exact .upd hs hg rfl rfl
       .cases hx
      .cases hx
     .cases hx
    .cases hx
  .cases hx
 case bytesStr x =>
  simp only[XS] at hx;simp only[Zc];generalize ev x=q0 at hx |-;split at hx
  .split at hx
   .rename_i xs bu;simp only[hs.sl bu];split at hx
    .rename_i u hu;simp only[hu];obtain rfl:=osj hx;exact .same hs rfl
    .cases hx
   .cases hx
  .cases hx
 case strBytes e x =>
  simp only[XS] at hx;simp only[Zc];generalize ev x=q0 at hx |-;split at hx
  .split at hx
   .rename_i h1;simp only[z8 h1];rw[hs.n] at hx;exact .push hs hx rfl rfl
   .cases hx
  .cases hx
theorem EZ {rs:Nat->Env×Loop}{h:CH}{U:Heap}(hs:CSim rs h U) {o:VOp}{ev:Operand->Value}{p:Value×CH}
  (hx:(if o.kind=0 then (match Q6 o ev Heap.empty with|some p=>some (p.1,h)|none=>none) else none)=some p):ESnd rs h U (Q6 o ev U) p:=by
 split at hx
 .rename_i hk;split at hx
  .rename_i q hq;obtain rfl:=osj hx;exact .same hs (PI hk (v:=q.1) (σ1:=q.2) hq)
  .cases hx
 .cases hx
theorem WW {rs:Nat->Env×Loop}{h:CH}{U:Heap}(hs:CSim rs h U) {o:VOp}{ev:Operand->Value}{p:Value×CH}(hx:IV o ev h=some p):ESnd rs h U (Q6 o ev U) p:=by
 cases o
 case alloc t z =>
  simp only[IV] at hx;simp only[Q6];rw[hs.n] at hx;exact .push hs hx rfl rfl
 case box t x =>
  simp only[IV] at hx;simp only[Q6];generalize Ka (ev x)=q0 at hx |-;split at hx
  .rw[hs.n] at hx;exact .push hs hx rfl rfl
  .cases hx
 case buildSlice esz z len parts =>
  simp only[IV] at hx;simp only[Q6];generalize NT (Hg len z) (parts.map λp=>(p.1*esz.sz,esz.sz,ev p.2))=q0 at hx |-;split at hx
  .rw[hs.n] at hx;exact .push hs hx rfl rfl
  .cases hx
 case load agg size a =>
  simp only[IV] at hx;simp only[Q6];generalize ev a=q0 at hx |-;split at hx
  .split at hx
   .rename_i c hg;split at hx
    .rename_i ae;simp only[hg,z8 ae];split at hx
     .rename_i u hu;simp only[hu];obtain rfl:=osj hx;exact .same hs rfl
     .cases hx
    .cases hx
   .cases hx
  .split at hx
   .rename_i c e wr tight hg;simp only[hs.cells hg];split at hx
    .rename_i u hu;simp only[hu];obtain rfl:=osj hx;exact .same hs rfl
    .cases hx
   .cases hx
  .cases hx
 case store size a v =>
  simp only[IV] at hx;simp only[Q6];generalize Ka (ev v)=q0 at hx |-;generalize ev a=q1 at hx |-;split at hx
  .rename_i i o vs h1 h2;split at hx
   .rename_i c e wr tight hg;simp only[hs.cells hg];split at hx
    .rename_i hc;simp only[z8 hc];obtain rfl:=osj hx;exact .upd hs hg rfl rfl
    .cases hx
   .cases hx
  .cases hx
 case slice size x lo hi mx =>
  simp only[IV] at hx;simp only[Q6];generalize ev x=q0 at hx |-;split at hx
  .rename_i a n cap;dsimp only;generalize Z_ ev lo 0=q1 at hx |-;generalize Z_ ev hi n=q2 at hx |-;split at hx
   .exact Bp hs hx
   .rename_i l k m;dsimp only;generalize Z_ ev (some m) 0=q3 at hx |-;split at hx
    .exact Bp hs hx
    .cases hx
   .cases hx
  .cases hx
 case makeSlice esz bytes z l c =>
  simp only[IV] at hx;simp only[Q6];generalize ev l=q0 at hx |-;generalize ev c=q1 at hx |-;split at hx
  .split at hx
   .rename_i hc;simp only[z8 hc];rw[hs.n] at hx;exact .push hs hx rfl rfl
   .cases hx
  .cases hx
 case append esz bytes s x =>
  simp only[IV] at hx;simp only[Q6];generalize ev x=q0 at hx |-;split at hx
  .rename_i bu;simp only[hs.sl bu];split at hx
   .rename_i hc;simp only[z8 hc];exact RZ hs hx
   .cases hx
  .cases hx
 case ext o=>exact P4 hs hx
 all_goals exact EZ hs hx
def E1 (k:IntKind) (n:Int):Int:=match n with
 |.ofNat x=>match Nat.ble x 127 with
  |true=>.ofNat x
  |false=>k.wrap (.ofNat x)
 |.negSucc x=>k.wrap (.negSucc x)
theorem CG (k:IntKind) (n:Int):E1 k n=k.wrap n:=by
 cases n with
 |negSucc x=>rfl
 |ofNat x =>
  simp only[E1];split
  .rename_i h;have hx:x<=127:=zG h;show (x:Int)=k.wrap (x:Int);cases k<;>simp[IntKind.wrap,IntKind.bits,IntKind.signed]<;>omega
  .rfl
def Q95 (c a b:Value):Option Value:=match c with|.bool t=>some (if t then a else b)|_=>none
def Q35 (op:BinOp) (x y:Value):Option Value:=match x,y with|.int k a,.int k' b=>if k=k' then some (.int k (match op with|.add=>E1 k (a+b)|.sub=>E1 k (a-b)|_=>E1 k (a*b))) else none|_,_=>none
def Z3y (op:BinOp) (x y:Value):Option Value:=match x,y with|.int k a,.int k' b=>if k=k'/\b≠0 then some (.int k (Q60 op k a b)) else none|_,_=>none
def Q6r (op:BinOp) (x y:Value):Option Value:=match x,y with|.int k a,.int k' b=>if k=k' then some (.int k (Q7 op k a b)) else none|_,_=>none
def Q2k (op:BinOp) (x y:Value):Option Value:=match x,y with|.int k a,.int _ b=>if 0<=b then some (.int k (TB op k a b)) else none|_,_=>none
def Z3t (op:BinOp) (x y:Value):Option Value:=match x,y with|.int k a,.int k' b=>if k=k' then some (.bool (Z0q op a b)) else none|_,_=>none
def Z3x (op:BinOp) (x y:Value):Option Value:=match x,y with
  |.string a,.string b=>match op with
   |.add=>if a.size+b.size<=2 ^ 62 then some (.string (a++b)) else none
   |.eql=>some (.bool (a.data.toList==b.data.toList))
   |.neq=>some (.bool (!(a.data.toList==b.data.toList)))
   |.lss=>some (.bool (Op.bytesLess a.data.toList b.data.toList))
   |_=>none
  |_,_=>none
def Z4h (neg:Bool) (x y:Value):Option Value:=match x,y with|.bool a,.bool b=>some (.bool (if neg then !(a==b) else (a==b)))|_,_=>none
def pUn (op:UnOp) (x:Value):Option Value:=match op,x with
  |.not,.bool b=>some (.bool (!b))
  |.neg,.int k n=>some (.int k (k.wrap (0-n)))
  |.xor,.int k n=>some (.int k (Q7 .xor k (if k.signed then -1 else k.max) n))
  |_,_=>none
def Q19 (k:IntKind) (x:Value):Option Value:=match x with|.int _ n=>some (.int k (E1 k n))|_=>none
def Q0z (x:Value):Option Value:=match x with|.string s=>some (.string s)|_=>none
def Q2e (z:List Value) (l:List (Nat×Nat×Value)):Option Value:=match NT z l with|some cs=>some (.agg cs.toArray)|none=>none
def Tj (off:Nat) (a:Value):Option Value:=match a with
  |.pointer (some ⟨i,o,none⟩)=>some (.pointer (some ⟨i,o+off,none⟩))
  |_=>none
def Q1s (agg:Bool) (off size:Nat) (x:Value):Option Value:=match x with
  |.agg cs=>Xb agg size cs.toList off
  |_=>none
def Tv (size:Nat) (x i:Value):Option Value:=match x,i with
  |.slice (some ⟨b,o,none⟩) n _,.int _ k=>if 0<=k/\k<n then some (.pointer (some ⟨b,o+k.toNat*size,none⟩)) else none
  |_,_=>none
def Gv (len size:Nat) (x i:Value):Option Value:=match x,i with
  |.pointer (some ⟨g,o,some s⟩),.int _ k=>if 0<=k/\k<len then some (.pointer (some ⟨g,o+k.toNat*size,some s⟩)) else none
  |.pointer (some ⟨b,o,none⟩),.int _ k=>if 0<=k/\k<len then some (.pointer (some ⟨b,o+k.toNat*size,none⟩)) else none
  |_,_=>none
def Sz (x i:Value):Option Value:=match x,i with
  |.string s,.int _ k=>if 0<=k then (match s.data.toList[k.toNat]? with|some b=>some (.int .u8 b.toNat)|none=>none) else none
  |_,_=>none
def L4 (len:Nat) (agg:Bool) (size:Nat) (x i:Value):Option Value:=match x,i with
  |.agg cs,.int _ k=>if 0<=k/\k<len then Xb agg size cs.toList (k.toNat*size) else none
  |_,_=>none
def SS (ev:Operand->Value) (x:Value) (lo hi:Option Operand):Option Value:=match x with
  |.string s =>
   match Z_ ev lo 0,Z_ ev hi s.size with
   |some l,some h=>if l<=h/\h<=s.size then some (.string (s.extract l h)) else none
   |_,_=>none
  |_=>none
def Z40 (x:Value):Option Value:=match x with|.slice _ n _=>some (.int .i64 n)|_=>none
def I9 (x:Value):Option Value:=match x with|.string s=>some (.int .i64 s.size)|_=>none
def Q84 (x y z w:Value):Option Value:=match x,y,z,w with|.int k a,.int k2 b,.int k3 c,.int k4 d=>if k=k2/\k=k3/\k=k4 then some (.int k (Ez (Ez (Ez a b) c) d)) else none|_,_,_,_=>none
def Z4f (x y:Value):Option Value:=match x,y with|.int k a,.int k' b=>if k=k' then some (.int k (if b > a then b else a)) else none|_,_=>none
def Z3n (x y:Value):Option Value:=match x,y with|.int k a,.int k' b=>if k=k' then some (.int k (if b<a then b else a)) else none|_,_=>none
def Q1o (t:TypeId) (x:Value):Option Value:=match x with|.chan _=>none|v=>some (.iface t v)
def CJ (i:Nat) (x:Value):Option Value:=match x with
  |.tuple vs=>vs.toList[i]?
  |_=>none
def Sy (x:Value):Option Value:=match x with
  |.pointer (some a)=>some (.pointer (some a))
  |.func (.func f) first cap=>some (.func (.func f) first cap)
  |_=>none
def ppp (r:Option Value) (U:CH):Option (Value×CH):=match r with|some v=>some (v,U)|none=>none
def Z4w (t:Nat) (x:Value) (U:CH):Option (Value×CH):=match Ka x with
  |some vs=>UW U (.cells vs ⟨vs.length,t⟩ true true) (.pointer (some ⟨U.n,0,none⟩))
  |none=>none
def LD (esz:El) (z:List Value) (len:Nat) (l:List (Nat×Nat×Value)) (U:CH):Option (Value×CH):=match NT (Hg len z) l with
  |some cs=>UW U (.cells cs esz true true) (.slice (some ⟨U.n,0,none⟩) len len)
  |none=>none
def Q7n (agg:Bool) (size:Nat) (a:Value) (U:CH):Option (Value×CH):=match a with
  |.pointer (some ⟨g,o,some _⟩)=>(match Q0a g with
   |some c=>if c.all QK then (match Xb agg size c o with|some v=>some (v,U)|none=>none) else none
   |none=>none)
  |.pointer (some ⟨i,o,none⟩)=>match U.get i with
   |some (.cells c _ _ _)=>match Xb agg size c o with|some v=>some (v,U)|none=>none
   |_=>none
  |_=>none
def stL (c:List Value) (o:Nat) (vs:List Value):List Value:=match vs with
 |[v]=>c.set o v
 |vs=>c.take o++(vs++c.drop (o+vs.length))
theorem CO:∀ (vs a b c:List Value),vs.length=b.length->Yi (a++(b++c)) a.length vs=a++(vs++c)
 |[],a,b,c,h=>by have:b=[]:=List.eq_nil_of_length_eq_zero (by simpa using h.symm);subst this;rfl
 |v::vs,a,[],c,h=>by simp at h
 |v::vs,a,x::b,c,h=>by
  simp only[Yi];have e:(a++(x::b++c)).set a.length v=(a++[v])++(b++c):=by simp
  rw[e];have:=CO vs (a++[v]) b c (by simpa using h);rw[zJ,xp] at this;rw[this];simp
theorem Q94 {c:List Value}{o:Nat}{vs:List Value}(h:o+vs.length<=c.length):stL c o vs=Yi c o vs:=by
 unfold stL;split
 .rfl
 .have h1:c=c.take o++((c.drop o).take vs.length++c.drop (o+vs.length)):=by
   rw[<-List.drop_drop,xU,xU]
  have h2:(c.take o).length=o:=by simp;omega
  have:=CO vs (c.take o) ((c.drop o).take vs.length) (c.drop (o+vs.length)) (by simp;omega);rw[h2,<-h1] at this;exact this.symm
def Q1e (size:Nat) (a v:Value) (U:CH):Option (Value×CH):=match a,Ka v with
  |.pointer (some ⟨i,o,none⟩),some vs=>match U.get i with
   |some (.cells c e wr tight)=>if wr=true/\vs.length=size/\o+size<=c.length/\vs.all cellOk=true then some (undef,U.upd i (.cells (stL c o vs) e wr tight)) else none
   |_=>none
  |_,_=>none
def AZ (esz:El) (bytes:Nat) (z:List Value) (l c:Value) (U:CH):Option (Value×CH) :=
  match l,c with
  |.int _ a,.int _ b=>if 0<=a/\a<=b/\b*bytes<=2 ^ 46/\b<=2 ^ 46 then UW U (.cells (Hg b.toNat z) esz true true) (.slice (some ⟨U.n,0,none⟩) a.toNat b.toNat) else none
  |_,_=>none
def Z4s (esz:El) (bytes:Nat) (s x:Value) (U:CH):Option (Value×CH) :=
  match U.sl esz.sz x,x with
  |some xs,.slice _ m _=>if xs.all cellOk then R6 esz bytes U s m xs else none
  |_,_=>none
def LJ (o:VOp) (ev:Operand->Value) (U:CH):Option (Value×CH) :=
 match o with
 |.move x=>some (ev x,U)
 |.pick c a b=>ppp (Q95 (ev c) (ev a) (ev b)) U
 |.arith op x y=>ppp (Q35 op (ev x) (ev y)) U
 |.div op x y=>ppp (Z3y op (ev x) (ev y)) U
 |.bits op x y=>ppp (Q6r op (ev x) (ev y)) U
 |.shift op x y=>ppp (Q2k op (ev x) (ev y)) U
 |.cmp op x y=>ppp (Z3t op (ev x) (ev y)) U
 |.str op x y=>ppp (Z3x op (ev x) (ev y)) U
 |.eqB n x y=>ppp (Z4h n (ev x) (ev y)) U
 |.un op x=>ppp (pUn op (ev x)) U
 |.convI k x=>ppp (Q19 k (ev x)) U
 |.convS x=>ppp (Q0z (ev x)) U
 |.build z parts=>ppp (Q2e z (parts.map λp=>(p.1,p.2.1,ev p.2.2))) U
 |.fieldAddr off a=>ppp (Tj off (ev a)) U
 |.field agg off size x=>ppp (Q1s agg off size (ev x)) U
 |.indexAddr size x i=>ppp (Tv size (ev x) (ev i)) U
 |.indexAddrArr len size x i=>ppp (Gv len size (ev x) (ev i)) U
 |.indexStr x i=>ppp (Sz (ev x) (ev i)) U
 |.indexArr len agg size x i=>ppp (L4 len agg size (ev x) (ev i)) U
 |.sliceStr x lo hi=>ppp (SS ev (ev x) lo hi) U
 |.len x=>ppp (Z40 (ev x)) U
 |.lenStr x=>ppp (I9 (ev x)) U
 |.max x y=>ppp (Z4f (ev x) (ev y)) U
 |.max4 x y z w=>ppp (Q84 (ev x) (ev y) (ev z) (ev w)) U
 |.min x y=>ppp (Z3n (ev x) (ev y)) U
 |.makeFunc fn first cap=>some (.func fn (first.map ev).toArray (cap.map ev).toArray,U)
 |.iface t x=>ppp (Q1o t (ev x)) U
 |.extract x i=>ppp (CJ i (ev x)) U
 |.nilCheck x=>ppp (Sy (ev x)) U
 |.alloc t z=>UW U (.cells z ⟨z.length,t⟩ true true) (.pointer (some ⟨U.n,0,none⟩))
 |.box t x=>Z4w t (ev x) U
 |.buildSlice esz z len parts=>LD esz z len (parts.map λp=>(p.1*esz.sz,esz.sz,ev p.2)) U
 |.load agg size a=>Q7n agg size (ev a) U
 |.store size a v=>Q1e size (ev a) (ev v) U
 |.slice size x lo hi mx=>IV (.slice size x lo hi mx) ev U
 |.makeSlice esz bytes z l c=>AZ esz bytes z (ev l) (ev c) U
 |.append esz bytes s x=>Z4s esz bytes (ev s) (ev x) U
 |.ext o=>XS o ev U
 |_=>none
theorem Ib {rs:Nat->Env×Loop}{h:CH}{U:Heap}(hs:CSim rs h U) {r:Option Value}{r':Option (Value×Heap)}{p:Value×CH}(hr:∀ v,r=some v->r'=some (v,U)) (hx:ppp r h=some p):ESnd rs h U r' p:=by
 unfold ppp at hx;split at hx
 .rename_i v;obtain rfl:=osj hx;exact .same hs (hr v rfl)
 .cases hx
theorem Kv {rs:Nat->Env×Loop}{h:CH}{U:Heap}(hs:CSim rs h U) {o:VOp}{ev:Operand->Value}{p:Value×CH}(hx:LJ o ev h=some p):ESnd rs h U (Q6 o ev U) p:=by
 cases o
 case move x=>exact .same hs (by obtain rfl:=osj hx;rfl) |> λ(h:ESnd rs _ U (Q6 (.move x) ev U) (ev x,_))=>by obtain rfl:=osj hx;exact h
 case makeFunc fn a b=>obtain rfl:=osj hx;exact .same hs rfl
 case alloc t z=>exact WW (o:=.alloc t z) hs hx
 case box t x=>exact WW (o:=.box t x) hs hx
 case buildSlice a b c d=>exact WW (o:=.buildSlice a b c d) hs hx
 case load a b c=>exact WW (o:=.load a b c) hs hx
 case store size a v =>
  simp only[LJ] at hx;simp only[Q6];unfold Q1e at hx;generalize Ka (ev v)=q0 at hx |-;generalize ev a=q1 at hx |-;split at hx
  .rename_i i o vs;split at hx
   .rename_i c e wr tight hg;simp only[hs.cells hg];split at hx
    .rename_i hc;simp only[z8 hc];rw[Q94 (by omega)] at hx;obtain rfl:=osj hx;exact .upd hs hg rfl rfl
    .cases hx
   .cases hx
  .cases hx
 case slice a b c d e=>exact WW (o:=.slice a b c d e) hs hx
 case makeSlice a b c d e=>exact WW (o:=.makeSlice a b c d e) hs hx
 case append a b c d=>exact WW (o:=.append a b c d) hs hx
 case ext o=>exact P4 hs hx
 case callF=>cases hx
 case callV=>cases hx
 case bad=>cases hx
 all_goals refine Ib hs (λv hv=>?_) hx
 case arith op x y =>
  simp only[Q6];generalize ev x=a at hv |-;generalize ev y=b at hv |-;unfold Q35 at hv;split at hv
  .split at hv
   .rename_i hk;simp only[z8 hk];obtain rfl:=osj hv;cases op<;>simp only[TL,CG]
   .cases hv
  .cases hv
 case convI k x =>
  simp only[Q6];generalize ev x=a at hv |-;unfold Q19 at hv;split at hv
  .obtain rfl:=osj hv;simp only[CG]
  .cases hv
 case pick c a b =>
  simp only[Q6];generalize ev c=q0 at hv |-;generalize ev a=q1 at hv |-;generalize ev b=q2 at hv |-;unfold Q95 at hv
  (repeat' split at hv)<;>first|(cases hv;done)|(obtain rfl:=osj hv;first|rfl|(simp_all;done)|(simp_all;intros;omega))
 case div op x y =>
  simp only[Q6];generalize ev x=q0 at hv |-;generalize ev y=q1 at hv |-;unfold Z3y at hv
  (repeat' split at hv)<;>first|(cases hv;done)|(obtain rfl:=osj hv;first|rfl|(simp_all;done)|(simp_all;intros;omega))
 case bits op x y =>
  simp only[Q6];generalize ev x=q0 at hv |-;generalize ev y=q1 at hv |-;unfold Q6r at hv
  (repeat' split at hv)<;>first|(cases hv;done)|(obtain rfl:=osj hv;first|rfl|(simp_all;done)|(simp_all;intros;omega))
 case shift op x y =>
  simp only[Q6];generalize ev x=q0 at hv |-;generalize ev y=q1 at hv |-;unfold Q2k at hv
  (repeat' split at hv)<;>first|(cases hv;done)|(obtain rfl:=osj hv;first|rfl|(simp_all;done)|(simp_all;intros;omega))
 case cmp op x y =>
  simp only[Q6];generalize ev x=q0 at hv |-;generalize ev y=q1 at hv |-;unfold Z3t at hv
  (repeat' split at hv)<;>first|(cases hv;done)|(obtain rfl:=osj hv;first|rfl|(simp_all;done)|(simp_all;intros;omega))
 case eqB n x y =>
  simp only[Q6];generalize ev x=q0 at hv |-;generalize ev y=q1 at hv |-;unfold Z4h at hv
  (repeat' split at hv)<;>first|(cases hv;done)|(obtain rfl:=osj hv;first|rfl|(simp_all;done)|(simp_all;intros;omega))
 case un op x =>
  simp only[Q6];generalize ev x=q0 at hv |-;unfold pUn at hv
  (repeat' split at hv)<;>first|(cases hv;done)|(obtain rfl:=osj hv;first|rfl|(simp_all;done)|(simp_all;intros;omega))
 case convS x =>
  simp only[Q6];generalize ev x=q0 at hv |-;unfold Q0z at hv
  (repeat' split at hv)<;>first|(cases hv;done)|(obtain rfl:=osj hv;first|rfl|(simp_all;done)|(simp_all;intros;omega))
 case fieldAddr off a =>
  simp only[Q6];generalize ev a=q0 at hv |-;unfold Tj at hv
  (repeat' split at hv)<;>first|(cases hv;done)|(obtain rfl:=osj hv;first|rfl|(simp_all;done)|(simp_all;intros;omega))
 case indexAddr size x i =>
  simp only[Q6];generalize ev x=q0 at hv |-;generalize ev i=q1 at hv |-;unfold Tv at hv
  (repeat' split at hv)<;>first|(cases hv;done)|(obtain rfl:=osj hv;first|rfl|(simp_all;done)|(simp_all;intros;omega))
 case indexAddrArr len size x i =>
  simp only[Q6];generalize ev x=q0 at hv |-;generalize ev i=q1 at hv |-;unfold Gv at hv
  (repeat' split at hv)<;>first|(cases hv;done)|(obtain rfl:=osj hv;first|rfl|(simp_all;done)|(simp_all;intros;omega))
 case len x =>
  simp only[Q6];generalize ev x=q0 at hv |-;unfold Z40 at hv
  (repeat' split at hv)<;>first|(cases hv;done)|(obtain rfl:=osj hv;first|rfl|(simp_all;done)|(simp_all;intros;omega))
 case lenStr x =>
  simp only[Q6];generalize ev x=q0 at hv |-;unfold I9 at hv
  (repeat' split at hv)<;>first|(cases hv;done)|(obtain rfl:=osj hv;first|rfl|(simp_all;done)|(simp_all;intros;omega))
 case max4 x y z w =>
  simp only[Q6];generalize ev x=q0 at hv |-;generalize ev y=q1 at hv |-;generalize ev z=q2 at hv |-;generalize ev w=q3 at hv |-;unfold Q84 at hv
  (repeat' split at hv)<;>first|(cases hv;done)|(rename_i qD;obtain⟨rfl,rfl,rfl⟩:=qD;obtain rfl:=osj hv;simp_all;done)
 case max x y =>
  simp only[Q6];generalize ev x=q0 at hv |-;generalize ev y=q1 at hv |-;unfold Z4f at hv
  (repeat' split at hv)<;>first|(cases hv;done)|(obtain rfl:=osj hv;first|rfl|(simp_all;done)|(simp_all;intros;omega))
 case min x y =>
  simp only[Q6];generalize ev x=q0 at hv |-;generalize ev y=q1 at hv |-;unfold Z3n at hv
  (repeat' split at hv)<;>first|(cases hv;done)|(obtain rfl:=osj hv;first|rfl|(simp_all;done)|(simp_all;intros;omega))
 case nilCheck x =>
  simp only[Q6];generalize ev x=q0 at hv |-;unfold Sy at hv
  (repeat' split at hv)<;>first|(cases hv;done)|(obtain rfl:=osj hv;first|rfl|(simp_all;done)|(simp_all;intros;omega))
 case str op x y =>
  simp only[Q6];generalize ev x=q0 at hv |-;generalize ev y=q1 at hv |-;unfold Z3x at hv
  (repeat' split at hv)<;>first|(cases hv;done)|(obtain rfl:=osj hv;first|rfl|(simp_all;done)|(simp_all;intros;omega))
 case build z parts =>
  simp only[Q6];unfold Q2e at hv;split at hv
  .rename_i cs hc;rw[hc];obtain rfl:=osj hv;rfl
  .cases hv
 case field agg off size x =>
  simp only[Q6];generalize ev x=q0 at hv |-;unfold Q1s at hv;split at hv
  .dsimp only;rw[hv]
  .cases hv
 case indexStr x i =>
  simp only[Q6];generalize ev x=q0 at hv |-;generalize ev i=q1 at hv |-;unfold Sz at hv;split at hv
  .split at hv
   .rename_i hc;simp only[z8 hc];split at hv
    .rename_i b hb;simp only[hb];obtain rfl:=osj hv;rfl
    .cases hv
   .cases hv
  .cases hv
 case indexArr len agg size x i =>
  simp only[Q6];generalize ev x=q0 at hv |-;generalize ev i=q1 at hv |-;unfold L4 at hv;split at hv
  .split at hv
   .rename_i hc;simp only[z8 hc,hv]
   .cases hv
  .cases hv
 case sliceStr x lo hi =>
  simp only[Q6];generalize ev x=q0 at hv |-;unfold SS at hv;split at hv
  .rename_i s;split at hv
   .rename_i l h h1 h2;split at hv
    .rename_i hc;simp only[h1,h2,z8 hc];obtain rfl:=osj hv;rfl
    .cases hv
   .cases hv
  .cases hv
 case iface t x =>
  simp only[Q6];generalize ev x=q0 at hv |-;unfold Q1o at hv;split at hv
  .cases hv
  .rename_i aB;obtain rfl:=osj hv;split
   .exact absurd rfl (aB _)
   .rfl
 case extract x i =>
  simp only[Q6];generalize ev x=q0 at hv |-;unfold CJ at hv;split at hv
  .dsimp only;rw[hv]
  .cases hv
inductive Sh (a m d:Nat):Value->Value->Prop
 |plain (v:Value) (h:QK v=true):Sh a m d v v
 |ptr (i o:Nat) (h:a<=i) (hi:i<m):Sh a m d (.pointer (some ⟨i,o,none⟩)) (.pointer (some ⟨d+(i-a),o,none⟩))
 |sl (i o len cap:Nat) (h:a<=i) (hi:i<m):Sh a m d (.slice (some ⟨i,o,none⟩) len cap) (.slice (some ⟨d+(i-a),o,none⟩) len cap)
 |agg (cs ds:Array Value) (hc:cs.size=ds.size) (h:∀ i (h1:i<cs.size) (h2:i<ds.size),Sh a m d cs[i] ds[i]):Sh a m d (.agg cs) (.agg ds)
 |tuple (cs ds:Array Value) (hc:cs.size=ds.size) (h:∀ i (h1:i<cs.size) (h2:i<ds.size),Sh a m d cs[i] ds[i]):Sh a m d (.tuple cs) (.tuple ds)
theorem Sh.rel {ρ ρ':Plc}{a m d n':Nat}(hn:d+(m-a)<=n') (hρ:∀ i,a<=i->i<m->ρ' (d+(i-a))=ρ i) {v v':Value}(h:Sh a m d v v') :
  ∀ {c:Value},VRel ρ m v c->VRel ρ' n' v' c:=by
 induction h with
 |plain v h =>intro c hv;have:c=v:=YQ h hv;subst this;exact Wt h
 |ptr i o h hi =>intro c hv;obtain⟨a',rfl,_,bA⟩:=hv.q1h;exact .ptr _ _ _ (by omega) λp hp=>bA p (by rw[<-hρ i h hi];exact hp)
 |sl i o len cap h hi =>intro c hv;obtain⟨a',au,rfl,_,bA⟩:=hv.q1b;exact .sl _ _ _ _ _ _ (by omega) λp hp=>bA p (by rw[<-hρ i h hi];exact hp)
 |agg cs ds hc h ih =>
  intro c hv;cases hv with
  |agg _ ds' cL h'=>exact .agg _ _ (hc.symm.trans cL) λi k1 k2=>ih i (by omega) k1 (h' i (by omega) k2)
 |tuple cs ds hc h ih =>
  intro c hv;cases hv with
  |tuple _ ds' cL h'=>exact .tuple _ _ (hc.symm.trans cL) λi k1 k2=>ih i (by omega) k1 (h' i (by omega) k2)
theorem BRel.any {ρ ρ':Plc}{n n':Nat}{p:Pl}{w:World}{c:List Value}{esz:El}{wr tight:Bool}(hp:c.all QK=true) (h:BRel ρ n p w (.cells c esz wr tight)) :
  BRel ρ' n' p w (.cells c esz wr tight):=by
 obtain⟨h1,h2,h3,h4,h5,h6⟩:=h;refine⟨h1,h2,h3,h4,λk v hk=>?_,h6⟩;obtain⟨u,hu,hv⟩:=h5 k v hk;have aQ:QK v=true:=zg.1 hp v (zH hk);obtain rfl:u=v:=YQ aQ hv;exact⟨u,hu,Wt aQ⟩
theorem BRel.renRo {ρ:Plc}{nf n':Nat}{π:Nat->Nat}{p:Pl}{w:World}{c c':List Value}{esz:El}{wr tight:Bool}(hr:LRen n' π c c') (h:BRel ρ nf p w (.cells c' esz wr tight)) :
  BRel (λi=>if i<n' then ρ (π i) else none) n' p w (.cells c esz false tight):=by
 obtain⟨h1,h2,h3,h4,h5,h6⟩:=h;refine⟨h1,h2,by rw[hr.1];exact h3,h4,λk v hk=>?_,λh=>by cases h⟩;have ah:k<c'.length:=by rw[<-hr.1];exact(zh.1 hk).1
 obtain⟨u,hu,hv⟩:=h5 k _ (z6 ah);exact⟨u,hu,(hr.2 k v _ hk (z6 ah)).rel hv⟩
structure PB where
 c:List Value
 esz:El
 tight:Bool
def PB.blk (wr:Bool) (b:PB):Blk:=.cells b.c b.esz wr b.tight
def Qt (bl fr:List PB):Heap where
 get i:=if i<bl.length then (bl[i]?).map (PB.blk false) else (fr[i-bl.length]?).map (PB.blk true)
 n:=bl.length+fr.length
 wf i h:=by rw[zd (by omega),zm (by omega)];rfl
def XH (U:Heap) (fr:List PB):Heap where
 get i:=if i<U.n then U.get i else (fr[i-U.n]?).map (PB.blk true)
 n:=U.n+fr.length
 wf i h:=by rw[zd (by omega),zm (by omega)];rfl
theorem VCalled.localize {P:Program}{f:FuncId}{jc args:List Value}{bl fr:List PB}{vm v:Value}{U:Heap}{π:Nat->Nat}{K:Value->Heap->Prop}
  (hm:VCalled P f jc (Qt bl []) λu Z=>u=vm/\Z=Qt bl fr)
  (cY:∀ b∈fr,b.c.all QK=true)
  (hπ:∀ i b,bl[i]?=some b->∃ wr c',U.get (π i)=some (.cells c' b.esz wr b.tight)/\LRen bl.length π b.c c')
  (ax:LRen bl.length π jc args) (hv:Sh bl.length (bl.length+fr.length) U.n vm v) (hK:K v (XH U fr)):VCalled P f args U K:=by
 intro ρ w aw hH hL;have bQ:∀ B,¬ Wr (λi=>if i<bl.length then ρ (π i) else none) (Qt bl []) B:=by
  rintro B ⟨i,p,b,_,hb,hw,_⟩;have hi:i<bl.length:=by have:=(Qt bl []).lt hb;simpa [Qt] using this
  simp only[Qt,z8 hi] at hb;cases fm:bl[i]? with
  |none=>rw[fm] at hb;cases hb
  |some b0=>rw[fm] at hb;obtain rfl:=osj hb;cases hw
 have uq:HRel (λi=>if i<bl.length then ρ (π i) else none) (Qt bl []) w:=by
  refine⟨⟨λi b hb=>?_,λi hi=>?_,λi p hp=>?_,λi j p q b _ hp _ hb hw _=>(bQ _ ⟨i,p,b,hp,hb,hw,rfl⟩).elim⟩,λg cs hg=>⟨(hH.tab g cs hg).1,bQ g⟩⟩
  .have hi:i<bl.length:=by have:=(Qt bl []).lt hb;simpa [Qt] using this
   simp only[Qt,z8 hi] at hb;cases fm:bl[i]? with
   |none=>rw[fm] at hb;cases hb
   |some b0 =>rw[fm] at hb;obtain rfl:=osj hb;obtain⟨wr,c',hg,qT⟩:=hπ i b0 fm;obtain⟨p,hp,hB⟩:=hH.live _ _ hg;exact⟨p,by simp[hi,hp],BRel.renRo qT hB⟩
  .by_cases h:i<bl.length
   .simp only[Qt,z8 h,z6 h] at hi;cases hi
   .simp[h]
  .skip
   split at hp
   .exact hH.lt _ p hp
   .cases hp
 have ur:LRel (λi=>if i<bl.length then ρ (π i) else none) (Qt bl []).n jc aw.toList:=by have:=ax.rel hL;simpa [Qt] using this
 have lift:∀ c w',Got (λi=>if i<bl.length then ρ (π i) else none) (Qt bl []) w (λu Z=>u=vm/\Z=Qt bl fr) c w'->Got ρ U w K c w':=by
  rintro c w' ⟨_,ρm,_,⟨rfl,rfl⟩,bY,jd,hE⟩;have er:∀ B,B<w.heap.size->w'.heap[B]?=w.heap[B]?:=λB hB=>hE.keep B hB (bQ B);have gN:∀ i p,bl.length<=i->ρm i=some p->w.heap.size<=p.blk:=λi p hi hp=>by
   rcases zn p.blk w.heap.size with h|h
   .refine (bQ _ (hE.wr p.blk h ?_)).elim;have ic:=jd.idlt hp;cases hb:(Qt bl fr).get i with
    |none=>rw[jd.dead i hb] at hp;cases hp
    |some b =>
     refine⟨i,p,b,hp,hb,?_,rfl⟩;simp only[Qt,zd (wI.2 hi)] at hb;cases fm:fr[i-bl.length]? with
     |none=>rw[fm] at hb;cases hb
     |some b0=>rw[fm] at hb;obtain rfl:=osj hb;rfl
   .exact h
  have hρ:∀ i,U.n<=i->(if i<U.n then ρ i else if i<U.n+fr.length then ρm (bl.length+(i-U.n)) else none)=if i<U.n+fr.length then ρm (bl.length+(i-U.n)) else none:=λi hi=>zd (by omega)
  have hX:Ext ρ U w (λi=>if i<U.n then ρ i else if i<U.n+fr.length then ρm (bl.length+(i-U.n)) else none) (XH U fr) w':=by
   refine⟨hE.os,hE.tape,hE.output,hE.size,λB hB _=>er B hB,?_,by simp[XH],λi hi p hp=>?_⟩
   .rintro B hB ⟨i,p,b,hp,hb,hw,rfl⟩
    replace hp:(if i<U.n then ρ i else if i<U.n+fr.length then ρm (bl.length+(i-U.n)) else none)=some p:=hp
    by_cases hi:i<U.n
    .rw[z8 hi] at hp;simp only[XH,z8 hi] at hb;exact⟨i,p,b,hp,hb,hw,rfl⟩
    .rw[zd hi] at hp;split at hp
     .have:=gN _ p (by omega) hp;omega
     .cases hp
   .skip
    rwa [z8 hi] at hp
  refine⟨v,λi=>if i<U.n then ρ i else if i<U.n+fr.length then ρm (bl.length+(i-U.n)) else none,XH U fr,hK,?_,hH.ext ⟨λi b hb=>?_,λi hi=>?_,λi p hp=>?_,λi j p q b cq hp hq hb hw hx=>?_⟩ hX,hX⟩
  .refine hv.rel (by simp[XH]) (λi h1 h2=>?_) bY;rw[zd (by omega),z8 (by omega)];congr 1;omega
  .by_cases hi:i<U.n
   .simp only[XH,z8 hi] at hb;obtain⟨p,hp,hB⟩:=hH.live i b hb;exact⟨p,by simp[hi,hp],hB.mono (by simp[XH]) (λj hj q hq=>by simpa [hj] using hq) (er _ (hH.lt i p hp))⟩
   .simp only[XH,zd hi] at hb;cases fm:fr[i-U.n]? with
    |none=>rw[fm] at hb;cases hb
    |some b0 =>
     rw[fm] at hb;obtain rfl:=osj hb;have ah:i-U.n<fr.length:=(zh.1 fm).1;obtain⟨p,hp,hB⟩:=jd.live (bl.length+(i-U.n)) (b0.blk true) (by
      show (if _ then _ else _)=_;rw[zd (by omega),show bl.length+(i-U.n)-bl.length=i-U.n by omega,fm];rfl)
     exact⟨p,by rw[zd hi,z8 (by omega)];exact hp,BRel.any (cY b0 (zH fm)) hB⟩
  .by_cases h:i<U.n
   .simp only[XH,z8 h] at hi;rw[z8 h];exact hH.dead i hi
   .simp only[XH,zd h] at hi;rw[zd h];split
    .rename_i h2;have ah:i-U.n<fr.length:=by omega
     rw[z6 ah] at hi;cases hi
    .rfl
  .skip
   split at hp
   .exact xj (hH.lt i p hp) hE.size
   .split at hp
    .exact jd.lt _ p hp
    .cases hp
  .skip
   by_cases hi:i<U.n<;>by_cases hj:j<U.n
   .rw[z8 hi] at hp;rw[z8 hj] at hq;simp only[XH,z8 hi] at hb;exact hH.sep i j p q b cq hp hq hb hw hx
   .rw[z8 hi] at hp;rw[zd hj] at hq;split at hq
    .have h1:=hH.lt i p hp;have h2:=gN _ q (by omega) hq;omega
    .cases hq
   .rw[zd hi] at hp;rw[z8 hj] at hq;split at hp
    .have h1:=hH.lt j q hq;have h2:=gN _ p (by omega) hp;omega
    .cases hp
   .rw[zd hi] at hp;rw[zd hj] at hq;split at hp
    .split at hq
     .simp only[XH,zd hi] at hb;refine jd.sep (bl.length+(i-U.n)) (bl.length+(j-U.n)) p q b (by omega) hp hq ?_ hw hx;show (if _ then _ else _)=_;rw[zd (by omega),show bl.length+(i-U.n)-bl.length=i-U.n by omega];exact hb
     .cases hq
    .cases hp
 rcases hm _ w aw uq ur with⟨h1,h2⟩|⟨c,h1,h2⟩
 .refine .inl ⟨h1,?_⟩;exact h2.mono λe w' he=>by
   obtain⟨c,rfl,hc⟩:=he;exact⟨c,rfl,lift c w' hc⟩
 .refine .inr ⟨c,lift c w h1,λw' dw=>h2 w' ⟨dw.1,λi p hp=>?_,dw.tab⟩⟩
  replace hp:(if i<bl.length then ρ (π i) else none)=some p:=hp
  split at hp
  .exact dw.2 _ p hp
  .cases hp
def I3 {α:Type}(p:α->α->Bool):List α->List α->Bool
 |[],[]=>true
 |a::l,b::m=>p a b&&I3 p l m
 |_,_=>false
theorem Uj {α:Type}{p:α->α->Bool}(hp:∀ a b,p a b=true->a=b):∀ l m,I3 p l m=true->l=m
 |[],[],_=>rfl
 |a::l,b::m,h=>by simp only[I3,z7] at h;rw[hp a b h.1,Uj hp l m h.2]
 |[],_::_,h=>by cases h
 |_::_,[],h=>by cases h
def TP:Nat->Value->Value->Bool
 |0,_,_=>false
 |f+1,a,b=>match a,b with
  |.bool x,.bool y=>x==y
  |.int k x,.int k' y=>decide (k=k')&&decide (x=y)
  |.string s,.string t=>decide (s.data.toList=t.data.toList)
  |.pointer none,.pointer none=>true
  |.pointer (some ⟨i,o,none⟩),.pointer (some ⟨j,q,none⟩)=>Nat.beq i j&&Nat.beq o q
  |.slice none l c,.slice none l' c'=>Nat.beq l l'&&Nat.beq c c'
  |.slice (some ⟨i,o,none⟩) l c,.slice (some ⟨j,q,none⟩) l' c'=>Nat.beq i j&&(Nat.beq o q&&(Nat.beq l l'&&Nat.beq c c'))
  |.slice (some ⟨i,o,some 0⟩) l c,.slice (some ⟨j,q,some 0⟩) l' c'=>Nat.beq i j&&(Nat.beq o q&&(Nat.beq l l'&&Nat.beq c c'))
  |.map x,.map y=>decide (x=y)
  |.chan none,.chan none=>true
  |.nilFunc,.nilFunc=>true
  |.nilIface,.nilIface=>true
  |.func (.func g) fs cs,.func (.func g') sB cs'=>decide (g=g')&&(I3 (TP f) fs.toList sB.toList&&I3 (TP f) cs.toList cs'.toList)
  |.func (.yield i) ⟨[]⟩ ⟨[]⟩,.func (.yield j) ⟨[]⟩ ⟨[]⟩=>Nat.beq i j
  |.iface t v,.iface t' v'=>decide (t=t')&&TP f v v'
  |.agg cs,.agg ds=>I3 (TP f) cs.toList ds.toList
  |.tuple cs,.tuple ds=>I3 (TP f) cs.toList ds.toList
  |_,_=>false
theorem Ti {α:Type}{a b:Array α}(h:a.toList=b.toList):a=b:=by cases a;cases b;simp at h;rw[h]
theorem NQ:∀ (f:Nat) (a b:Value),TP f a b=true->a=b:=by
 intro f;induction f with
 |zero=>intro a b h;cases h
 |succ f ih =>
  intro a b h;unfold TP at h
  split at h<;>first
   |(cases h;done)
   |rfl
   |(simp at h;subst h;rfl)
   |(simp at h;obtain⟨rfl,rfl⟩:=h;rfl)
   |(simp at h;obtain⟨rfl,rfl,rfl,rfl⟩:=h;rfl)
   |skip
  .rename_i s t;have h:=xh h;have:=Ti h;cases s;cases t;simp at this;rw[this]
  .rename_i g fs cs g' sB cs';simp only[z7,zk] at h;obtain⟨rfl,h1,h2⟩:=h;rw[Ti (Uj ih _ _ h1),Ti (Uj ih _ _ h2)]
  .rename_i t v t' v';simp only[z7,zk] at h;obtain⟨rfl,h1⟩:=h;rw[ih _ _ h1]
  .rw[Ti (Uj ih _ _ h)]
  .rw[Ti (Uj ih _ _ h)]
def EB.beq:EB->EB->Bool
 |.cells c e w t,.cells c' e' w' t'=>decide (e=e')&&(w==w'&&(t==t'&&I3 (TP 20) c c'))
 |.map es cl w,.map b7 cl' w'=>Nat.beq cl cl'&&(w==w'&&I3 (λa b=>TP 20 a.1 b.1&&(TP 20 a.2.1 b.2.1&&Nat.beq a.2.2 b.2.2)) es b7)
 |.iter m s sn l,.iter m' s' uu l'=>Nat.beq m m'&&(Nat.beq s s'&&(Nat.beq l l'&&decide (sn=uu)))
 |.lp .ready none,.lp .ready none=>true
 |.lp .busy none,.lp .busy none=>true
 |_,_=>false
theorem EB.beq_eq {a b:EB}(h:a.beq b=true):a=b:=by
 unfold EB.beq at h
 split at h<;>first
  |(cases h;done)
  |rfl
  |skip
 .simp only[z7,zk,zT] at h;obtain⟨rfl,rfl,rfl,h⟩:=h;rw[Uj (NQ 20) _ _ h]
 .simp only[z7,zT,Nat.beq_eq] at h;obtain⟨rfl,rfl,h⟩:=h;rw[Uj (λa b h=>by
   simp only[z7,Nat.beq_eq] at h;obtain⟨a1,a2,a3⟩:=a;obtain⟨b1,b2,b3⟩:=b;obtain⟨h1,h2,h3⟩:=h;simp at h1 h2 h3;rw[NQ _ _ _ h1,NQ _ _ _ h2,h3]) _ _ h]
 .simp only[z7,zk,Nat.beq_eq] at h;obtain⟨rfl,rfl,rfl,rfl⟩:=h;rfl
def CH.newOk (h h':CH):Bool:=Nat.ble h.n h'.n&&(h'.room&&(List.range' h.n (h'.n-h.n)).all λi=>match h'.get i with
 |some (.lp _ _)=>false
 |_=>true)
structure AnsOps (A:Type) where
 fail:A
 both:A->A->A
structure Good {A:Type}(R:AnsOps A) (G:A->Prop):Prop where
 fail:¬ G R.fail
 both:∀ a b,G (R.both a b)->G a/\G b
def Xx:AnsOps Bool:=⟨false,and⟩
theorem R1:Good Xx (·=true):=⟨by simp[Xx],λa b h=>by simpa [Xx] using h⟩
def A0:AnsOps (Option (Value×CH)):=⟨none,λ_ _=>none⟩
theorem Q5f (x:Value×CH):Good A0 (·=some x):=⟨by simp[A0],λa b h=>by simp[A0] at h⟩
def CH.same (h h':CH):Bool:=Nat.beq h.n h'.n&&(List.range h.n).all λi=>match h.get i,h'.get i with
 |none,none=>true
 |some a,some b=>a.beq b
 |_,_=>false
def EB.plainE:EB->Bool
 |.cells c _ _ _=>c.all QK
 |.map es _ _=>es.all λkv=>QK kv.2.1
 |_=>false
def CH.keepOk (h h':CH):Bool:=Nat.ble h.n h'.n&&(List.range h.n).all λi=>match h.get i,h'.get i with
 |none,none=>true
 |some a,some b=>b.plainE||a.beq b
 |_,_=>false
def gcI (n0:Nat) (refs:List Nat) (i:Nat):Nat×List Nat :=
 if i<n0 then (i,refs) else if refs.contains i=true then (n0+refs.idxOf i,refs) else (n0+refs.length,refs++[i])
def IW (g:List Nat->Value->Option (Value×List Nat)):List Value->List Nat->Option (List Value×List Nat)
 |[],refs=>some ([],refs)
 |v::vs,refs=>match g refs v with
  |none=>none
  |some p=>match IW g vs p.2 with
   |none=>none
   |some q=>some (p.1::q.1,q.2)
def gcX (n0:Nat):Nat->List Nat->Value->Option (Value×List Nat)
 |0,_,_=>none
 |f+1,refs,v=>match v with
  |.pointer (some ⟨i,o,none⟩)=>some (.pointer (some ⟨(gcI n0 refs i).1,o,none⟩),(gcI n0 refs i).2)
  |.slice (some ⟨i,o,none⟩) l c=>some (.slice (some ⟨(gcI n0 refs i).1,o,none⟩) l c,(gcI n0 refs i).2)
  |.slice (some ⟨i,o,some 0⟩) l c=>some (.slice (some ⟨(gcI n0 refs i).1,o,some 0⟩) l c,(gcI n0 refs i).2)
  |.map (some i)=>some (.map (some (gcI n0 refs i).1),(gcI n0 refs i).2)
  |.chan none=>some (.chan none,refs)
  |.iface t u=>match gcX n0 f refs u with
   |some p=>some (.iface t p.1,p.2)
   |none=>none
  |.agg cs=>match IW (gcX n0 f) cs.toList refs with
   |some p=>some (.agg p.1.toArray,p.2)
   |none=>none
  |.tuple cs=>match IW (gcX n0 f) cs.toList refs with
   |some p=>some (.tuple p.1.toArray,p.2)
   |none=>none
  |.func (.func g) fs cs=>match IW (gcX n0 f) fs.toList refs with
   |some p=>match IW (gcX n0 f) cs.toList p.2 with
    |some q=>some (.func (.func g) p.1.toArray q.1.toArray,q.2)
    |none=>none
   |none=>none
  |.func (.yield i) ⟨[]⟩ ⟨[]⟩=>if i<n0 then some (.func (.yield i) ⟨[]⟩ ⟨[]⟩,refs) else none
  |v=>if QK v=true then some (v,refs) else none
def Z03 (n0:Nat):List Jx->List Nat->Option (List Jx×List Nat)
 |[],refs=>some ([],refs)
 |e::es,refs=>match gcX n0 8 refs e.2.1 with
  |none=>none
  |some p=>match Z03 n0 es p.2 with
   |none=>none
   |some q=>some ((e.1,p.1,e.2.2)::q.1,q.2)
def gcB (n0:Nat) (refs:List Nat):EB->Option (EB×List Nat)
 |.cells c e w t=>match IW (gcX n0 8) c refs with
  |some p=>some (.cells p.1 e w t,p.2)
  |none=>none
 |.map es cl w=>match Z03 n0 es refs with
  |some p=>some (.map p.1 cl w,p.2)
  |none=>none
 |_=>none
def O5 (h':CH) (n0:Nat):Nat->Nat->List Nat->CH->Option (CH×List Nat)
 |0,_,_,_=>none
 |f+1,k,refs,acc=>if refs.length<=k then (if k=refs.length then some (acc,refs) else none) else match h'.get (refs.getD k 0) with
  |none=>none
  |some b=>match gcB n0 refs b with
   |none=>none
   |some p=>if acc.room=true then O5 h' n0 f (k+1) p.2 (acc.push p.1) else none
def Q1p (h h':CH) (refs:List Nat):Option (CH×List Nat) :=
 if h.keepOk h'=true then O5 h' h.n 100000 0 refs ⟨h'.t,h.n⟩ else none
def Sc (h h':CH) (v:Value):Option (Value×CH):=match gcX h.n 8 [] v with
 |none=>none
 |some p=>match Q1p h h' p.2 with
  |none=>none
  |some q=>some (p.1,q.1)
def joinOps:AnsOps (Option (Value×CH)):=⟨none,λa b=>match a with
 |some x=>match b with
  |some y=>if TP 20 x.1 y.1=true/\x.2.same y.2=true then some x else none
  |none=>none
 |none=>none⟩
structure ET where
 t:GT Value
 m:Nat
def ET.get (e:ET) (i:Nat):Value:=Bool.rec (motive:=λ_=>Value) undef (e.t.get undef i) (Nat.blt i e.m)
def ET.set (e:ET) (i:Nat) (v:Value):ET:=Bool.rec (motive:=λ_=>ET) e ⟨e.t.set undef 32 i v,e.m⟩ (Nat.blt i e.m)
def ET.put (e:ET) (d:Option Nat) (v:Value):ET:=Option.rec (motive:=λ_=>ET) e (λd=>e.set d v) d
def etL (l:List Value):Nat->GT Value->GT Value:=List.rec (motive:=λ_=>Nat->GT Value->GT Value) (λ_ t=>t) (λv _ ih i t=>ih (i+1) (t.set undef 32 i v)) l
def ET.of (args:List Value) (nt:Nat):ET:=⟨etL args 0 .nil,args.length+(nt-args.length)⟩
def Gm (e:ET) (x:Operand):Value:=Operand.rec (motive:=λ_=>Value) (λt=>e.get t) (λv=>v) (λg=>.pointer (some ⟨g,0,some 0⟩)) (λf=>.func (.func f) #[] #[]) x
def Q27 (e:ET) (ps:List Nat):List Value->ET:=List.rec (motive:=λ_=>ET->List Value->ET) (λe _=>e) (λp _ ih e vs=>List.rec (motive:=λ_=>ET) e (λv vs _=>ih (e.set p v) vs) vs) ps e
def FY (e:ET) (g:Option (Nat×Bool)):Option Bool:=match g with
 |none=>some true
 |some (d,want)=>match e.get d with
  |.bool b=>some (b==want)
  |.tuple _=>some false
  |_=>none
def ET.list (e:ET):List Value:=(List.range e.m).map e.get
def Q9j (h h':CH) (e:ET):Option (Value×CH):=Sc h h' (.tuple e.list.toArray)
structure RCtx where
 ps:List Nat
 a:VCode
 b:VCode
 env:ET
abbrev Ys:=List (Nat×RCtx)
def Ys.find:Ys->Nat->Option RCtx
 |[],_=>none
 |(j,c)::l,i=>if Nat.beq i j=true then some c else Ys.find l i
structure Memo where
 args:List Value
 bl:List PB
 v:Value
 fr:List PB
def Q96 (g:Value->Option Value):List Value->Option (List Value)
 |[]=>some []
 |v::vs=>match g v with
  |none=>none
  |some u=>match Q96 g vs with
   |none=>none
   |some us=>some (u::us)
def shX (a m d:Nat):Nat->Value->Option Value
 |0,_=>none
 |f+1,v=>match v with
  |.pointer (some ⟨i,o,none⟩)=>if a<=i/\i<m then some (.pointer (some ⟨d+(i-a),o,none⟩)) else none
  |.slice (some ⟨i,o,none⟩) l c=>if a<=i/\i<m then some (.slice (some ⟨d+(i-a),o,none⟩) l c) else none
  |.agg cs=>match Q96 (shX a m d f) cs.toList with
   |some p=>some (.agg p.toArray)
   |none=>none
  |.tuple cs=>match Q96 (shX a m d f) cs.toList with
   |some p=>some (.tuple p.toArray)
   |none=>none
  |v=>if QK v=true then some v else none
def TO (h:CH):Nat->List Nat->List PB->Option (List Nat)
 |k,refs,[]=>if refs.length=k then some refs else none
 |k,refs,b::m=>if k<refs.length then
   match h.get (refs.getD k 0) with
   |some (.cells c e _ t)=>(match IW (gcX 0 8) c refs with
    |some p=>if (decide (e=b.esz)&&(t==b.tight&&I3 (TP 20) p.1 b.c))=true then TO h (k+1) p.2 m else none
    |none=>none)
   |_=>none
  else none
def X6:List PB->CH->CH
 |[],h=>h
 |b::l,h=>X6 l (h.push (.cells b.c b.esz true b.tight))
def Cw (h:CH) (args:List Value) (refs:List Nat):List Memo->Option Memo
 |[]=>none
 |m::ms=>if (I3 (TP 20) args m.args&&(TO h 0 refs m.bl).isSome)=true then some m else Cw h args refs ms
def RH (h:CH) (args:List Value) (ms:List Memo):Option (Value×CH) :=
 match IW (gcX 0 8) args [] with
 |none=>none
 |some p=>match Cw h p.1 p.2 ms with
  |none=>none
  |some m=>match Nat.ble (h.n+m.fr.length) 1000000000 with
   |false=>none
   |true=>match shX m.bl.length (m.bl.length+m.fr.length) h.n 8 m.v with
    |some v=>some (v,X6 m.fr h)
    |none=>none
inductive FEnt where
 |code (vc:VCode) (rs:List VResult) (nt:Nat)
 |codeJ (vc:VCode) (rs:List VResult) (nt:Nat)
 |codeM (vc:VCode) (rs:List VResult) (nt:Nat) (ms:List Memo)
 |same
abbrev Tab:=FuncId->Option FEnt
abbrev Q66:=∀ {A:Type},AnsOps A->Ys->VCode->Option Nat->ET->CH->(Exit->ET->CH->A)->A
def PG (env:ET) (U:CH):VResult->Option Value
 |.tmp t=>some (env.get t)
 |.cell a agg size=>match Q7n agg size (env.get a) U with|some p=>some p.1|none=>none
def GQ (env:ET) (U:CH):List VResult->Option (List Value)
 |[]=>some []
 |r::rs=>match PG env U r with
  |none=>none
  |some v=>match GQ env U rs with
   |none=>none
   |some vs=>some (v::vs)
def Ml (env:ET) (U:CH) (rs:List VResult):Option Value :=
 match rs with
 |[r]=>PG env U r
 |rs=>match GQ env U rs with|some vs=>some (.tuple vs.toArray)|none=>none
section
variable (T:Tab) (ev:Q66) {A:Type}(R:AnsOps A) (ys:Ys)
def Q47 (fail:A) (rs:List VResult) (k:Value->CH->A):Exit->ET->CH->A:=λe env h'=>match e with
  |.normal=>(match Ml env h' rs with|some v=>k v h'|none=>fail)
  |.ret=>(match Ml env h' rs with|some v=>k v h'|none=>fail)
  |_=>fail
def Bh (f:FuncId) (args:List Value) (h:CH) (k:Value->CH->A):A :=
 match T f with
 |some (.code vc rs nt)=>match Nat.ble (ET.of args nt).m 1000000 with
  |true=>ev R ys vc none (ET.of args nt) h (Q47 R.fail rs k)
  |false=>R.fail
 |some (.codeJ vc rs nt)=>match Nat.ble (ET.of args nt).m 1000000 with
  |true=>(match ev joinOps ys vc none (ET.of args nt) h (Q47 none rs λv h'=>Sc h h' v) with
   |some x=>if x.2.room=true/\Nat.ble h.n x.2.n=true then k x.1 x.2 else R.fail
   |none=>R.fail)
  |false=>R.fail
 |some (.codeM vc rs nt ms)=>match RH h args ms with
  |some p=>k p.1 p.2
  |none=>match Nat.ble (ET.of args nt).m 1000000 with
   |true=>ev R ys vc none (ET.of args nt) h (Q47 R.fail rs k)
   |false=>R.fail
 |some .same=>match args with
  |[v]=>k v h
  |_=>R.fail
 |none=>R.fail
def Iy (i:Nat) (k:Value->CH->A):Exit->ET->CH->A:=λe _ h =>
 match h.get i with
 |some (.lp .busy none)=>match e with
  |.normal=>k (.bool true) (h.upd i (.lp .ready none))
  |.ret=>k (.bool false) (h.upd i (.lp .done (some .ret)))
  |.exit id=>k (.bool false) (h.upd i (.lp .done (some (.exit id))))
  |_=>R.fail
 |_=>R.fail
def Q22 (c:RCtx) (i:Nat) (k:Value->CH->A):Exit->ET->CH->A:=λe bC h1=>match e with
 |.normal=>(match h1.get i with
  |some (.lp .ready none)=>ev R ys c.b (some i) bC (h1.upd i (.lp .busy none)) (Iy R i k)
  |_=>R.fail)
 |_=>R.fail
def II (i:Nat) (args:List Value) (h:CH) (k:Value->CH->A):A :=
 match ys.find i with
 |some c=>match h.get i with
  |some (.lp .ready none)=>if args.length=c.ps.length then ev R ys c.a (some i) (Q27 c.env c.ps args) h (Q22 ev R ys c i k) else R.fail
  |_=>R.fail
 |none=>R.fail
def MV (i m since clock:Nat) (seen:List Nat) (h:CH) (k:Value->CH->A):List Jx->Option A
 |[]=>none
 |e::es=>if seen.contains e.2.2=true then MV i m since clock seen h k es
  else match MV i m since clock seen h k es with
   |none=>some (k (.tuple #[.bool true,e.1,e.2.1]) (h.upd i (.iter m since (seen++[e.2.2]) clock)))
   |some a=>some (R.both (k (.tuple #[.bool true,e.1,e.2.1]) (h.upd i (.iter m since (seen++[e.2.2]) clock))) a)
def Q54 (x:Value) (h:CH) (k:Value->CH->A):A :=
 match x with
 |.pointer (some ⟨i,0,none⟩)=>match h.get i with
  |some (.iter m since seen last)=>match h.mapAt m with
   |some (es,clock,_) =>
    if (seen.isEmpty||es.isEmpty||es.any (λe=>decide (e.2.2<last)))=true/\es.all (λe=>Vi e.1)=true then
     (match MV R i m since clock seen h k es with
     |none=>if es.all (λe=>seen.contains e.2.2||decide (since<=e.2.2))=true then k (.tuple #[.bool false]) h else R.fail
     |some a=>if es.all (λe=>seen.contains e.2.2||decide (since<=e.2.2))=true then R.both (k (.tuple #[.bool false]) h) a else a)
    else R.fail
   |none=>R.fail
  |_=>R.fail
 |_=>R.fail
def Q11 (f:Value) (args:List Value) (h:CH) (k:Value->CH->A):A:=match f with
  |.func (.func g) first cap=>Bh T ev R ys g (first.toList++args++cap.toList) h k
  |.func (.yield i) _ _=>II ev R ys i args h k
  |_=>R.fail
def Fc (r:Option (Value×CH)) (k:Value->CH->A):A:=match r with
  |some p=>k p.1 p.2
  |none=>R.fail
def Q5c (o:VOp) (env:ET) (h:CH) (k:Value->CH->A):A :=
 match o with
 |.callF f args=>Bh T ev R ys f (args.map (Gm env)) h k
 |.callV f args=>Q11 T ev R ys (Gm env f) (args.map (Gm env)) h k
 |.ext (.nextMap x)=>Q54 R (Gm env x) h k
 |o=>Fc R (LJ o (Gm env) h) k
def Fj (l:List VOper):ET->CH->(ET->CH->A)->A :=
 List.rec (motive:=λ_=>ET->CH->(ET->CH->A)->A) (λenv h k=>k env h)
  (λo _ ih env h k=>match FY env o.guard with
   |none=>R.fail
   |some true=>Q5c T ev R ys o.op env h λv h'=>ih (env.put o.dst v) h' k
   |some false=>ih (env.put o.dst undef) h k) l
def Cz (op:VOp) (ev:Operand->Value) (v:Value) (h:CH):Bool:=match LJ op ev h with
 |some q=>TP 20 q.1 v
 |none=>false
def FD (r:Nat) (h:CH):List (Nat×(CH->Bool))->Bool
 |[]=>true
 |c::l=>(!(Nat.ble r c.1)||c.2 h)&&FD r h l
def ML:List DOper->ET->List CH->CH->List (Nat×(CH->Bool))->(ET->CH->A)->A
 |[],env,_,h,_,k=>k env h
 |o::rest,env,hs,h,pend,k=>match FY env o.guard with
  |none=>R.fail
  |some true=>if o.kind=2 then
    (match Q5c T ev A0 ys o.op env h (λv h'=>some (v,h')) with
    |some p=>if h.newOk p.2=true/\FD hs.length p.2 pend=true then ML rest (env.put o.dst p.1) (hs++[p.2]) p.2 pend k else R.fail
    |none=>R.fail)
   else if o.kind=1 then
    (match LJ o.op (Gm env) h with
    |some p=>if (hs.drop o.kmin).all (Cz o.op (Gm env) p.1)=true then
      ML rest (env.put o.dst p.1) hs h (if hs.length<=o.kmax then (o.kmax,Cz o.op (Gm env) p.1)::pend else pend) k else R.fail
    |none=>R.fail)
   else match LJ o.op (Gm env) h with
    |some p=>ML rest (env.put o.dst p.1) hs h pend k
    |none=>R.fail
  |some false=>if o.kind=2 then
    (if FD hs.length h pend=true then ML rest (env.put o.dst undef) (hs++[h]) h pend k else R.fail)
   else ML rest (env.put o.dst undef) hs h pend k
def Q5u (env:ET) (h:CH) (a:List DOper):Option (Value×CH):=ML T ev joinOps ys a env [h] h [] λenv h'=>Q9j h h' env
def CW (env:ET) (h:CH):List (List DOper)->Option (Value×CH)
 |[]=>none
 |[a]=>Q5u T ev ys env h a
 |a::b::r=>joinOps.both (Q5u T ev ys env h a) (CW env h (b::r))
def PD:List DSeg->ET->CH->(ET->CH->A)->A
 |[],env,h,k=>k env h
 |.one o::rest,env,h,k=>Fj T ev R ys [o] env h λenv h=>PD rest env h k
 |.alts [a]::rest,env,h,k=>ML T ev R ys a env [h] h [] λenv h=>PD rest env h k
 |.alts l::rest,env,h,k=>match CW T ev ys env h l with
  |some x=>(match x.1 with
   |.tuple vs=>if x.2.room=true/\Nat.ble h.n x.2.n=true/\vs.toList.length=env.m then PD rest (ET.of vs.toList 0) x.2 k else R.fail
   |_=>R.fail)
  |none=>R.fail
def Q18 (h:CH):Option Nat->Bool
 |none=>true
 |some i=>match h.get i with
  |some (.lp _ _)=>true
  |_=>false
def Q5p:LoopState->Bool
 |.busy=>false
 |_=>true
def Q7w (env:ET) (i:Nat) (k:Exit->ET->CH->A):Value->CH->A:=λ_ h =>
 match h.get i with
 |some (.lp st pend)=>if Q5p st=true then (match pend with
   |none=>k .normal env (h.kill i)
   |some .ret=>k .ret env (h.kill i)
   |some (.exit id)=>k (.exit id) env (h.kill i)
   |some _=>R.fail) else R.fail
 |_=>R.fail
def Q8l (kb k:Exit->ET->CH->A):Exit->ET->CH->A:=λe env h=>match e with
 |.normal=>kb .normal env h
 |e=>k e env h
def Ic (id:Nat) (k:Exit->ET->CH->A):Exit->ET->CH->A:=λe env h=>match e with
 |.exit iM=>if iM=id then k .normal env h else k (.exit iM) env h
 |e=>k e env h
def Q4w (v:Value) (a b:A):A:=match v with
 |.bool true=>a
 |.bool false=>b
 |_=>R.fail
def IL (g:Value) (ps:List Nat) (a b:VCode) (ro:Option Nat) (env:ET) (h:CH) (k:Exit->ET->CH->A):A:=match g with
 |.func (.func f) first cap=>match T f with
  |some (.code _ _ _)=>if Q18 h ro=true/\h.room=true then
    Bh T ev R ((h.n,⟨ps,a,b,env⟩)::ys) f (first.toList++[.func (.yield h.n) #[] #[]]++cap.toList) (h.push (.lp .ready none)) (Q7w R env h.n k)
   else R.fail
  |_=>R.fail
 |_=>R.fail
def Sq (c:VCode):Option Nat->ET->CH->(Exit->ET->CH->A)->A :=
 VCode.rec (motive:=λ_=>Option Nat->ET->CH->(Exit->ET->CH->A)->A)
  (λ_ env h k=>k .normal env h)
  (λops _ env h k=>Fj T ev R ys ops env h (k .normal))
  (λaS _ env h k=>PD T ev R ys aS env h (k .normal))
  (λg ps a b _ _ ro env h k=>IL T ev R ys (Gm env g) ps a b ro env h k)
  (λ_ _ fp eK ro env h k=>fp ro env h (Q8l (λ_ af h'=>eK ro af h' k) k))
  (λc _ _ fp eK ro env h k=>Q4w R (Gm env c) (fp ro env h k) (eK ro env h k))
  (λid _ ih ro env h k=>ih ro env h (Ic id k))
  (λb ih ro env h k=>ih ro env h (Q8l (λ_ af h'=>ev R ys (.loop b) ro af h' k) k))
  (λid _ env h k=>k (.exit id) env h)
  (λ_ env h k=>k .ret env h)
  (λ_ _ _ _=>R.fail) c
end
def Dy (T:Tab) (n:Nat):Q66 :=
 Nat.rec (motive:=λ_=>Q66) (λR _ _ _ _ _ _=>R.fail) (λ_ ih {_} R ys c ro env h k=>Sq T ih R ys c ro env h k) n
end Go.V