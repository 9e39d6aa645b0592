/- A framework for walks, contracts of functions, and their proofs: part 2. -/
import Derived.RangeFuncLeaves
import Derived.RangeFuncCalls
import Derived.OrdersIn
import Derived.TacticsIn
import Derived.Sort.LoopGhostIn
import Derived.Deep.LoopGhost
import Derived.Test.YtannmfpiibodeaaGreatS1
noncomputable section
namespace Go.V
open Go
section
variable {P:Program}{S:VSpecs}{B:Nat}
def FF:Option Nat->Fence
 |none=>Fence.wide
 |some l=>Fence.wide.inRound l
theorem Q7k (ro:Option Nat) (f:FuncId):(FF ro).fn f:=by cases ro<;>trivial
theorem Q0n (ro:Option Nat):(FF ro).depth=none:=by cases ro<;>rfl
theorem Z2o (ro:Option Nat):(FF ro).round=ro:=by cases ro<;>rfl
theorem Q5q {ro:Option Nat}{n:Nat}{f:FuncId}{args:Array Value}{w:World}{R:Ending->World->Prop}(h:Calls P f args w R):CallsIn (FF ro) n P f args w R:=by
 cases ro with
 |none=>exact callsIn_wide.2 h
 |some l=>exact CallsIn.inRound l (callsIn_wide.2 h)
theorem Q4x {ro:Option Nat}{n m:Nat}{l:Nat}{f:FuncId}{tmps:Array Value}{e_ body:Code}{w:World}{R:Ending->World->Prop}(h:RoundIn Fence.wide m P l f tmps e_ body w R):RoundIn (FF ro) n P l f tmps e_ body w R:=by refine⟨Q7k _ _,λc cs _=>?_⟩;obtain⟨e,w',r,s⟩:=h.2 c cs (room_wide _);refine⟨e,w',r,?_⟩;cases ro<;>exact s
def Got (ρ:Plc) (U:Heap) (w:World) (R:Value->Heap->Prop) (c:Value) (w':World):Prop :=
 ∃ v ρ' U',R v U'/\VRel ρ' U'.n v c/\HRel ρ' U' w'/\Ext ρ U w ρ' U' w'
def VCallsTo (P:Program) (f:FuncId) (args:List Value) (U:Heap) (R:Value->Heap->Prop):Prop :=
 ∀ ρ w (aw:Array Value),HRel ρ U w->LRel ρ U.n args aw.toList->Calls P f aw w λe w'=>∃ c,e=.returned c/\Got ρ U w R c w'
def VCalled (P:Program) (f:FuncId) (args:List Value) (U:Heap) (R:Value->Heap->Prop):Prop :=
 ∀ ρ w (aw:Array Value),HRel ρ U w->LRel ρ U.n args aw.toList ->
  ((∀ w,(callFunc f aw).run P w=.ok (.enter f aw) w)/\Calls P f aw w λe w'=>∃ c,e=.returned c/\Got ρ U w R c w') \/
  (∃ c,Got ρ U w R c w/\∀ w',Like ρ w w'->(callFunc f aw).run P w'=.ok (.value c) w')
def Ar (P:Program) (i:Nat) (args:List Value) (U:Heap) (R:Value->Heap->Prop):Prop :=
 ∀ ρ w (aw:Array Value),HRel ρ U w->LRel ρ U.n args aw.toList ->
  ∃ p,ρ i=some p/\∃ fn tmps e_ body,(Instr.yield p.blk aw).run P w=.ok (.round p.blk fn tmps e_ body) w /\
   RoundIn Fence.wide 0 P p.blk fn tmps e_ body w λe w'=>∃ c,e=.returned c/\Got ρ U w R c w'
def Km (P:Program) (f:FuncId):Prop:=∃ fn,P.funcs[f]?=some fn/\fn.body.isSome=true/\(fn.name=="runtime.NumGoroutine")=false
def Z9a (P:Program) (f:FuncId) (s:Ij):Prop:=∀ args U K,s args U K->VCalled P f args U K
def MS (P:Program) (i:Nat) (s:Ij):Prop:=∀ args U K,s args U K->Ar P i args U K
def Z9d (P:Program) (f:FuncId) (T:Nat->Ij->Ij):Prop:=Km P f/\∀ i Y,MS P i Y->∀ args U K,T i Y args U K->VCallsTo P f args U K
structure OkSpecs (P:Program) (S:VSpecs):Prop where
 fn:∀ f s,S.fn f=some s->Z9a P f s
 yl:∀ i s,S.yl i=some s->MS P i s
 it:∀ f T,S.it f=some T->Z9d P f T
theorem BQ {f:FuncId}(h:Km P f) (args:Array Value) (w:World):(callFunc f args).run P w=.ok (.enter f args) w:=by
 obtain⟨fn,h1,h2,h3⟩:=h;have h4:¬ fn.body=none:=λe=>by rw[e] at h2;cases h2
 have h5:¬ fn.name="runtime.NumGoroutine":=λe=>by rw[e] at h3;simp at h3
 simp[callFunc,h1,h4,h5]
theorem VCallsTo.called {f:FuncId}{args:List Value}{U:Heap}{R:Value->Heap->Prop}(he:Km P f) (h:VCallsTo P f args U R):VCalled P f args U R :=
 fun ρ w aw hH hL=>.inl ⟨λw=>BQ he aw w,h ρ w aw hH hL⟩
theorem Got.mono {ρ:Plc}{U:Heap}{w:World}{R R':Value->Heap->Prop}{c:Value}{w':World}(h:Got ρ U w R c w') (hr:∀ v U',R v U'->R' v U'):Got ρ U w R' c w' :=
 let ⟨v,ρ',U',h1,h2⟩:=h;⟨v,ρ',U',hr _ _ h1,h2⟩
theorem VCallsTo.mono {f:FuncId}{args:List Value}{U:Heap}{R R':Value->Heap->Prop}(h:VCallsTo P f args U R) (hr:∀ v U',R v U'->R' v U'):VCallsTo P f args U R' :=
 fun ρ w aw hH hL=>(h ρ w aw hH hL).mono λ_ _ ⟨c,he,hg⟩=>⟨c,he,hg.mono hr⟩
theorem UZ {ρ:Plc}{n:Nat}{env:Env}{a:Act}(h:LRel ρ n env a.tmps.toList) {v c:Value}(hv:VRel ρ n v c) (d:Option Nat):LRel ρ n (YR env d v) (a.put d c).tmps.toList:=by
 cases d with
 |none=>exact h
 |some d=>simp only[YR,Act.put,Array.toList_setIfInBounds];exact h.set d hv
theorem Xl (env:Env) (d:Option Nat) (v:Value):List.length (YR env d v)=List.length env:=by cases d<;>simp[YR]
theorem YY (a:Act) (d:Option Nat) (c:Value):(a.put d c).defers=a.defers:=by cases d<;>rfl
theorem RN {ρ:Plc}{n:Nat}{env:Env}{a:Act}{ops:Array Oper}{o:Oper}{vo:VOper}(hc:WD P ops o=some vo) (hL:LRel ρ n env a.tmps.toList) {b:Bool}(h:Wz env vo.guard=some b) :
  Region.wanted o (yielded ops a.tmps)=b/\vo.dst=o.dst/\NG P o.op=vo.op:=by
 unfold WD at hc;simp only[zw] at hc;cases hg:o.guard with
 |none =>simp[hg] at hc;subst hc;simp[Wz] at h;subst h;simp[Region.wanted,hg]
 |some jw =>
  obtain⟨j,want⟩:=jw;simp[hg] at hc;cases hj:ops[j]? with
  |none=>simp[hj] at hc
  |some oj =>
   cases hd:oj.dst with
   |none=>simp[hj,hd] at hc
   |some d =>
    simp[hj,hd] at hc;subst hc;refine⟨?_,rfl,rfl⟩;simp only[Wz] at h;simp only[Region.wanted,hg,yielded,hj,x9,hd];have hlen:List.length env=a.tmps.size:=by have:=hL.1;omega
    rcases zf d (List.length env) with ao|cA
    .have cQ:d<a.tmps.size:=by rw[<-hlen];exact ao
     have hr:=hL.2 d env[d] a.tmps[d] (z3 ao) (by simp[cQ]);have he:env.getD d undef=env[d]:=by simp[List.getD,ao]
     rw[he] at h;simp only[xC cQ];split at h
     .rename_i b' heq;rw[heq] at hr;rw[hr.q1c];simp at h;simp[<-h]
     .rename_i vs heq;rw[heq] at hr;obtain⟨ds,hds,_⟩:=hr.q1k;simp_all
     .cases h
    .have he:env.getD d undef=undef:=by simp_all
     rw[he] at h;have:a.tmps[d]?=none:=(by simp_all);simp only[this];simp[undef] at h;subst h;simp
theorem Z1m {o:Oper}{vo:VOp}(hc:Gf P o.op=some vo) {ρ:Plc}{U:Heap}{env:Env}{a:Act}(hL:LRel ρ U.n env a.tmps.toList) {K:Value->Heap->Prop}
  (aF:(∃ f bQ,vo=.callF f bQ)\/(∃ f bQ,vo=.callV f bQ)) {σ0:Heap}(h:vop S vo env σ0 K) :
  (∃ f args aw,vcall S f args σ0 K/\LRel ρ U.n args aw.toList/\∀ w,(execOp a.eval o).run P w=(callFunc f aw).run P w) \/
  (∃ i r args aw,Q5d S i args σ0 K/\VRel ρ U.n (.func (.yield i) #[] #[]) (.func (.yield r) #[] #[])/\LRel ρ U.n args aw.toList/\∀ w,(execOp a.eval o).run P w=(Instr.yield r aw).run P w):=by
 have br:=hc;cases eY:Gf P o.op with
 |none=>rw[eY] at hc;cases hc
 |some tS =>
  clear eY hc tS;obtain⟨dst,op,ty,pos,after,guard⟩:=o;simp only at br;unfold Gf at br;split at br
  .cases br
  rename_i au;simp only[xO,xg] at au;cases op
  case call c =>
   simp only[Op.operands] at au br;split at br
   .rename_i f aK;simp at br;subst br;simp only[vop] at h;have aD:(c.args.toList).all K6=true:=by
     simp only[Call.operands,aK,Array.toList_append,List.all_append,z1] at au;exact au.2
    refine .inl ⟨f,_,c.args.map a.eval,h,by have:=Oz (λx hx=>Vo hL hx) aD;simpa using this,λw=>?_⟩;simp[execOp,resolve,aK,Act.eval,Deferred.ofValue,invoke]
   .rename_i fo aJ aK;simp at br;subst br;simp only[vop] at h;simp only[Call.operands,aK,Array.toList_append,List.all_append,z1] at au;have hf:=Vo hL (x:=fo) (by simpa using au.1);have has:=Oz (λx hx=>Vo hL hx) au.2;split at h
    .rename_i g first cap heq
     rw[heq] at hf;cases jJ:a.eval fo with
     |func fn gs ds =>
      rw[jJ] at hf;cases hf with
      |func _ _ _ _ _ h1 h2 h3 h4 =>
       refine .inl ⟨g,_,gs++c.args.map a.eval++ds,h,?_,λw=>?_⟩
       .have eC:=LRel.of_array h1 h3;have bZ:=LRel.of_array h2 h4;have:=(eC.append has).append bZ;simpa using this
       .simp[execOp,resolve,aK,jJ,Deferred.ofValue,invoke]
     |_=>rw[jJ] at hf;cases hf
    .rename_i i first cap heq
     rw[heq] at hf;have hinv:∀ c,VRel ρ U.n (.func (.yield i) first cap) c->∃ r,c=.func (.yield r) #[] #[]/\VRel ρ U.n (.func (.yield i) #[] #[]) (.func (.yield r) #[] #[]):=by
      intro c h;cases h with
      |yield _ r hi hr=>exact⟨r,rfl,.yield i r hi hr⟩
     obtain⟨r,jJ,hv⟩:=hinv _ hf;refine .inr ⟨i,r,_,c.args.map a.eval,h,hv,by simpa using has,λw=>?_⟩;simp[execOp,resolve,aK,jJ,Deferred.ofValue,invoke]
    .cases h
   all_goals
    repeat' first
     |(cases br;done)
     |(simp at br;subst br;rcases aF with⟨f,bQ,h⟩|⟨f,bQ,h⟩<;>cases h;done)
     |split at br
   grind [Option.bind_eq_bind,Option.bind_eq_some_iff]
  all_goals simp only[Op.operands] at au br
  all_goals
   repeat' first
    |(cases br;done)
    |(simp at br;subst br;rcases aF with⟨f,bQ,h⟩|⟨f,bQ,h⟩<;>cases h;done)
    |split at br
  all_goals simp only[zw,zS,reduceCtorEq,and_false,exists_false] at br
  all_goals first
   |(obtain⟨_,_,br⟩:=br;simp at br;subst br;rcases aF with⟨f,bQ,h⟩|⟨f,bQ,h⟩<;>cases h;done)
   |(obtain⟨_,_,_,_,br⟩:=br;simp at br;subst br;rcases aF with⟨f,bQ,h⟩|⟨f,bQ,h⟩<;>cases h;done)
   |(obtain⟨_,_,_,_,_,_,br⟩:=br;simp at br;subst br;rcases aF with⟨f,bQ,h⟩|⟨f,bQ,h⟩<;>cases h;done)
   |(obtain⟨d,_,br⟩:=br;cases d<;>simp at br<;>subst br<;>rcases aF with⟨f,bQ,h⟩|⟨f,bQ,h⟩<;>cases h;done)
   |(obtain⟨_,_,_,_,br⟩:=br;split at br<;>simp at br;subst br;rcases aF with⟨f,bQ,h⟩|⟨f,bQ,h⟩<;>cases h;done)
   |(obtain⟨_,_,br⟩:=br;split at br<;>simp at br;subst br;rcases aF with⟨f,bQ,h⟩|⟨f,bQ,h⟩<;>cases h;done)
theorem BN {o:Op}{vo:VOp}(h:NG P o=vo) (hv:vo≠.bad):Gf P o=some vo\/∃ x,FH P o=some x/\vo=.ext x:=by
 unfold NG at h
 grind
theorem Q6x {o:Op}{x:XOp}(h:Gf P o=some (.ext x)):False:=by
 unfold Gf at h
 repeat' first
  |contradiction
  |(cases h;done)
  |(simp at h;done)
  |(rw[zw,zS] at h;obtain⟨_,_,h⟩:=h)
  |split at h
theorem OL {o:Op}{vo:VOp}(h:NG P o=vo) (hv:vo≠.bad) (c:Call):o≠.defer c:=by
 rintro rfl;rcases BN h hv with h|⟨x,h,_⟩
 .unfold Gf at h;split at h<;>simp at h
 .unfold FH at h;split at h<;>simp at h
theorem Q8d {o:Oper}{x:Operand}(hc:FH P o.op=some (.nextMap x)) {ρ:Plc}{U:Heap}{w:World}{env:Env}{ev:Operand->Value}(hH:HRel ρ U w) (hE:∀ x,K6 x=true->VRel ρ U.n (Q5 env x) (ev x))
  {K:Value->Heap->Prop}(h:Q3p (Q5 env x) U K):∃ c w',(execOp ev o).run P w=.ok (.value c) w'/\Got ρ U w K c w':=by
 obtain⟨dst,op,ty,pos,after,guard⟩:=o;simp only at hc;unfold FH at hc;split at hc
 .cases hc
 rename_i au;simp only[xO,xg] at au;have bC:op=.next x false:=by
  cases op
  case next y b=>cases b<;>simp at hc;subst hc;rfl
  all_goals
   simp only at hc
   repeat' first
    |contradiction
    |(obtain⟨_,h⟩:=Q7n hc;cases h;done)
    |(cases hc;done)
    |(simp at hc;done)
    |(rw[zw,zS] at hc;obtain⟨_,_,hc⟩:=hc)
    |split at hc
 subst bC;clear hc;simp[Op.operands] at au;have hx:=hE x au;unfold Q3p at h;split at h
 .rename_i i bc;rw[bc] at hx;split at h
  .rename_i m since seen last hb;split at h
   .rename_i es clock wr aI;obtain⟨h1,aj,h2,h3⟩:=h;obtain⟨p,hp,⟨_,dj⟩,O,hO,rm,rfl,pj⟩:=hH.live i _ hb;obtain⟨q,entries,gX,dm,aE,aG⟩:=Kk hH aI pj;simp at gX;subst gX;obtain⟨_,_,bT⟩:=hx.q0u hp;rw[dj,zY] at bT;have gH:(getObj p.blk).run P w=.ok (.mapIter (some q.blk) since seen.toArray last) w:=(by grind [QX]);have cX:(getObj q.blk).run P w=.ok (.map entries clock) w:=(by grind [QX]);let left:=entries.filter λe=>!seen.toArray.contains e.born;let bE:=left.filter (·.born<since);let new:=left.filter (·.born>=since);let bX:Array (Option MapEntry):=(if bE.isEmpty then #[none] else #[])++(bE++new).map some;have cT:0<bX.size:=by
     by_cases ho:bE.isEmpty=true
     .grind
     .have:bE.size≠0:=(by simp_all)
      grind
    obtain⟨k,w1,hk,eN,me⟩:∃ k w1,k<bX.size/\(choose (.mapNext bX.size)).run P w=.ok k w1/\(w1=w\/w1=w.drew):=by
     rw[run_choose_drew];by_cases hf:(Question.mapNext bX.size).forced=true
     .exact⟨0,w,cT,by rw[z2 hf],.inl rfl⟩
     .refine⟨_,w.drew,?_,by rw[z0 hf],.inr rfl⟩;exact xm _ cT
    have iR:HRel ρ U w1:=by rcases me with rfl|rfl;exact hH;exact hH.drew
    have fw:Ext ρ U w ρ U w1:=by grind [Ext.refl,Ext.drew]
    have tT:w1.heap[p.blk]?=some (.mapIter (some q.blk) since seen.toArray last):=by rcases me with rfl|rfl<;>exact hO
    have ak:¬ ((!seen.toArray.isEmpty&&!entries.isEmpty&&entries.all (λe=>decide (e.born>=last)))=true):=by
     intro hh;simp only[z1] at hh;obtain⟨⟨h4,h5⟩,h6⟩:=hh;simp only[zl] at h1;rcases h1 with (h1|h1)|h1
     .simp_all
     .rw[List.isEmpty_iff] at h1;subst h1;have:entries=#[]:=by have:=aG.1;simpa using this
      subst this;simp at h5
     .obtain⟨kv,dV,ao⟩:=xx.1 h1;obtain⟨j,hj⟩:=zU.1 dV;have cS:j<entries.toList.length:=by rw[aG.1];grind
      have he:=aG.2 j entries.toList[j] kv (z3 cS) hj;have:=Array.all_eq_true'.1 h6 entries.toList[j] (by rw[<-Array.mem_toList_iff];exact zd cS);have h7:=he.2.1
      grind
    have aV:∀ r,(match bX[k]? with
      |some (some e)=>(do setObj p.blk (.mapIter (some q.blk) since (seen.toArray.push e.born) clock);pure (Value.tuple #[.bool true,e.key,e.val]):Sem Value)
      |some none=>pure (.tuple #[.bool false])
      |none=>stuck "Next: no such candidate").run P w1=r->(Instr.next (ev x) false ty).run P w=r:=by
     intro r hr;rw[<-hr];simp only[Instr.next,bT,zh,gH,cX,z9];rw[z0 ak];simp only[zh];change ((choose (Question.mapNext bX.size)).run P w).andThen _=_;rw[eN];rfl
    have hval:∀ c w',(Instr.next (ev x) false ty).run P w=.ok c w'->(execOp ev ⟨dst,.next x false,ty,pos,after,guard⟩).run P w=.ok (.value c) w':=λc w' h=>by simp[execOp,h]
    have e9:bX[k]?=some bX[k]:=xC hk;cases hx:bX[k] with
    |none =>
     rw[hx] at e9;have bh:none∈bX:=hx▸Array.getElem_mem hk;have hold:bE.isEmpty=true:=by
      grind
     refine⟨_,w1,hval _ _ (aV _ (by rw[e9];rfl)),_,ρ,U,h2 ?_,VRel.q0i (LRel.cons (.bool _) (LRel.nil _ _)),iR,fw⟩;refine z8.2 λkv dV=>?_;obtain⟨j,hj⟩:=zU.1 dV;have cS:j<entries.toList.length:=by rw[aG.1];grind
     have he:=aG.2 j entries.toList[j] kv (z3 cS) hj;cases tU:seen.contains kv.2.2 with
     |true=>rfl
     |false =>
      simp only[Bool.false_or,z6];rcases zf kv.2.2 since with ao|cA
      .exfalso;have:entries.toList[j]∈bE:=by
        simp only[bE,left,Array.mem_filter,z6];refine⟨⟨by simp_all,?_⟩,by rw[he.2.1];exact ao⟩;rw[he.2.1];simpa using tU
       simp_all
      .exact cA
    |some e =>
     rw[hx] at e9;have bh:some e∈bX:=hx▸Array.getElem_mem hk;have mX:e∈left:=by
      have h4:e∈bE++new:=by simp only[bX,Array.mem_append,Array.mem_map] at bh;simp_all
      grind
     obtain⟨hel,ma⟩:=Array.mem_filter.1 mX;rw[<-Array.mem_toList_iff] at hel;obtain⟨j,hj⟩:=zU.1 hel;have cS:j<es.length:=by rw[<-aG.1];grind
     have he:=aG.2 j e es[j] hj (z3 cS);have iO:=h3 es[j] (zd cS) (by rw[<-he.2.1];simpa using ma);obtain⟨k1,k2⟩:=iR.setObj (o':=.iter m since (seen++[es[j].2.2]) clock) (O':=.mapIter (some q.blk) since (seen.toArray.push e.born) clock) hp hb ⟨q.blk,by rw[he.2.1];simp,pj⟩;have aY:VRel ρ U.n es[j].1 e.key:=by rw[he.1];exact G4 (by grind)
     refine⟨_,_,hval _ _ (aV _ (by
      rw[e9];simp only[zh,Zw tT (λ_ _ _ e=>by cases e),z9,x7])),_,ρ,_,iO,VRel.q0i (LRel.cons (.bool _) (LRel.cons aY (LRel.cons he.2.2 (LRel.nil _ _)))),k1,fw.trans k2⟩
   .exact h.elim
  .exact h.elim
 .exact h.elim
theorem Z0v (hS:OkSpecs P S) {f:FuncId}{args:List Value}{U:Heap}{K:Value->Heap->Prop}(h:vcall S f args U K):VCalled P f args U K:=by
 unfold vcall at h;split at h
 .rename_i s hs;exact hS.fn f s hs _ _ _ h
 .exact h.elim
theorem Q7q (hS:OkSpecs P S) {i:Nat}{args:List Value}{U:Heap}{K:Value->Heap->Prop}(h:Q5d S i args U K):Ar P i args U K:=by
 unfold Q5d at h;split at h
 .rename_i s hs;exact hS.yl i s hs _ _ _ h
 .exact h.elim
theorem Q8v {o:Oper}{vo:VOp}(hc:NG P o.op=vo) {ρ:Plc}{U:Heap}{w:World}{env:Env}{a:Act}(hH:HRel ρ U w) (hL:LRel ρ U.n env a.tmps.toList) {v:Value}{U':Heap}
  (h:Qb vo (Q5 env) U=some (v,U')):Q0p P ρ U w v U' (execOp a.eval o):=by
 cases hq:vo.quiet with
 |false=>exact(by grind [Z1a,Vo])
 |true =>obtain⟨rfl,c,ez,hr⟩:=Z0c hc hq hH (λx hx=>Vo hL hx) h;exact⟨c,w,ρ,.inl (hr w (Like.refl ρ w)),ez,hH,Ext.refl _ _ _⟩
theorem Gi (hS:OkSpecs P S) {ro:Option Nat}{n:Nat}{o:Oper}{vo:VOp}(bC:NG P o.op=vo) {ρ:Plc}{U:Heap}{w:World}{env:Env}{a:Act}(hH:HRel ρ U w) (hL:LRel ρ U.n env a.tmps.toList)
  {K:Value->Heap->Prop}(h:vop S vo env U K) {next:Act->World->Prop}{Q':Exit->Act->World->Prop}(hn:∀ c w',Got ρ U w K c w'->next (a.put o.dst c) w'):o.wpIn (FF ro) n P a w next Q':=by
 refine⟨λf _=>Q7k _ _,?_⟩;have cP:vo≠.bad:=by rintro rfl;exact h.elim
 rw[Oper.semAt_eq _ _ _ (OL bC cP)];by_cases aF:(∃ f bQ,vo=.callF f bQ)\/(∃ f bQ,vo=.callV f bQ)
 .have hc:Gf P o.op=some vo:=by
   grind [BN]
  rcases Z1m (S:=S) hc hL aF h with⟨f,args,aw,hv,mP,hr⟩|⟨i,r,args,aw,hv,dH,mP,hr⟩
  .rcases Z0v hS hv ρ w aw hH mP with⟨h1,h2⟩|⟨c,hg,h2⟩
   .rw[hr,h1];exact⟨(by grind [Q0n]),(Q5q h2).mono (by simp_all)⟩
   .rw[hr,h2 w (Like.refl ρ w)];exact hn c w hg
  .obtain⟨p,hp,fn,tmps,e_,body,h1,h2⟩:=Q7q hS hv ρ w aw hH mP;have tV:r=p.blk:=by
    cases dH with
    |yield _ _ _ hh=>exact hh p hp
   rw[hr,tV,h1];exact⟨(by grind [Q0n]),(Q4x h2).mono (by simp_all)⟩
 .by_cases g_:∃ x,vo=.ext (.nextMap x)
  .obtain⟨x,rfl⟩:=g_;have hc:FH P o.op=some (.nextMap x):=by
    rcases BN bC cP with hc|⟨y,hy,hx⟩
    .have:=Q6x hc;exact this.elim
    .cases hx;exact hy
   obtain⟨c,w',hr,hg⟩:=Q8d hc hH (λx hx=>Vo hL hx) h;rw[hr];exact hn c w' hg
  .have kL:∃ v U',Qb vo (Q5 env) U=some (v,U')/\K v U':=by
    unfold vop at h;split at h
    .simp_all
    .simp_all
    .exact absurd ⟨_,rfl⟩ g_
    .cases dI:Qb vo (Q5 env) U with
     |none=>rw[dI] at h;exact h.elim
     |some p=>rw[dI] at h;exact⟨p.1,p.2,rfl,h⟩
   obtain⟨v,U',dI,hK⟩:=kL;obtain⟨c,w',ρ',aV,ez,gd,hE⟩:=Q8v bC hH hL dI;have hg:Got ρ U w K c w':=⟨v,ρ',U',hK,ez,gd,hE⟩;rcases aV with aV|⟨aV,rfl⟩
   .rw[aV];exact hn c w' hg
   .rw[aV];exact hn undef w' hg
def Mks (B:Nat) (ds:List Deferred) (w:World):Prop:=B<=w.heap.size/\∃ Ds:List Nat,ds=Ds.map (λD=>⟨.collected D,#[]⟩)/\Ds.Nodup/\∀ D∈Ds,B<=D/\w.heap[D]?=some (.deferred (some []))
theorem Mks.nil {w:World}(h:B<=w.heap.size):Mks B [] w:=⟨h,[],rfl,List.nodup_nil,λ_ h=>by cases h⟩
theorem Mks.ext {ds:List Deferred}{ρ ρ':Plc}{U U':Heap}{w w':World}(h:Mks B ds w) (hH:HRel ρ U w) (hE:Ext ρ U w ρ' U' w'):Mks B ds w':=by
 obtain⟨h0,Ds,h1,h2,h3⟩:=h;refine⟨zO h0 hE.size,Ds,h1,h2,λD hD=>⟨(h3 D hD).1,?_⟩⟩;have hb:=(h3 D hD).2;have ao:D<w.heap.size:=by
  grind
 rw[hE.keep D ao (λ⟨i,p,b,hp,_,_,tW⟩=>hH.q0m hb i p hp tW)];exact hb
def C5 (B m:Nat) (ρ:Plc) (U:Heap) (w:World) (K:Env->Heap->Prop) (a':Act) (w':World):Prop :=
 ∃ ah ρ' U',K ah U'/\List.length ah=m/\HRel ρ' U' w'/\LRel ρ' U'.n ah a'.tmps.toList/\Mks B a'.defers w'/\Ext ρ U w ρ' U' w'
theorem Q7e (hS:OkSpecs P S) {ro:Option Nat}{n:Nat}(ops:Array Oper) (Q:Exit->Act->World->Prop):∀ (l:List Oper) (lv:List VOper),l.mapM (WD P ops)=some lv ->
  ∀ (env:Env) (U:Heap) (K:Env->Heap->Prop) (ρ:Plc) (w:World) (a:Act),FP S lv env U K->HRel ρ U w->LRel ρ U.n env a.tmps.toList->Mks B a.defers w ->
  (∀ a' w',C5 B (List.length env) ρ U w K a' w'->Q .normal a' w')->wpListIn (FF ro) n P ops Q l a w:=by
 intro l;induction l with
 |nil =>intro lv b9 env U K ρ w a h hH hL hd hQ;simp at b9;subst b9;exact hQ a w ⟨env,ρ,U,h,rfl,hH,hL,hd,Ext.refl _ _ _⟩
 |cons o l ih =>
  intro lv b9 env U K ρ w a h hH hL hd hQ;rw[zZ] at b9;cases br:WD P ops o with
  |none=>simp[br] at b9
  |some vo =>
   cases fK:l.mapM (WD P ops) with
   |none=>simp[br,fK] at b9
   |some r5 =>
    simp[br,fK] at b9;subst b9;simp only[FP] at h;cases hw:Wz env vo.guard with
    |none=>rw[hw] at h;exact h.elim
    |some b =>
     rw[hw] at h;obtain⟨c_,bJ,bC⟩:=RN br hL hw;obtain⟨ht,hf⟩:=h;simp only[wpListIn];rw[c_];cases b with
     |false =>rw[z0 (by simp)];exact⟨λf _=>Q7k _ _,ih r5 fK (YR env vo.dst undef) U K ρ w _ (hf rfl) hH (by rw[bJ];exact UZ hL Ye o.dst) (by rw[YY];exact hd) (by grind [Xl])⟩
     |true =>
      rw[z2 rfl];refine Gi hS bC hH hL (ht rfl) λc w' ⟨v,ρ',U',hK,ez,gd,hE⟩=>?_
      exact ih r5 fK (YR env vo.dst v) U' K ρ' w' _ hK gd (by rw[bJ];exact UZ (hE.lrel hL) ez o.dst) (by rw[YY];exact hd.ext hH hE)
       (λa' o5 ⟨mY,eJ,aN,k1,k0,k2,k3,k4,k5⟩=>hQ a' o5 ⟨mY,eJ,aN,k1,by rw[k0,Xl],k2,k3,k4,hE.trans k5⟩)
theorem Q0k:∀ (l:List Nat) (vs:List Value) (env:Env),(Ky l vs env).length=env.length:=by
 intro l;induction l with
 |nil=>intro vs env;cases vs<;>rfl
 |cons i l ih =>
  intro vs env;cases vs with
  |nil=>rfl
  |cons v vs=>simp only[Ky];rw[ih];simp
theorem Q7g {ρ:Plc}{n:Nat}:∀ (l:List Nat) (env base:Env) (cs:List Value),LRel ρ n env cs->LRel ρ n base cs->LRel ρ n (Ky l (C3 l env) base) cs:=by
 intro l;induction l with
 |nil=>intro env base cs _ hb;exact hb
 |cons i l ih =>
  intro env base cs he hb;simp only[C3,xr,Ky];refine ih env _ cs he ?_;refine⟨by simp[hb.1],λj v c hv hc=>?_⟩;by_cases cE:i=j
  .subst cE;rcases zf i (List.length base) with ao|cA
   .rw[List.getElem?_set_self ao] at hv;obtain rfl:=osj hv;have cQ:i<List.length env:=by rw[he.1,<-hb.1];exact ao
    have:env.getD i poison=env[i]:=by simp[List.getD,cQ]
    rw[this];exact he.2 i _ c (z3 cQ) hc
   simp_all
  .rw[List.getElem?_set_ne cE] at hv;exact hb.2 j v c hv hc
theorem Q8j {ρ:Plc}{n:Nat}(cs:List Value) {m:Nat}(h:m=cs.length):LRel ρ n (List.replicate m poison) cs :=
 ⟨by simp[h],λi v c hv _=>by
  have:=zX hv;rw[List.mem_replicate] at this;rw[this.2];exact .poison c⟩
def RoRel (cL ro:Option Nat) (ρ:Plc) (n:Nat):Prop:=(cL=none/\ro=none)\/∃ i l,cL=some i/\ro=some l/\i<n/\∀ p,ρ i=some p->p.blk=l
theorem RoRel.ext {cL ro:Option Nat}{ρ ρ':Plc}{U U':Heap}{w w':World}(h:RoRel cL ro ρ U.n) (hE:Ext ρ U w ρ' U' w'):RoRel cL ro ρ' U'.n:=by
 rcases h with h|⟨i,l,h1,h2,h3,h4⟩
 .exact .inl h
 .exact .inr ⟨i,l,h1,h2,zT h3 hE.n,λp hp=>h4 p (hE.pl i h3 p hp)⟩
def Sound (P:Program) (S:VSpecs) (c:Code) (vc:VCode):Prop :=
 ∀ ⦃B:Nat⦄ (cL ro:Option Nat) (n:Nat) (Q:Exit->Env->Heap->Prop) (env:Env) (U:Heap) (ρ:Plc) (w:World) (a:Act),vwp S vc cL Q env U->HRel ρ U w->LRel ρ U.n env a.tmps.toList->Mks B a.defers w->RoRel cL ro ρ U.n ->
  ∀ (Q':Exit->Act->World->Prop),(∀ e a' w',C5 B (List.length env) ρ U w (Q e) a' w'->Q' e a' w')->c.wpIn (FF ro) n P Q' a w
theorem Q9e {ρ:Plc}{n:Nat}:∀ (ps:List Nat) (vs cs:List Value) (env:Env) (tmps:Array Value),LRel ρ n env tmps.toList->LRel ρ n vs cs ->
  LRel ρ n (Av env ps vs) ((ps.zip cs).foldl (λ(tmps:Array Value) (q:Nat×Value)=>tmps.setIfInBounds q.1 q.2) tmps).toList:=by
 intro ps;induction ps with
 |nil=>intro vs cs env tmps h _;cases vs<;>exact h
 |cons p ps ih =>
  intro vs cs env tmps h hv;cases vs with
  |nil =>
   cases cs with
   |nil=>exact h
   |cons _ _=>have:=hv.1;simp at this
  |cons v vs =>
   cases cs with
   |nil=>have:=hv.1;simp at this
   |cons c cs =>simp only[Av,List.zip_cons_cons,xT];refine ih vs cs _ _ ?_ ⟨by have:=hv.1;simpa using this,λi a b ha hb=>hv.2 (i+1) a b (by simpa using ha) (by simpa using hb)⟩;rw[Array.toList_setIfInBounds];exact h.set p (hv.2 0 v c rfl rfl)
theorem Kw {w:World}{l:Nat}{r:Loop}(h:w.heap[l]?=some (.loop r)):(Instr.getLoop l).run P w=.ok r w:=by simp[Instr.getLoop,QX h (λ_ _ _ e=>by cases e)]
theorem HV {ρ:Plc}{U:Heap}{w:World}(hH:HRel ρ U w) {i:Nat}{env:Env}{r:Loop}{st:LoopState}{pend:Option Code}{wr:Bool}(h:U.get i=some (.obj (.lp env r st pend) wr)) :
  ∃ p,ρ i=some p/\w.heap[p.blk]?=some (.loop {r with state:=st,pending:=pend})/\LRel ρ U.n env r.tmps.toList:=by
 obtain⟨p,hp,_,O,h1,rfl,h2⟩:=hH.live i _ h;exact⟨p,hp,h1,h2⟩
theorem Q25 {ρ:Plc}{U:Heap}{w:World}(hH:HRel ρ U w) {i:Nat}{env:Env}{r:Loop}{st:LoopState}{pend:Option Code}{p:Pl}(hp:ρ i=some p) (h:U.get i=some (.obj (.lp env r st pend) true)) (jK:LoopState) (bO:Option Code) :
  HRel ρ (U.upd i (.obj (.lp env r jK bO) true)) (Cg w p.blk (.loop {r with state:=jK,pending:=bO})) /\
  Ext ρ U w ρ (U.upd i (.obj (.lp env r jK bO) true)) (Cg w p.blk (.loop {r with state:=jK,pending:=bO})):=by
 obtain⟨p',bu,h1,h2⟩:=HV hH h;exact hH.setObj hp h ⟨rfl,h2⟩
theorem Q4n {e_ body:Code}{va vb:VCode}(ha:Sound P S e_ va) (hb:Sound P S body vb) (ps:List Nat) (env:Env) (r:Loop) (fA:r.assign=e_) (dQ:r.body=body) (kM:r.params.toList=ps) (i:Nat) :
  MS P i (Q5m (vwp S va (some i)) (vwp S vb (some i)) ps env r i):=by
 intro args U K h ρ w aw hH hL;obtain⟨h1,h2,h3⟩:=h;obtain⟨p,hp,aE,kN⟩:=HV hH h1;refine⟨p,hp,r.fn,(r.params.zip aw).foldl (λtmps (t,a)=>tmps.setIfInBounds t a) r.tmps,r.assign,r.body,?_,?_⟩
 .have aH:aw.size=r.params.size:=by
   have h4:=hL.1
   grind
  simp[Instr.yield,Kw aE,aH]
 .refine roundIn_of_wpIn (F:=Fence.wide) trivial ?_;rw[fA,dQ];refine ha (some i) (some p.blk) 0 _ _ U ρ w _ h3 hH ?_ (Mks.nil (z4 _)) (.inr ⟨i,p.blk,rfl,rfl,U.lt h1,(by simp_all)⟩) _ ?_
  .have:=Q9e ps args aw.toList env r.tmps kN hL;rw[<-kM,<-Array.toList_zip,Array.foldl_toList] at this;rw[kM] at this;exact this
  .intro e a1 w1 ⟨bp,ρ1,σ1,k1,k0,k2,k3,k4,k5⟩;cases e with
   |normal =>
    obtain⟨k6,k7⟩:=k1;obtain⟨p1,ql,jL,r6⟩:=HV k2 k6;have qm:p1=p:=by have:=k5.pl i (U.lt h1) p1 ql;simp_all
    subst qm;obtain⟨j1,j2⟩:=Q25 k2 ql k6 .busy none;refine⟨_,by simp[Instr.beginRound,Kw jL,Zw jL (λ_ _ _ e=>by cases e)];rfl,?_⟩;refine hb (some i) (some p1.blk) 0 _ _ _ ρ1 _ a1 k7 j1 k3 (k4.ext k2 j2) (.inr ⟨i,p1.blk,rfl,rfl,σ1.lt k6,(by simp_all)⟩) _ ?_;intro e2 a2 w2 ⟨aT,ρ2,σ2,m1,m0,m2,m3,m4,m5⟩;obtain⟨m6,m7⟩:=m1;obtain⟨p2,dX,eF,r7⟩:=HV m2 m6;have qm:p2=p1:=by have h8:=m5.pl i (by rw[Heap.q2i];exact σ1.lt k6) p2 dX;simp_all
    subst qm;cases e2 with
    |normal =>obtain⟨q1,q2⟩:=Q25 m2 dX m6 .ready none;refine⟨.bool true,_,?_,_,rfl,.bool true,ρ2,_,m7,.bool _,q1,k5.trans (j2.trans (m5.trans q2))⟩;simp[Instr.endRound,Kw eF,Zw eF (λ_ _ _ e=>by cases e)]
    |ret =>obtain⟨q1,q2⟩:=Q25 m2 dX m6 .done (some .ret);refine⟨.bool false,_,?_,_,rfl,.bool false,ρ2,_,m7,.bool _,q1,k5.trans (j2.trans (m5.trans q2))⟩;simp[Instr.endRound,Kw eF,Zw eF (λ_ _ _ e=>by cases e)]
    |exit id =>obtain⟨q1,q2⟩:=Q25 m2 dX m6 .done (some (.exit id));refine⟨.bool false,_,?_,_,rfl,.bool false,ρ2,_,m7,.bool _,q1,k5.trans (j2.trans (m5.trans q2))⟩;simp[Instr.endRound,Kw eF,Zw eF (λ_ _ _ e=>by cases e)]
    |goto l=>exact m7.elim
    |panic ch=>exact m7.elim
    |outgrown=>exact m7.elim
   |exit id=>exact k1.elim
   |goto l=>exact k1.elim
   |ret=>exact k1.elim
   |panic ch=>exact k1.elim
   |outgrown=>exact k1.elim
theorem Heap.ext' {U U':Heap}(h:∀ j,U.get j=U'.get j) (hn:U.n=U'.n):U=U':=by obtain⟨g,n,wf⟩:=U;obtain⟨g',n',vX⟩:=U';have hg:g=g':=funext h;simp_all
theorem Mks.push {ds:List Deferred}{w:World}(h:Mks B ds w):Mks B ({target:=.collected w.heap.size,args:=#[]}::ds) (w.alloc (.deferred (some []))):=by
 obtain⟨h0,Ds,h1,h2,h3⟩:=h;have ao:∀ D∈Ds,D<w.heap.size:=(by grind);refine⟨by rw[World.size_alloc];omega,w.heap.size::Ds,by rw[h1];rfl,(by grind),λD hD=>?_⟩;rcases zB.1 hD with rfl|hD
 .refine⟨h0,?_⟩;show (w.heap.push _)[w.heap.size]?=_;simp
 .refine⟨(h3 D hD).1,?_⟩;show (w.heap.push _)[D]?=_
  grind
theorem Ext.q1e {ρ:Plc}{U:Heap}(w:World) (O:Obj):Ext ρ U w ρ U (w.alloc O) :=
 ⟨rfl,rfl,rfl,by have:=World.size_alloc w O;omega,λB hB _=>by show (w.heap.push _)[B]?=_;grind,λ_ _ h=>h,z4 _,λ_ _ _ h=>h⟩
theorem HRel.q1e {ρ:Plc}{U:Heap}{w:World}(h:HRel ρ U w) (O:Obj):HRel ρ U (w.alloc O) :=
 h.world (by have:=World.size_alloc w O;omega) (λi p hp=>by show (w.heap.push _)[p.blk]?=_;rw[Array.getElem?_push,z0 (by have:=h.lt i p hp;omega)]) λg cs hg=>by show (w.heap.push _)[g]?=_;rw[Array.getElem?_push,z0 (by have:=h.tab.lt hg;omega)]
theorem Q4s {cL ro:Option Nat}{ρ:Plc}{U:Heap}{w:World}{a:Act}{env:Env}(hH:HRel ρ U w) (hL:LRel ρ U.n env a.tmps.toList) (hd:Mks B a.defers w) (hR:RoRel cL ro ρ U.n) (aQ:J1r U cL) (fn:FuncId) (ps:Array Nat) (e_ body:Code) :
  ∃ (r:Loop) (mark:List Deferred) (w1:World) (ρ1:Plc),(Instr.enterLoop fn a.tmps ps e_ body ro).run P w=.ok (w1.heap.size-1,mark) w1/\r.assign=e_/\r.body=body/\r.params=ps /\
   HRel ρ1 (U.push (.obj (.lp env r .ready none) true)) w1/\Ext ρ U w ρ1 (U.push (.obj (.lp env r .ready none) true)) w1/\Mks B (mark++a.defers) w1 /\
   (∀ p,ρ1 U.n=some p->p.blk=w1.heap.size-1):=by
 rcases hR with⟨rfl,rfl⟩|⟨i,l,rfl,rfl,hi,hU⟩
 .let w0:=w.alloc (.deferred (some []));have fN:HRel ρ U w0:=hH.q1e _;have qn:Ext ρ U w ρ U w0:=Ext.q1e _ _;let r:Loop:={state:=.ready,pending:=none,fn,tmps:=a.tmps,params:=ps,assign:=e_,body:=body,defers:=w.heap.size};obtain⟨ρ1,h1,h2,h3⟩:=fN.newObj (.lp env r .ready none) (.loop r) ⟨rfl,hL⟩;have aH:(w0.alloc (.loop r)).heap.size-1=w0.heap.size:=by simp_all
  refine⟨r,[{target:=.collected w.heap.size,args:=#[]}],w0.alloc (.loop r),ρ1,?_,rfl,rfl,rfl,h2,qn.trans h3,?_,λp hp=>?_⟩
  .rw[aH];simp[Instr.enterLoop];exact⟨(World.size_alloc w _).symm,rfl⟩
  .exact(hd.push).ext fN h3
  simp_all
 .obtain⟨tX,r0,st,pend,hb⟩:=aQ;obtain⟨p,hp,aE,_⟩:=HV hH hb;have aW:=hU p hp;subst aW;let r:Loop:={state:=.ready,pending:=none,fn,tmps:=a.tmps,params:=ps,assign:=e_,body:=body,defers:=r0.defers};obtain⟨ρ1,h1,h2,h3⟩:=hH.newObj (.lp env r .ready none) (.loop r) ⟨rfl,hL⟩;have aH:(w.alloc (.loop r)).heap.size-1=w.heap.size:=by simp_all
  refine⟨r,[],w.alloc (.loop r),ρ1,?_,rfl,rfl,rfl,h2,h3,?_,λp hp=>?_⟩
  .rw[aH];simp[Instr.enterLoop,Kw aE];rfl
  .exact hd.ext hH h3
  simp_all
theorem Q40 (hS:OkSpecs P S) {e_ body:Code}{va vb:VCode}(ha:Sound P S e_ va) (hb:Sound P S body vb) (g:Operand) (hg:K6 g=true) (ps:Array Nat):Sound P S (.rangeFunc g ps e_ body) (.rangeF g ps.toList va vb):=by
 intro B cL ro n Q env U ρ w a h hH hL hd hR Q' hQ;simp only[vwp,Q2w] at h;have gy:=Vo hL hg;split at h
 .rename_i f first cap cA
  rw[cA] at gy;split at h
  .rename_i T hT;obtain⟨aQ,h⟩:=h;refine wpIn_rangeFunc λfn _=>?_;obtain⟨r,mark,w1,ρ1,he,fA,dQ,kM,iR,fw,tY,eC⟩:=Q4s (P:=P) hH hL hd hR aQ fn ps e_ body;obtain⟨h_,mZ⟩:=hS.it f T hT;obtain⟨gs,ds,pr,l4,jD⟩:∃ gs ds,a.eval g=.func (.func f) gs ds/\LRel ρ U.n first.toList gs.toList/\LRel ρ U.n cap.toList ds.toList:=by
    cases pr:a.eval g with
    |func vY gs ds =>
     rw[pr] at gy;cases gy with
     |func _ _ _ _ _ k1 k2 k3 k4=>exact⟨gs,ds,rfl,LRel.of_array k1 k3,LRel.of_array k2 k4⟩
    |_=>rw[pr] at gy;cases gy
   have hY:MS P U.n (Q5m (vwp S va (some U.n)) (vwp S vb (some U.n)) ps.toList env r U.n):=(by grind [Q4n]);have kO:=mZ U.n _ hY _ _ _ (h r) ρ1 w1 (gs++#[.func (.yield (w1.heap.size-1)) #[] #[]]++ds) iR (by
    have k1:=fw.lrel l4;have k2:=fw.lrel jD;have k3:LRel ρ1 (U.push (.obj (.lp env r .ready none) true)).n [.func (.yield U.n) #[] #[]] [.func (.yield (w1.heap.size-1)) #[] #[]] :=
     LRel.cons (.yield _ _ (by simp) (λp hp=>(eC p hp).symm)) (LRel.nil _ _)
    have:=(k1.append k3).append k2;simpa using this)
   refine⟨w1.heap.size-1,mark,w1,{target:=.fn (.func f) ds,args:=gs++#[.func (.yield (w1.heap.size-1)) #[] #[]]},w1,f,gs++#[.func (.yield (w1.heap.size-1)) #[] #[]]++ds,w1,?_,?_,λ_ _=>Q7k _ _,?_,(by grind [Q0n]),?_⟩
   .rw[Z2o];exact he
   .simp[resolve,pr,Deferred.ofValue];rfl
   .simp only[invoke];exact BQ h_ _ _
   .refine (Q5q kO).mono λe w3 ⟨c,tZ,v,ρ3,σ3,k1,k2,k3,k4⟩=>?_;subst tZ;unfold Z2h at k1;split at k1
    .rename_i ah r' st pend mL;obtain⟨bn,k1⟩:=k1;obtain⟨p3,r8,ia,r9⟩:=HV k3 mL;have aW:p3.blk=w1.heap.size-1:=eC p3 (k4.pl U.n (by simp) p3 r8);obtain⟨q1,q2⟩:=Q25 k3 r8 mL .exhausted pend;rw[aW] at ia q1 q2;obtain⟨q3,q4⟩:=q1.kill U.n;have fL:(σ3.upd U.n (.obj (.lp ah r' .exhausted pend) true)).kill U.n=σ3.kill U.n:=by
      apply Heap.ext'
      .grind [Heap.q0h,Heap.q0c,Heap.q0b]
      .rfl
     rw[fL] at q3 q4;have jM:=fw.trans (k4.trans (q2.trans q4));have dq:=tY.ext iR (k4.trans (q2.trans q4));refine⟨pend,_,by simp[Instr.endLoop,Kw ia,Zw ia (λ_ _ _ e=>by cases e),bn];rfl,?_⟩;have g_:∀ K:Env->Heap->Prop,K env (σ3.kill U.n)->C5 B (List.length env) ρ U w K {a with defers:=mark++a.defers} (Cg w3 (w1.heap.size-1) (.loop {r' with state:=.exhausted,pending:=pend})):=λK hK =>
      ⟨env,_,_,hK,rfl,q3,jM.lrel hL,dq,jM⟩
     grind [wpIn_ret,wpIn_exit]
    .exact k1.elim
  .exact h.elim
 .exact h.elim
end
end Go.V
namespace Go.V
open Go
theorem Ut {ev fB:Operand->Value}(x:Option Operand) (d:Nat) (h:∀ y∈x.toList,ev y=fB y):Wt ev x d=Wt fB x d:=by
 cases x with
 |none=>rfl
 |some y=>simp only[Wt];rw[h y (by simp)]
theorem Q8i {o:XOp}{ev fB:Operand->Value}{U:Heap}(h:∀ x∈o.opds,ev x=fB x):JA o ev U=JA o fB U:=by cases o<;>simp only[XOp.opds,zB,List.not_mem_nil,or_false,forall_eq_or_imp,forall_eq] at h<;>simp only[JA]<;>(try simp only[h])
theorem SB {o:VOp}{ev fB:Operand->Value}{U:Heap}(h:∀ x∈o.opds,ev x=fB x):Qb o ev U=Qb o fB U:=by
 cases o
 case build z ps =>
  have:(ps.map λp=>(p.1,p.2.1,ev p.2.2))=ps.map λp=>(p.1,p.2.1,fB p.2.2):=x8 λp hp=>by rw[h p.2.2 (zC.2 ⟨p,hp,rfl⟩)]
  simp only[Qb,this]
 case buildSlice e z n ps =>
  have:(ps.map λp=>(p.1*e.sz,e.sz,ev p.2))=ps.map λp=>(p.1*e.sz,e.sz,fB p.2):=x8 λp hp=>by rw[h p.2 (zC.2 ⟨p,hp,rfl⟩)]
  simp only[Qb,this]
 case makeFunc fn a b =>
  have h1:a.map ev=a.map fB:=x8 λx hx=>h x (w4 _ hx);have h2:b.map ev=b.map fB:=x8 λx hx=>h x (xU _ hx);simp only[Qb,h1,h2]
 case slice size x lo hi mx =>
  have h1:=Ut lo 0 (λy hy=>h y (by simp[VOp.opds] at *;exact .inr (.inl hy)));have h2:∀ n,Wt ev hi n=Wt fB hi n:=λn=>Ut hi n (λy hy=>h y (by simp[VOp.opds] at *;exact .inr (.inr (.inl hy))));have h3:=Ut mx 0 (λy hy=>h y (by simp[VOp.opds] at *;exact .inr (.inr (.inr hy))));have h4:=h x (by simp[VOp.opds]);simp only[Qb,h4];cases fB x<;>simp only[h1,h2,h3]
 case sliceStr x lo hi =>
  have h1:=Ut lo 0 (λy hy=>h y (by simp[VOp.opds] at *;exact .inr (.inl hy)));have h2:∀ n,Wt ev hi n=Wt fB hi n:=λn=>Ut hi n (λy hy=>h y (by simp[VOp.opds] at *;exact .inr (.inr hy)));have h4:=h x (by simp[VOp.opds]);simp only[Qb,h4];cases fB x<;>simp only[h1,h2]
 case ext o=>exact Q8i h
 all_goals
  simp only[VOp.opds,zB,List.not_mem_nil,or_false,forall_eq_or_imp,forall_eq] at h;simp only[Qb];try simp only[h]
theorem Q2g {S:VSpecs}{o:VOp}{env ah:Env}{U:Heap}{K:Value->Heap->Prop}(h:∀ x∈o.opds,Q5 env x=Q5 ah x):vop S o env U K=vop S o ah U K:=by
 cases o
 case callF f bQ =>
  have:bQ.map (Q5 env)=bQ.map (Q5 ah):=x8 h;simp only[vop,this]
 case callV f bQ =>
  have h1:Q5 env f=Q5 ah f:=h f (by simp[VOp.opds]);have h2:bQ.map (Q5 env)=bQ.map (Q5 ah):=x8 λx hx=>h x (by simp[VOp.opds,hx]);simp only[vop,h1,h2]
 case ext o =>
  by_cases hx:∃ x,o=.nextMap x
  .obtain⟨x,rfl⟩:=hx;have h1:Q5 env x=Q5 ah x:=h x (by simp[VOp.opds,XOp.opds]);simp only[vop,h1]
  .have e1:=SB (U:=U) h;cases o<;>first|exact absurd ⟨_,rfl⟩ hx|(simp only[vop];rw[e1])
 all_goals
  have e1:=SB (U:=U) h;simp only[vop];rw[e1]
theorem Heap.Le.refl (U:Heap):U.Le U:=⟨z4 _,λ_ _ h=>h⟩
theorem Heap.Le.trans {U U' aN:Heap}(h:U.Le U') (k:U'.Le aN):U.Le aN:=⟨zO h.1 k.1,λi b hb=>k.2 i b (h.2 i b hb)⟩
theorem J0j {U U':Heap}(h:U.Le U') {esz:Nat}{v:Value}{xs:List Value}(hx:U.sl esz v=some xs):U'.sl esz v=some xs:=by
 unfold Heap.sl at hx |-;split at hx
 .exact hx
 .rename_i i o n c;split at hx
  .rename_i cs e wr t hb;simp only[h.2 i _ hb];exact hx
  .cases hx
 .cases hx
theorem Oj {U U':Heap}(h:U.Le U') {m:Nat}{x:List Yx×Nat×Bool}(hx:U.mapAt m=some x):U'.mapAt m=some x:=by
 unfold Heap.mapAt at hx |-;split at hx
 .rename_i es clock wr hb;simp only[h.2 m _ hb];exact hx
 .cases hx
theorem Q74 {U U':Heap}(h:U.Le U') {kd:Nat}{a b:Value}{r:Bool}(hx:WJ kd a b U=some r):WJ kd a b U'=some r:=by
 unfold WJ at hx |-
 split at hx<;>first
  |exact hx
  |(cases hx;done)
  |skip
 rename_i i o j q;split at hx
 .rename_i hc;obtain⟨h1,h2,h3⟩:=hc;obtain⟨b,hb⟩:=Option.isSome_iff_exists.1 h3;rw[z2 ⟨h1,h2,by rw[h.2 _ _ hb];rfl⟩];exact hx
 .cases hx
theorem Q1f {neg:Bool}{s:List MK}{x y:Operand}{ev:Operand->Value}{U U' σ1:Heap}{v:Value}(h:JA (.eqAgg neg s x y) ev U=some (v,σ1)):JA (.eqAgg neg s x y) ev U'=some (v,U'):=by
 simp only[JA] at h |-;split at h
 .simp_all
 .cases h
theorem Q92 {o:XOp}{ev:Operand->Value}{U U' σ1:Heap}{v:Value}(hk:(VOp.ext o).kind≠2) (h:JA o ev U=some (v,σ1)) (hl:U.Le U'):JA o ev U'=some (v,U'):=by
 cases o<;>simp only[VOp.kind,VOp.quiet,XOp.quiet] at hk<;>try (exact absurd rfl hk)
 case eqAgg neg s x y=>exact Q1f h
 case eqNil kd neg x y =>
  simp only[JA] at h |-
  grind [Q74]
 case lookup mk z ok x i =>
  simp only[JA] at h |-;split at h
  .rename_i bF;rw[z2 bF];split at h
   .simp_all
   .rename_i m vZ;split at h
    .rename_i es clock wr hm;simp only[Oj hl hm]
     grind
    .cases h
   .cases h
  .cases h
 case lenMap x =>
  simp only[JA] at h |-
  grind [Oj]
 case entry x =>
  simp only[JA] at h |-;split at h
  .rename_i i hx;split at h
   .rename_i m since seen last wr hb;simp only[hl.2 i _ hb];split at h
    .rename_i es clock kI b hm dF;simp only[Oj hl hm,dF]
     grind
    .cases h
   .cases h
  .cases h
 case toUnsafe x =>
  simp only[JA] at h |-;split at h
  .simp_all
  .rename_i i o hx;split at h
   .rename_i c e wr t hb;simp only[hl.2 i _ hb];simp_all
   .cases h
  .cases h
 case fromUnsafe u sz x =>
  simp only[JA] at h |-;split at h
  .simp_all
  .rename_i i o hx;split at h
   .rename_i c e hb;simp only[hl.2 i _ hb];simp_all
   .cases h
  .cases h
 case sliceData x =>
  simp only[JA] at h |-;split at h
  .simp_all
  .rename_i i o n cap hx;split at h
   .rename_i hc;obtain⟨h1,h2⟩:=hc;obtain⟨b,hb⟩:=Option.isSome_iff_exists.1 h2;rw[z2 ⟨h1,by rw[hl.2 _ _ hb];rfl⟩];simp_all
   .cases h
  .cases h
 case bytesStr x =>
  simp only[JA] at h |-;split at h
  .grind [J0j]
  .cases h
theorem Aj {o:VOp}{ev:Operand -> Value}{U U' σ1:Heap}{v:Value}(hk:o.kind = 0) (h:Qb o ev U = some (v, σ1)):Qb o ev U' = some (v, U'):=by
  cases o
  case ext o =>
    cases o <;> first | (simp [VOp.kind, VOp.quiet, XOp.quiet] at hk; done) | skip
    case eqAgg neg s x y => exact Q1f h
  case slice size x lo hi mx => cases mx <;> simp [VOp.kind, VOp.quiet] at hk
  case build z ps =>
    simp only [Qb] at h |-;split at h
    . simp_all
    . cases h
  all_goals first
    | (simp [VOp.kind, VOp.quiet] at hk; done)
    | skip
  all_goals
    simp only [Qb] at h |-
    (repeat' split at h) <;> first
      | (cases h; done)
      | (rename_i qo; obtain ⟨rfl, rfl, rfl⟩:=qo; simp_all; done)
      | (simp_all; done)
      | (simp_all
         obtain ⟨rfl, _⟩:=h
         first
          | rw [z0 (by omega)]
          | rw [z2 (by omega)])
theorem CT {o:VOp}{ev:Operand->Value}{U U' σ1:Heap}{v:Value}(hk:o.kind≠2) (h:Qb o ev U=some (v,σ1)) (hl:U.Le U'):Qb o ev U'=some (v,U'):=by
 cases o
 case ext o=>exact Q92 hk h hl
 case load agg size a =>
  simp only[Qb] at h |-;split at h
  .split at h
   .split at h
    .rename_i aj;rw[z2 aj];split at h
     .simp_all
     .cases h
    .cases h
   .cases h
  .rename_i i o hx;split at h
   .rename_i c e wr t hb;simp only[hl.2 i _ hb];split at h
    .simp_all
    .cases h
   .cases h
  .cases h
 case slice size x lo hi mx =>
  cases mx with
  |some m=>simp[VOp.kind,VOp.quiet] at hk
  |none =>
   simp only[Qb] at h |-;split at h
   .rename_i a n cap hx;split at h
    .rename_i l k eC bZ;unfold VC at h |-;split at h
     .simp_all
     .rename_i i o n' av heq;split at h
      .rename_i c e wr t hb;simp only[hl.2 i _ hb];simp_all
      .cases h
     .cases h
    .rename_i hm;cases hm
    .cases h
   .cases h
 all_goals first
  |(exact absurd rfl hk)
  |(exact Aj rfl h)
section
variable {P:Program}{S:VSpecs}{B:Nat}
def EL (lv:List VOper) (env:Env) (tr:Nat->Value) (A:Nat->Bool):Nat->Env
 |0=>env
 |i+1=>if A i then YR (EL lv env tr A i) ((lv[i]?).bind (·.dst)) (tr i) else EL lv env tr A i
theorem NF (lv:List VOper) (env:Env) (tr:Nat->Value) (A:Nat->Bool):∀ i,List.length (EL lv env tr A i)=List.length env
 |0=>rfl
 |i+1=>by
  simp only[EL];split
  .rw[Xl];exact NF lv env tr A i
  .exact NF lv env tr A i
theorem Mg (lv:List VOper) (env:Env) {tr tr':Nat->Value}{A B:Nat->Bool}:∀ i,(∀ l,l<i->tr l=tr' l)->(∀ l,l<i->A l=B l)->EL lv env tr A i=EL lv env tr' B i
 |0,_,_=>rfl
 |i+1,h,h'=>by simp only[EL];rw[Mg lv env i (λl hl=>h l (by omega)) (λl hl=>h' l (by omega)),h i (by omega),h' i (by omega)]
theorem Tt (env:Env) (d:Option Nat) (v:Value) {x:Nat}(h:d≠some x):(YR env d v)[x]?=env[x]?:=by
 cases d with
 |none=>rfl
 |some d=>simp only[YR];rw[List.getElem?_set_ne (by rintro rfl;exact h rfl)]
theorem Z8j (lv:List VOper) (env:Env) {tr tr':Nat->Value}{A:Nat->Bool}:∀ i,(∀ l,l<i->A l=true->tr l=tr' l)->EL lv env tr A i=EL lv env tr' A i
 |0,_=>rfl
 |i+1,h=>by simp only[EL];rw[Z8j lv env i λl hl hA=>h l (by omega) hA];simp_all
theorem Tp (lv:List VOper) (env:Env) (tr:Nat->Value) {A B:Nat->Bool}(x:Nat):∀ i,(∀ l,l<i->(lv[l]?).bind (·.dst)=some x->A l=B l)->(EL lv env tr A i)[x]?=(EL lv env tr B i)[x]?
 |0,_=>rfl
 |i+1,h=>by
  have ih:=Tp lv env tr x i (λl hl hd=>h l (by omega) hd);by_cases hd:(lv[i]?).bind (·.dst)=some x
  .have mf:=h i (by omega) hd;simp only[EL];rw[mf];split
   .rw[hd];simp only[YR,xq];rw[NF,NF];rfl
   .exact ih
  .simp only[EL]
   grind [Tt]
theorem RU (lv:List VOper) (env:Env) (tr:Nat->Value) (j:Nat):∀ i,j<=i->EL lv env tr (λl=>decide (l<j)) i=EL lv env tr (λ_=>true) j
 |0,h=>by
  obtain rfl:j=0:=by omega
  rfl
 |i+1,h=>by
  by_cases hj:j=i+1
  .subst hj;exact Mg lv env _ (λ_ _=>rfl) (λl hl=>by simp[hl])
  .simp only[EL];rw[z0 (by simp;omega)];exact RU lv env tr j i (by omega)
def DFact (S:VSpecs) (d:DInfo) (lv:List VOper) (env:Env) (tr:Nat->Value) (hp:Nat->Heap) (u:Nat) (i:Nat):Prop :=
 ∀ v,lv[i]?=some v->∃ b,Wz (EL lv env tr (λ_=>true) i) v.guard=some b /\
  (b=true->v.op.kind=2->vop S v.op (EL lv env tr (λ_=>true) i) (hp (d.rank i)) (λv' U'=>v'=tr i/\U'=hp (d.rank i+1))) /\
  (b=true->v.op.kind=1->∀ r,d.kmin i<=r->r<=d.kmax i->r<=u->∃ U',Qb v.op (Q5 (EL lv env tr (λ_=>true) i)) (hp r)=some (tr i,U')) /\
  (b=true->v.op.kind≠1->v.op.kind≠2->∃ U',Qb v.op (Q5 (EL lv env tr (λ_=>true) i)) (hp (d.rank i))=some (tr i,U')) /\
  (b=false->tr i=undef/\(v.op.kind=2->hp (d.rank i+1)=hp (d.rank i)))
def Z9c (d:DInfo) (lv:List VOper) (env:Env) (tr:Nat->Value) (i:Nat) (pend:List (Nat×(Heap->Prop))):Prop :=
 ∀ l,l<i->∀ v,lv[l]?=some v->Wz (EL lv env tr (λ_=>true) l) v.guard=some true->v.op.kind=1->d.rank i+1<=d.kmax l->(d.kmax l,YK v.op (Q5 (EL lv env tr (λ_=>true) l)) (tr l))∈pend
inductive Know (S:VSpecs) (d:DInfo) (lv:List VOper) (env:Env) (K:Env->Heap->Prop):List Nat->Nat->(Nat->Value)->(Nat->Heap)->Prop
 |full {nd:List Nat}{tr:Nat->Value}{hp:Nat->Heap}(hF:∀ l,l<lv.length->l∉nd->DFact S d lv env tr hp (d.rank lv.length) l) (hK:K (EL lv env tr (λ_=>true) lv.length) (hp (d.rank lv.length))):Know S d lv env K nd lv.length tr hp
 |part {nd:List Nat}{i:Nat}{tr:Nat->Value}{hp:Nat->Heap}{v:VOper}(hv:lv[i]?=some v) (hk:v.op.kind=2) (hw:Wz (EL lv env tr (λ_=>true) i) v.guard=some true)
   (hF:∀ l,l<i->l∉nd->DFact S d lv env tr hp (d.rank i) l) (jN:∀ j,i<j->j<lv.length->∃ e u,i<=e/\e<j/\lv[e]?=some u/\((∃ x,u.dst=some x/\∀ v,lv[j]?=some v->x∈Mf v)\/(u.op.kind=2/\∀ v,lv[j]?=some v->v.op.kind=2)))
   (R:Value->Heap->Prop) (fO:vop S v.op (EL lv env tr (λ_=>true) i) (hp (d.rank i)) R)
   (I:∀ u U',R u U'->Nat) (T:∀ u U',R u U'->Nat->Value) (H:∀ u U',R u U'->Nat->Heap)
   (hT:∀ u U' h,i<I u U' h/\(∀ l,l<i->T u U' h l=tr l)/\T u U' h i=u/\(∀ r,r<=d.rank i->H u U' h r=hp r)/\H u U' h (d.rank i+1)=U')
   (next:∀ u U' h,Know S d lv env K (i::nd) (I u U' h) (T u U' h) (H u U' h)):Know S d lv env K nd i tr hp
theorem Q2h {r:Nat}{U:Heap}:∀ {l:List (Nat×(Heap->Prop))},YT r U l->∀ c∈l,r<=c.1->c.2 U
 |[],_,_,h=>by cases h
 |x::l,h,c,hc=>by
  rcases zB.1 hc with rfl|hc
  .exact h.1
  .exact Q2h h.2 c hc
theorem CS {op:VOp}{ev:Operand->Value}{v:Value}{τ:Heap}(h:YK op ev v τ):∃ U',Qb op ev τ=some (v,U'):=by
 unfold YK at h;cases hv:Qb op ev τ with
 |none=>rw[hv] at h;exact h.elim
 |some q =>rw[hv] at h;have h:q.1=v:=h;exact⟨q.2,by rw[<-h]⟩
theorem DFact.congr {d:DInfo}{lv:List VOper}{env:Env}{tr tr':Nat->Value}{hp bu:Nat->Heap}{u u' l:Nat}(h:DFact S d lv env tr hp u l) (ht:∀ k,k<=l->tr' k=tr k) (hh:∀ r,r<=u->bu r=hp r) (hr:d.rank l<=u) (h2:∀ v,lv[l]?=some v->v.op.kind=2->d.rank l+1<=u)
  (hu:∀ v,lv[l]?=some v->Wz (EL lv env tr (λ_=>true) l) v.guard=some true->v.op.kind=1->∀ r,u<r->r<=u'->r<=d.kmax l->∃ U',Qb v.op (Q5 (EL lv env tr (λ_=>true) l)) (bu r)=some (tr l,U')):DFact S d lv env tr' bu u' l:=by
 intro v hv;obtain⟨b,f1,f2,f3,f4,f5⟩:=h v hv;have e:=Mg lv env (tr:=tr') (tr':=tr) (A:=λ_=>true) (B:=λ_=>true) l (λk hk=>ht k (by omega)) (λ_ _=>rfl);rw[e,ht l (z4 _),hh _ hr]
 grind
theorem Io:∀ (d:DInfo) (rest:List VOper) (i:Nat) (xs:List Nat),waits xs (d.opers rest i)=true->∀ (k:Nat) (v:VOper),rest[k]?=some v->v.op.kind=2\/(∃ x∈xs,x∈Mf v)\/∃ (e:Nat) (u:VOper) (x:Nat),e<k/\rest[e]?=some u/\u.dst=some x/\x∈Mf v
 |d,[],i,xs,_,k,v,hv=>by simp at hv
 |d,o::rest,i,xs,h,k,v,hv=>by
  simp only[DInfo.opers,waits,z1,zl,xx,zH] at h;obtain⟨h1,h2⟩:=h;cases k with
  |zero =>
   obtain rfl:o=v:=by simpa using hv
   rcases h1 with h1|⟨x,hx,bj⟩
   .exact .inl h1
   refine .inr (.inl ⟨x,by simpa using bj,?_⟩);simp only[Mf,xh] at hx |-;rcases hx with hx|hx
   .exact .inl (.inr hx)
   .exact .inr hx
  |succ k =>
   rcases Io d rest (i+1) _ h2 k v (by simpa using hv) with h3|⟨y,hy,r_⟩|⟨e,u,y,he,hu,hd,hn⟩
   .exact .inl h3
   .rcases xh.1 hy with hy|hy
    .exact .inr (.inr ⟨0,o,y,by omega,rfl,by simpa using hy,r_⟩)
    .exact .inr (.inl ⟨y,hy,r_⟩)
   .exact .inr (.inr ⟨e+1,u,y,by omega,by simpa using hu,hd,hn⟩)
theorem Q18 (d:DInfo) {i j:Nat}(h:i<=j):d.rank i<=d.rank j:=by
 induction j with
 |zero =>
  obtain rfl:i=0:=by omega
  exact z4 _
 |succ j ih =>
  by_cases cE:i=j+1
  .subst cE;exact z4 _
  .have:=ih (by omega);simp only[DInfo.rank];split<;>omega
theorem Z8h (d:DInfo) (lv:List VOper) (mg:∀ i v,lv[i]?=some v->d.k i=v.op.kind) (env:Env) (K:Env->Heap->Prop):∀ (rest:List VOper) (i:Nat),i<=lv.length->lv.drop i=rest->∀ (nd:List Nat) (tp:Nat->Value) (hq:Nat->Heap) (pend:List (Nat×(Heap->Prop))),
  (∀ l,l<i->l∉nd->DFact S d lv env tp hq (d.rank i) l)->Z9c d lv env tp i pend ->
  XD S (d.opers rest i) (EL lv env tp (λ_=>true) i) ((List.range (d.rank i+1)).map hq) (hq (d.rank i)) pend K ->
  ∃ k tr hp,i<=k/\(∀ l,l<i->tr l=tp l)/\(∀ r,r<=d.rank i->hp r=hq r)/\Know S d lv env K nd k tr hp:=by
 intro rest;induction rest with
 |nil =>
  intro i hU hi nd tp hq pend hF hP h;have hl:lv.length<=i:=by simpa using hi
  obtain rfl:i=lv.length:=by omega
  simp only[DInfo.opers,XD] at h;exact⟨_,tp,hq,z4 _,λ_ _=>rfl,λ_ _=>rfl,.full hF h⟩
 |cons v rest ih =>
  intro i hU hi nd tp hq pend hF hP h;have ao:i<lv.length:=by
   grind
  have hv:lv[i]?=some v:=by
   have:=congrArg List.head? hi
   grind [List.head?_drop]
  have gf:lv.drop (i+1)=rest:=by have:=congrArg List.tail hi;simpa using this
  have hk:=mg i v hv;have fA:v.op.kind=2->d.rank (i+1)=d.rank i+1:=λe=>by simp only[DInfo.rank,hk,e,zq]
  have jH:v.op.kind≠2->d.rank (i+1)=d.rank i:=λe=>by simp only[DInfo.rank,hk,e,if_false]
  have fz:∀ l,l<i->d.rank l<=d.rank i/\∀ w,lv[l]?=some w->w.op.kind=2->d.rank l+1<=d.rank i:=λl hl=>by have h1:=Q18 d (show l+1<=i by omega);refine⟨by simp only[DInfo.rank] at h1;split at h1<;>omega,λw hw h2=>?_⟩;simp only[DInfo.rank,mg l w hw,h2,zq] at h1;exact h1
  simp only[DInfo.opers,XD] at h;have hlen:((List.range (d.rank i+1)).map hq).length=d.rank i+1:=by simp
  cases hw:Wz (EL lv env tp (λ_=>true) i) v.guard with
  |none=>rw[hw] at h;exact h.elim
  |some b =>
   rw[hw] at h;obtain⟨ht,hf⟩:=h
   have go:∀ (ji:List Nat) (u:Value) (U':Heap) (bO:List (Nat×(Heap->Prop))),(∀ l,l∈nd->l∈ji) ->
     XD S (d.opers rest (i+1)) (YR (EL lv env tp (λ_=>true) i) v.dst u) (if v.op.kind=2 then (List.range (d.rank i+1)).map hq++[U'] else (List.range (d.rank i+1)).map hq) (if v.op.kind=2 then U' else hq (d.rank i)) bO K ->
     (v.op.kind=2->YT (d.rank i+1) U' pend)->(∀ c∈pend,c∈bO) ->
     (b=true->v.op.kind=1->d.rank i+1<=d.kmax i->(d.kmax i,YK v.op (Q5 (EL lv env tp (λ_=>true) i)) u)∈bO) ->
     (i∉ji->∀ tr hp,(∀ l,l<i->tr l=tp l)->tr i=u->(∀ r,r<=d.rank i->hp r=hq r)->(v.op.kind=2->hp (d.rank i+1)=U')->DFact S d lv env tr hp (d.rank (i+1)) i) ->
     ∃ k tr hp,i<k/\(∀ l,l<i->tr l=tp l)/\tr i=u/\(∀ r,r<=d.rank i->hp r=hq r)/\(v.op.kind=2->hp (d.rank i+1)=U')/\Know S d lv env K ji k tr hp:=by
    intro ji u U' bO ib h jO jj kP m8;let ic:Nat->Value:=λl=>if l=i then u else tp l
    let dm:Nat->Heap:=λr=>if v.op.kind=2/\r=d.rank i+1 then U' else hq r
    have et:∀ l,l<i->ic l=tp l:=(by grind);have ei:ic i=u:=by simp[ic]
    have eh:∀ r,r<=d.rank i->dm r=hq r:=(by grind);have sd:v.op.kind=2->dm (d.rank i+1)=U':=λaB=>by simp[dm,aB]
    have e1:EL lv env ic (λ_=>true) (i+1)=YR (EL lv env tp (λ_=>true) i) v.dst u:=by simp only[EL,zq];rw[Mg lv env (tr:=ic) (tr':=tp) i et (λ_ _=>rfl),hv,ei];rfl
    have e2:(List.range (d.rank (i+1)+1)).map dm=if v.op.kind=2 then (List.range (d.rank i+1)).map hq++[U'] else (List.range (d.rank i+1)).map hq:=by
     grind [List.range_succ,List.map_congr_left]
    have e3:dm (d.rank (i+1))=if v.op.kind=2 then U' else hq (d.rank i):=by simp only[DInfo.rank,hk];split<;>rename_i aB<;>simp[dm,aB]
    have t_:∀ l,l<i+1->l∉ji->DFact S d lv env ic dm (d.rank (i+1)) l:=λl hl ie=>by
     by_cases ig:l=i
     .subst ig;exact m8 ie ic dm et ei eh sd
     .have ig:l<i:=by omega
      refine (hF l ig λh=>ie (ib l h)).congr (λk hk=>et k (by omega)) eh (fz l ig).1 (fz l ig).2 λw gA px bz r r1 r2 r3=>?_;by_cases aB:v.op.kind=2
      .rw[fA aB] at r2;obtain rfl:r=d.rank i+1:=by omega
       rw[sd aB];exact CS (Q2h (jO aB) _ (hP l ig w gA px bz (by omega)) (by simpa using r3))
      .rw[jH aB] at r2;omega
    have ua:Z9c d lv env ic (i+1) bO:=λl hl w gA px bz r4=>by
     by_cases ig:l=i
     .subst ig;rw[hv] at gA;obtain rfl:=osj gA;have e:=Mg lv env (tr:=ic) (tr':=tp) (A:=λ_=>true) (B:=λ_=>true) l et (λ_ _=>rfl);simp_all
     .have ig:l<i:=by omega
      have e:=Mg lv env (tr:=ic) (tr':=tp) (A:=λ_=>true) (B:=λ_=>true) l (λk hk=>et k (by omega)) (λ_ _=>rfl);rw[e] at px |-;rw[et l ig];have hle:d.rank i<=d.rank (i+1):=by simp only[DInfo.rank];split<;>omega
      exact jj _ (hP l ig w gA px bz (by omega))
    obtain⟨k,tr,hp,k0,k1,k2,k3⟩:=ih (i+1) (by omega) gf ji ic dm bO t_ ua (by rw[e1,e2,e3];exact h)
    grind
   have weak:∀ {ji:List Nat}{u:Value}{U':Heap},(∃ k tr hp,i<k/\(∀ l,l<i->tr l=tp l)/\tr i=u/\(∀ r,r<=d.rank i->hp r=hq r)/\(v.op.kind=2->hp (d.rank i+1)=U')/\Know S d lv env K ji k tr hp)->∃ k tr hp,i<=k/\(∀ l,l<i->tr l=tp l)/\(∀ r,r<=d.rank i->hp r=hq r)/\Know S d lv env K ji k tr hp:=by
    grind
   have fact:∀ {u:Value}{U':Heap},(b=true->v.op.kind=1->∀ r,d.kmin i<=r->r<=d.rank i->YK v.op (Q5 (EL lv env tp (λ_=>true) i)) u (hq r))->(b=true->v.op.kind≠1->v.op.kind≠2->∃ aN,Qb v.op (Q5 (EL lv env tp (λ_=>true) i)) (hq (d.rank i))=some (u,aN))->(b=false->u=undef/\(v.op.kind=2->U'=hq (d.rank i)))->(b=true->v.op.kind=2->vop S v.op (EL lv env tp (λ_=>true) i) (hq (d.rank i)) (λv' aN=>v'=u/\aN=U')) ->
     ∀ tr hp,(∀ l,l<i->tr l=tp l)->tr i=u->(∀ r,r<=d.rank i->hp r=hq r)->(v.op.kind=2->hp (d.rank i+1)=U')->DFact S d lv env tr hp (d.rank (i+1)) i:=by
    intro u U' g1 g2 g3 k5 tr hp k1 k2 k3 k4 v' jP;rw[hv] at jP;obtain rfl:=osj jP;have e:=Mg lv env (tr:=tr) (tr':=tp) (A:=λ_=>true) (B:=λ_=>true) i k1 (λ_ _=>rfl);rw[e,k2,k3 _ (z4 _)]
    grind [CS]
   cases b with
   |false =>
    have hf:=hf rfl;by_cases aB:v.op.kind=2
    .rw[z2 aB] at hf;obtain⟨ql,hf⟩:=hf;exact weak (go nd undef (hq (d.rank i)) pend (λ_ h=>h) (by rw[z2 aB,ite_self];exact hf) (by grind) (λ_ h=>h) (λh=>by cases h) (λ_=>fact (λh=>by cases h) (λh=>by cases h) (λ_=>⟨rfl,λ_=>rfl⟩) (λh=>by cases h)))
    .rw[z0 aB] at hf;exact weak (go nd undef (hq (d.rank i)) pend (λ_ h=>h) (by rw[z0 aB,ite_self];exact hf) (λh=>absurd h aB) (λ_ h=>h) (λh=>by cases h) (λ_=>fact (λh=>by cases h) (λh=>by cases h) (λ_=>⟨rfl,λ_=>rfl⟩) (λh=>by cases h)))
   |true =>
    have ht:=ht rfl;by_cases aB:v.op.kind=2
    .rw[z2 aB] at ht;rw[hlen] at ht;rcases ht with⟨u,U',h1,h2,h3⟩|⟨gK,fO⟩
     .exact weak (go nd u U' pend (λ_ h=>h) (by rw[z2 aB,z2 aB];exact h3) (λ_=>h2) (λ_ h=>h) (λ_ hk=>by omega) (λ_=>fact (λ_ hk=>by omega) (λ_ _ hk=>absurd aB hk) (λh=>by cases h) (λ_ _=>h1)))
     .have nx:∀ u U',(YT (d.rank i+1) U' pend/\XD S (d.opers rest (i+1)) (YR (EL lv env tp (λ_=>true) i) v.dst u) ((List.range (d.rank i+1)).map hq++[U']) U' pend K) ->
        ∃ k tr hp,i<k/\(∀ l,l<i->tr l=tp l)/\tr i=u/\(∀ r,r<=d.rank i->hp r=hq r)/\(v.op.kind=2->hp (d.rank i+1)=U')/\Know S d lv env K (i::nd) k tr hp:=λu U' ⟨h2,h3⟩ =>
       go (i::nd) u U' pend (λ_ h=>xk _ h) (by rw[z2 aB,z2 aB];exact h3) (λ_=>h2) (λ_ h=>h) (λ_ hk=>by omega) (λh=>absurd z_ h)
      refine⟨i,tp,hq,z4 _,λ_ _=>rfl,λ_ _=>rfl,.part hv aB hw hF (λj hj aR=>?_) _ fO (λu U' h=>(nx u U' h).choose) (λu U' h=>(nx u U' h).choose_spec.choose) (λu U' h=>(nx u U' h).choose_spec.choose_spec.choose) (λu U' h=>?_) (λu U' h=>?_)⟩
      .obtain⟨n,hn⟩:∃ n,j=i+1+n:=⟨j-(i+1),by omega⟩;subst hn;have ub:∀ k w,lv[i+1+k]?=some w->rest[k]?=some w:=(by grind);have qp:∀ k w,rest[k]?=some w->lv[i+1+k]?=some w:=(by grind);have uc:=z3 aR;rcases Io d rest (i+1) _ gK n _ (ub n _ uc) with qq|⟨x,hx,kQ⟩|⟨e,u,x,he,hu,hd,kQ⟩
       .exact⟨i,v,z4 _,by omega,hv,(by grind)⟩
       .exact⟨i,v,z4 _,by omega,hv,(by grind)⟩
       .exact⟨i+1+e,u,by omega,by omega,qp e u hu,(by grind)⟩
      .grind
      grind
    .rw[z0 aB] at ht;by_cases bz:v.op.kind=1
     .rw[z2 bz] at ht;cases dI:Qb v.op (Q5 (EL lv env tp (λ_=>true) i)) (hq (d.rank i)) with
      |none=>rw[dI] at ht;exact ht.elim
      |some p =>
       rw[dI] at ht;obtain⟨g1,g2⟩:=ht;refine weak (go nd p.1 (hq (d.rank i)) _ (λ_ h=>h) (by rw[z0 aB,ite_self];exact g2) (λh=>absurd h aB) (λc hc=>?_) (λ_ _ hr=>?_) (λ_=>fact (λ_ _ r ud uf=>?_) (λ_ hk=>absurd bz hk) (λh=>by cases h) (λ_ hk=>absurd hk aB)))
       .grind
       .grind
       .refine g1 _ ?_;rw[zU];refine⟨r-d.kmin i,?_⟩
        grind
     .rw[z0 bz] at ht;cases dI:Qb v.op (Q5 (EL lv env tp (λ_=>true) i)) (hq (d.rank i)) with
      |none=>rw[dI] at ht;exact ht.elim
      |some p =>rw[dI] at ht;exact weak (go nd p.1 (hq (d.rank i)) pend (λ_ h=>h) (by rw[z0 aB,ite_self];exact ht) (λh=>absurd h aB) (λ_ h=>h) (λ_ hk=>absurd hk bz) (λ_=>fact (λ_ hk=>absurd hk bz) (λ_ _ _=>⟨p.2,dI⟩) (λh=>by cases h) (λ_ hk=>absurd hk aB)))
structure DOk (d:DInfo) (n:Nat):Prop where
 edge:∀ j,j<n->∀ e∈d.ed.getD j [],e<j
 path:∀ j,j<n->∀ i,i<j->d.lt i j=true->∃ e∈d.ed.getD j [],e=i\/(i<e/\d.lt i e=true)
 free:∀ j,j<n->∀ i,i<j->d.lt i j=false->d.touch i j=false/\¬(d.k i=2/\d.k j=2)
 kmin:∀ j,j<n->d.k j=1->(d.kmin j<=d.rank j/\d.rank j<=d.kmax j)/\d.kmax j<=d.rank n/\∀ l,l<n->d.k l=2->((d.lt l j=true<->d.rank l<d.kmin j)/\(d.lt j l=true<->d.kmax j<=d.rank l))
theorem DOk.of {d:DInfo}(h:d.ok=true):DOk d d.ks.length:=by
 have h0:∀ j,j<d.ks.length->d.okE j=true/\d.okP j=true/\d.okK j=true:=λj hj=>by have:=z8.1 h j (zQ.2 hj);simpa [z1] using this
 refine⟨λj hj e he=>?_,λj hj i hi ao=>?_,λj hj i hi ao=>?_,λj hj hk=>?_⟩
 .have:=z8.1 (h0 j hj).1 e he;simpa using this
 .have:=z8.1 (h0 j hj).2.1 i (zQ.2 hi);simp_all
 .have:=z8.1 (h0 j hj).2.1 i (zQ.2 hi)
  grind
 .have:=(h0 j hj).2.2;simp only[DInfo.okK,hk,BEq.rfl,xQ,Bool.false_or,z1,z6] at this
  grind
theorem EK (d:DInfo) {i j:Nat}(h:i<j) (hk:d.k i=2):d.rank i<d.rank j:=by have:=Q18 d (show i+1<=j from h);simp only[DInfo.rank,hk,zq] at this;omega
theorem Df (d:DInfo):∀ j r,r<d.rank j->∃ l,l<j/\d.k l=2/\d.rank l=r
 |0,r,h=>by simp[DInfo.rank] at h
 |j+1,r,h=>by
  simp only[DInfo.rank] at h;split at h
  .rename_i hk;rcases zf r (d.rank j) with h'|h'
   .obtain⟨l,h1,h2⟩:=Df d j r h';exact⟨l,by omega,h2⟩
   grind
  .obtain⟨l,h1,h2⟩:=Df d j r h;exact⟨l,by omega,h2⟩
theorem S8 {d:DInfo}{n:Nat}(hd:DOk d n) {A:Nat->Bool}(hc:∀ j,j<n->A j=true->∀ e∈d.ed.getD j [],A e=true):∀ j,j<n->A j=true->∀ i,i<j->d.lt i j=true->A i=true:=by
 intro j;induction j using Nat.strongRecOn with
 |ind j ih =>
  intro hj hA i hi ao;obtain⟨e,he,h⟩:=hd.path j hj i hi ao;have m9:=hd.edge j hj e he;have gL:=hc j hj hA e he;rcases h with rfl|⟨h1,h2⟩
  .exact gL
  .exact ih e m9 (by omega) gL i h1 h2
def cnt (A:Nat->Bool):Nat->Nat
 |0=>0
 |i+1=>cnt A i+if A i then 0 else 1
theorem Q65 {A:Nat->Bool}:∀ {n},cnt A n=0->∀ i,i<n->A i=true
 |0,_,i,h=>by omega
 |n+1,hc,i,h=>by
  simp only[cnt] at hc;by_cases hi:i=n
  .simp_all
  .exact Q65 (n:=n) (by omega) i (by omega)
theorem Q8x {A B:Nat->Bool}{j:Nat}(hA:A j=false) (hB:B j=true) (h:∀ i,i≠j->A i=B i):∀ n,j<n->cnt A n=cnt B n+1
 |0,hj=>by omega
 |n+1,hj=>by
  simp only[cnt];by_cases aR:j=n
  .subst aR;have:cnt A j=cnt B j:=by
    have key:∀ m,m<=j->cnt A m=cnt B m:=by
     intro m;induction m with
     |zero=>intro _;rfl
     |succ m ih=>intro hm;simp only[cnt];rw[ih (by omega),h m (by omega)]
    exact key j (z4 _)
   simp[hA,hB,this]
  .have:=Q8x hA hB h n (by omega);rw[h n (by omega)];omega
theorem Z5s (o:VOp):o.kind<=2:=by
 unfold VOp.kind;split<;>try omega
 split<;>omega
theorem Z4u {o:VOp}{env:Env}{U:Heap}{p:Value×Heap}{K:Value->Heap->Prop}(hk:o.kind≠2) (h:Qb o (Q5 env) U=some p) (hK:K p.1 p.2):vop S o env U K:=by
 cases o
 case callF=>exact absurd rfl hk
 case callV=>exact absurd rfl hk
 case ext x =>
  cases x
  case nextMap=>exact absurd rfl hk
  all_goals (simp only[vop];rw[h];exact hK)
 all_goals (simp only[vop];rw[h];exact hK)
theorem Sf {o:VOp}{ev:Operand->Value}{U U':Heap}{v:Value}(hk:o.kind≠2) (h:Qb o ev U=some (v,U')):U'=U:=by have:=CT hk h (Heap.Le.refl U);simp_all
theorem IC {env ah:Env}{g:Option (Nat×Bool)}(h:∀ x b,g=some (x,b)->env[x]?=ah[x]?):Wz env g=Wz ah g:=by
 cases g with
 |none=>rfl
 |some p =>obtain⟨x,b⟩:=p;simp only[Wz,z5];rw[h x b rfl]
theorem IM {env ah:Env}{x:Operand}(h:∀ t,x=.tmp t->env[t]?=ah[t]?):Q5 env x=Q5 ah x:=by
 cases x<;>try rfl
 rename_i t;simp only[Q5,z5];rw[h t rfl]
structure DInv (B:Nat) (d:DInfo) (lv:List VOper) (env:Env) (tr:Nat->Value) (hp:Nat->Heap) (ρ0:Plc) (σ0:Heap) (w0:World) (A:Nat->Bool) (a:Act) (w:World):Prop where
 closed:∀ j,j<lv.length->A j=true->∀ e∈d.ed.getD j [],A e=true
 run:∃ m ρ,(∀ l,l<lv.length->d.k l=2->(A l=true<->d.rank l<m))/\m<=d.rank lv.length/\HRel ρ (hp m) w/\LRel ρ (hp m).n (EL lv env tr A lv.length) a.tmps.toList/\Mks B a.defers w/\Ext ρ0 σ0 w0 ρ (hp m) w
structure DLink (P:Program) (ops:Array Oper) (pm:List Nat) (d:DInfo) (lv:List VOper):Prop where
 comp:∀ (p:Nat) (v:VOper),lv[p]?=some v->∃ o,ops[pm.getD p 0]?=some o/\WD P ops o=some v/\d.k p=v.op.kind
 touch:∀ (i j:Nat) (u v:VOper),lv[i]?=some u->lv[j]?=some v->d.touch i j=false->(∀ x,u.dst=some x->x∉Mf v)/\(∀ x,v.dst=some x->x∉Mf u)
 size:pm.length=lv.length
theorem DLink.of {ops:Array Oper}{vs:List VOper}(h:ops.toList.mapM (WD P ops)=some vs) {d0:DInfo}{pm:List Nat}(jC:∀ i∈pm,i<vs.length):DLink P ops pm (Q4m d0 vs pm) (GD vs pm):=by
 obtain⟨h1,h2⟩:=V3 _ _ _ h;refine⟨λp v hv=>?_,λi j u v hu hv ht=>?_,by simp[GD]⟩
 .simp only[GD,xp,zg] at hv;obtain⟨i,hi,rfl⟩:=hv;have aQ:=jC i (zX hi);have m_:i<ops.toList.length:=by omega
  obtain⟨v,hv,hc⟩:=h2 i _ (z3 m_);have hg:vs.getD i default=v:=by simp[z5,hv]
  have hp:pm.getD p 0=i:=by simp[z5,hi]
  refine⟨ops.toList[i],?_,by rw[hg];exact hc,?_⟩
  .rw[hp];simp
  .simp[DInfo.k,Q4m,GD,z5,hi]
 .simp only[DInfo.touch,Q4m,Z3l,z5,xp,hu,hv,xS,Option.getD_some,Bool.or_eq_false_iff] at ht
  grind
theorem Q50 {v:VOper}{x:Nat}(h:v.dst=some x):x∈Mf v:=by simp[Mf,h]
theorem Q6e {v:VOper}{x:Nat}(h:Operand.tmp x∈v.op.opds):x∈Mf v:=by refine w4 _ (xU _ ?_);exact List.mem_filterMap.2 ⟨_,h,rfl⟩
theorem IU {v:VOper}{x:Nat}{b:Bool}(h:v.guard=some (x,b)):x∈Mf v:=by refine xU _ ?_;simp[h]
theorem EO (hS:OkSpecs P S) {ro:Option Nat}{n:Nat}{ops:Array Oper}{pm:List Nat}{d:DInfo}{lv:List VOper}(hl:DLink P ops pm d lv) (hd:DOk d lv.length) {env:Env}{tr:Nat->Value}{hp:Nat->Heap}
  {bd j:Nat}(hF:DFact S d lv env tr hp bd j)
  {Q:Exit->Act->World->Prop}{ρ0:Plc}{σ0:Heap}{w0:World}{A:Nat->Bool}{a:Act}{w:World}(ug:∀ m,(∀ l,l<lv.length->d.k l=2->(A l=true<->d.rank l<m))->m<=d.rank lv.length->m<=bd) (hI:DInv B d lv env tr hp ρ0 σ0 w0 A a w)
  (aR:j<lv.length) (kR:A j=false) (fP:∀ e∈d.ed.getD j [],A e=true) {A':Nat->Bool}(a7:∀ i,A' i=if i=j then true else A i) {K:Act->World->Prop}(hK:∀ a' w',DInv B d lv env tr hp ρ0 σ0 w0 A' a' w'->K a' w'):wpOpIn (FF ro) n P ops Q (pm.getD j 0) K a w:=by
 obtain⟨v,hv⟩:∃ v,lv[j]?=some v:=⟨_,z3 aR⟩;obtain⟨o,ho,hc,hk⟩:=hl.comp j v hv;obtain⟨cM,m,ρ,hm,mh,hH,hL,dY,hE⟩:=hI;have na:∀ i,i<j->d.lt i j=true->A i=true:=by
  intro i hi ao;obtain⟨e,he,h⟩:=hd.path j aR i hi ao;have m9:=hd.edge j aR e he;have gL:A e=true:=fP e he;rcases h with rfl|⟨h1,h2⟩
  .exact gL
  .exact S8 hd cM e (by omega) gL i h1 h2
 have nb:∀ i,i<lv.length->j<i->d.lt j i=true->A i=false:=by
  intro i hi aP ao;cases hA:A i with
  |false=>rfl
  |true=>rw[S8 hd cM i hi hA j aP ao] at kR;cases kR
 have nc:∀ x,x∈Mf v->(EL lv env tr A lv.length)[x]?=(EL lv env tr (λ_=>true) j)[x]?:=by
  intro x hx;rw[<-RU lv env tr j lv.length (by omega)];refine Tp lv env tr x lv.length λl bq bJ=>?_;cases b9:lv[l]? with
  |none=>rw[b9] at bJ;cases bJ
  |some u =>
   rw[b9] at bJ;rcases Nat.lt_trichotomy l j with h|h|h
   .have ao:d.lt l j=true:=by
     cases ao:d.lt l j with
     |true=>rfl
     |false=>exact absurd hx ((hl.touch l j u v b9 hv (hd.free j aR l h ao).1).1 x bJ)
    simp_all
   .simp_all
   .have ao:d.lt j l=true:=by
     cases ao:d.lt j l with
     |true=>rfl
     |false=>exact absurd hx ((hl.touch j l v u hv b9 (hd.free l bq j h ao).1).2 x bJ)
    grind
 obtain⟨b,f1,f2,f3,uh,f4⟩:=hF v hv;have hw:Wz (EL lv env tr A lv.length) v.guard=some b:=by
  grind [IC,IU]
 have jk:∀ x∈v.op.opds,Q5 (EL lv env tr A lv.length) x=Q5 (EL lv env tr (λ_=>true) j) x:=(by grind [IM,Q6e]);obtain⟨c_,bJ,bC⟩:=RN hc hL hw;have eO:EL lv env tr A' lv.length=YR (EL lv env tr A lv.length) v.dst (tr j):=by
  apply zK;intro x;by_cases hx:v.dst=some x
  .have h1:(EL lv env tr A' lv.length)[x]?=(EL lv env tr (λl=>decide (l<j+1)) lv.length)[x]?:=by
    refine Tp lv env tr x lv.length λl bq cB=>?_;rw[a7];by_cases jl:l=j
    .subst jl;simp
    .rw[z0 jl];cases b9:lv[l]? with
     |none=>rw[b9] at cB;cases cB
     |some u =>
      rw[b9] at cB;have jQ:=Q50 hx;rcases zf l j with h|h
      .have ao:d.lt l j=true:=by
        cases ao:d.lt l j with
        |true=>rfl
        |false=>exact absurd jQ ((hl.touch l j u v b9 hv (hd.free j aR l h ao).1).1 x cB)
       grind
      .have h':j<l:=by omega
       have ao:d.lt j l=true:=by
        cases ao:d.lt j l with
        |true=>rfl
        |false=>exact absurd jQ ((hl.touch j l v u hv b9 (hd.free l bq j h' ao).1).2 x cB)
       grind
   rw[h1,RU lv env tr (j+1) lv.length (by omega)];simp only[EL,zq,hv,x9,hx,YR];rw[xq,xq];simp only[zq,NF]
  grind [Tt,Tp]
 have b_:∀ i,i<lv.length->A' i=true->∀ e∈d.ed.getD i [],A' e=true:=by
  grind
 have qs:d.k j=2->d.rank j=m:=by
  intro aB;have h1:¬ d.rank j<m:=(by grind);by_cases h2:d.rank j=m
  .exact h2
  .obtain⟨l,jl,cO,fz⟩:=Df d j m (by omega);have ao:d.lt l j=true:=by
    cases ao:d.lt l j with
    |true=>rfl
    |false=>exact absurd ⟨cO,aB⟩ (hd.free j aR l jl ao).2
   grind
 have jm:d.k j=2->∀ l,l<lv.length->d.k l=2->(A' l=true<->d.rank l<m+1):=by
  grind [Nat.lt_or_ge,EK]
 have py:d.k j≠2->∀ l,l<lv.length->d.k l=2->(A' l=true<->d.rank l<m):=by
  grind
 have kS:d.k j=2->m+1<=d.rank lv.length:=(by grind [EK]);unfold wpOpIn;simp only[ho];cases b with
 |false =>
  rw[c_,z0 (by simp)];obtain⟨g1,g2⟩:=f4 rfl;refine⟨λf _=>Q7k _ _,hK _ _ ⟨b_,?_⟩⟩;by_cases aB:d.k j=2
  .grind [YY,UZ,Ye]
  .grind [YY,UZ,Ye]
 |true =>
  rw[c_,z2 rfl];by_cases aB:d.k j=2
  .have gg:=qs aB;have g1:=f2 rfl (hk▸aB);rw[gg] at g1;rw[<-Q2g jk] at g1;refine Gi hS bC hH hL g1 λc w' ⟨u,ρ',U',⟨hu,hσ⟩,ez,gd,bR⟩=>hK _ _ ⟨b_,?_⟩;subst hu;subst hσ;refine⟨m+1,ρ',jm aB,kS aB,gd,?_,by rw[YY];exact dY.ext hH bR,hE.trans bR⟩;rw[eO,bJ];exact UZ (bR.lrel hL) ez o.dst
  .have g2:∃ σ1,Qb v.op (Q5 (EL lv env tr A lv.length)) (hp m)=some (tr j,σ1):=by
    rw[SB jk];by_cases bz:d.k j=1
    .obtain⟨⟨k1,k4⟩,k3,k2⟩:=hd.kmin j aR bz;refine f3 rfl (hk▸bz) m ?_ ?_ (ug m hm mh)
     .rcases zf m (d.kmin j) with h|h
      .obtain⟨l,bq,cO,fz⟩:=Df d j m (by omega)
       grind
      .exact h
     .rcases zf (d.kmax j) m with h|h
      .obtain⟨l,bq,cO,fz⟩:=Df d lv.length (d.kmax j) (by omega);have ao:=(k2 l bq cO).2.2 (by omega);have se:=(hm l bq cO).2 (by omega);rcases Nat.lt_trichotomy j l with h'|h'|h'
       .simp_all
       .subst h';omega
       .exfalso;have fA:d.rank l<d.rank j:=EK d h' cO;omega
      .exact h
    .have g9:v.op.kind=0:=by
      grind [Z5s]
     obtain⟨σ1,g1⟩:=uh rfl (by omega) (by omega);exact⟨hp m,Aj g9 g1⟩
   obtain⟨σ1,g2⟩:=g2;have hq:=Sf (hk▸aB) g2;subst hq;refine Gi hS (K:=λv' U'=>v'=tr j/\U'=hp m) bC hH hL (by grind [Z4u]) λc w' ⟨u,ρ',U',⟨hu,hσ⟩,ez,gd,bR⟩=>hK _ _ ⟨b_,?_⟩;subst hu;subst hσ;refine⟨m,ρ',py aB,mh,gd,?_,by rw[YY];exact dY.ext hH bR,hE.trans bR⟩;rw[eO,bJ];exact UZ (bR.lrel hL) ez o.dst
theorem Q47 (hS:OkSpecs P S) {ro:Option Nat}{n:Nat}{ops:Array Oper}{pm:List Nat}{d:DInfo}{lv:List VOper}(hl:DLink P ops pm d lv) (hd:DOk d lv.length) {env:Env}{tr:Nat->Value}{hp:Nat->Heap}
  {j:Nat}{v:VOper}(hv:lv[j]?=some v) (qt:v.op.kind=2) (v5:Wz (EL lv env tr (λ_=>true) j) v.guard=some true) {R:Value->Heap->Prop}(fO:vop S v.op (EL lv env tr (λ_=>true) j) (hp (d.rank j)) R)
  {Q:Exit->Act->World->Prop}{ρ0:Plc}{σ0:Heap}{w0:World}{A:Nat->Bool}{a:Act}{w:World}(hI:DInv B d lv env tr hp ρ0 σ0 w0 A a w) (sg:∀ l,j<=l->l<lv.length->A l=false)
  (aR:j<lv.length) (kR:A j=false) (fP:∀ e∈d.ed.getD j [],A e=true) {A':Nat->Bool}(a7:∀ i,A' i=if i=j then true else A i) {K:Act->World->Prop}
  (hK:∀ u U' a' w',R u U'->(∀ tr' bu,(∀ l,l<j->tr' l=tr l)->tr' j=u->(∀ r,r<=d.rank j->bu r=hp r)->bu (d.rank j+1)=U'->DInv B d lv env tr' bu ρ0 σ0 w0 A' a' w')->K a' w'):wpOpIn (FF ro) n P ops Q (pm.getD j 0) K a w:=by
 obtain⟨o,ho,hc,hk⟩:=hl.comp j v hv;obtain⟨cM,m,ρ,hm,mh,hH,hL,dY,hE⟩:=hI;have na:∀ i,i<j->d.lt i j=true->A i=true:=by
  intro i hi ao;obtain⟨e,he,h⟩:=hd.path j aR i hi ao;have m9:=hd.edge j aR e he;have gL:A e=true:=fP e he;rcases h with rfl|⟨h1,h2⟩
  .exact gL
  .exact S8 hd cM e (by omega) gL i h1 h2
 have nb:∀ i,i<lv.length->j<i->d.lt j i=true->A i=false:=by
  grind
 have nc:∀ x,x∈Mf v->(EL lv env tr A lv.length)[x]?=(EL lv env tr (λ_=>true) j)[x]?:=by
  intro x hx;rw[<-RU lv env tr j lv.length (by omega)];refine Tp lv env tr x lv.length λl bq bJ=>?_;cases b9:lv[l]? with
  |none=>rw[b9] at bJ;cases bJ
  |some u =>
   rw[b9] at bJ;rcases Nat.lt_trichotomy l j with h|h|h
   .have ao:d.lt l j=true:=by
     cases ao:d.lt l j with
     |true=>rfl
     |false=>exact absurd hx ((hl.touch l j u v b9 hv (hd.free j aR l h ao).1).1 x bJ)
    simp_all
   .simp_all
   .grind
 have hw:Wz (EL lv env tr A lv.length) v.guard=some true:=by
  grind [IC,IU]
 have jk:∀ x∈v.op.opds,Q5 (EL lv env tr A lv.length) x=Q5 (EL lv env tr (λ_=>true) j) x:=(by grind [IM,Q6e]);obtain⟨c_,bJ,bC⟩:=RN hc hL hw;have eO:∀ tr:Nat->Value,EL lv env tr A' lv.length=YR (EL lv env tr A lv.length) v.dst (tr j):=λtr=>by
  apply zK;intro x;by_cases hx:v.dst=some x
  .have h1:(EL lv env tr A' lv.length)[x]?=(EL lv env tr (λl=>decide (l<j+1)) lv.length)[x]?:=by
    refine Tp lv env tr x lv.length λl bq cB=>?_;rw[a7];by_cases jl:l=j
    .subst jl;simp
    .rw[z0 jl];cases b9:lv[l]? with
     |none=>rw[b9] at cB;cases cB
     |some u =>
      rw[b9] at cB;have jQ:=Q50 hx;rcases zf l j with h|h
      .have ao:d.lt l j=true:=by
        cases ao:d.lt l j with
        |true=>rfl
        |false=>exact absurd jQ ((hl.touch l j u v b9 hv (hd.free j aR l h ao).1).1 x cB)
       grind
      .grind
   rw[h1,RU lv env tr (j+1) lv.length (by omega)];simp only[EL,zq,hv,x9,hx,YR];rw[xq,xq];simp only[zq,NF]
  grind [Tt,Tp]
 have b_:∀ i,i<lv.length->A' i=true->∀ e∈d.ed.getD i [],A' e=true:=by
  grind
 have qs:d.k j=2->d.rank j=m:=by
  intro aB;have h1:¬ d.rank j<m:=(by grind);by_cases h2:d.rank j=m
  .exact h2
  .obtain⟨l,jl,cO,fz⟩:=Df d j m (by omega);have ao:d.lt l j=true:=by
    cases ao:d.lt l j with
    |true=>rfl
    |false=>exact absurd ⟨cO,aB⟩ (hd.free j aR l jl ao).2
   grind
 have jm:d.k j=2->∀ l,l<lv.length->d.k l=2->(A' l=true<->d.rank l<m+1):=by
  grind [Nat.lt_or_ge,EK]
 have py:d.k j≠2->∀ l,l<lv.length->d.k l=2->(A' l=true<->d.rank l<m):=by omega
 have kS:d.k j=2->m+1<=d.rank lv.length:=(by grind [EK]);unfold wpOpIn;simp only[ho];rw[c_,z2 rfl];have aB:d.k j=2:=hk.trans qt;have gg:=qs aB;rw[gg,<-Q2g jk] at fO;refine Gi hS bC hH hL fO λc w' ⟨u,ρ',U',hR,ez,gd,bR⟩=>hK u U' _ _ hR λtr' bu t1 t2 t3 t4=>⟨b_,m+1,ρ',jm aB,kS aB,?_,?_,?_,?_⟩
 .rw[<-gg,t4];exact gd
 .have e0:EL lv env tr' A lv.length=EL lv env tr A lv.length:=(by grind [Z8j,Nat.lt_or_ge]);rw[<-gg,t4,eO tr',e0,bJ,t2];exact UZ (bR.lrel hL) ez o.dst
 .rw[YY];exact dY.ext hH bR
 .rw[<-gg,t4];exact hE.trans bR
theorem J3f {ops:Array Oper}{pm:List Nat}{d:DInfo}{lv:List VOper}(_hl:DLink P ops pm d lv) {env:Env}{tr:Nat->Value}{hp:Nat->Heap}{ρ0:Plc}{σ0:Heap}{w0:World}{A:Nat->Bool}{a:Act}{w:World}
  (hI:DInv B d lv env tr hp ρ0 σ0 w0 A a w) (aj:∀ j,j<lv.length->A j=true):C5 B (List.length env) ρ0 σ0 w0 (λah U'=>ah=EL lv env tr (λ_=>true) lv.length/\U'=hp (d.rank lv.length)) a w:=by
 obtain⟨cM,m,ρ,hm,mh,hH,hL,dY,hE⟩:=hI;have fQ:m=d.rank lv.length:=by
  rcases zf m (d.rank lv.length) with h|h
  .grind [Df]
  .omega
 subst fQ;have e:=Mg lv env (tr:=tr) (tr':=tr) (A:=A) (B:=λ_=>true) lv.length (λ_ _=>rfl) (λl hl=>aj l hl);exact⟨_,ρ,_,⟨rfl,rfl⟩,NF _ _ _ _ _,hH,by rw[<-e];exact hL,dY,hE⟩
def Q93 (pm:List Nat) (d:DInfo) (n:Nat):(Nat->Bool)->List Nat->Prop
 |A,[]=>∀ p,p<n->A p=true
 |A,j::rest=>∃ p,p<n/\pm.getD p 0=j/\A p=false/\(∀ e∈d.ed.getD p [],A e=true)/\Q93 pm d n (λq=>if q=p then true else A q) rest
theorem Q87 (hS:OkSpecs P S) {ro:Option Nat}{n:Nat}{ops:Array Oper}{pm:List Nat}{d:DInfo}{lv:List VOper}(hl:DLink P ops pm d lv) (hd:DOk d lv.length) {env:Env}{K:Env->Heap->Prop}
  {Q:Exit->Act->World->Prop}{ρ0:Plc}{σ0:Heap}{w0:World}{l2:List Nat}(hQ:∀ a w,C5 B (List.length env) ρ0 σ0 w0 K a w->wpOpsIn (FF ro) n P ops Q l2 a w) {nd:List Nat}{i:Nat}{tr:Nat->Value}{hp:Nat->Heap}(ui:Know S d lv env K nd i tr hp) :
  ∀ (l:List Nat) (A:Nat->Bool) (a:Act) (w:World),Q93 pm d lv.length A l->DInv B d lv env tr hp ρ0 σ0 w0 A a w->(∀ j,i<=j->j<lv.length->A j=false)->(∀ j,j∈nd->j<lv.length->A j=true)->wpOpsIn (FF ro) n P ops Q (l++l2) a w:=by
 induction ui with
 |full hF hK =>
  intro l;induction l with
  |nil =>intro A a w hs hI _ _;obtain⟨ah,ρ',U',⟨e1,e2⟩,n1⟩:=J3f hl hI hs;exact hQ a w ⟨ah,ρ',U',by rw[e1,e2];exact hK,n1⟩
  |cons j rest ih =>
   intro A a w hs hI hA hN;obtain⟨p,bu,rfl,jR,he,bg⟩:=hs;rw[xE,wpOpsIn_cons];refine EO hS hl hd (hF p bu λh=>?_) (λm _ h=>h) hI bu jR he (λ_=>rfl) λa' w' ng=>ih _ a' w' bg ng (λj h1 h2=>by omega) (λj hj iN=>?_)
   .rw[hN p h bu] at jR;cases jR
   .simp_all
 |part hv hk hw hF jN R fO I T H hT next pz =>
  rename_i nd i tr hp v;have aQ:i<lv.length:=by
   grind
  intro l;induction l with
  |nil =>intro A a w hs hI hA _;have:=hs i aQ;rw[hA i (z4 _) aQ] at this;cases this
  |cons j rest ih =>
   intro A a w hs hI hA hN;obtain⟨p,bu,rfl,jR,he,bg⟩:=hs;rw[xE,wpOpsIn_cons];have ky:d.k i=2:=by obtain⟨_,_,_,h⟩:=hl.comp i v hv;exact h.trans hk
   rcases Nat.lt_trichotomy p i with jS|rfl|jS
   .refine EO hS hl hd (hF p jS λh=>?_) (λm hm _=>?_) hI bu jR he (λ_=>rfl) λa' w' ng=>ih _ a' w' bg ng (λj h1 h2=>?_) (λj hj iN=>?_)
    .rw[hN p h bu] at jR;cases jR
    .grind
    .grind
    simp_all
   .refine Q47 hS hl hd hv hk hw fO hI hA bu jR he (λ_=>rfl) λu U' a' w' hR ng=>?_;obtain⟨q1,q2,q3,q4,q5⟩:=hT u U' hR;refine pz u U' hR _ _ a' w' bg (ng _ _ q2 q3 q4 q5) (λj h1 h2=>?_) (λj hj iN=>?_)
    .grind
    grind
   .exfalso;obtain⟨e,u,h1,h2,hu,hn⟩:=jN p jS bu;have jO:=z3 bu;have ao:d.lt e p=true:=by
     cases h:d.lt e p with
     |true=>rfl
     |false =>
      rcases hn with⟨x,hx,hn⟩|⟨fx,dJ⟩
      .exact absurd (hn _ jO) ((hl.touch e p u _ hu jO (hd.free p bu e h2 h).1).1 x hx)
      .obtain⟨_,_,_,q1⟩:=hl.comp e u hu;obtain⟨_,_,_,q2⟩:=hl.comp p _ jO;exact absurd ⟨q1.trans fx,q2.trans (dJ _ jO)⟩ (hd.free p bu e h2 h).2
    have gL:A e=true:=by
     obtain⟨e',sh,h3⟩:=hd.path p bu e h2 ao;have nh:=he e' sh;rcases h3 with rfl|⟨h3,h4⟩
     .exact nh
     .exact S8 hd hI.closed e' (by have:=hd.edge p bu e' sh;omega) nh e h3 h4
    grind
def My (ops:Array Oper):Array Bool->List Nat->Prop
 |L,[]=>∀ j,j<ops.size->L.getD j false=true
 |L,j::rest=>j∈Region.ready .any ops L/\My ops (L.setIfInBounds j true) rest
theorem GN (L:Array Bool) (j i:Nat) (hj:j<L.size):(L.setIfInBounds j true).getD i false=if i=j then true else L.getD i false:=by
 by_cases h:i=j
 .subst h;simp[hj]
 .simp[h,Array.getElem?_setIfInBounds_ne (Ne.symm h)]
theorem Q9x {ops:Array Oper}(ij:∀ (j:Nat) (o:Oper),ops[j]?=some o->∀ e∈L8 o,e<j) {L:Array Bool}(hs:L.size=ops.size) (h:Region.ready .any ops L=[]):∀ j,j<ops.size->L.getD j false=true:=by
 intro j;induction j using Nat.strongRecOn with
 |ind j ih =>
  intro hj;cases hA:L.getD j false with
  |true=>rfl
  |false =>
   exfalso;have:j∈Region.ready .any ops L:=by
    refine mem_ready.2 ⟨?_,ops[j],xC hj,λe he hb=>?_⟩
    .simp_all
    .have:=ij j ops[j] (xC hj) e.on (zC.2 (by grind));exact ih _ this (by omega)
   rw[h] at this;cases this
theorem Cm {ops:Array Oper}{L:Array Bool}(hs:L.size=ops.size) {j:Nat}(h:j∈Region.ready .any ops L):j<ops.size/\L.getD j false=false/\∃ o,ops[j]?=some o/\∀ e∈L8 o,L.getD e false=true:=by obtain⟨h1,o,ho,h2⟩:=mem_ready.1 h;have aR:j<ops.size:=(xG.1 ho).1;refine⟨aR,by simp[hs,aR] at h1 |-;exact h1,o,ho,λe he=>?_⟩;obtain⟨x,hx,rfl⟩:=zC.1 he;simp_all
theorem Z3b {ops:Array Oper}(ij:∀ (j:Nat) (o:Oper),ops[j]?=some o->∀ e∈L8 o,e<j):∀ (fuel t:Nat) (L:Array Bool),L.size=ops.size->cnt (λi=>L.getD i false) ops.size<=fuel ->
  My ops L (Region.linearise.go .any ops fuel t L []):=by
 intro fuel;induction fuel with
 |zero =>intro t L hs hc;simp only[Region.linearise.go,List.reverse_nil,My];exact Q65 (by omega)
 |succ fuel ih =>
  intro t L hs hc;simp only[Region.linearise.go]
  change My ops L (match (Region.ready .any ops L)[t % (Region.ready .any ops L).length]? with
   |some i=>Region.linearise.go .any ops fuel (t / (Region.ready .any ops L).length) (L.setIfInBounds i true) [i]
   |none=>[].reverse)
  cases hi:(Region.ready .any ops L)[t % (Region.ready .any ops L).length]? with
  |none =>
   have jo:Region.ready .any ops L=[]:=by
    cases hr:Region.ready .any ops L with
    |nil=>rfl
    |cons x xs =>rw[hr] at hi;have ao:t % (x::xs).length<(x::xs).length:=xm _ (by simp);simp at hi;simp at ao;omega
   simp only[List.reverse_nil,My];exact Q9x ij hs jo
  |some i =>
   simp only[];rw[linearise_go_acc,List.reverse_singleton,List.singleton_append];have jT:=zX hi;obtain⟨aQ,pA,_⟩:=Cm hs jT;refine⟨jT,ih _ _ (by simp[hs]) ?_⟩;have jU:i<L.size:=by rw[hs];exact aQ
   have:=Q8x (A:=λi=>L.getD i false) (B:=λk=>(L.setIfInBounds i true).getD k false) (j:=i) pA (by simp only[GN L i i jU,zq]) (λk hk=>by simp only[GN L i k jU,z0 hk]) ops.size aQ;omega
theorem Q43 {ops:Array Oper}:∀ (l:List Nat) (L:Array Bool),L.size=ops.size->My ops L l->l.Nodup/\∀ j,j∈l<->(j<ops.size/\L.getD j false=false):=by
 intro l;induction l with
 |nil=>intro L hs h;exact⟨List.nodup_nil,λj=>⟨λh=>(by cases h),λ⟨h1,h2⟩=>by rw[h j h1] at h2;cases h2⟩⟩
 |cons i l ih =>
  intro L hs h;obtain⟨jT,h'⟩:=h;obtain⟨aQ,pA,_⟩:=Cm hs jT;have jU:i<L.size:=by rw[hs];exact aQ
  obtain⟨k1,k2⟩:=ih _ (by simp[hs]) h';refine⟨xY.2 ⟨λhm=>?_,k1⟩,λj=>?_⟩
  .simp_all
  .grind [GN]
structure DBase (ops:Array Oper) (d:DInfo):Prop where
 ed:∀ (j:Nat) (o:Oper),ops[j]?=some o->d.ed.getD j []=L8 o
 edge:∀ j,j<ops.size->∀ e∈d.ed.getD j [],e<j
 path:∀ j,j<ops.size->∀ i,i<j->d.lt i j=true->∃ e∈d.ed.getD j [],e=i\/(i<e/\d.lt i e=true)
 up:∀ i j,d.lt i j=true->i<j
 size:d.ks.length=ops.size
theorem Q4g {ops:Array Oper}{d:DInfo}(hb:DBase ops d) {A:Nat->Bool}(hc:∀ j,j<ops.size->A j=true->∀ e∈d.ed.getD j [],A e=true):∀ j,j<ops.size->A j=true->∀ i,i<j->d.lt i j=true->A i=true:=by
 intro j;induction j using Nat.strongRecOn with
 |ind j ih =>
  intro hj hA i hi ao;obtain⟨e,he,h⟩:=hb.path j hj i hi ao;have m9:=hb.edge j hj e he;have gL:=hc j hj hA e he;rcases h with rfl|⟨h1,h2⟩
  .exact gL
  .exact ih e m9 (by omega) gL i h1 h2
theorem Z6k {ops:Array Oper}{d:DInfo}(hb:DBase ops d):∀ (l:List Nat) (L:Array Bool),L.size=ops.size->(∀ j,j<ops.size->L.getD j false=true->∀ e∈d.ed.getD j [],L.getD e false=true)->My ops L l ->
  l.Pairwise λj i=>d.lt i j=false:=by
 intro l;induction l with
 |nil=>intro L _ _ _;exact List.Pairwise.nil
 |cons j l ih =>
  intro L hs hc h;obtain⟨jT,h'⟩:=h;obtain⟨aQ,pA,o,ho,ij⟩:=Cm hs jT;have jU:j<L.size:=by rw[hs];exact aQ
  have dg:∀ k,k<ops.size->(L.setIfInBounds j true).getD k false=true->∀ e∈d.ed.getD k [],(L.setIfInBounds j true).getD e false=true:=by
   intro k hk hA e he;rw[GN L j e jU];split
   .rfl
   .rw[GN L j k jU] at hA;split at hA
    .rename_i uj;subst uj;rw[hb.ed _ o ho] at he;exact ij e he
    .exact hc k hk hA e he
  obtain⟨k1,k2⟩:=Q43 l _ (by simp[hs]) h';refine List.Pairwise.cons (λi hi=>?_) (ih _ (by simp[hs]) dg h');cases ao:d.lt i j with
  |false=>rfl
  |true =>
   exfalso;have cE:=hb.up i j ao;have hA:(L.setIfInBounds j true).getD j false=true:=by rw[GN L j j jU,z2 rfl]
   have:=Q4g hb dg j aQ hA i cE ao;rw[((k2 i).1 hi).2] at this;cases this
theorem Q0q (lt:Nat->Nat->Bool):∀ (s l:List Nat) (n:Nat),s.Perm l->l.length<=n->s.Pairwise (λj i=>lt i j=false)->s∈exts lt n l:=by
 intro s;induction s with
 |nil =>intro l n hp hn _;have:l=[]:=hp.symm.eq_nil;subst this;cases n<;>simp[exts]
 |cons k s ih =>
  intro l n hp hn hs;have hk:k∈l:=hp.mem_iff.1 (by simp);cases l with
  |nil=>cases hk
  |cons x xs =>
   cases n with
   |zero=>simp at hn
   |succ n =>
    simp only[exts];refine List.mem_flatMap.2 ⟨k,hk,?_⟩;obtain⟨h1,h2⟩:=List.pairwise_cons.1 hs;have aj:((x::xs).all λi=>i==k||!lt i k)=true:=by
     grind
    rw[z2 aj];refine zC.2 ⟨s,ih _ n ?_ ?_ h2,rfl⟩
    .grind
    .simp_all
theorem Z1d {j:Nat}:∀ (a a' b b':List Nat),j∉a->j∉a'->a++j::b=a'++j::b'->a=a':=by
 intro a;induction a with
 |nil =>
  intro a' b b' _ h' h;cases a' with
  |nil=>rfl
  |cons x a'=>simp at h;exact(by simp_all)
 |cons x a ih =>
  intro a' b b' h1 h2 h;cases a' with
  |nil=>simp at h;exact(by simp_all)
  |cons y a' =>simp at h;obtain⟨rfl,h⟩:=h;rw[ih a' b b' (λhm=>h1 (by simp[hm])) (λhm=>h2 (by simp[hm])) h]
theorem Q54 {ops:Array Oper}{d:DInfo}(hb:DBase ops d):∀ (l:List Nat) (L:Array Bool),L.size=ops.size->My ops L l->∀ pre j post,l=pre++j::post->∀ e∈d.ed.getD j [],L.getD e false=true\/e∈pre:=by
 intro l;induction l with
 |nil=>intro L _ _ pre j post h;simp at h
 |cons i l ih =>
  intro L hs h pre j post he e il;obtain⟨jT,h'⟩:=h;obtain⟨aQ,pA,o,ho,ij⟩:=Cm hs jT;have jU:i<L.size:=by rw[hs];exact aQ
  cases pre with
  |nil =>simp at he;obtain⟨rfl,_⟩:=he;rw[hb.ed _ o ho] at il;exact .inl (ij e il)
  |cons x pre =>
   simp at he;obtain⟨rfl,he⟩:=he;rcases ih _ (by simp[hs]) h' pre j post he e il with h1|h1
   .grind [GN]
   .exact .inr (by simp[h1])
theorem Q20 {d0 d:DInfo}{pm l:List Nat}(N:Nat) (hN:∀ i∈l,i<N) (kP:pm.Nodup) (ie:l.Nodup) (bh:∀ i,i∈pm<->i∈l) (cN:∀ pre j post,l=pre++j::post->∀ e∈d0.ed.getD j [],e∈l->e∈pre)
  (ij:∀ p,p<pm.length->d.ed.getD p []=Z5p d0 pm p) (hf:pm.filter (λi=>d0.k i==2)=l.filter (λi=>d0.k i==2)) :
  ∀ (post pre:List Nat),l=pre++post->Q93 pm d pm.length (λq=>pre.contains (pm.getD q N)) post:=by
 intro post;induction post with
 |nil =>
  intro pre hl p hp;have hm:pm.getD p N∈pm:=by simp[z5,hp]
  have:=(bh _).1 hm;rw[hl,xt] at this;simpa using this
 |cons j post ih =>
  intro pre hl;have cS:j∈l:=by rw[hl];simp
  have gg:=(bh j).2 cS;have hp:pm.idxOf j<pm.length:=List.idxOf_lt_length_of_mem gg;have v7:pm[pm.idxOf j]'hp=j:=List.getElem_idxOf hp;have hg:∀ z,pm.getD (pm.idxOf j) z=j:=(by simp_all);have ni:j∉pre:=(by grind);refine⟨pm.idxOf j,hp,hg 0,by simp only[hg];simpa using ni,λe he=>?_,?_⟩
  .rw[ij _ hp] at he;rcases xh.1 he with he|he
   .obtain⟨e0,rY,rfl⟩:=zC.1 he
    grind
   .split at he
    .rename_i aB;rw[hg] at aB;obtain⟨hq,hk⟩:=xR.1 (List.mem_of_getLast? (Option.mem_toList.1 he));have dm:e<pm.idxOf j:=zQ.1 hq;have hel:e<pm.length:=by omega
     have heq:pm.getD e N=pm[e]'hel:=by simp[z5,hel]
     have qu:pm.getD e 0=pm[e]'hel:=by simp[z5,hel]
     rw[qu] at hk;simp only[heq];have fR:pm=pm.take (pm.idxOf j)++j::pm.drop (pm.idxOf j+1):=by
      grind [List.take_append_drop,List.drop_eq_getElem_cons]
     have si:j∉pm.take (pm.idxOf j):=by
      grind
     have uk:(pm.take (pm.idxOf j)).filter (λi=>d0.k i==2)++j::(pm.drop (pm.idxOf j+1)).filter (λi=>d0.k i==2)=pre.filter (λi=>d0.k i==2)++j::post.filter (λi=>d0.k i==2):=by
      grind
     have:=Z1d _ _ _ _ (by grind) (by grind) uk;have aQ:pm[e]∈(pm.take (pm.idxOf j)).filter (λi=>d0.k i==2):=(by grind)
     grind
    .cases he
  .have qv:(λq=>if q=pm.idxOf j then true else pre.contains (pm.getD q N))=λq=>(pre++[j]).contains (pm.getD q N):=by
    grind
   rw[qv];exact ih (pre++[j]) (by rw[hl];simp)
theorem Z00 {ops:Array Oper}{vs:List VOper}(h:ops.toList.mapM (WD P ops)=some vs) (au:(MQ ops.toList vs).okB=true):DBase ops (MQ ops.toList vs):=by
 have hlen:vs.length=ops.size:=by have:=(V3 _ _ _ h).1;simpa using this
 have mg:(MQ ops.toList vs).ks.length=ops.size:=by simp[MQ,hlen]
 have cK:=au;unfold DInfo.okB at cK;rw[z1,z6] at cK;obtain⟨v8,mO⟩:=cK;have h0:∀ j,j<ops.size->(MQ ops.toList vs).okE j=true/\(MQ ops.toList vs).an.getD j 0<2 ^ j/\((List.range j).all λi=>!((MQ ops.toList vs).lt i j)||((MQ ops.toList vs).ed.getD j []).any (λe=>e==i||decide (i<e)&&(MQ ops.toList vs).lt i e))=true:=(by simp_all);have nj:∀ j,j<ops.size->∀ e∈(MQ ops.toList vs).ed.getD j [],e<j:=λj hj e he=>by have:=z8.1 (h0 j hj).1 e he;simpa using this
 refine⟨λj o ho=>by simp[MQ,z5,ho],nj,λj hj i hi ao=>?_,λi j ao=>?_,mg⟩
 .grind
 .rcases zf i j with h|h
  .exact h
  .exfalso;unfold DInfo.lt at ao
   grind [Nat.lt_or_ge,Nat.lt_of_lt_of_le,Nat.pow_le_pow_right,Nat.testBit_lt_two_pow,List.getElem?_eq_none]
theorem Q6b {t:Nat}:∀ (l:List Nat),l.Pairwise (λj i=>¬ (i<t/\t<=j))->l=l.filter (λi=>decide (i<t))++l.filter (λi=>decide (t<=i))
 |[],_=>rfl
 |x::l,h=>by
  obtain⟨h1,h2⟩:=List.pairwise_cons.1 h;have ih:=Q6b l h2;by_cases hx:x<t
  .grind
  .have rT:t<=x:=by omega
   have jo:l.filter (λi=>decide (i<t))=[]:=(by grind [List.filter_eq_nil_iff])
   grind
theorem CB (hS:OkSpecs P S) {ro:Option Nat}{n:Nat}{ops:Array Oper}{vs:List VOper}(cq:ops.toList.mapM (WD P ops)=some vs) {d0:DInfo}(_hb:DBase ops d0) {l l2 idx pm:List Nat}(ie:l.Nodup) (ao:∀ i∈l,i<ops.size) (um:∀ i,i∈l<->i∈idx)
  (cN:∀ pre j post,l=pre++j::post->∀ e∈d0.ed.getD j [],e∈l->e∈pre) (fQ:J0b d0 vs idx (l.filter λi=>d0.k i==2) pm=true)
  {env:Env}{U:Heap}{K:Env->Heap->Prop}{ρ:Plc}{w:World}{a:Act}(nk:XD S ((Q4m d0 vs pm).opers (GD vs pm) 0) env [U] U [] K) (hH:HRel ρ U w) (hL:LRel ρ U.n env a.tmps.toList) (dY:Mks B a.defers w)
  {Q:Exit->Act->World->Prop}(hQ:∀ a' w',C5 B (List.length env) ρ U w K a' w'->wpOpsIn (FF ro) n P ops Q l2 a' w'):wpOpsIn (FF ro) n P ops Q (l++l2) a w:=by
 have mJ:vs.length=ops.size:=by have:=(V3 _ _ _ cq).1;simpa using this
 simp only[J0b,z1,z6,z8,List.contains_iff_mem] at fQ;obtain⟨m1,m2,m3,m4,m5⟩:=fQ;have nq:∀ i,i∈pm<->i∈l:=(by grind);have jS:∀ i∈pm,i<vs.length:=(by simp_all);have hl:DLink P ops pm (Q4m d0 vs pm) (GD vs pm):=DLink.of cq jS;have qw:(GD vs pm).length=pm.length:=by simp[GD]
 have mg:(Q4m d0 vs pm).ks.length=(GD vs pm).length:=by simp[Q4m]
 have hd:=DOk.of m5;rw[mg] at hd;have ij:∀ p,p<pm.length->(Q4m d0 vs pm).ed.getD p []=Z5p d0 pm p:=λp hp=>by simp[Q4m,z5,hp]
 have iq:=Q20 (d:=Q4m d0 vs pm) ops.size ao m3 ie nq cN ij m4 l [] (by simp);have fL:∀ i v,(GD vs pm)[i]?=some v->(Q4m d0 vs pm).k i=v.op.kind:=λi v hv=>(hl.comp i v hv).choose_spec.2.2;obtain⟨k,tr,hp,_,_,k2,k3⟩:=Z8h (Q4m d0 vs pm) (GD vs pm) fL env K (GD vs pm) 0 (by omega) rfl [] (λ_=>undef) (λ_=>U) [] (λl hl=>by omega) (λl hl=>by omega) (by simpa [DInfo.rank,EL] using nk);have qx:hp 0=U:=k2 0 (by omega);have nr:(λq=>([]:List Nat).contains (pm.getD q ops.size))=λ_=>false:=by funext q;rfl
 rw[nr] at iq;refine Q87 (B:=B) (pm:=pm) hS hl hd hQ k3 l (λ_=>false) a w (by rw[qw];exact iq) ?_ (λ_ _ _=>rfl) (λj hj=>by cases hj) (ρ0:=ρ) (σ0:=U) (w0:=w)
 .refine⟨λj hj hA=>(by cases hA),0,ρ,λl bq hk=>by simp,by omega,by rw[qx];exact hH,?_,dY,by rw[qx];exact Ext.refl _ _ _⟩;have e:EL (GD vs pm) env tr (λ_=>false) (GD vs pm).length=env:=by
   have:∀ m,EL (GD vs pm) env tr (λ_=>false) m=env:=by
    intro m;induction m with
    |zero=>rfl
    |succ m ih=>simp only[EL,zj,if_false];exact ih
   exact this _
  rw[e,qx];exact hL
theorem Q06 (d:DInfo):∀ (lv:List VOper) (i:Nat),(∀ v∈lv,v.op.kind≠2)->∀ (env:Env) (U:Heap) (pend:List (Nat×(Heap->Prop))) (K:Env->Heap->Prop),FP S lv env U K->XD S (d.opers lv i) env [U] U pend K:=by
 intro lv;induction lv with
 |nil=>intro i _ env U pend K h;exact h
 |cons v rest ih =>
  intro i hk env U pend K h;have aB:v.op.kind≠2:=hk v (by simp);have gf:∀ u∈rest,u.op.kind≠2:=λu hu=>hk u (by simp[hu]);simp only[FP] at h;simp only[DInfo.opers,XD];cases hw:Wz env v.guard with
  |none=>rw[hw] at h;exact h.elim
  |some b =>
   rw[hw] at h;obtain⟨ht,hf⟩:=h;refine⟨λe=>?_,λe=>?_⟩
   .have ht:=ht e;have kL:∃ p,Qb v.op (Q5 env) U=some p/\FP S rest (YR env v.dst p.1) p.2 K:=by
     have cP:∀ x:XOp,v.op=.ext x->(∀ y,x≠.nextMap y):=λx hx y hy=>by rw[hx,hy] at aB;exact aB rfl
     have:=ht;unfold vop at this;split at this
     .rename_i f bQ heq;rw[heq] at aB;exact absurd rfl aB
     .rename_i f bQ heq;rw[heq] at aB;exact absurd rfl aB
     .simp_all
     .cases dI:Qb v.op (Q5 env) U with
      |none=>rw[dI] at this;exact this.elim
      |some p=>rw[dI] at this;exact⟨p,rfl,this⟩
    obtain⟨p,hp,hr⟩:=kL;have hq:p.2=U:=(by grind [Sf]);rw[hq] at hr;rw[z0 aB];split
    .rw[hp];refine⟨fun τ hτ=>?_,ih (i+1) gf _ _ _ _ hr⟩;have:τ=U:=by
      grind
     subst this;show Jk (Qb v.op (Q5 env) τ) _;rw[hp];rfl
    .rw[hp];exact ih (i+1) gf _ _ _ _ hr
   .simp_all
theorem Z0h (hS:OkSpecs P S) {ro:Option Nat}{n:Nat}{ops:Array Oper}{vs:List VOper}(cq:ops.toList.mapM (WD P ops)=some vs) {d0:DInfo}(hb:DBase ops d0) (_hk0:∀ i v,vs[i]?=some v->d0.k i=v.op.kind) {s len:Nat}(hlen:0<len) (fy:s+len<=ops.size) {x:DSeg}(hx:J17 d0 vs s len=some x)
  {l l2:List Nat}(ie:l.Nodup) (bh:∀ i,i∈l<->(s<=i/\i<s+len)) (cN:∀ pre j post,l=pre++j::post->∀ e∈d0.ed.getD j [],e∈l->e∈pre) (jq:l.Pairwise λj i=>d0.lt i j=false)
  {rest:List DSeg}{env:Env}{U:Heap}{K:Env->Heap->Prop}{ρ:Plc}{w:World}{a:Act}(h:Pb S (x::rest) env U K) (hH:HRel ρ U w) (hL:LRel ρ U.n env a.tmps.toList) (dY:Mks B a.defers w)
  {Q:Exit->Act->World->Prop}(hQ:∀ a' w',C5 B (List.length env) ρ U w (λenv U=>Pb S rest env U K) a' w'->wpOpsIn (FF ro) n P ops Q l2 a' w'):wpOpsIn (FF ro) n P ops Q (l++l2) a w:=by
 have mJ:vs.length=ops.size:=by have:=(V3 _ _ _ cq).1;simpa using this
 unfold J17 at hx;split at hx
 .rename_i h1;subst h1;obtain rfl:=osj hx;have hs:s<ops.size:=by omega
  have eC:l=[s]:=by
   have hm:∀ i,i∈l<->i=s:=λi=>by rw[bh i];omega
   have hp:l.Perm [s]:=(by grind);exact List.perm_singleton.1 hp
  subst eC;obtain⟨v,hv,hc⟩:=(V3 _ _ _ cq).2 s ops[s] (by simp[hs]);have hg:vs.getD s default=v:=by simp[z5,hv]
  simp only[Pb,hg] at h;simp only[FP] at h;rw[List.singleton_append,wpOpsIn_cons];unfold wpOpIn;rw[xC hs];simp only;cases hw:Wz env v.guard with
  |none=>rw[hw] at h;exact h.elim
  |some b =>
   rw[hw] at h;obtain⟨ht,hf⟩:=h;obtain⟨c_,bJ,bC⟩:=RN hc hL hw;rw[c_];cases b with
   |false =>rw[z0 (by simp)];refine⟨λf _=>Q7k _ _,hQ _ _ ⟨_,ρ,U,hf rfl,Xl _ _ _,hH,by rw[bJ];exact UZ hL Ye _,by rw[YY];exact dY,Ext.refl _ _ _⟩⟩
   |true =>rw[z2 rfl];refine Gi hS bC hH hL (ht rfl) λc w' ⟨u,ρ',U',hK,ez,gd,hE⟩=>?_;exact hQ _ _ ⟨_,ρ',U',hK,Xl _ _ _,gd,by rw[bJ];exact UZ (hE.lrel hL) ez _,by rw[YY];exact dY.ext hH hE,hE⟩
 .rename_i fx;simp only at hx;split at hx
  .rename_i hP;obtain rfl:=osj hx;simp only[Pb] at h;have nu:(l.filter λi=>d0.k i==2).Perm ((List.range' s len).filter λi=>d0.k i==2):=by
    grind [List.Perm.filter,List.perm_ext_iff_of_nodup,List.nodup_range']
   have hs:=Q0q d0.lt _ _ len nu (by
    refine zO (List.length_filter_le _ _) (by simp)) (jq.filter _)
   have fQ:=z8.1 hP _ (zC.2 ⟨_,hs,rfl⟩);have nk:=h _ (zC.2 ⟨_,zC.2 ⟨_,hs,rfl⟩,rfl⟩);exact CB hS cq hb ie (by grind) (by simp_all) cN fQ nk hH hL dY (λa' w' hn=>by
    obtain⟨ah,ρ',U',⟨aT,σ2,hD,hR⟩,n1,n2,n3,n4,n5⟩:=hn;obtain⟨ρ2,d1,d2,d3⟩:=hD ρ w ρ' w' a'.tmps.toList hH n5 n2 n3;exact hQ a' w' ⟨aT,ρ2,σ2,hR,(d1.1.trans n3.1.symm).trans n1,d2,d1,n4,d3⟩)
  .cases hx
theorem Q7f (hS:OkSpecs P S) {ro:Option Nat}{n:Nat}{ops:Array Oper}{vs:List VOper}(cq:ops.toList.mapM (WD P ops)=some vs) {d0:DInfo}(hb:DBase ops d0) (g9:∀ i v,vs[i]?=some v->d0.k i=v.op.kind)
  {Q:Exit->Act->World->Prop}{K:Env->Heap->Prop}:∀ (f s:Nat) (aU:List DSeg),Q9i d0 vs f s=some aU->s<=ops.size->∀ (l:List Nat),l.Nodup->(∀ i,i∈l<->(s<=i/\i<ops.size)) ->
   (∀ pre j post,l=pre++j::post->∀ e∈d0.ed.getD j [],e∈l->e∈pre)->(l.Pairwise λj i=>d0.lt i j=false) ->
   ∀ (env:Env) (U:Heap) (ρ:Plc) (w:World) (a:Act),Pb S aU env U K->HRel ρ U w->LRel ρ U.n env a.tmps.toList->Mks B a.defers w->(∀ a' w',C5 B (List.length env) ρ U w K a' w'->Q .normal a' w') ->
   wpOpsIn (FF ro) n P ops Q l a w:=by
 intro f
 have fin:∀ (s:Nat) (aU:List DSeg),s=d0.ks.length->[]=aU->∀ (l:List Nat),(∀ i,i∈l<->(s<=i/\i<ops.size))->∀ (env:Env) (U:Heap) (ρ:Plc) (w:World) (a:Act),Pb S aU env U K->HRel ρ U w->LRel ρ U.n env a.tmps.toList->Mks B a.defers w->(∀ a' w',C5 B (List.length env) ρ U w K a' w'->Q .normal a' w') ->
   wpOpsIn (FF ro) n P ops Q l a w:=by
  intro s aU hs eP l bh env U ρ w a h hH hL dY hQ;subst eP;have:l=[]:=by
   cases l with
   |nil=>rfl
   |cons x l =>have:=(bh x).1 (by simp);rw[hs,hb.size] at this;omega
  subst this;exact hQ a w ⟨env,ρ,U,h,rfl,hH,hL,dY,Ext.refl _ _ _⟩
 induction f with
 |zero =>
  intro s aU eP hs l ie bh cN jq env U ρ w a h hH hL dY hQ;simp only[Q9i] at eP;split at eP
  .grind
  .cases eP
 |succ f ih =>
  intro s aU eP hs l ie bh cN jq env U ρ w a h hH hL dY hQ;simp only[Q9i] at eP;split at eP
  .grind
  .rename_i aJ;split at eP
   .cases eP
   .rename_i t ht;have qy:=List.find?_some ht;have kT:=List.mem_range'_1.1 (List.mem_of_find?_eq_some ht);rw[hb.size] at kT;split at eP
    .rename_i x r hx hr;obtain rfl:=osj eP;have ao:∀ i p,i<t->t<=p->p<ops.size->d0.lt i p=true:=λi p hi hp kP=>by
      have h1:=z8.1 qy p (List.mem_range'_1.2 ⟨hp,by rw[hb.size];omega⟩);simp_all
     have qz:l.Pairwise (λj i=>¬ (i<t/\t<=j)):=by
      grind [List.pairwise_iff_forall_sublist]
     have fR:=Q6b l qz;have py:∀ i,i∈l.filter (λi=>decide (i<t))<->(s<=i/\i<s+(t-s)):=λi=>by rw[xR,bh i,z6];omega
     have jm:∀ i,i∈l.filter (λi=>decide (t<=i))<->(t<=i/\i<ops.size):=λi=>by rw[xR,bh i,z6];omega
     rw[fR];refine Z0h hS cq hb g9 (by omega) (by omega) hx (ie.filter _) py ?_ (jq.filter _) h hH hL dY ?_
     .grind
     .intro a' w' ⟨ah,ρ',U',k1,k0,k2,k3,k4,k5⟩;refine ih t r hr (by omega) _ (ie.filter _) jm ?_ (jq.filter _) ah U' ρ' w' a' k1 k2 k3 k4 ?_
      .intro pre j post he e il hel;have:=cN (l.filter (λi=>decide (i<t))++pre) j post (fR.trans (by rw[he,zJ])) e il (xR.1 hel).1
       grind
      .intro a2 w2 ⟨aT,ρ2,σ2,m1,m0,m2,m3,m4,m5⟩;exact hQ a2 w2 ⟨aT,ρ2,σ2,m1,m0.trans k0,m2,m3,m4,k5.trans m5⟩
    .cases eP
theorem Q6s (hm:P.follows .mixedOrders=true) (hS:OkSpecs P S) {ro:Option Nat}{n:Nat}{id:Nat}{ops:Array Oper}{vs:List VOper}(cq:ops.toList.mapM (WD P ops)=some vs) {aU:List DSeg}(au:Z4s (MQ ops.toList vs) vs=some aU)
  {env:Env}{U:Heap}{K:Env->Heap->Prop}{ρ:Plc}{w:World}{a:Act}(h:Pb S aU env U K) (hH:HRel ρ U w) (hL:LRel ρ U.n env a.tmps.toList) (dY:Mks B a.defers w)
  {Q:Exit->Act->World->Prop}(hQ:∀ a' w',C5 B (List.length env) ρ U w K a' w'->Q .normal a' w'):(Code.region id ops true).wpIn (FF ro) n P Q a w:=by
 unfold Z4s at au;split at au
 .rename_i hB;have hb:=Z00 cq hB;have fL:∀ i v,vs[i]?=some v->(MQ ops.toList vs).k i=v.op.kind:=λi v hv=>by
   simp[DInfo.k,MQ,z5,hv]
  generalize qh:MQ ops.toList vs=d0 at *
  refine wpIn_region_draw λt=>?_;simp only[Region.schedule,hm,Bool.true_or,zq];have fS:∀ (j:Nat) (o:Oper),ops[j]?=some o->∀ e∈L8 o,e<j:=λj o ho e he=>hb.edge j (xG.1 ho).1 e (by rw[hb.ed j o ho];exact he);have aj:∀ i,(Array.replicate ops.size false).getD i false=false:=λi=>by rw[Array.getD_eq_getD_getElem?,Array.getElem?_replicate];split<;>rfl
  have gB:=Z3b fS ops.size t (Array.replicate ops.size false) (by simp) (by
   have:∀ m,cnt (λi=>(Array.replicate ops.size false).getD i false) m<=m:=by
    intro m;induction m with
    |zero=>exact z4 _
    |succ m ih=>simp only[cnt];split<;>omega
   exact this _)
  change wpOpsIn _ _ _ _ _ (Region.linearise.go .any ops ops.size t (Array.replicate ops.size false) []) _ _;generalize Region.linearise.go .any ops ops.size t (Array.replicate ops.size false) []=l at *
  obtain⟨ib,bh⟩:=Q43 l _ (by simp) gB;have jq:=Z6k hb l _ (by simp) (λj _ hA=>by rw[aj] at hA;cases hA) gB;have cN:=Q54 hb l _ (by simp) gB;refine Q7f hS cq hb fL _ 0 aU au (by omega) l ib (λi=>by rw[bh i,aj];simp) (λpre j post he e il _=>?_) jq env U ρ _ a h hH.drew hL (dY.ext hH (Ext.drew _ _ _)) (λa' w' hn=>?_)
  .grind
  .obtain⟨ah,ρ',U',n0,n1,n2,n3,n4,n5⟩:=hn;exact hQ a' w' ⟨ah,ρ',U',n0,n1,n2,n3,n4,(Ext.drew _ _ _).trans n5⟩
 .cases au
theorem Q3f (hm:P.follows .mixedOrders=true) (hS:OkSpecs P S) {ro:Option Nat}{n:Nat}{id:Nat}{ops:Array Oper}{vs:List VOper}(cq:ops.toList.mapM (WD P ops)=some vs) (au:Tx (MQ ops.toList vs) vs=true)
  {env:Env}{U:Heap}{K:Env->Heap->Prop}{ρ:Plc}{w:World}{a:Act}(h:FP S vs env U K) (hH:HRel ρ U w) (hL:LRel ρ U.n env a.tmps.toList) (dY:Mks B a.defers w)
  {Q:Exit->Act->World->Prop}(hQ:∀ a' w',C5 B (List.length env) ρ U w K a' w'->Q .normal a' w'):(Code.region id ops true).wpIn (FF ro) n P Q a w:=by
 simp only[Tx,z1] at au;obtain⟨hB,qA,jC⟩:=au;have hb:=Z00 cq hB;have mJ:vs.length=ops.size:=by have:=(V3 _ _ _ cq).1;simpa using this
 have aB:∀ v∈vs,v.op.kind≠2:=(by simp_all);have fL:∀ i v,vs[i]?=some v->(MQ ops.toList vs).k i=v.op.kind:=λi v hv=>by simp[DInfo.k,MQ,z5,hv]
 generalize qh:MQ ops.toList vs=d0 at *
 refine wpIn_region_draw λt=>?_;simp only[Region.schedule,hm,Bool.true_or,zq];have fS:∀ (j:Nat) (o:Oper),ops[j]?=some o->∀ e∈L8 o,e<j:=λj o ho e he=>hb.edge j (xG.1 ho).1 e (by rw[hb.ed j o ho];exact he);have aj:∀ i,(Array.replicate ops.size false).getD i false=false:=λi=>by rw[Array.getD_eq_getD_getElem?,Array.getElem?_replicate];split<;>rfl
 have gB:=Z3b fS ops.size t (Array.replicate ops.size false) (by simp) (by
  have:∀ m,cnt (λi=>(Array.replicate ops.size false).getD i false) m<=m:=by
   intro m;induction m with
   |zero=>exact z4 _
   |succ m ih=>simp only[cnt];split<;>omega
  exact this _)
 change wpOpsIn _ _ _ _ _ (Region.linearise.go .any ops ops.size t (Array.replicate ops.size false) []) _ _;generalize Region.linearise.go .any ops ops.size t (Array.replicate ops.size false) []=l at *
 obtain⟨ib,bh⟩:=Q43 l _ (by simp) gB;have cN:=Q54 hb l _ (by simp) gB;have ao:∀ i∈l,i<ops.size:=λi hi=>((bh i).1 hi).1;have jo:l.filter (λi=>d0.k i==2)=[]:=(by simp_all);have uo:GD vs (List.range' 0 d0.ks.length)=vs:=by
  apply zK;intro i;unfold GD;rw[xp];rcases zf i vs.length with hi|hi
  .rw[List.getElem?_range' (by rw[hb.size];omega),z3 hi];simp[z5,hi]
  .rw[zz (by simp[hb.size];omega),zz hi];rfl
 have hd:=Q06 (S:=S) (Q4m d0 vs (List.range' 0 d0.ks.length)) vs 0 aB env U [] K h;rw[<-xt l];refine CB hS cq hb ib ao (λi=>by rw[bh i,aj,List.mem_range'_1,hb.size];simp) (λpre j post he e il _=>?_) (idx:=List.range' 0 d0.ks.length) (pm:=List.range' 0 d0.ks.length) (by rw[jo];exact jC) (by rw[uo];exact hd) hH.drew hL (dY.ext hH (Ext.drew _ _ _)) (λa' w' hn=>?_)
 .grind
 .obtain⟨ah,ρ',U',n0,n1,n2,n3,n4,n5⟩:=hn;exact hQ a' w' ⟨ah,ρ',U',n0,n1,n2,n3,n4,(Ext.drew _ _ _).trans n5⟩
theorem Q36 (hS:OkSpecs P S) {id:Nat}{ops:Array Oper}{lv:List VOper}(b9:ops.toList.mapM (WD P ops)=some lv):Sound P S (.region id ops false) (.region lv):=by
 intro B cL ro n Q env U ρ w a h hH hL hd hR Q' hQ;simp only[vwp] at h;refine wpIn_region ?_;rw[List.range_eq_range',<-Array.length_toList,wpOpsIn_eq_wpListIn ops.toList 0 (by simp)]
 grind [Q7e]
theorem cond_true {v:Value}{A B:Prop}(h:Z0e v A B):∃ t,v=.bool t/\(t=true->A)/\(t=false->B):=by
 unfold Z0e at h;split at h
 .exact⟨_,rfl,h⟩
 .exact h.elim
theorem Q8a {c:Code}{vc:VCode}(ih:Sound P S c vc):Sound P S (.loop c) (.loop vc):=by
 intro B cL ro n Q env U ρ w a h hH hL hd hR Q' hQ;simp only[vwp] at h;obtain⟨live,I,n0,h0,kU⟩:=h;refine wpIn_loop_ghost (λk a' w'=>C5 B (List.length env) ρ U w (λah U'=>I k (C3 live ah) U') a' w') n0 ⟨env,ρ,U,h0,rfl,hH,hL,hd,Ext.refl _ _ _⟩ ?_;rintro k a1 w1 ⟨bp,ρ1,σ1,k1,k0,k2,k3,k4,k5⟩;have hlen:List.length (Ky live (C3 live bp) (List.replicate env.length poison))=List.length env:=by rw[Q0k];simp
 refine ih cL ro n _ _ σ1 ρ1 w1 a1 (kU k (C3 live bp) σ1 k1) k2 (Q7g live bp _ _ k3 (Q8j _ (by rw[<-k3.1,k0]))) k4 (hR.ext k5) _ ?_;rintro e a2 w2 ⟨aT,ρ2,σ2,m1,m0,m2,m3,m4,m5⟩;rw[hlen] at m0;cases e with
 |normal =>obtain⟨n',pB,hI⟩:=m1;exact⟨n',pB,aT,ρ2,σ2,hI,m0,m2,m3,m4,k5.trans m5⟩
 |_=>exact hQ _ a2 w2 ⟨aT,ρ2,σ2,m1,m0,m2,m3,m4,k5.trans m5⟩
theorem RK (c:Code):Sound P S c .bad:=by intro B cL ro n Q env U ρ w a h;exact h.elim
theorem Q7c (hm:P.follows .mixedOrders=true) (hS:OkSpecs P S):∀ (c:Code) (vc:VCode),comp P c=some vc->Sound P S c vc:=by
 intro c;induction c with
 |skip =>intro vc hc;simp[comp] at hc;subst hc;intro B cL ro n Q env U ρ w a h hH hL hd hR Q' hQ;exact wpIn_skip (hQ _ _ _ ⟨env,ρ,U,h,rfl,hH,hL,hd,Ext.refl _ _ _⟩)
 |region id ops dr =>
  intro vc hc;cases dr with
  |false =>simp only[comp,zw,zS] at hc;obtain⟨lv,b9,hc⟩:=hc;simp at hc;subst hc;exact Q36 hS b9
  |true =>
   simp only[comp,zw,zS] at hc;obtain⟨lv,b9,hc⟩:=hc;split at hc
   .rename_i au;simp at hc;subst hc;intro B cL ro n Q env U ρ w a h hH hL hd hR Q' hQ;exact Q3f hm hS b9 au h hH hL hd (λa' w' hn=>hQ .normal a' w' hn)
   split at hc
   .rename_i aU au;simp at hc;subst hc;intro B cL ro n Q env U ρ w a h hH hL hd hR Q' hQ;exact Q6s hm hS b9 au h hH hL hd (λa' w' hn=>hQ .normal a' w' hn)
   .simp at hc;subst hc;exact RK _
 |seq x y jV pC =>
  intro vc hc;simp only[comp,zw,zS] at hc;obtain⟨vx,hx,vy,hy,hc⟩:=hc;simp at hc;subst hc;intro B cL ro n Q env U ρ w a h hH hL hd hR Q' hQ;simp only[vwp] at h;refine wpIn_seq (jV vx hx cL ro n _ env U ρ w a h hH hL hd hR _ ?_);rintro e a1 w1 ⟨bp,ρ1,σ1,k1,k0,k2,k3,k4,k5⟩;cases e with
  |normal =>refine pC vy hy cL ro n _ bp σ1 ρ1 w1 a1 k1 k2 k3 k4 (hR.ext k5) _ ?_;rintro e2 a2 w2 ⟨aT,ρ2,σ2,m1,m0,m2,m3,m4,m5⟩;exact hQ e2 a2 w2 ⟨aT,ρ2,σ2,m1,m0.trans k0,m2,m3,m4,k5.trans m5⟩
  |_=>exact hQ _ a1 w1 ⟨bp,ρ1,σ1,k1,k0,k2,k3,k4,k5⟩
 |cond c x y jV pC =>
  intro vc hc;simp only[comp] at hc;split at hc
  .rename_i au;simp only[zw,zS] at hc;obtain⟨vx,hx,vy,hy,hc⟩:=hc;simp at hc;subst hc;intro B cL ro n Q env U ρ w a h hH hL hd hR Q' hQ;simp only[vwp] at h;obtain⟨t,ht,h1,h2⟩:=cond_true h;have hv:=Vo hL au;rw[ht] at hv;refine wpIn_cond_split hv.q1c (λe=>?_) (λe=>?_)
   .exact jV vx hx cL ro n Q env U ρ w a (h1 e) hH hL hd hR Q' hQ
   .exact pC vy hy cL ro n Q env U ρ w a (h2 e) hH hL hd hR Q' hQ
  .simp at hc;subst hc;exact RK _
 |block id x jV =>
  intro vc hc;simp only[comp,zw,zS] at hc;obtain⟨vx,hx,hc⟩:=hc;simp at hc;subst hc;intro B cL ro n Q env U ρ w a h hH hL hd hR Q' hQ;simp only[vwp] at h;refine wpIn_block (jV vx hx cL ro n _ env U ρ w a h hH hL hd hR _ ?_);rintro e a1 w1 ⟨bp,ρ1,σ1,k1,k0,k2,k3,k4,k5⟩;cases e with
  |exit gS =>
   simp only[Q5f] at k1;simp only[Exit.inBlock];split at k1
   .rename_i he;rw[z2 he];exact hQ _ a1 w1 ⟨bp,ρ1,σ1,k1,k0,k2,k3,k4,k5⟩
   .rename_i he;rw[z0 he];exact hQ _ a1 w1 ⟨bp,ρ1,σ1,k1,k0,k2,k3,k4,k5⟩
  |_=>exact hQ _ a1 w1 ⟨bp,ρ1,σ1,k1,k0,k2,k3,k4,k5⟩
 |loop x jV =>intro vc hc;simp only[comp,zw,zS] at hc;obtain⟨vx,hx,hc⟩:=hc;simp at hc;subst hc;exact Q8a (jV vx hx)
 |rangeFunc g ps x y jV pC =>
  intro vc hc;simp only[comp] at hc;split at hc
  .rename_i au;simp only[zw,zS] at hc
   grind [Q40]
  .simp at hc;subst hc;exact RK _
 |exit id =>intro vc hc;simp[comp] at hc;subst hc;intro B cL ro n Q env U ρ w a h hH hL hd hR Q' hQ;exact wpIn_exit (hQ _ _ _ ⟨env,ρ,U,h,rfl,hH,hL,hd,Ext.refl _ _ _⟩)
 |ret =>intro vc hc;simp[comp] at hc;subst hc;intro B cL ro n Q env U ρ w a h hH hL hd hR Q' hQ;exact wpIn_ret (hQ _ _ _ ⟨env,ρ,U,h,rfl,hH,hL,hd,Ext.refl _ _ _⟩)
 |_ =>intro vc hc;simp[comp] at hc;subst hc;exact RK _
end
end Go.V
namespace Go.V
open Go
inductive Ren (n:Nat) (π:Nat->Nat):Value->Value->Prop
 |plain (v:Value) (h:J8 v=true):Ren n π v v
 |poison (c:Value):Ren n π poison c
 |glob (g o s:Nat):Ren n π (.pointer (some ⟨g,o,some s⟩)) (.pointer (some ⟨g,o,some s⟩))
 |ptr (i o:Nat) (hi:i<n):Ren n π (.pointer (some ⟨i,o,none⟩)) (.pointer (some ⟨π i,o,none⟩))
 |sl (i o len cap:Nat) (hi:i<n):Ren n π (.slice (some ⟨i,o,none⟩) len cap) (.slice (some ⟨π i,o,none⟩) len cap)
 |slx (i o len cap:Nat) (hi:i<n):Ren n π (.slice (some ⟨i,o,some 0⟩) len cap) (.slice (some ⟨π i,o,some 0⟩) len cap)
 |map (i:Nat) (hi:i<n):Ren n π (.map (some i)) (.map (some (π i)))
 |iface (t:TypeId) (v c:Value) (h:Ren n π v c):Ren n π (.iface t v) (.iface t c)
 |yield (i:Nat) (hi:i<n):Ren n π (.func (.yield i) #[] #[]) (.func (.yield (π i)) #[] #[])
 |func (fn:FuncId) (fs gs cs ds:Array Value) (hf:fs.size=gs.size) (hc:cs.size=ds.size)
   (h1:∀ i (h1:i<fs.size) (h2:i<gs.size),Ren n π fs[i] gs[i]) (h2:∀ i (h1:i<cs.size) (h2:i<ds.size),Ren n π cs[i] ds[i]):Ren n π (.func (.func fn) fs cs) (.func (.func fn) gs ds)
 |agg (cs ds:Array Value) (hc:cs.size=ds.size) (h:∀ i (h1:i<cs.size) (h2:i<ds.size),Ren n π cs[i] ds[i]):Ren n π (.agg cs) (.agg ds)
 |tuple (cs ds:Array Value) (hc:cs.size=ds.size) (h:∀ i (h1:i<cs.size) (h2:i<ds.size),Ren n π cs[i] ds[i]):Ren n π (.tuple cs) (.tuple ds)
def LRen (n:Nat) (π:Nat->Nat) (vs cs:List Value):Prop:=vs.length=cs.length/\∀ (i:Nat) (v c:Value),vs[i]?=some v->cs[i]?=some c->Ren n π v c
theorem Ren.rel {ρ:Plc}{nf n':Nat}{π:Nat->Nat}{v' v:Value}(h:Ren n' π v' v):∀ {c:Value},VRel ρ nf v c->VRel (λi=>if i<n' then ρ (π i) else none) n' v' c:=by
 induction h with
 |plain v h =>intro c hv;have:c=v:=UY h hv;subst this;exact V0 h
 |poison c=>intro c _;exact .poison _
 |glob g o s=>intro c hv;cases hv;exact .glob _ _ _
 |ptr i o hi =>intro c hv;obtain⟨a,rfl,_,h⟩:=hv.q1f;exact .ptr _ _ _ hi (by simp_all)
 |sl i o len cap hi =>intro c hv;obtain⟨a,av,rfl,_,h⟩:=hv.q1a;exact .sl _ _ _ _ _ _ hi (by simp_all)
 |slx i o len cap hi =>
  intro c hv;cases hv with
  |slx _ _ _ _ a _ h=>exact .slx _ _ _ _ _ hi (by simp_all)
 |map i hi =>
  intro c hv;cases hv with
  |map _ r _ h=>exact .map _ _ hi (by simp_all)
 |yield i hi =>
  intro c hv;cases hv with
  |yield _ r _ h=>exact .yield _ _ hi (by simp_all)
 |iface t v c h ih =>
  intro c hv;cases hv with
  |iface _ _ _ h=>exact .iface _ _ _ (ih h)
 |func fn fs gs cs ds hf hc h1 h2 lY lZ =>
  intro c hv;cases hv with
  |func _ _ v9 _ ds' qB dg jr iu =>exact .func _ _ _ _ _ (hf.trans qB) (hc.trans dg) (by simp_all) (by simp_all)
 |agg cs ds hc h ih =>
  intro c hv;cases hv with
  |agg _ ds' dg h'=>exact .agg _ _ (hc.trans dg) (by simp_all)
 |tuple cs ds hc h ih =>
  intro c hv;cases hv with
  |tuple _ ds' dg h'=>exact .tuple _ _ (hc.trans dg) (by simp_all)
theorem VRel.ren {ρ:Plc}{n n':Nat}{π:Nat->Nat}(hn:n<=n') (hπ:∀ i,i<n->π i=i) {v c:Value}(h:VRel ρ n v c):Ren n' π v v:=by
 induction h with
 |poison c=>exact .poison _
 |bool b=>exact .plain _ rfl
 |int k x=>exact .plain _ rfl
 |string s=>exact .plain _ rfl
 |nilPtr=>exact .plain _ rfl
 |nilSl=>exact .plain _ rfl
 |nilMap=>exact .plain _ rfl
 |nilFunc=>exact .plain _ rfl
 |nilIface=>exact .plain _ rfl
 |glob g o s=>exact .glob _ _ _
 |ptr i o a hi h=>have:=Ren.ptr (n:=n') (π:=π) i o (by omega);rwa [hπ i hi] at this
 |sl i o len cap a av hi h=>have:=Ren.sl (n:=n') (π:=π) i o len cap (by omega);rwa [hπ i hi] at this
 |slx i o len cap a hi h=>have:=Ren.slx (n:=n') (π:=π) i o len cap (by omega);rwa [hπ i hi] at this
 |map i r hi h=>have:=Ren.map (n:=n') (π:=π) i (by omega);rwa [hπ i hi] at this
 |yield i r hi h=>have:=Ren.yield (n:=n') (π:=π) i (by omega);rwa [hπ i hi] at this
 |iface t v c _ ih=>exact .iface _ _ _ ih
 |func fn fs gs cs ds hf hc _ _ lY lZ=>exact .func _ _ _ _ _ rfl rfl (λi k1 _=>lY i k1 (by omega)) (λi k1 _=>lZ i k1 (by omega))
 |agg cs ds hc _ ih=>exact .agg _ _ rfl λi k1 _=>ih i k1 (by omega)
 |tuple cs ds hc _ ih=>exact .tuple _ _ rfl λi k1 _=>ih i k1 (by omega)
theorem LRen.rel {ρ:Plc}{nf n':Nat}{π:Nat->Nat}{cJ vs:List Value}(h:LRen n' π cJ vs) {cs:List Value}(hL:LRel ρ nf vs cs):LRel (λi=>if i<n' then ρ (π i) else none) n' cJ cs:=by
 refine⟨h.1.trans hL.1,λi v c hv hc=>?_⟩;have ao:i<vs.length:=by rw[<-h.1];grind
 exact(h.2 i v _ hv (z3 ao)).rel (hL.2 i _ c (z3 ao) hc)
theorem LRel.ren {ρ:Plc}{n n':Nat}{π:Nat->Nat}(hn:n<=n') (hπ:∀ i,i<n->π i=i) {vs cs:List Value}(h:LRel ρ n vs cs):LRen n' π vs vs :=
 ⟨rfl,λi v u hv hu=>by
  obtain rfl:v=u:=osj (hv.symm.trans hu);obtain⟨c,_,hc⟩:=h.get hv;exact hc.ren hn hπ⟩
def ORen (n:Nat) (π:Nat->Nat):VObj->VObj->Prop
 |.map es clock,.map fs kV=>clock=kV/\es.length=fs.length/\∀ (k:Nat) (a b:Yx),es[k]?=some a->fs[k]?=some b->a.1=b.1/\a.2.2=b.2.2/\Ren n π a.2.1 b.2.1
 |.iter m since seen last,.iter m' kW nw ny=>m'=π m/\m<n/\since=kW/\seen=nw/\last=ny
 |.lp env r st pend,.lp ah r' jK bO=>LRen n π env ah/\r=r'/\st=jK/\pend=bO
 |.siter s pos,.siter s' pos'=>s=s'/\pos=pos'
 |_,_=>False
theorem ORen.rel {ρ:Plc}{nf n':Nat}{π:Nat->Nat}{o' o:VObj}(h:ORen n' π o' o) {O:Obj}(hO:ORel ρ nf o O):ORel (λi=>if i<n' then ρ (π i) else none) n' o' O:=by
 cases o'<;>cases o<;>try exact h.elim
 .obtain⟨rfl,hl,hk⟩:=h;obtain⟨entries,h1,h2,h3⟩:=hO;refine⟨entries,h1,by rw[hl];exact h2,λk a ha=>?_⟩;have cO:=(zi.1 ha).1;rw[hl] at cO;obtain⟨e,he,h4,h5,h6⟩:=h3 k _ (z3 cO);obtain⟨k1,k2,k3⟩:=hk k a _ ha (z3 cO);exact⟨e,he,h4.trans k1.symm,h5.trans k2.symm,k3.rel h6⟩
 .obtain⟨rfl,hm,rfl,rfl,rfl⟩:=h;obtain⟨rm,h1,h2⟩:=hO;exact⟨rm,h1,(Ren.map _ hm).rel h2⟩
 .obtain⟨hl,rfl,rfl,rfl⟩:=h;exact⟨hO.1,hl.rel hO.2⟩
 .obtain⟨rfl,rfl⟩:=h;exact hO
theorem ORel.ren {ρ:Plc}{n n':Nat}{π:Nat->Nat}(hn:n<=n') (hπ:∀ i,i<n->π i=i) {o:VObj}{O:Obj}(h:ORel ρ n o O):ORen n' π o o:=by
 cases o with
 |map es clock =>obtain⟨entries,h1,h2,h3⟩:=h;refine⟨rfl,rfl,λk a b ha hb=>?_⟩;obtain rfl:a=b:=osj (ha.symm.trans hb);obtain⟨e,_,_,_,hv⟩:=h3 k a ha;exact⟨rfl,rfl,hv.ren hn hπ⟩
 |iter m since seen last =>
  obtain⟨rm,h1,h2⟩:=h;cases h2 with
  |map _ _ hi _=>exact⟨(hπ m hi).symm,by omega,rfl,rfl,rfl⟩
 |siter s pos=>exact⟨rfl,rfl⟩
 |lp env r st pend=>exact⟨h.2.ren hn hπ,rfl,rfl,rfl⟩
def BRen (n:Nat) (π:Nat->Nat):Blk->Blk->Prop
 |.cells c esz wr tight,.cells d nz kI iv=>esz=nz/\wr=kI/\tight=iv/\LRen n π c d
 |.obj o wr,.obj o' kI=>wr=kI/\ORen n π o o'
 |_,_=>False
theorem BRen.wr {n:Nat}{π:Nat->Nat}{b c:Blk}(h:BRen n π b c):b.wr=c.wr:=by cases b<;>cases c<;>first|(exact h.elim)|exact h.2.1|exact h.1
theorem BRen.rel {ρ:Plc}{nf n':Nat}{π:Nat->Nat}{p:Pl}{w:World}{b' b:Blk}(h:BRen n' π b' b) (hB:BRel ρ nf p w b):BRel (λi=>if i<n' then ρ (π i) else none) n' p w b':=by
 cases b' with
 |cells c esz wr tight =>
  cases b with
  |cells d nz kI iv =>
   obtain⟨rfl,rfl,rfl,hl⟩:=h;obtain⟨h1,h2,h3,h4,h5,h6⟩:=hB;refine⟨h1,h2,by rw[hl.1];exact h3,h4,λk v hk=>?_,h6⟩;have cO:k<d.length:=by rw[<-hl.1];grind
   obtain⟨u,hu,hv⟩:=h5 k _ (z3 cO);exact⟨u,hu,(hl.2 k v _ hk (z3 cO)).rel hv⟩
  |obj _ _=>exact h.elim
 |obj o wr =>
  cases b with
  |cells _ _ _ _=>exact h.elim
  |obj o' kI =>obtain⟨rfl,ho⟩:=h;obtain⟨h0,O,h1,h2⟩:=hB;exact⟨h0,O,h1,ho.rel h2⟩
def VObj.plain:VObj->Bool
 |.map es _=>es.all λkv=>J8 kv.2.1
 |_=>false
def Blk.plain:Blk->Bool
 |.cells c _ _ _=>c.all J8
 |.obj o _=>o.plain
theorem LRen.plain {n:Nat}{π:Nat->Nat}{c:List Value}(h:c.all J8=true):LRen n π c c :=
 ⟨rfl,λi v u hv hu=>by
  obtain rfl:v=u:=osj (hv.symm.trans hu);exact .plain _ (by grind)⟩
theorem BRen.plain {n:Nat}{π:Nat->Nat}{b:Blk}(h:b.plain=true):BRen n π b b:=by
 cases b with
 |cells c esz wr tight=>exact⟨rfl,rfl,rfl,LRen.plain h⟩
 |obj o wr =>
  cases o with
  |map es clock =>refine⟨rfl,rfl,rfl,λk a b ha hb=>?_⟩;obtain rfl:a=b:=osj (ha.symm.trans hb);exact⟨rfl,rfl,.plain _ (z8.1 h a (zX ha))⟩
  |_=>cases h
theorem BRel.ren {ρ:Plc}{n n':Nat}{π:Nat->Nat}(hn:n<=n') (hπ:∀ i,i<n->π i=i) {p:Pl}{w:World}{b:Blk}(h:BRel ρ n p w b):BRen n' π b b:=by
 cases b with
 |cells c esz wr tight =>refine⟨rfl,rfl,rfl,rfl,λi v u hv hu=>?_⟩;obtain rfl:v=u:=osj (hv.symm.trans hu);obtain⟨_,_,uq⟩:=h.2.2.2.2.1 i v hv;exact uq.ren hn hπ
 |obj o wr =>obtain⟨_,O,_,ho⟩:=h;exact⟨rfl,ho.ren hn hπ⟩
def DropTo (σ0:Heap) (v:Value) (σf:Heap) (v':Value) (U':Heap):Prop :=
 ∀ ρ0 w0 ρ w c,HRel ρ0 σ0 w0->Ext ρ0 σ0 w0 ρ σf w->HRel ρ σf w->VRel ρ σf.n v c->∃ ρ',VRel ρ' U'.n v' c/\HRel ρ' U' w/\Ext ρ0 σ0 w0 ρ' U' w
theorem DropTo.refl (σ0:Heap) (v:Value) (σf:Heap):DropTo σ0 v σf v σf:=λ_ _ ρ _ _ _ hE hH hv=>⟨ρ,hv,hH,hE⟩
theorem DropTo.rename {σ0 σf U':Heap}{v v':Value}(π:Nat->Nat) (h1:σ0.n<=U'.n)
  (h2:∀ i,i<σ0.n->π i=i/\U'.get i=σf.get i/\(σf.get i=σ0.get i\/(∃ b,σf.get i=some b/\b.plain=true)\/σf.get i=none))
  (h3:∀ i,σ0.n<=i->i<U'.n->σ0.n<=π i/\∃ b' b,U'.get i=some b'/\σf.get (π i)=some b/\BRen U'.n π b' b)
  (h4:∀ i j,σ0.n<=i->i<U'.n->σ0.n<=j->j<U'.n->π i=π j->i=j) (h5:Ren U'.n π v' v):DropTo σ0 v σf v' U':=by
 intro ρ0 w0 ρ w c fN hE hH hv;have hπ:∀ i,i<σ0.n->π i=i:=λi hi=>(h2 i hi).1;have aE:∀ i b',U'.get i=some b'->∃ b,σf.get (π i)=some b/\BRen U'.n π b' b:=λi b' hb=>by
  have hi:=U'.lt hb;rcases zf i σ0.n with ao|cA
  .obtain⟨k1,k2,k3⟩:=h2 i ao;rw[k1];rw[k2] at hb;refine⟨b',hb,?_⟩;rcases k3 with k3|⟨b,k3,k4⟩|k3
   .rw[k3] at hb;obtain⟨p,_,hB⟩:=fN.live i b' hb;exact hB.ren h1 hπ
   .grind [osj,BRen.plain]
   .rw[k3] at hb;cases hb
  grind
 have eQ:∀ i j,i<U'.n->j<U'.n->π i=π j->i=j:=(by grind);have hX:Ext ρ0 σ0 w0 (λi=>if i<U'.n then ρ (π i) else none) U' w:=by
  refine⟨hE.os,hE.tape,hE.output,hE.size,hE.keep,?_,h1,λi hi p hp=>?_⟩
  .rintro B hB ⟨i,p,b,hp,hb,hw,rfl⟩;change (if i<U'.n then ρ (π i) else none)=some p at hp;split at hp
   .obtain⟨b0,bP,bN⟩:=aE i b hb;exact hE.wr _ hB ⟨π i,p,b0,hp,bP,by rw[<-bN.wr];exact hw,rfl⟩
   .cases hp
  .change (if i<U'.n then ρ (π i) else none)=some p at hp;split at hp
   .rw[hπ i hi] at hp;exact hE.pl i hi p hp
   .cases hp
 refine⟨λi=>if i<U'.n then ρ (π i) else none,h5.rel hv,fN.ext ⟨λi b' hb=>?_,λi hi=>?_,λi p hp=>?_,λi j p q b cE hp hq hb hw hx=>?_⟩ hX,hX⟩
 .obtain⟨b,bP,bN⟩:=aE i b' hb;obtain⟨p,hp,hB⟩:=hH.live _ b bP;exact⟨p,by simp[U'.lt hb,hp],bN.rel hB⟩
 .show (if i<U'.n then ρ (π i) else none)=none;split
  .rename_i ao;rcases zf i σ0.n with cQ|cA
   .obtain⟨k1,k2,_⟩:=h2 i cQ;rw[k1];exact hH.dead i (by rw[<-k2];exact hi)
   grind
  .rfl
 .change (if i<U'.n then ρ (π i) else none)=some p at hp;split at hp
  .exact hH.lt _ p hp
  .cases hp
 .change (if i<U'.n then ρ (π i) else none)=some p at hp;change (if j<U'.n then ρ (π j) else none)=some q at hq;split at hp
  .rename_i hi;split at hq
   .rename_i hj;obtain⟨b0,bP,bN⟩:=aE i b hb;exact hH.sep (π i) (π j) p q b0 (λe=>cE (eQ i j hi hj e)) hp hq bP (by rw[<-bN.wr];exact hw) hx
   .cases hq
  .cases hp
def Agree (σ0 σf:Heap):Prop:=∀ i,i<σ0.n->σf.get i=σ0.get i
theorem Agree.refl (U:Heap):Agree U U:=λ_ _=>rfl
theorem Agree.push {σ0 U:Heap}(h:Agree σ0 U) (hn:σ0.n<=U.n) (b:Blk):Agree σ0 (U.push b):=λi hi=>(Heap.q0j U b (by omega)).trans (h i hi)
theorem Agree.trans {σ0 σ1 σ2:Heap}(h:Agree σ0 σ1) (k:Agree σ1 σ2) (hn:σ0.n<=σ1.n):Agree σ0 σ2:=λi hi=>(k i (by omega)).trans (h i hi)
section
variable {P:Program}{S:VSpecs}
def Gv (tmps:Array Value):ResultVar->Sem Value
 |.tmp t=>pure (tmps.getD t undef)
 |.cell a t=>do loadVar t (<-asAddr (tmps.getD a undef))
theorem ID (fn:Func) (tmps:Array Value):results fn tmps=(do
  let vs <-fn.results.mapM (Gv tmps)
  pure (if h:vs.size=1 then vs[0] else .tuple vs)):=by
 unfold results;congr 1
theorem OY {ρ:Plc}{U:Heap}{w:World}{env:Env}{tmps:Array Value}(hH:HRel ρ U w) (hL:LRel ρ U.n env tmps.toList) {r:ResultVar}{vr:VResult}
  (hc:Yg P r=some vr) {v:Value}(h:Y8 env U vr=some v):∃ c,VRel ρ U.n v c/\(Gv tmps r).run P w=.ok c w:=by
 have al:∀ t,VRel ρ U.n (env.getD t undef) (tmps.getD t undef):=λt=>Vo (a:=⟨tmps,[]⟩) hL (x:=.tmp t) rfl;cases r with
 |tmp t =>simp[Yg] at hc;subst hc;simp only[Y8,x6] at h;subst h;exact⟨_,al t,rfl⟩
 |cell a t =>
  simp only[Yg] at hc;split at hc
  .rename_i i d hi hu;simp at hc;subst hc;simp only[Y8,zg] at h;obtain⟨p,hp,rfl⟩:=h;simp only[Qb,Q5] at hp;have ha:=al a;split at hp
   .rename_i g o s h1;rw[h1] at ha;split at hp
    .rename_i c hb;split at hp
     .rename_i aj;split at hp
      .rename_i v0 hv;simp at hp;subst hp;obtain⟨u,cF,hr⟩:=Q2v hH hi hu hb aj hv ha;refine⟨u,cF,?_⟩;have:=hr w (Like.refl ρ w);have nB:tmps.getD a undef=.pointer (some ⟨g,o,none⟩):=by
        generalize tmps.getD a undef=c at ha;cases ha;rfl
       rw[nB] at this;simp only[Instr.loadAt,Instr.sureAddr,zh,x7,z9] at this;simp only[Gv,nB,asAddr,zh,x7,z9];exact this
      .cases hp
     .cases hp
    .cases hp
   .rename_i i' o h1;rw[h1] at ha;split at hp
    .rename_i c esz wr tight hb;split at hp
     .rename_i v0 hv;simp at hp;subst hp;obtain⟨u,cF,hr⟩:=Q5h hH hi hu hb hv ha;refine⟨u,cF,?_⟩;have:=hr w (Like.refl ρ w);obtain⟨ad,nB,_⟩:=ha.q1f;rw[nB] at this;simp only[Instr.loadAt,Instr.sureAddr,zh,x7,z9] at this;simp only[Gv,nB,asAddr,zh,x7,z9];exact this
     .cases hp
    .cases hp
   .cases hp
  .cases hc
theorem Q3k {α:Type}{ρ:Plc}{n:Nat}(g:α->Sem Value) (w:World) (f:α->Option Value):∀ (l:List α) (vs:List Value),l.mapM f=some vs ->
  (∀ a∈l,∀ v,f a=some v->∃ c,VRel ρ n v c/\(g a).run P w=.ok c w)->∃ cs,LRel ρ n vs cs/\(l.mapM g).run P w=.ok cs w:=by
 intro l;induction l with
 |nil=>intro vs h _;simp at h;subst h;exact⟨[],LRel.nil _ _,rfl⟩
 |cons a l ih =>
  intro vs h hg;rw[zZ] at h;cases hf:f a with
  |none=>simp[hf] at h
  |some v =>
   cases hm:l.mapM f with
   |none=>simp[hf,hm] at h
   |some cJ =>simp[hf,hm] at h;subst h;obtain⟨c,iS,iT⟩:=hg a (by simp) v hf;obtain⟨cs,qC,jt⟩:=ih cJ hm (λb hb=>hg b (by simp[hb]));refine⟨c::cs,LRel.cons iS qC,?_⟩;rw[zZ];simp[iT,jt]
theorem Fq {ρ:Plc}{U:Heap}{w:World}{env:Env}{tmps:Array Value}(hH:HRel ρ U w) (hL:LRel ρ U.n env tmps.toList) {fn:Func}{rs:List VResult}
  (hc:Di P fn.results.toList=some rs) {v:Value}(h:Yn env U rs=some v):∃ c,VRel ρ U.n v c/\(results fn tmps).run P w=.ok c w:=by
 unfold Di at hc;have aj:∀ vs,rs.mapM (Y8 env U)=some vs->∃ cs,LRel ρ U.n vs cs/\(fn.results.mapM (Gv tmps)).run P w=.ok cs.toArray w:=by
  intro vs cq;have nC:fn.results.toList.mapM (λr=>(Yg P r).bind (Y8 env U))=some vs:=by
   have:∀ (l:List ResultVar) (rs:List VResult) (vs:List Value),l.mapM (Yg P)=some rs->rs.mapM (Y8 env U)=some vs->l.mapM (λr=>(Yg P r).bind (Y8 env U))=some vs:=by
    intro l;induction l with
    |nil=>intro rs vs h1 h2;simp at h1;subst h1;simpa using h2
    |cons r l ih =>
     intro rs vs h1 h2;rw[zZ] at h1;cases hg:Yg P r with
     |none=>simp[hg] at h1
     |some x =>
      cases hm:l.mapM (Yg P) with
      |none=>simp[hg,hm] at h1
      |some bt =>
       simp[hg,hm] at h1;subst h1;rw[zZ] at h2;cases hx:Y8 env U x with
       |none=>simp[hx] at h2
       |some y =>
        cases jm:bt.mapM (Y8 env U) with
        |none=>simp[hx,jm] at h2
        |some cJ =>simp[hx,jm] at h2;subst h2;rw[zZ];simp[hg,hx,ih bt cJ hm jm]
   exact this _ _ _ hc cq
  obtain⟨cs,k1,k2⟩:=Q3k (P:=P) (ρ:=ρ) (n:=U.n) (Gv tmps) w _ _ _ nC (λr _ v hv=>by
   cases hr:Yg P r with
   |none=>rw[hr] at hv;cases hv
   |some vr=>rw[hr] at hv;exact OY hH hL hr hv)
  refine⟨cs,k1,?_⟩;rw[Array.mapM_eq_mapM_toList];simp[k2]
 unfold Yn at h;split at h
 .rename_i r;obtain⟨cs,k1,k2⟩:=aj [v] (by simp[h]);have cm:cs.length=1:=by rw[<-k1.1];rfl
  obtain⟨c,rfl⟩:=zI.1 cm;refine⟨c,k1.2 0 v c rfl rfl,?_⟩;rw[ID];simp_all
 .rename_i aJ;simp only[zg] at h;obtain⟨vs,cq,rfl⟩:=h;obtain⟨cs,k1,k2⟩:=aj vs cq;refine⟨.tuple cs.toArray,VRel.q0i k1,?_⟩;have hl:cs.length≠1:=by
   rw[<-k1.1,(V3 _ _ _ cq).1]
   grind [List.length_eq_one_iff]
  rw[ID];simp_all
theorem Q11 {ρ:Plc}{n:Nat}(k:Nat):LRel ρ n (List.replicate k undef) (List.replicate k undef) :=
 ⟨rfl,(by grind [osj,List.mem_of_getElem?,Ye])⟩
theorem L_ {w:World}{D:Nat}{ds:List Deferred}(h:w.heap[D]?=some (.deferred (some ds))):(Instr.takeDeferred D).run P w=.ok ds (Cg w D (.deferred none)):=by simp[Instr.takeDeferred,QX h (λ_ _ _ e=>by cases e),Zw h (λ_ _ _ e=>by cases e)]
theorem Ext.mark {ρ0 ρ:Plc}{σ0 U:Heap}{w0 w:World}(hE:Ext ρ0 σ0 w0 ρ U w) {D:Nat}(hD:w0.heap.size<=D) (O:Obj):Ext ρ0 σ0 w0 ρ U (Cg w D O) :=
 ⟨hE.os,hE.tape,hE.output,by rw[R6];exact hE.size,λB hB hW=>(Nm w D O B (by omega)).trans (hE.keep B hB hW),hE.wr,hE.n,hE.pl⟩
theorem HRel.mark {ρ:Plc}{U:Heap}{w:World}(hH:HRel ρ U w) {D:Nat}{d:Option (List Deferred)}(hD:w.heap[D]?=some (.deferred d)) (O:Obj):HRel ρ U (Cg w D O) :=
 hH.world (by rw[R6];exact z4 _) (λi p hp=>Nm w D O p.blk (hH.q0m hD i p hp)) λg cs hg=>Nm w D O g λe=>by obtain⟨⟨e',f,h1⟩,_⟩:=hH.tab g cs hg;rw[e,hD] at h1;cases h1
theorem Q2y {fn:Func}{tmps:Array Value}{R:Ending->World->Prop}{ρ0:Plc}{σ0:Heap}{w0:World}{ρ:Plc}{U:Heap}
  (qD:∀ w,HRel ρ U w->Ext ρ0 σ0 w0 ρ U w->∃ v,(results fn tmps).run P w=.ok v w/\R (.returned v) w) :
  ∀ (Ds:List Nat) (w:World),Ds.Nodup->(∀ D∈Ds,w0.heap.size<=D/\w.heap[D]?=some (.deferred (some [])))->HRel ρ U w->Ext ρ0 σ0 w0 ρ U w ->
   LeavesInM Fence.wide 0 P fn tmps R (Ds.map λD=>⟨.collected D,#[]⟩) .returning w:=by
 intro Ds;induction Ds with
 |nil=>intro w _ _ hH hE;exact qD w hH hE
 |cons D Ds ih =>intro w ib aj hH hE;obtain⟨h1,h2⟩:=xY.1 ib;obtain⟨h3,h4⟩:=aj D (by simp);refine⟨by simp,.inl ⟨D,_,rfl,L_ h4,ih _ h2 (λE bR=>?_) (hH.mark h4 _) (hE.mark h3 _)⟩⟩;obtain⟨k1,k2⟩:=aj E (by simp[bR]);exact⟨k1,by grind [Nm]⟩
theorem Ls (hm:P.follows .mixedOrders=true) (hS:OkSpecs P S) {f:FuncId}{fn:Func}{c:Code}{vc:VCode}{rs:List VResult}(hf:P.funcs[f]?=some fn) (hb:fn.body=some c) (hc:comp P c=some vc) (hr:Di P fn.results.toList=some rs)
  {args:List Value}{U:Heap}{R:Value->Heap->Prop}(h:vwp S vc none (Z9e rs λv σf=>∃ v' U',DropTo U v σf v' U'/\R v' U') (args++List.replicate (fn.ntmps-args.length) undef) U):VCallsTo P f args U R:=by
 intro ρ w aw hH hL;refine callsIn_wide.1 (callsIn_of_wp_marks (n:=0) hf hb trivial (Q7c hm hS c vc hc (B:=w.heap.size) none none 0 _ _ U ρ w _ h hH ?_ (Mks.nil (z4 _)) (.inl ⟨rfl,rfl⟩) _ ?_) rfl)
 .have hl:args.length=aw.size:=by have:=hL.1;simpa using this
  have:=hL.append (Q11 (ρ:=ρ) (n:=U.n) (fn.ntmps-args.length));simpa [hl] using this
 .intro e a' w' ⟨ah,ρ',U',k1,_,k2,k3,⟨_,Ds,k4,k6,k7⟩,k5⟩;have fin:(Jk (Yn ah U' rs) λv=>∃ v' aN,DropTo U v U' v' aN/\R v' aN)->LeavesInM Fence.wide 0 P fn a'.tmps (λe w'=>∃ c,e=.returned c/\Got ρ U w R c w') a'.defers .returning w':=by
   intro hk;rw[k4];refine Q2y (λw1 iR fw=>?_) Ds w' k6 k7 k2 k5;cases hv:Yn ah U' rs with
   |none=>rw[hv] at hk;exact hk.elim
   |some v =>rw[hv] at hk;obtain⟨v',aN,hd,hR⟩:=hk;obtain⟨c,iS,iT⟩:=Fq iR k3 hr hv;obtain⟨eJ,j1,j2,j3⟩:=hd ρ w ρ' w1 c hH fw iR iS;exact⟨c,iT,c,rfl,v',eJ,aN,hR,j1,j2,j3⟩
  cases e with
  |normal=>exact fin k1
  |ret=>exact fin k1
  |_=>exact k1.elim
end
end Go.V
namespace Go.V
open Go
def Fun (P:Program) (f:FuncId) (vc:VCode) (rs:List VResult) (nt:Nat):Prop :=
 ∃ fn,P.funcs[f]?=some fn/\fn.body.bind (comp P)=some vc/\Di P fn.results.toList=some rs/\fn.ntmps=nt/\(fn.name=="runtime.NumGoroutine")=false
def J0f (U:Heap) (rs:List VResult) (R:Value->Heap->Prop):Exit->Env->Heap->Prop:=Z9e rs λv σf=>∃ v' U',DropTo U v σf v' U'/\R v' U'
section
variable {P:Program}{S:VSpecs}{f:FuncId}{vc:VCode}{rs:List VResult}{nt:Nat}
theorem Fun.calls (h:Fun P f vc rs nt) (hm:P.follows .mixedOrders=true) (hS:OkSpecs P S) {args:List Value}{U:Heap}{R:Value->Heap->Prop}
  (hw:vwp S vc none (J0f U rs R) (args++List.replicate (nt-args.length) undef) U):VCalled P f args U R:=by
 obtain⟨fn,h1,h2,h3,h4,h5⟩:=h;cases hb:fn.body with
 |none=>rw[hb] at h2;cases h2
 |some c =>rw[hb] at h2;exact VCallsTo.called ⟨fn,h1,by rw[hb];rfl,h5⟩ (Ls hm hS h1 hb h2 h3 (by rw[h4];exact hw))
theorem Fun.enterable (h:Fun P f vc rs nt):Km P f:=by
 obtain⟨fn,h1,h2,h3,h4,h5⟩:=h;refine⟨fn,h1,?_,h5⟩;cases hb:fn.body with
 |none=>rw[hb] at h2;cases h2
 |some c=>rfl
theorem Fun.callsTo (h:Fun P f vc rs nt) (hm:P.follows .mixedOrders=true) (hS:OkSpecs P S) {args:List Value}{U:Heap}{R:Value->Heap->Prop}
  (hw:vwp S vc none (J0f U rs R) (args++List.replicate (nt-args.length) undef) U):VCallsTo P f args U R:=by
 obtain⟨fn,h1,h2,h3,h4,h5⟩:=h;cases hb:fn.body with
 |none=>rw[hb] at h2;cases h2
 |some c =>rw[hb] at h2;exact Ls hm hS h1 hb h2 h3 (by rw[h4];exact hw)
def Q4 (P:Program):VSpecs where
 fn f:=some λargs U K=>VCalled P f args U K
 yl i:=some λargs U K=>Ar P i args U K
 it f:=@ite _ (Km P f) (Classical.propDecidable _) (some λi Y args U K=>MS P i Y->VCallsTo P f args U K) none
theorem OA:OkSpecs P (Q4 P) :=
  ⟨λf s h => by obtain rfl:=osj h; exactλargs U K h => h,
   λf s h => by obtain rfl:=osj h; exactλargs U K h => h,
   λf T h => by
    simp only [Q4] at h;split at h
    . rename_i he; obtain rfl:=osj h; exact ⟨he, λi Y hY args U K h => h hY⟩
    . cases h⟩
end
end Go.V
namespace Go.V
open Go
inductive EB where
 |cells (c:List Value) (esz:El) (wr tight:Bool)
 |map (es:List Yx) (clock:Nat) (wr:Bool)
 |iter (m since:Nat) (seen:List Nat) (last:Nat)
 |lp (st:LoopState) (pend:Option Code)
 |siter (s:ByteArray) (pos:Nat)
inductive GT (α:Type) where
 |nil
 |node (v:α) (l r:GT α)
def GT.get {α:Type}(d:α) (t:GT α):Nat->α :=
 GT.rec (motive:=λ_=>Nat->α) (λ_=>d)
  (λv _ _ gl gr i=>Bool.rec (motive:=λ_=>α) (Bool.rec (motive:=λ_=>α) (gr (i / 2-1)) (gl (i / 2)) (Nat.beq (i % 2) 1)) v (Nat.beq i 0)) t
def GT.set {α:Type}(d:α) (f:Nat):GT α->Nat->α->GT α :=
 Nat.rec (motive:=λ_=>GT α->Nat->α->GT α) (λt _ _=>t)
  (λ_ ih t i b=>GT.rec (motive:=λ_=>GT α)
   (Bool.rec (motive:=λ_=>GT α) (Bool.rec (motive:=λ_=>GT α) (.node d .nil (ih .nil (i / 2-1) b)) (.node d (ih .nil (i / 2) b) .nil) (Nat.beq (i % 2) 1)) (.node b .nil .nil) (Nat.beq i 0))
   (λv l r _ _=>Bool.rec (motive:=λ_=>GT α) (Bool.rec (motive:=λ_=>GT α) (.node v l (ih r (i / 2-1) b)) (.node v (ih l (i / 2) b) r) (Nat.beq (i % 2) 1)) (.node b l r) (Nat.beq i 0)) t) f
theorem GT.q0y {α:Type}(d v:α) (l r:GT α) (k:Nat):(GT.node v l r).get d k=if k=0 then v else if k % 2=1 then l.get d (k / 2) else r.get d (k / 2-1):=by
 show (Bool.rec (motive:=λ_=>α) (Bool.rec (motive:=λ_=>α) (r.get d (k / 2-1)) (l.get d (k / 2)) (Nat.beq (k % 2) 1)) v (Nat.beq k 0))=_;by_cases h0:k=0
 .subst h0;rfl
 .have:Nat.beq k 0=false:=by
   cases h:Nat.beq k 0 with
   |false=>rfl
   |true=>exact absurd (zD h) h0
  rw[this,z0 h0];by_cases h1:k % 2=1
  .rw[z2 h1,h1];rfl
  .have:Nat.beq (k % 2) 1=false:=by
    cases h:Nat.beq (k % 2) 1 with
    |false=>rfl
    |true=>exact absurd (zD h) h1
   rw[this,z0 h1]
theorem GT.q2b {α:Type}(d v:α) (f:Nat) (l r:GT α) (i:Nat) (b:α):(GT.node v l r).set d (f+1) i b=if i=0 then .node b l r else if i % 2=1 then .node v (l.set d f (i / 2) b) r else .node v l (r.set d f (i / 2-1) b):=by
 show (Bool.rec (motive:=λ_=>GT α) (Bool.rec (motive:=λ_=>GT α) (.node v l (r.set d f (i / 2-1) b)) (.node v (l.set d f (i / 2) b) r) (Nat.beq (i % 2) 1)) (.node b l r) (Nat.beq i 0))=_;by_cases h0:i=0
 .subst h0;rfl
 .have:Nat.beq i 0=false:=by
   cases h:Nat.beq i 0 with
   |false=>rfl
   |true=>exact absurd (zD h) h0
  rw[this,z0 h0];by_cases h1:i % 2=1
  .rw[z2 h1,h1];rfl
  .have:Nat.beq (i % 2) 1=false:=by
    cases h:Nat.beq (i % 2) 1 with
    |false=>rfl
    |true=>exact absurd (zD h) h1
   rw[this,z0 h1]
theorem GT.set_nil {α:Type}(d:α) (f i:Nat) (b:α):(GT.nil:GT α).set d (f+1) i b=(GT.node d .nil .nil).set d (f+1) i b:=rfl
theorem GT.q1d {α:Type}(d:α):∀ (f:Nat) (t:GT α) (i:Nat) (b:α) (j:Nat),i+1<2 ^ f->(t.set d f i b).get d j=if j=i then b else t.get d j:=by
 intro f;induction f with
 |zero=>intro t i b j h;simp at h
 |succ f ih =>
  intro t i b j h;have hp:2 ^ (f+1)=2*2 ^ f:=by rw[Nat.pow_succ];omega
  have gh:∀ v l r,((GT.node v l r).set d (f+1) i b).get d j=if j=i then b else (GT.node v l r).get d j:=by
   intro v l r;rw[GT.q2b];by_cases hi:i=0
   .subst hi;rw[z2 rfl,GT.q0y,GT.q0y];split<;>rfl
   .rw[z0 hi];by_cases ho:i % 2=1
    .rw[z2 ho,GT.q0y,GT.q0y,ih _ _ _ _ (by omega)];by_cases iP:j=0
     .subst iP;rw[z2 rfl,z0 (Ne.symm hi),z2 rfl]
     .rw[z0 iP,z0 iP];by_cases iw:j % 2=1
      .rw[z2 iw,z2 iw];by_cases aP:j=i
       .subst aP;simp
       .rw[z0 aP,z0 (by omega)]
      .rw[z0 iw,z0 iw,z0 (by rintro rfl;exact iw ho)]
    .rw[z0 ho,GT.q0y,GT.q0y,ih _ _ _ _ (by omega)];by_cases iP:j=0
     .subst iP;rw[z2 rfl,z0 (Ne.symm hi),z2 rfl]
     .rw[z0 iP,z0 iP];by_cases iw:j % 2=1
      .rw[z2 iw,z2 iw,z0 (by rintro rfl;exact ho iw)]
      .rw[z0 iw,z0 iw];by_cases aP:j=i
       .subst aP;simp
       .rw[z0 aP,z0 (by omega)]
  cases t with
  |node v l r=>exact gh v l r
  |nil =>
   rw[GT.set_nil,gh d .nil .nil,GT.q0y];split
   .rfl
   .split
    .rfl
    .split<;>rfl
structure CH where
 t:GT (Option EB)
 n:Nat
def CH.get (h:CH) (i:Nat):Option EB:=Bool.rec (motive:=λ_=>Option EB) none (h.t.get none i) (Nat.blt i h.n)
def CH.upd (h:CH) (i:Nat) (b:EB):CH:=⟨h.t.set none 32 i (some b),h.n⟩
def CH.kill (h:CH) (i:Nat):CH:=⟨h.t.set none 32 i none,h.n⟩
def CH.push (h:CH) (b:EB):CH:=⟨h.t.set none 32 h.n (some b),h.n+1⟩
def CH.room (h:CH):Bool:=Nat.ble h.n 1000000000
def CH.empty:CH:=⟨.nil,0⟩
theorem CH.q0w {h:CH}{i:Nat}(hi:i<h.n):h.get i=h.t.get none i:=by unfold CH.get;rw[show Nat.blt i h.n=true from Nat.ble_eq_true_of_le hi]
theorem CH.q0t {h:CH}{i:Nat}(hi:h.n<=i):h.get i=none:=by
 unfold CH.get;cases hb:Nat.blt i h.n with
 |false=>rfl
 |true=>have:=zp hb;omega
theorem CH.q2e {h:CH}{i:Nat}{b:EB}(hi:i<h.n) (hs:h.n<=1000000001) (j:Nat):(h.upd i b).get j=if j=i then some b else h.get j:=by
 rcases zf j h.n with hj|hj
 .rw[CH.q0w (h:=h.upd i b) hj,CH.q0w hj];exact GT.q1d none 32 _ _ _ _ (by omega)
 .rw[CH.q0t (h:=h.upd i b) hj,CH.q0t hj,z0 (by omega)]
theorem CH.q2c {h:CH}{i:Nat}(hi:i<h.n) (hs:h.n<=1000000001) (j:Nat):(h.kill i).get j=if j=i then none else h.get j:=by
 rcases zf j h.n with hj|hj
 .rw[CH.q0w (h:=h.kill i) hj,CH.q0w hj];exact GT.q1d none 32 _ _ _ _ (by omega)
 .rw[CH.q0t (h:=h.kill i) hj,CH.q0t hj];simp
theorem CH.q1r {h:CH}{b:EB}(hs:h.n<=1000000001) (j:Nat):(h.push b).get j=if j=h.n then some b else h.get j:=by
 rcases zf j (h.n+1) with hj|hj
 .rw[CH.q0w (h:=h.push b) hj];show (h.t.set none 32 h.n (some b)).get none j=_;rw[GT.q1d none 32 _ _ _ _ (by omega)];split
  .rfl
  .rw[CH.q0w (by omega)]
 .rw[CH.q0t (h:=h.push b) hj,CH.q0t (by omega),z0 (by omega)]
def EB.to (q:Env×Loop):EB->Blk
 |.cells c e w t=>.cells c e w t
 |.map es cl w=>.obj (.map es cl) w
 |.iter m s sn l=>.obj (.iter m s sn l) true
 |.lp st pend=>.obj (.lp q.1 q.2 st pend) true
 |.siter s pos=>.obj (.siter s pos) true
structure CSim (rs:Nat->Env×Loop) (h:CH) (U:Heap):Prop where
 n:h.n=U.n
 sm:h.n<=1000000001
 get:∀ i,U.get i=(h.get i).map (EB.to (rs i))
theorem CSim.cells {rs:Nat->Env×Loop}{h:CH}{U:Heap}(hs:CSim rs h U) {i:Nat}{c:List Value}{e:El}{w t:Bool}(hg:h.get i=some (.cells c e w t)):U.get i=some (.cells c e w t):=by rw[hs.get,hg];rfl
theorem CSim.map {rs:Nat->Env×Loop}{h:CH}{U:Heap}(hs:CSim rs h U) {i:Nat}{es:List Yx}{cl:Nat}{w:Bool}(hg:h.get i=some (.map es cl w)):U.get i=some (.obj (.map es cl) w):=by rw[hs.get,hg];rfl
theorem CSim.iter {rs:Nat->Env×Loop}{h:CH}{U:Heap}(hs:CSim rs h U) {i m s:Nat}{sn:List Nat}{l:Nat}(hg:h.get i=some (.iter m s sn l)):U.get i=some (.obj (.iter m s sn l) true):=by rw[hs.get,hg];rfl
theorem CSim.lp {rs:Nat->Env×Loop}{h:CH}{U:Heap}(hs:CSim rs h U) {i:Nat}{st:LoopState}{pend:Option Code}(hg:h.get i=some (.lp st pend)):U.get i=some (.obj (.lp (rs i).1 (rs i).2 st pend) true):=by rw[hs.get,hg];rfl
theorem CSim.lt {rs:Nat->Env×Loop}{h:CH}{U:Heap}(hs:CSim rs h U) {i:Nat}{b:EB}(hg:h.get i=some b):i<h.n:=by
 have:U.get i=some (b.to (rs i)):=by rw[hs.get,hg];rfl
 rw[hs.n];exact U.lt this
theorem CSim.upd {rs:Nat->Env×Loop}{h:CH}{U:Heap}(hs:CSim rs h U) {i:Nat}(hi:i<h.n) {b:EB}{b':Blk}(hb:b.to (rs i)=b'):CSim rs (h.upd i b) (U.upd i b'):=by
 refine⟨hs.n,hs.sm,λj=>?_⟩;rw[CH.q2e hi hs.sm];show (if j=i/\i<U.n then some b' else U.get j)=_;by_cases hj:j=i
 .subst hj;rw[z2 ⟨rfl,by rw[<-hs.n];exact hi⟩,z2 rfl,<-hb];rfl
 .rw[z0 (λe=>hj e.1),z0 hj];exact hs.get j
theorem CSim.kill {rs:Nat->Env×Loop}{h:CH}{U:Heap}(hs:CSim rs h U) {i:Nat}(hi:i<h.n):CSim rs (h.kill i) (U.kill i):=by
 refine⟨hs.n,hs.sm,λj=>?_⟩;rw[CH.q2c hi hs.sm];show (if j=i then none else U.get j)=_;by_cases hj:j=i
 .rw[z2 hj,z2 hj];rfl
 .rw[z0 hj,z0 hj];exact hs.get j
theorem CSim.push {rs:Nat->Env×Loop}{h:CH}{U:Heap}(hs:CSim rs h U) (hr:h.room=true) {b:EB}{b':Blk}(hb:b.to (rs h.n)=b'):CSim rs (h.push b) (U.push b'):=by
 have hr:h.n<=1000000000:=zp hr;refine⟨by show h.n+1=U.n+1;rw[hs.n],by show h.n+1<=_;omega,λj=>?_⟩;rw[CH.q1r hs.sm];show (if j=U.n then some b' else U.get j)=_;rw[<-hs.n];by_cases hj:j=h.n
 .subst hj;rw[z2 rfl,z2 rfl,<-hb];rfl
 .rw[z0 hj,z0 hj];exact hs.get j
theorem CSim.rs {rs bt:Nat->Env×Loop}{h:CH}{U:Heap}(hs:CSim rs h U) (hr:∀ i,i<h.n->bt i=rs i):CSim bt h U :=
 ⟨hs.n,hs.sm,λi=>by
  rw[hs.get];cases hg:h.get i with
  |none=>rfl
  |some b=>rw[hr i (hs.lt hg)]⟩
def CH.sl (U:CH) (esz:Nat):Value->Option (List Value)
 |.slice none 0 0=>some []
 |.slice (some ⟨i,o,none⟩) n _ =>
  match U.get i with
  |some (.cells c e _ _)=>if e.sz=esz/\o+n*esz<=c.length then some ((c.drop o).take (n*esz)) else none
  |_=>none
 |_=>none
def CH.mapAt (U:CH) (m:Nat):Option (List Yx×Nat×Bool):=match U.get m with
 |some (.map es clock wr)=>some (es,clock,wr)
 |_=>none
def Dl (U:CH) (b:EB) (v:Value):Option (Value×CH):=if U.room=true then some (v,U.push b) else none
def OI (esz:El) (bytes:Nat) (U:CH) (s:Value) (m:Nat) (xs:List Value):Option (Value×CH) :=
 match s with
 |.slice none 0 0 =>
  if m=0 then some (s,U) else
  if m*bytes<=2 ^ 46 then Dl U (.cells xs esz true false) (.slice (some ⟨U.n,0,none⟩) m m) else none
 |.slice (some ⟨i,o,none⟩) n cap =>
  match U.get i with
  |some (.cells c e wr tight) =>
   if e=esz/\n<=cap/\o+n*esz.sz<=c.length then
    if m=0 then some (s,U) else
    if n+m<=cap then
     (if wr=true/\o+(n+m)*esz.sz<=c.length then some (.slice (some ⟨i,o,none⟩) (n+m) cap,U.upd i (.cells (Nh c (o+n*esz.sz) xs) e wr tight)) else none)
    else if (n+m)*bytes<=2 ^ 46 then
     (if tight then Dl U (.cells ((c.drop o).take (n*esz.sz)++xs) esz true false) (.slice (some ⟨U.n,0,none⟩) (n+m) (n+m))
     else if wr then Dl (U.kill i) (.cells ((c.drop o).take (n*esz.sz)++xs) esz true false) (.slice (some ⟨U.n,0,none⟩) (n+m) (n+m))
     else none)
    else none
   else none
  |_=>none
 |.slice (some ⟨i,o,some 0⟩) n cap =>
  match U.get i with
  |some (.cells c e _ _) =>
   if e=esz/\n=cap/\o+n*esz.sz<=c.length/\m≠0/\(n+m)*bytes<=2 ^ 46 then
    Dl U (.cells ((c.drop o).take (n*esz.sz)++xs) esz true false) (.slice (some ⟨U.n,0,none⟩) (n+m) (n+m))
   else none
  |_=>none
 |_=>none
def Q5z (size:Nat) (U:CH) (s:Value) (l h:Nat) (m:Option Nat):Option (Value×CH) :=
 match s with
 |.slice none 0 0=>if l=0/\h=0/\(m.getD 0)=0 then some (.slice none 0 0,U) else none
 |.slice (some ⟨i,o,none⟩) _ cap =>
  match U.get i with
  |some (.cells _ e _ t) =>
   match m with
   |none=>if e.sz=size/\l<=h/\h<=cap then some (.slice (some ⟨i,o+l*size,none⟩) (h-l) (cap-l),U) else none
   |some m =>
    if e.sz=size/\l<=h/\h<=m/\m<=cap then
     if m=l then Dl U (.cells [] e false true) (.slice (some ⟨U.n,0,none⟩) 0 0)
     else if t=false/\h=m then some (.slice (some ⟨i,o+l*size,some 0⟩) (h-l) (m-l),U)
     else some (.slice (some ⟨i,o+l*size,none⟩) (h-l) (m-l),U)
    else none
  |_=>none
 |_=>none
def Z4v:Nat->Value->Value->CH->Option Bool
 |0,.pointer none,.pointer none,_=>some true
 |0,.pointer none,.pointer (some _),_=>some false
 |0,.pointer (some _),.pointer none,_=>some false
 |0,.pointer (some ⟨i,o,none⟩),.pointer (some ⟨j,q,none⟩),U=>if i=j/\o=q/\(U.get i).isSome=true then some true else none
 |1,.slice none _ _,.slice none _ _,_=>some true
 |1,.slice none _ _,.slice (some _) _ _,_=>some false
 |1,.slice (some _) _ _,.slice none _ _,_=>some false
 |2,.map none,.map none,_=>some true
 |2,.map none,.map (some _),_=>some false
 |2,.map (some _),.map none,_=>some false
 |3,.nilFunc,.nilFunc,_=>some true
 |3,.nilFunc,.func _ _ _,_=>some false
 |3,.func _ _ _,.nilFunc,_=>some false
 |_,_,_,_=>none
def K8 (o:XOp) (ev:Operand->Value) (U:CH):Option (Value×CH) :=
 match o with
 |.eqAgg neg s x y=>match ev x,ev y with
  |.agg a,.agg b=>if fits s a.toList=true/\fits s b.toList=true then some (.bool (if neg then !(QP a.toList b.toList) else QP a.toList b.toList),U) else none
  |_,_=>none
 |.eqNil kd neg x y=>match Z4v kd (ev x) (ev y) U with|some b=>some (.bool (if neg then !b else b),U)|none=>none
 |.makeMap=>Dl U (.map [] 0 true) (.map (some U.n))
 |.lookup mk z ok x i =>
  let k:=ev i
  if Xv mk k then
   match ev x with
   |.map none=>some (if ok then .tuple #[z,.bool false] else z,U)
   |.map (some m)=>match U.mapAt m with
    |some (es,_,_)=>if es.all (λe=>Xv mk e.1) then
      (match Zp k es with
      |some e=>some (if ok then .tuple #[e.2.1,.bool true] else e.2.1,U)
      |none=>some (if ok then .tuple #[z,.bool false] else z,U)) else none
    |none=>none
   |_=>none
  else none
 |.mapUpdate mk m k v=>match ev m with
  |.map (some i)=>match U.mapAt i with
   |some (es,clock,true)=>if Xv mk (ev k)&&es.all (λe=>Xv mk e.1) then some (undef,U.upd i (.map (J7 (ev k) (ev v) clock es).1 (J7 (ev k) (ev v) clock es).2 true)) else none
   |_=>none
  |_=>none
 |.delete mk m k=>match ev m with
  |.map (some i)=>match U.mapAt i with
   |some (es,clock,true)=>if Xv mk (ev k)&&es.all (λe=>Xv mk e.1) then some (.tuple #[],U.upd i (.map (Lb (ev k) es) clock true)) else none
   |_=>none
  |_=>none
 |.lenMap x=>match ev x with
  |.map none=>some (.int .i64 0,U)
  |.map (some m)=>match U.mapAt m with
   |some (es,_,_)=>some (.int .i64 es.length,U)
   |none=>none
  |_=>none
 |.rangeMap x=>match ev x with
  |.map (some m)=>match U.mapAt m with
   |some (_,clock,_)=>Dl U (.iter m clock [] clock) (.pointer (some ⟨U.n,0,none⟩))
   |none=>none
  |_=>none
 |.rangeStr x=>match ev x with
  |.string s=>Dl U (.siter s 0) (.pointer (some ⟨U.n,0,none⟩))
  |_=>none
 |.nextStr x=>match ev x with
  |.pointer (some ⟨i,0,none⟩)=>match U.get i with
   |some (.siter s pos)=>match s.data.toList[pos]? with
    |some b=>if b.toNat<128 then some (.tuple #[.bool true,.int .i64 pos,.int .i32 b.toNat],U.upd i (.siter s (pos+1))) else none
    |none=>some (.tuple #[.bool false],U)
   |_=>none
  |_=>none
 |.entry x=>match ev x with
  |.pointer (some ⟨i,0,none⟩)=>match U.get i with
   |some (.iter m _ seen last)=>match U.mapAt m,seen.getLast? with
    |some (es,clock,_),some b=>if clock=last then (match es.find? (λe=>e.2.2==b) with|some e=>if MN e.1 then some (.tuple #[e.1,e.2.1],U) else none|none=>none) else none
    |_,_=>none
   |_=>none
  |_=>none
 |.copy size d s=>match ev d,ev s with
  |.slice db dn _,.slice sb sn sc =>
   if min sn dn=0 then some (.int .i64 0,U) else
   match db,U.sl size (.slice sb (min sn dn) sc) with
   |some ⟨i,o,none⟩,some xs=>match U.get i with
    |some (.cells c e wr tight)=>if wr=true/\e.sz=size/\o+xs.length<=c.length/\xs.all cellOk=true then some (.int .i64 (min sn dn:Nat),U.upd i (.cells (Nh c o xs) e wr tight)) else none
    |_=>none
   |_,_=>none
  |_,_=>none
 |.clear z x=>match ev x with
  |.slice b n _ =>
   if n=0 then some (.tuple #[],U) else
   match b with
   |some ⟨i,o,none⟩=>match U.get i with
    |some (.cells c e wr tight)=>if wr=true/\o+n*z.length<=c.length/\z.all cellOk=true then some (.tuple #[],U.upd i (.cells (Nh c o (Ct n z)) e wr tight)) else none
    |_=>none
   |_=>none
  |_=>none
 |.toUnsafe x=>match ev x with
  |.pointer none=>some (.pointer none,U)
  |.pointer (some ⟨i,o,none⟩)=>match U.get i with
   |some (.cells c _ _ _)=>if o<c.length then some (.pointer (some ⟨i,o,none⟩),U) else none
   |_=>none
  |_=>none
 |.fromUnsafe u size x=>match ev x with
  |.pointer none=>some (.pointer none,U)
  |.pointer (some ⟨i,o,none⟩)=>match U.get i with
   |some (.cells c e true true)=>if o=0/\e.ty=u/\size<=c.length then some (.pointer (some ⟨i,o,none⟩),U) else none
   |_=>none
  |_=>none
 |.sliceData x=>match ev x with
  |.slice none _ _=>some (.pointer none,U)
  |.slice (some ⟨i,o,none⟩) _ cap=>if cap≠0/\(U.get i).isSome=true then some (.pointer (some ⟨i,o,none⟩),U) else none
  |_=>none
 |.unsafeStr e x n=>match ev x,ev n with
  |.pointer p,.int .i64 k =>
   if k=0 then some (.string ⟨#[]⟩,U) else
   match p with
   |some ⟨i,o,none⟩=>match U.get i with
    |some (.cells c el true tight) =>
     if 0<k/\k<=2 ^ 62/\el.ty=e/\o+k.toNat<=c.length then
      (match La ((c.drop o).take k.toNat) with
      |some s=>some (.string s,U.upd i (.cells c el false tight))
      |none=>none) else none
    |_=>none
   |_=>none
  |_,_=>none
 |.bytesStr x=>match ev x with
  |.slice a n c=>match U.sl 1 (.slice a n c) with
   |some xs=>match La xs with|some s=>some (.string s,U)|none=>none
   |none=>none
  |_=>none
 |.strBytes e x=>match ev x with
  |.string s=>if s.size<=2 ^ 62 then Dl U (.cells (s.data.toList.map λb=>.int .u8 b.toNat) ⟨1,e⟩ true false) (.slice (some ⟨U.n,0,none⟩) s.size s.size) else none
  |_=>none
 |_=>none
def Heap.empty:Heap:=⟨λ_=>none,0,λ_ _=>rfl⟩
def Z11 (o:VOp) (ev:Operand->Value) (U:CH):Option (Value×CH) :=
 match o with
 |.alloc t z=>Dl U (.cells z ⟨z.length,t⟩ true true) (.pointer (some ⟨U.n,0,none⟩))
 |.box t x=>match M8 (ev x) with
  |some vs=>Dl U (.cells vs ⟨vs.length,t⟩ true true) (.pointer (some ⟨U.n,0,none⟩))
  |none=>none
 |.buildSlice esz z len parts=>match BB (Ct len z) (parts.map λp=>(p.1*esz.sz,esz.sz,ev p.2)) with
  |some cs=>Dl U (.cells cs esz true true) (.slice (some ⟨U.n,0,none⟩) len len)
  |none=>none
 |.load agg size a=>match ev a with
  |.pointer (some ⟨g,o,some _⟩)=>(match Z2j g with
   |some c=>if c.all J8 then (match Vq agg size c o with|some v=>some (v,U)|none=>none) else none
   |none=>none)
  |.pointer (some ⟨i,o,none⟩)=>match U.get i with
   |some (.cells c _ _ _)=>match Vq agg size c o with|some v=>some (v,U)|none=>none
   |_=>none
  |_=>none
 |.store size a v=>match ev a,M8 (ev v) with
  |.pointer (some ⟨i,o,none⟩),some vs=>match U.get i with
   |some (.cells c e wr tight)=>if wr=true/\vs.length=size/\o+size<=c.length/\vs.all cellOk=true then some (undef,U.upd i (.cells (Nh c o vs) e wr tight)) else none
   |_=>none
  |_,_=>none
 |.slice size x lo hi mx =>
  match ev x with
  |.slice a n cap =>
   match Wt ev lo 0,Wt ev hi n,mx with
   |some l,some h,none=>Q5z size U (.slice a n cap) l h none
   |some l,some h,some _=>match Wt ev mx 0,hi with
    |some m,some _=>Q5z size U (.slice a n cap) l h (some m)
    |_,_=>none
   |_,_,_=>none
  |_=>none
 |.makeSlice esz bytes z l c =>
  match ev l,ev c with
  |.int _ a,.int _ b=>if 0<=a/\a<=b/\b*bytes<=2 ^ 46/\b<=2 ^ 46 then Dl U (.cells (Ct b.toNat z) esz true true) (.slice (some ⟨U.n,0,none⟩) a.toNat b.toNat) else none
  |_,_=>none
 |.append esz bytes s x =>
  match U.sl esz.sz (ev x),ev x with
  |some xs,.slice _ m _=>if xs.all cellOk then OI esz bytes U (ev s) m xs else none
  |_,_=>none
 |.ext o=>K8 o ev U
 |o=>if o.kind=0 then (match Qb o ev Heap.empty with|some p=>some (p.1,U)|none=>none) else none
def ESnd (rs:Nat->Env×Loop) (h:CH) (_σ:Heap) (r:Option (Value×Heap)) (p:Value×CH):Prop:=h.n<=p.2.n/\∃ U',r=some (p.1,U')/\CSim rs p.2 U'
theorem ESnd.same {rs:Nat->Env×Loop}{h:CH}{U:Heap}(hs:CSim rs h U) {r:Option (Value×Heap)}{v:Value}(hr:r=some (v,U)):ESnd rs h U r (v,h):=⟨z4 _,U,hr,hs⟩
theorem ESnd.upd {rs:Nat->Env×Loop}{h:CH}{U:Heap}(hs:CSim rs h U) {r:Option (Value×Heap)}{v:Value}{i:Nat}{b:EB}{b0:EB}(hg:h.get i=some b0) {b':Blk}(hb:b.to (rs i)=b') (hr:r=some (v,U.upd i b')):ESnd rs h U r (v,h.upd i b):=by have hi:=hs.lt hg;have pD:=hs.sm;exact⟨z4 _,_,hr,hs.upd hi hb⟩
theorem ESnd.push {rs:Nat->Env×Loop}{h:CH}{U:Heap}(hs:CSim rs h U) {r:Option (Value×Heap)}{v:Value}{p:Value×CH}{b:EB}(hp:Dl h b v=some p) {b':Blk}(hb:b.to (rs h.n)=b') (hr:r=some (v,U.push b')):ESnd rs h U r p:=by
 unfold Dl at hp;split at hp
 .rename_i aX;obtain rfl:=osj hp;have pD:=hs.sm;exact⟨Nat.le_succ _,_,hr,hs.push aX hb⟩
 .cases hp
theorem CSim.sl {rs:Nat->Env×Loop}{h:CH}{U:Heap}(hs:CSim rs h U) {esz:Nat}{v:Value}{xs:List Value}(hx:h.sl esz v=some xs):U.sl esz v=some xs:=by
 unfold CH.sl at hx;unfold Heap.sl;split at hx
 .exact hx
 .rename_i i o n c;split at hx
  .rename_i cs e wr t hb;simp only[hs.cells hb];exact hx
  .cases hx
 .cases hx
theorem CSim.mapAt {rs:Nat->Env×Loop}{h:CH}{U:Heap}(hs:CSim rs h U) {m:Nat}{x:List Yx×Nat×Bool}(hx:h.mapAt m=some x):U.mapAt m=some x/\h.get m=some (.map x.1 x.2.1 x.2.2):=by
 unfold CH.mapAt at hx;unfold Heap.mapAt;split at hx
 .rename_i es clock wr hb;obtain rfl:=osj hx;exact⟨by simp only[hs.map hb],hb⟩
 .cases hx
theorem Q3r {rs:Nat->Env×Loop}{h:CH}{U:Heap}(hs:CSim rs h U) {kd:Nat}{a b:Value}{r:Bool}(hx:Z4v kd a b h=some r):WJ kd a b U=some r:=by
 unfold Z4v at hx;unfold WJ
 split at hx<;>first
  |exact hx
  |(cases hx;done)
  |skip
 rename_i i o j q;split at hx
 .rename_i hc;obtain⟨h1,h2,h3⟩:=hc;have dg:i=j/\o=q/\(U.get i).isSome=true:=⟨h1,h2,by rw[hs.get];simpa using h3⟩;simp only[z2 dg];exact hx
 .cases hx
theorem ON {rs:Nat->Env×Loop}{h:CH}{U:Heap}(hs:CSim rs h U) {esz:El}{bytes:Nat}{s:Value}{m:Nat}{xs:List Value}{p:Value×CH}(hx:OI esz bytes h s m xs=some p):ESnd rs h U (UE esz bytes U s m xs) p:=by
 unfold OI at hx;unfold UE;split at hx
 .split at hx
  .rename_i hm;simp only[z2 hm];obtain rfl:=osj hx;exact .same hs rfl
  .rename_i hm;simp only[z0 hm];split at hx
   .rename_i hb;simp only[z2 hb];rw[hs.n] at hx;exact .push hs hx rfl rfl
   .cases hx
 .rename_i i o n cap;split at hx
  .rename_i c e wr tight hg;have pD:=hs.sm;have hi:=hs.lt hg;simp only[hs.cells hg];split at hx
   .rename_i h1;simp only[z2 h1];split at hx
    .rename_i h2;simp only[z2 h2];obtain rfl:=osj hx;exact .same hs rfl
    .rename_i h2;simp only[z0 h2];split at hx
     .rename_i h3;simp only[z2 h3];split at hx
      .rename_i h4;simp only[z2 h4];obtain rfl:=osj hx;exact .upd hs hg rfl rfl
      .cases hx
     .rename_i h3;simp only[z0 h3];split at hx
      .rename_i h4;simp only[z2 h4];split at hx
       .rename_i h5;simp only[z2 h5];rw[hs.n] at hx;exact .push hs hx rfl rfl
       .rename_i h5;simp only[z0 h5];split at hx
        .rename_i h6;simp only[z2 h6];rw[hs.n] at hx;have hk:=hs.kill hi;obtain⟨k1,U',k2,k3⟩:=ESnd.push (r:=some (.slice (some ⟨U.n,0,none⟩) (n+m) (n+m),(U.kill i).push (.cells ((c.drop o).take (n*esz.sz)++xs) esz true false))) hk hx rfl rfl;exact⟨k1,U',k2,k3⟩
        .cases hx
      .cases hx
   .cases hx
  .cases hx
 .rename_i i o n cap;split at hx
  .rename_i c e wr tight hg;simp only[hs.cells hg];split at hx
   .rename_i h1;simp only[z2 h1];rw[hs.n] at hx;exact .push hs hx rfl rfl
   .cases hx
  .cases hx
 .cases hx
theorem Lp {rs:Nat->Env×Loop}{h:CH}{U:Heap}(hs:CSim rs h U) {size:Nat}{s:Value}{l k:Nat}{m:Option Nat}{p:Value×CH}(hx:Q5z size h s l k m=some p):ESnd rs h U (VC size U s l k m) p:=by
 unfold Q5z at hx;unfold VC;split at hx
 .split at hx
  .rename_i hm;simp only[z2 hm];obtain rfl:=osj hx;exact .same hs rfl
  .cases hx
 .rename_i i o n cap;split at hx
  .rename_i c e wr tight hg;simp only[hs.cells hg];split at hx
   .split at hx
    .rename_i h1;simp only[z2 h1];obtain rfl:=osj hx;exact .same hs rfl
    .cases hx
   .split at hx
    .rename_i h1;simp only[z2 h1];split at hx
     .rename_i h2;simp only[z2 h2];rw[hs.n] at hx;exact .push hs hx rfl rfl
     .rename_i h2;simp only[z0 h2];split at hx
      .rename_i h3;simp only[z2 h3];obtain rfl:=osj hx;exact .same hs rfl
      .rename_i h3;simp only[z0 h3];obtain rfl:=osj hx;exact .same hs rfl
    .cases hx
  .cases hx
 .cases hx
theorem As {rs:Nat->Env×Loop}{h:CH}{U:Heap}(hs:CSim rs h U) {o:XOp}{ev:Operand->Value}{p:Value×CH}(hx:K8 o ev h=some p):ESnd rs h U (JA o ev U) p:=by
 cases o
 case eqAgg neg s x y =>
  simp only[K8] at hx;simp only[JA];split at hx
  .rename_i a b ha hb;split at hx
   .rename_i hc;rw[ha,hb];simp only;rw[z2 hc];obtain rfl:=osj hx;exact .same hs rfl
   .cases hx
  .cases hx
 case eqNil kd neg x y =>
  simp only[K8] at hx;simp only[JA];split at hx
  .rename_i b hb;rw[Q3r hs hb];obtain rfl:=osj hx;exact .same hs rfl
  .cases hx
 case makeMap =>
  simp only[K8] at hx;simp only[JA];rw[hs.n] at hx;exact .push hs hx rfl rfl
 case lookup mk z ok x i =>
  simp only[K8] at hx;simp only[JA];generalize ev x=q0 at hx |-;generalize ev i=q1 at hx |-;split at hx
  .rename_i hk;simp only[z2 hk];split at hx
   .obtain rfl:=osj hx;exact .same hs rfl
   .rename_i m hm;split at hx
    .rename_i es cl wr gC;obtain⟨k1,k2⟩:=hs.mapAt gC;simp only[k1];split at hx
     .rename_i aj;simp only[z2 aj];split at hx
      .rename_i e hf;simp only[hf];obtain rfl:=osj hx;exact .same hs rfl
      .rename_i hf;simp only[hf];obtain rfl:=osj hx;exact .same hs rfl
     .cases hx
    .cases hx
   .cases hx
  .cases hx
 case mapUpdate mk m k v =>
  simp only[K8] at hx;simp only[JA];generalize ev m=q0 at hx |-;split at hx
  .rename_i i hi;split at hx
   .rename_i es cl gC;obtain⟨k1,k2⟩:=hs.mapAt gC;simp only[k1];split at hx
    .rename_i hc;simp only[z2 hc];obtain rfl:=osj hx;exact .upd hs k2 rfl rfl
    .cases hx
   .cases hx
  .cases hx
 case delete mk m k =>
  simp only[K8] at hx;simp only[JA];generalize ev m=q0 at hx |-;split at hx
  .rename_i i hi;split at hx
   .rename_i es cl gC;obtain⟨k1,k2⟩:=hs.mapAt gC;simp only[k1];split at hx
    .rename_i hc;simp only[z2 hc];obtain rfl:=osj hx;exact .upd hs k2 rfl rfl
    .cases hx
   .cases hx
  .cases hx
 case mapEntry=>cases hx
 case entryStore=>cases hx
 case lenMap x =>
  simp only[K8] at hx;simp only[JA];generalize ev x=q0 at hx |-;split at hx
  .obtain rfl:=osj hx;exact .same hs rfl
  .split at hx
   .rename_i es cl wr gC;obtain⟨k1,k2⟩:=hs.mapAt gC;simp only[k1];obtain rfl:=osj hx;exact .same hs rfl
   .cases hx
  .cases hx
 case rangeMap x =>
  simp only[K8] at hx;simp only[JA];generalize ev x=q0 at hx |-;split at hx
  .split at hx
   .rename_i es cl wr gC;obtain⟨k1,k2⟩:=hs.mapAt gC;simp only[k1];rw[hs.n] at hx;exact .push hs hx rfl rfl
   .cases hx
  .cases hx
 case nextMap=>cases hx
 case rangeStr x =>
  simp only[K8] at hx;simp only[JA];generalize ev x=q0 at hx |-;split at hx
  .rw[hs.n] at hx;exact .push hs hx rfl rfl
  .cases hx
 case nextStr x =>
  simp only[K8] at hx;simp only[JA];generalize ev x=q0 at hx |-;split at hx
  .rename_i i;split at hx
   .rename_i s pos hg;have de:U.get i=some (.obj (.siter s pos) true):=by rw[hs.get,hg];rfl
    simp only[de];split at hx
    .rename_i b hb;split at hx
     .rename_i ao;simp only[hb,z2 ao];obtain rfl:=osj hx;exact .upd hs hg rfl rfl
     .cases hx
    .rename_i hb;simp only[hb];obtain rfl:=osj hx;exact .same hs rfl
   .cases hx
  .cases hx
 case entry x =>
  simp only[K8] at hx;simp only[JA];generalize ev x=q0 at hx |-;split at hx
  .split at hx
   .rename_i m since seen last hg;simp only[hs.iter hg];split at hx
    .rename_i es clock wr b gC dF;obtain⟨k1,_⟩:=hs.mapAt gC;simp only[k1,dF];split at hx
     .rename_i hc;rw[z2 hc];split at hx
      .rename_i e hf;split at hx
       .rename_i hp;rw[hf];simp only[hp,zq];obtain rfl:=osj hx;exact .same hs rfl
       .cases hx
      .cases hx
     .cases hx
    .cases hx
   .cases hx
  .cases hx
 case copy size d s =>
  simp only[K8] at hx;simp only[JA];generalize ev d=q0 at hx |-;generalize ev s=q1 at hx |-;split at hx
  .rename_i db dn dc sb sn sc h1 h2;split at hx
   .rename_i hm;simp only[z2 hm];obtain rfl:=osj hx;exact .same hs rfl
   .rename_i hm;simp only[z0 hm];split at hx
    .rename_i i o xs bj;simp only[hs.sl bj];split at hx
     .rename_i c e wr tight hg;simp only[hs.cells hg];split at hx
      .rename_i hc;simp only[z2 hc];obtain rfl:=osj hx;exact .upd hs hg rfl rfl
      .cases hx
     .cases hx
    .cases hx
  .cases hx
 case clear z x =>
  simp only[K8] at hx;simp only[JA];generalize ev x=q0 at hx |-;split at hx
  .rename_i b n cap;split at hx
   .rename_i hm;simp only[z2 hm];obtain rfl:=osj hx;exact .same hs rfl
   .rename_i hm;simp only[z0 hm];split at hx
    .rename_i i o;split at hx
     .rename_i c e wr tight hg;simp only[hs.cells hg];split at hx
      .rename_i hc;simp only[z2 hc];obtain rfl:=osj hx;exact .upd hs hg rfl rfl
      .cases hx
     .cases hx
    .cases hx
  .cases hx
 case toUnsafe x =>
  simp only[K8] at hx;simp only[JA];generalize ev x=q0 at hx |-;split at hx
  .obtain rfl:=osj hx;exact .same hs rfl
  .split at hx
   .rename_i c e wr tight hg;simp only[hs.cells hg];split at hx
    .rename_i hc;simp only[z2 hc];obtain rfl:=osj hx;exact .same hs rfl
    .cases hx
   .cases hx
  .cases hx
 case fromUnsafe u size x =>
  simp only[K8] at hx;simp only[JA];generalize ev x=q0 at hx |-;split at hx
  .obtain rfl:=osj hx;exact .same hs rfl
  .split at hx
   .rename_i c e hg;simp only[hs.cells hg];split at hx
    .rename_i hc;simp only[z2 hc];obtain rfl:=osj hx;exact .same hs rfl
    .cases hx
   .cases hx
  .cases hx
 case sliceData x =>
  simp only[K8] at hx;simp only[JA];generalize ev x=q0 at hx |-;split at hx
  .obtain rfl:=osj hx;exact .same hs rfl
  .rename_i i o n cap;split at hx
   .rename_i hc;simp only[z2 (show cap≠0/\(U.get i).isSome=true from ⟨hc.1,by rw[hs.get];simpa using hc.2⟩)];obtain rfl:=osj hx;exact .same hs rfl
   .cases hx
  .cases hx
 case unsafeStr e x n =>
  simp only[K8] at hx;simp only[JA];generalize ev x=q0 at hx |-;generalize ev n=q1 at hx |-;split at hx
  .rename_i q k h1 h2;split at hx
   .rename_i hk;simp only[z2 hk];obtain rfl:=osj hx;exact .same hs rfl
   .rename_i hk;simp only[z0 hk];split at hx
    .rename_i i o;split at hx
     .rename_i c el tight hg;simp only[hs.cells hg];split at hx
      .rename_i hc;simp only[z2 hc];split at hx
       .rename_i u hu;simp only[hu];obtain rfl:=osj hx;exact .upd hs hg rfl rfl
       .cases hx
      .cases hx
     .cases hx
    .cases hx
  .cases hx
 case bytesStr x =>
  simp only[K8] at hx;simp only[JA];generalize ev x=q0 at hx |-;split at hx
  .split at hx
   .rename_i xs bj;simp only[hs.sl bj];split at hx
    .rename_i u hu;simp only[hu];obtain rfl:=osj hx;exact .same hs rfl
    .cases hx
   .cases hx
  .cases hx
 case strBytes e x =>
  simp only[K8] at hx;simp only[JA];generalize ev x=q0 at hx |-;split at hx
  .split at hx
   .rename_i h1;simp only[z2 h1];rw[hs.n] at hx;exact .push hs hx rfl rfl
   .cases hx
  .cases hx
theorem Z0m {rs:Nat->Env×Loop}{h:CH}{U:Heap}(hs:CSim rs h U) {o:VOp}{ev:Operand->Value}{p:Value×CH}
  (hx:(if o.kind=0 then (match Qb o ev Heap.empty with|some p=>some (p.1,h)|none=>none) else none)=some p):ESnd rs h U (Qb o ev U) p:=by
 split at hx
 .rename_i hk;split at hx
  .rename_i q hq;obtain rfl:=osj hx;exact .same hs (Aj hk (v:=q.1) (σ1:=q.2) hq)
  .cases hx
 .cases hx
theorem VP {rs:Nat->Env×Loop}{h:CH}{U:Heap}(hs:CSim rs h U) {o:VOp}{ev:Operand->Value}{p:Value×CH}(hx:Z11 o ev h=some p):ESnd rs h U (Qb o ev U) p:=by
 cases o
 case alloc t z =>
  simp only[Z11] at hx;simp only[Qb];rw[hs.n] at hx;exact .push hs hx rfl rfl
 case box t x =>
  simp only[Z11] at hx;simp only[Qb];generalize M8 (ev x)=q0 at hx |-;split at hx
  .rw[hs.n] at hx;exact .push hs hx rfl rfl
  .cases hx
 case buildSlice esz z len parts =>
  simp only[Z11] at hx;simp only[Qb];generalize BB (Ct len z) (parts.map λp=>(p.1*esz.sz,esz.sz,ev p.2))=q0 at hx |-;split at hx
  .rw[hs.n] at hx;exact .push hs hx rfl rfl
  .cases hx
 case load agg size a =>
  simp only[Z11] at hx;simp only[Qb];generalize ev a=q0 at hx |-;split at hx
  .split at hx
   .rename_i c hg;split at hx
    .rename_i aj;simp only[hg,z2 aj];split at hx
     .rename_i u hu;simp only[hu];obtain rfl:=osj hx;exact .same hs rfl
     .cases hx
    .cases hx
   .cases hx
  .split at hx
   .rename_i c e wr tight hg;simp only[hs.cells hg];split at hx
    .rename_i u hu;simp only[hu];obtain rfl:=osj hx;exact .same hs rfl
    .cases hx
   .cases hx
  .cases hx
 case store size a v =>
  simp only[Z11] at hx;simp only[Qb];generalize M8 (ev v)=q0 at hx |-;generalize ev a=q1 at hx |-;split at hx
  .rename_i i o vs h1 h2;split at hx
   .rename_i c e wr tight hg;simp only[hs.cells hg];split at hx
    .rename_i hc;simp only[z2 hc];obtain rfl:=osj hx;exact .upd hs hg rfl rfl
    .cases hx
   .cases hx
  .cases hx
 case slice size x lo hi mx =>
  simp only[Z11] at hx;simp only[Qb];generalize ev x=q0 at hx |-;split at hx
  .rename_i a n cap;dsimp only;generalize Wt ev lo 0=q1 at hx |-;generalize Wt ev hi n=q2 at hx |-;split at hx
   .exact Lp hs hx
   .rename_i l k m;dsimp only;generalize Wt ev (some m) 0=q3 at hx |-;split at hx
    .exact Lp hs hx
    .cases hx
   .cases hx
  .cases hx
 case makeSlice esz bytes z l c =>
  simp only[Z11] at hx;simp only[Qb];generalize ev l=q0 at hx |-;generalize ev c=q1 at hx |-;split at hx
  .split at hx
   .rename_i hc;simp only[z2 hc];rw[hs.n] at hx;exact .push hs hx rfl rfl
   .cases hx
  .cases hx
 case append esz bytes s x =>
  simp only[Z11] at hx;simp only[Qb];generalize ev x=q0 at hx |-;split at hx
  .rename_i bj;simp only[hs.sl bj];split at hx
   .rename_i hc;simp only[z2 hc];exact ON hs hx
   .cases hx
  .cases hx
 case ext o=>exact As hs hx
 all_goals exact Z0m hs hx
def Q82 (k:IntKind) (n:Int):Int:=match n with
 |.ofNat x=>match Nat.ble x 127 with
  |true=>.ofNat x
  |false=>k.wrap (.ofNat x)
 |.negSucc x=>k.wrap (.negSucc x)
theorem Q69 (k:IntKind) (n:Int):Q82 k n=k.wrap n:=by
 cases n with
 |negSucc x=>rfl
 |ofNat x =>
  simp only[Q82];split
  .rename_i h;have hx:x<=127:=zp h;show (x:Int)=k.wrap (x:Int);cases k<;>simp[IntKind.wrap,IntKind.bits,IntKind.signed]<;>omega
  .rfl
def Z87 (c a b:Value):Option Value:=match c with|.bool t=>some (if t then a else b)|_=>none
def Z3k (op:BinOp) (x y:Value):Option Value:=match x,y with|.int k a,.int k' b=>if k=k' then some (.int k (match op with|.add=>Q82 k (a+b)|.sub=>Q82 k (a-b)|_=>Q82 k (a*b))) else none|_,_=>none
def J2u (op:BinOp) (x y:Value):Option Value:=match x,y with|.int k a,.int k' b=>if k=k'/\b≠0 then some (.int k (Z60 op k a b)) else none|_,_=>none
def Z8s (op:BinOp) (x y:Value):Option Value:=match x,y with|.int k a,.int k' b=>if k=k' then some (.int k (Qa op k a b)) else none|_,_=>none
def Z39 (op:BinOp) (x y:Value):Option Value:=match x,y with|.int k a,.int _ b=>if 0<=b then some (.int k (Iv op k a b)) else none|_,_=>none
def J2e (op:BinOp) (x y:Value):Option Value:=match x,y with|.int k a,.int k' b=>if k=k' then some (.bool (J06 op a b)) else none|_,_=>none
def J1u (op:BinOp) (x y:Value):Option Value:=match x,y with
  |.string a,.string b=>match op with
   |.add=>if a.size+b.size<=2 ^ 62 then some (.string (a++b)) else none
   |.eql=>some (.bool (a.data.toList==b.data.toList))
   |.neq=>some (.bool (!(a.data.toList==b.data.toList)))
   |.lss=>some (.bool (Op.bytesLess a.data.toList b.data.toList))
   |_=>none
  |_,_=>none
def J1w (neg:Bool) (x y:Value):Option Value:=match x,y with|.bool a,.bool b=>some (.bool (if neg then !(a==b) else (a==b)))|_,_=>none
def pUn (op:UnOp) (x:Value):Option Value:=match op,x with
  |.not,.bool b=>some (.bool (!b))
  |.neg,.int k n=>some (.int k (k.wrap (0-n)))
  |.xor,.int k n=>some (.int k (Qa .xor k (if k.signed then -1 else k.max) n))
  |_,_=>none
def Z3n (k:IntKind) (x:Value):Option Value:=match x with|.int _ n=>some (.int k (Q82 k n))|_=>none
def Z3h (x:Value):Option Value:=match x with|.string s=>some (.string s)|_=>none
def Z3f (z:List Value) (l:List (Nat×Nat×Value)):Option Value:=match BB z l with|some cs=>some (.agg cs.toArray)|none=>none
def IP (off:Nat) (a:Value):Option Value:=match a with
  |.pointer (some ⟨i,o,none⟩)=>some (.pointer (some ⟨i,o+off,none⟩))
  |_=>none
def Z3x (agg:Bool) (off size:Nat) (x:Value):Option Value:=match x with
  |.agg cs=>Vq agg size cs.toList off
  |_=>none
def IQ (size:Nat) (x i:Value):Option Value:=match x,i with
  |.slice (some ⟨b,o,none⟩) n _,.int _ k=>if 0<=k/\k<n then some (.pointer (some ⟨b,o+k.toNat*size,none⟩)) else none
  |_,_=>none
def RE (len size:Nat) (x i:Value):Option Value:=match x,i with
  |.pointer (some ⟨g,o,some s⟩),.int _ k=>if 0<=k/\k<len then some (.pointer (some ⟨g,o+k.toNat*size,some s⟩)) else none
  |.pointer (some ⟨b,o,none⟩),.int _ k=>if 0<=k/\k<len then some (.pointer (some ⟨b,o+k.toNat*size,none⟩)) else none
  |_,_=>none
def Q1p (x i:Value):Option Value:=match x,i with
  |.string s,.int _ k=>if 0<=k then (match s.data.toList[k.toNat]? with|some b=>some (.int .u8 b.toNat)|none=>none) else none
  |_,_=>none
def Q1b (len:Nat) (agg:Bool) (size:Nat) (x i:Value):Option Value:=match x,i with
  |.agg cs,.int _ k=>if 0<=k/\k<len then Vq agg size cs.toList (k.toNat*size) else none
  |_,_=>none
def Q1z (ev:Operand->Value) (x:Value) (lo hi:Option Operand):Option Value:=match x with
  |.string s =>
   match Wt ev lo 0,Wt ev hi s.size with
   |some l,some h=>if l<=h/\h<=s.size then some (.string (s.extract l h)) else none
   |_,_=>none
  |_=>none
def J1y (x:Value):Option Value:=match x with|.slice _ n _=>some (.int .i64 n)|_=>none
def Z0z (x:Value):Option Value:=match x with|.string s=>some (.int .i64 s.size)|_=>none
def Z7a (x y z w:Value):Option Value:=match x,y,z,w with|.int k a,.int k2 b,.int k3 c,.int k4 d=>if k=k2/\k=k3/\k=k4 then some (.int k (Q8n (Q8n (Q8n a b) c) d)) else none|_,_,_,_=>none
def J2f (x y:Value):Option Value:=match x,y with|.int k a,.int k' b=>if k=k' then some (.int k (if b > a then b else a)) else none|_,_=>none
def J29 (x y:Value):Option Value:=match x,y with|.int k a,.int k' b=>if k=k' then some (.int k (if b<a then b else a)) else none|_,_=>none
def Z35 (t:TypeId) (x:Value):Option Value:=match x with|.chan _=>none|v=>some (.iface t v)
def Q64 (i:Nat) (x:Value):Option Value:=match x with
  |.tuple vs=>vs.toList[i]?
  |_=>none
def Q2q (x:Value):Option Value:=match x with
  |.pointer (some a)=>some (.pointer (some a))
  |.func (.func f) first cap=>some (.func (.func f) first cap)
  |_=>none
def ppp (r:Option Value) (U:CH):Option (Value×CH):=match r with|some v=>some (v,U)|none=>none
def J3c (t:Nat) (x:Value) (U:CH):Option (Value×CH):=match M8 x with
  |some vs=>Dl U (.cells vs ⟨vs.length,t⟩ true true) (.pointer (some ⟨U.n,0,none⟩))
  |none=>none
def Q4f (esz:El) (z:List Value) (len:Nat) (l:List (Nat×Nat×Value)) (U:CH):Option (Value×CH):=match BB (Ct len z) l with
  |some cs=>Dl U (.cells cs esz true true) (.slice (some ⟨U.n,0,none⟩) len len)
  |none=>none
def Z92 (agg:Bool) (size:Nat) (a:Value) (U:CH):Option (Value×CH):=match a with
  |.pointer (some ⟨g,o,some _⟩)=>(match Z2j g with
   |some c=>if c.all J8 then (match Vq agg size c o with|some v=>some (v,U)|none=>none) else none
   |none=>none)
  |.pointer (some ⟨i,o,none⟩)=>match U.get i with
   |some (.cells c _ _ _)=>match Vq agg size c o with|some v=>some (v,U)|none=>none
   |_=>none
  |_=>none
def stL (c:List Value) (o:Nat) (vs:List Value):List Value:=match vs with
 |[v]=>c.set o v
 |vs=>c.take o++(vs++c.drop (o+vs.length))
theorem Q5g:∀ (vs a b c:List Value),vs.length=b.length->Nh (a++(b++c)) a.length vs=a++(vs++c)
 |[],a,b,c,h=>by have:b=[]:=List.eq_nil_of_length_eq_zero (by simpa using h.symm);subst this;rfl
 |v::vs,a,[],c,h=>by simp at h
 |v::vs,a,x::b,c,h=>by
  simp only[Nh];have e:(a++(x::b++c)).set a.length v=(a++[v])++(b++c):=by simp
  rw[e];have:=Q5g vs (a++[v]) b c (by simpa using h);rw[zn,zV] at this;rw[this];simp
theorem Z7u {c:List Value}{o:Nat}{vs:List Value}(h:o+vs.length<=c.length):stL c o vs=Nh c o vs:=by
 unfold stL;split
 .rfl
 .have h1:c=c.take o++((c.drop o).take vs.length++c.drop (o+vs.length)):=by
   rw[<-List.drop_drop,xL,xL]
  have h2:(c.take o).length=o:=by simp;omega
  have:=Q5g vs (c.take o) ((c.drop o).take vs.length) (c.drop (o+vs.length)) (by simp;omega);rw[h2,<-h1] at this;exact this.symm
def Z37 (size:Nat) (a v:Value) (U:CH):Option (Value×CH):=match a,M8 v with
  |.pointer (some ⟨i,o,none⟩),some vs=>match U.get i with
   |some (.cells c e wr tight)=>if wr=true/\vs.length=size/\o+size<=c.length/\vs.all cellOk=true then some (undef,U.upd i (.cells (stL c o vs) e wr tight)) else none
   |_=>none
  |_,_=>none
def Q6w (esz:El) (bytes:Nat) (z:List Value) (l c:Value) (U:CH):Option (Value×CH) :=
  match l,c with
  |.int _ a,.int _ b=>if 0<=a/\a<=b/\b*bytes<=2 ^ 46/\b<=2 ^ 46 then Dl U (.cells (Ct b.toNat z) esz true true) (.slice (some ⟨U.n,0,none⟩) a.toNat b.toNat) else none
  |_,_=>none
def J3a (esz:El) (bytes:Nat) (s x:Value) (U:CH):Option (Value×CH) :=
  match U.sl esz.sz x,x with
  |some xs,.slice _ m _=>if xs.all cellOk then OI esz bytes U s m xs else none
  |_,_=>none
def Q44 (o:VOp) (ev:Operand->Value) (U:CH):Option (Value×CH) :=
 match o with
 |.move x=>some (ev x,U)
 |.pick c a b=>ppp (Z87 (ev c) (ev a) (ev b)) U
 |.arith op x y=>ppp (Z3k op (ev x) (ev y)) U
 |.div op x y=>ppp (J2u op (ev x) (ev y)) U
 |.bits op x y=>ppp (Z8s op (ev x) (ev y)) U
 |.shift op x y=>ppp (Z39 op (ev x) (ev y)) U
 |.cmp op x y=>ppp (J2e op (ev x) (ev y)) U
 |.str op x y=>ppp (J1u op (ev x) (ev y)) U
 |.eqB n x y=>ppp (J1w n (ev x) (ev y)) U
 |.un op x=>ppp (pUn op (ev x)) U
 |.convI k x=>ppp (Z3n k (ev x)) U
 |.convS x=>ppp (Z3h (ev x)) U
 |.build z parts=>ppp (Z3f z (parts.map λp=>(p.1,p.2.1,ev p.2.2))) U
 |.fieldAddr off a=>ppp (IP off (ev a)) U
 |.field agg off size x=>ppp (Z3x agg off size (ev x)) U
 |.indexAddr size x i=>ppp (IQ size (ev x) (ev i)) U
 |.indexAddrArr len size x i=>ppp (RE len size (ev x) (ev i)) U
 |.indexStr x i=>ppp (Q1p (ev x) (ev i)) U
 |.indexArr len agg size x i=>ppp (Q1b len agg size (ev x) (ev i)) U
 |.sliceStr x lo hi=>ppp (Q1z ev (ev x) lo hi) U
 |.len x=>ppp (J1y (ev x)) U
 |.lenStr x=>ppp (Z0z (ev x)) U
 |.max x y=>ppp (J2f (ev x) (ev y)) U
 |.max4 x y z w=>ppp (Z7a (ev x) (ev y) (ev z) (ev w)) U
 |.min x y=>ppp (J29 (ev x) (ev y)) U
 |.makeFunc fn first cap=>some (.func fn (first.map ev).toArray (cap.map ev).toArray,U)
 |.iface t x=>ppp (Z35 t (ev x)) U
 |.extract x i=>ppp (Q64 i (ev x)) U
 |.nilCheck x=>ppp (Q2q (ev x)) U
 |.alloc t z=>Dl U (.cells z ⟨z.length,t⟩ true true) (.pointer (some ⟨U.n,0,none⟩))
 |.box t x=>J3c t (ev x) U
 |.buildSlice esz z len parts=>Q4f esz z len (parts.map λp=>(p.1*esz.sz,esz.sz,ev p.2)) U
 |.load agg size a=>Z92 agg size (ev a) U
 |.store size a v=>Z37 size (ev a) (ev v) U
 |.slice size x lo hi mx=>Z11 (.slice size x lo hi mx) ev U
 |.makeSlice esz bytes z l c=>Q6w esz bytes z (ev l) (ev c) U
 |.append esz bytes s x=>J3a esz bytes (ev s) (ev x) U
 |.ext o=>K8 o ev U
 |_=>none
theorem Q95 {rs:Nat->Env×Loop}{h:CH}{U:Heap}(hs:CSim rs h U) {r:Option Value}{r':Option (Value×Heap)}{p:Value×CH}(hr:∀ v,r=some v->r'=some (v,U)) (hx:ppp r h=some p):ESnd rs h U r' p:=by
 unfold ppp at hx;split at hx
 .rename_i v;obtain rfl:=osj hx;exact .same hs (hr v rfl)
 .cases hx
theorem N_ {rs:Nat->Env×Loop}{h:CH}{U:Heap}(hs:CSim rs h U) {o:VOp}{ev:Operand->Value}{p:Value×CH}(hx:Q44 o ev h=some p):ESnd rs h U (Qb o ev U) p:=by
 cases o
 case move x=>exact .same hs (by obtain rfl:=osj hx;rfl) |> λ(h:ESnd rs _ U (Qb (.move x) ev U) (ev x,_))=>by obtain rfl:=osj hx;exact h
 case makeFunc fn a b=>obtain rfl:=osj hx;exact .same hs rfl
 case alloc t z=>exact VP (o:=.alloc t z) hs hx
 case box t x=>exact VP (o:=.box t x) hs hx
 case buildSlice a b c d=>exact VP (o:=.buildSlice a b c d) hs hx
 case load a b c=>exact VP (o:=.load a b c) hs hx
 case store size a v =>
  simp only[Q44] at hx;simp only[Qb];unfold Z37 at hx;generalize M8 (ev v)=q0 at hx |-;generalize ev a=q1 at hx |-;split at hx
  .rename_i i o vs;split at hx
   .rename_i c e wr tight hg;simp only[hs.cells hg];split at hx
    .rename_i hc;simp only[z2 hc];rw[Z7u (by omega)] at hx;obtain rfl:=osj hx;exact .upd hs hg rfl rfl
    .cases hx
   .cases hx
  .cases hx
 case slice a b c d e=>exact VP (o:=.slice a b c d e) hs hx
 case makeSlice a b c d e=>exact VP (o:=.makeSlice a b c d e) hs hx
 case append a b c d=>exact VP (o:=.append a b c d) hs hx
 case ext o=>exact As hs hx
 case callF=>cases hx
 case callV=>cases hx
 case bad=>cases hx
 all_goals refine Q95 hs (λv hv=>?_) hx
 case arith op x y =>
  simp only[Qb];generalize ev x=a at hv |-;generalize ev y=b at hv |-;unfold Z3k at hv;split at hv
  .split at hv
   .rename_i hk;simp only[z2 hk];obtain rfl:=osj hv;cases op<;>simp only[Iu,Q69]
   .cases hv
  .cases hv
 case convI k x =>
  simp only[Qb];generalize ev x=a at hv |-;unfold Z3n at hv;split at hv
  .obtain rfl:=osj hv;simp only[Q69]
  .cases hv
 case pick c a b =>
  simp only[Qb];generalize ev c=q0 at hv |-;generalize ev a=q1 at hv |-;generalize ev b=q2 at hv |-;unfold Z87 at hv
  (repeat' split at hv)<;>first|(cases hv;done)|(obtain rfl:=osj hv;first|rfl|(simp_all;done)|(simp_all;intros;omega))
 case div op x y =>
  simp only[Qb];generalize ev x=q0 at hv |-;generalize ev y=q1 at hv |-;unfold J2u at hv
  (repeat' split at hv)<;>first|(cases hv;done)|(obtain rfl:=osj hv;first|rfl|(simp_all;done)|(simp_all;intros;omega))
 case bits op x y =>
  simp only[Qb];generalize ev x=q0 at hv |-;generalize ev y=q1 at hv |-;unfold Z8s at hv
  (repeat' split at hv)<;>first|(cases hv;done)|(obtain rfl:=osj hv;first|rfl|(simp_all;done)|(simp_all;intros;omega))
 case shift op x y =>
  simp only[Qb];generalize ev x=q0 at hv |-;generalize ev y=q1 at hv |-;unfold Z39 at hv
  (repeat' split at hv)<;>first|(cases hv;done)|(obtain rfl:=osj hv;first|rfl|(simp_all;done)|(simp_all;intros;omega))
 case cmp op x y =>
  simp only[Qb];generalize ev x=q0 at hv |-;generalize ev y=q1 at hv |-;unfold J2e at hv
  (repeat' split at hv)<;>first|(cases hv;done)|(obtain rfl:=osj hv;first|rfl|(simp_all;done)|(simp_all;intros;omega))
 case eqB n x y =>
  simp only[Qb];generalize ev x=q0 at hv |-;generalize ev y=q1 at hv |-;unfold J1w at hv
  (repeat' split at hv)<;>first|(cases hv;done)|(obtain rfl:=osj hv;first|rfl|(simp_all;done)|(simp_all;intros;omega))
 case un op x =>
  simp only[Qb];generalize ev x=q0 at hv |-;unfold pUn at hv
  (repeat' split at hv)<;>first|(cases hv;done)|(obtain rfl:=osj hv;first|rfl|(simp_all;done)|(simp_all;intros;omega))
 case convS x =>
  simp only[Qb];generalize ev x=q0 at hv |-;unfold Z3h at hv
  (repeat' split at hv)<;>first|(cases hv;done)|(obtain rfl:=osj hv;first|rfl|(simp_all;done)|(simp_all;intros;omega))
 case fieldAddr off a =>
  simp only[Qb];generalize ev a=q0 at hv |-;unfold IP at hv
  (repeat' split at hv)<;>first|(cases hv;done)|(obtain rfl:=osj hv;first|rfl|(simp_all;done)|(simp_all;intros;omega))
 case indexAddr size x i =>
  simp only[Qb];generalize ev x=q0 at hv |-;generalize ev i=q1 at hv |-;unfold IQ at hv
  (repeat' split at hv)<;>first|(cases hv;done)|(obtain rfl:=osj hv;first|rfl|(simp_all;done)|(simp_all;intros;omega))
 case indexAddrArr len size x i =>
  simp only[Qb];generalize ev x=q0 at hv |-;generalize ev i=q1 at hv |-;unfold RE at hv
  (repeat' split at hv)<;>first|(cases hv;done)|(obtain rfl:=osj hv;first|rfl|(simp_all;done)|(simp_all;intros;omega))
 case len x =>
  simp only[Qb];generalize ev x=q0 at hv |-;unfold J1y at hv
  (repeat' split at hv)<;>first|(cases hv;done)|(obtain rfl:=osj hv;first|rfl|(simp_all;done)|(simp_all;intros;omega))
 case lenStr x =>
  simp only[Qb];generalize ev x=q0 at hv |-;unfold Z0z at hv
  (repeat' split at hv)<;>first|(cases hv;done)|(obtain rfl:=osj hv;first|rfl|(simp_all;done)|(simp_all;intros;omega))
 case max4 x y z w =>
  simp only[Qb];generalize ev x=q0 at hv |-;generalize ev y=q1 at hv |-;generalize ev z=q2 at hv |-;generalize ev w=q3 at hv |-;unfold Z7a at hv
  (repeat' split at hv)<;>first|(cases hv;done)|(rename_i qo;obtain⟨rfl,rfl,rfl⟩:=qo;obtain rfl:=osj hv;simp_all;done)
 case max x y =>
  simp only[Qb];generalize ev x=q0 at hv |-;generalize ev y=q1 at hv |-;unfold J2f at hv
  (repeat' split at hv)<;>first|(cases hv;done)|(obtain rfl:=osj hv;first|rfl|(simp_all;done)|(simp_all;intros;omega))
 case min x y =>
  simp only[Qb];generalize ev x=q0 at hv |-;generalize ev y=q1 at hv |-;unfold J29 at hv
  (repeat' split at hv)<;>first|(cases hv;done)|(obtain rfl:=osj hv;first|rfl|(simp_all;done)|(simp_all;intros;omega))
 case nilCheck x =>
  simp only[Qb];generalize ev x=q0 at hv |-;unfold Q2q at hv
  (repeat' split at hv)<;>first|(cases hv;done)|(obtain rfl:=osj hv;first|rfl|(simp_all;done)|(simp_all;intros;omega))
 case str op x y =>
  simp only[Qb];generalize ev x=q0 at hv |-;generalize ev y=q1 at hv |-;unfold J1u at hv
  (repeat' split at hv)<;>first|(cases hv;done)|(obtain rfl:=osj hv;first|rfl|(simp_all;done)|(simp_all;intros;omega))
 case build z parts =>
  simp only[Qb];unfold Z3f at hv;split at hv
  .rename_i cs hc;rw[hc];obtain rfl:=osj hv;rfl
  .cases hv
 case field agg off size x =>
  simp only[Qb];generalize ev x=q0 at hv |-;unfold Z3x at hv;split at hv
  .dsimp only;rw[hv]
  .cases hv
 case indexStr x i =>
  simp only[Qb];generalize ev x=q0 at hv |-;generalize ev i=q1 at hv |-;unfold Q1p at hv;split at hv
  .split at hv
   .rename_i hc;simp only[z2 hc];split at hv
    .rename_i b hb;simp only[hb];obtain rfl:=osj hv;rfl
    .cases hv
   .cases hv
  .cases hv
 case indexArr len agg size x i =>
  simp only[Qb];generalize ev x=q0 at hv |-;generalize ev i=q1 at hv |-;unfold Q1b at hv;split at hv
  .split at hv
   .rename_i hc;simp only[z2 hc,hv]
   .cases hv
  .cases hv
 case sliceStr x lo hi =>
  simp only[Qb];generalize ev x=q0 at hv |-;unfold Q1z at hv;split at hv
  .rename_i s;split at hv
   .rename_i l h h1 h2;split at hv
    .rename_i hc;simp only[h1,h2,z2 hc];obtain rfl:=osj hv;rfl
    .cases hv
   .cases hv
  .cases hv
 case iface t x =>
  simp only[Qb];generalize ev x=q0 at hv |-;unfold Z35 at hv;split at hv
  .cases hv
  .rename_i aJ;obtain rfl:=osj hv;split
   .exact absurd rfl (aJ _)
   .rfl
 case extract x i =>
  simp only[Qb];generalize ev x=q0 at hv |-;unfold Q64 at hv;split at hv
  .dsimp only;rw[hv]
  .cases hv
inductive Sh (a m d:Nat):Value->Value->Prop
 |plain (v:Value) (h:J8 v=true):Sh a m d v v
 |ptr (i o:Nat) (h:a<=i) (hi:i<m):Sh a m d (.pointer (some ⟨i,o,none⟩)) (.pointer (some ⟨d+(i-a),o,none⟩))
 |sl (i o len cap:Nat) (h:a<=i) (hi:i<m):Sh a m d (.slice (some ⟨i,o,none⟩) len cap) (.slice (some ⟨d+(i-a),o,none⟩) len cap)
 |agg (cs ds:Array Value) (hc:cs.size=ds.size) (h:∀ i (h1:i<cs.size) (h2:i<ds.size),Sh a m d cs[i] ds[i]):Sh a m d (.agg cs) (.agg ds)
 |tuple (cs ds:Array Value) (hc:cs.size=ds.size) (h:∀ i (h1:i<cs.size) (h2:i<ds.size),Sh a m d cs[i] ds[i]):Sh a m d (.tuple cs) (.tuple ds)
theorem Sh.rel {ρ ρ':Plc}{a m d n':Nat}(hn:d+(m-a)<=n') (hρ:∀ i,a<=i->i<m->ρ' (d+(i-a))=ρ i) {v v':Value}(h:Sh a m d v v') :
  ∀ {c:Value},VRel ρ m v c->VRel ρ' n' v' c:=by
 induction h with
 |plain v h =>intro c hv;have:c=v:=UY h hv;subst this;exact V0 h
 |ptr i o h hi =>intro c hv;obtain⟨a',rfl,_,bu⟩:=hv.q1f;exact .ptr _ _ _ (by omega) λp hp=>bu p (by rw[<-hρ i h hi];exact hp)
 |sl i o len cap h hi =>intro c hv;obtain⟨a',av,rfl,_,bu⟩:=hv.q1a;exact .sl _ _ _ _ _ _ (by omega) λp hp=>bu p (by rw[<-hρ i h hi];exact hp)
 |agg cs ds hc h ih =>
  intro c hv;cases hv with
  |agg _ ds' dg h'=>exact .agg _ _ (hc.symm.trans dg) λi k1 k2=>ih i (by omega) k1 (h' i (by omega) k2)
 |tuple cs ds hc h ih =>
  intro c hv;cases hv with
  |tuple _ ds' dg h'=>exact .tuple _ _ (hc.symm.trans dg) λi k1 k2=>ih i (by omega) k1 (h' i (by omega) k2)
theorem BRel.any {ρ ρ':Plc}{n n':Nat}{p:Pl}{w:World}{c:List Value}{esz:El}{wr tight:Bool}(hp:c.all J8=true) (h:BRel ρ n p w (.cells c esz wr tight)) :
  BRel ρ' n' p w (.cells c esz wr tight):=by
 obtain⟨h1,h2,h3,h4,h5,h6⟩:=h;refine⟨h1,h2,h3,h4,λk v hk=>?_,h6⟩;obtain⟨u,hu,hv⟩:=h5 k v hk;have aW:J8 v=true:=z8.1 hp v (zX hk);obtain rfl:u=v:=UY aW hv;exact⟨u,hu,V0 aW⟩
theorem BRel.renRo {ρ:Plc}{nf n':Nat}{π:Nat->Nat}{p:Pl}{w:World}{c c':List Value}{esz:El}{wr tight:Bool}(hr:LRen n' π c c') (h:BRel ρ nf p w (.cells c' esz wr tight)) :
  BRel (λi=>if i<n' then ρ (π i) else none) n' p w (.cells c esz false tight):=by
 obtain⟨h1,h2,h3,h4,h5,h6⟩:=h;refine⟨h1,h2,by rw[hr.1];exact h3,h4,λk v hk=>?_,λh=>by cases h⟩;have ao:k<c'.length:=by rw[<-hr.1];exact(zi.1 hk).1
 obtain⟨u,hu,hv⟩:=h5 k _ (z3 ao);exact⟨u,hu,(hr.2 k v _ hk (z3 ao)).rel hv⟩
structure PB where
 c:List Value
 esz:El
 tight:Bool
def PB.blk (wr:Bool) (b:PB):Blk:=.cells b.c b.esz wr b.tight
def V6 (bl fr:List PB):Heap where
 get i:=if i<bl.length then (bl[i]?).map (PB.blk false) else (fr[i-bl.length]?).map (PB.blk true)
 n:=bl.length+fr.length
 wf i h:=by rw[z0 (by omega),zz (by omega)];rfl
def VE (U:Heap) (fr:List PB):Heap where
 get i:=if i<U.n then U.get i else (fr[i-U.n]?).map (PB.blk true)
 n:=U.n+fr.length
 wf i h:=by rw[z0 (by omega),zz (by omega)];rfl
theorem VCalled.localize {P:Program}{f:FuncId}{iz args:List Value}{bl fr:List PB}{vm v:Value}{U:Heap}{π:Nat->Nat}{K:Value->Heap->Prop}
  (hm:VCalled P f iz (V6 bl []) λu τ=>u=vm/\τ=V6 bl fr)
  (df:∀ b∈fr,b.c.all J8=true)
  (hπ:∀ i b,bl[i]?=some b->∃ wr c',U.get (π i)=some (.cells c' b.esz wr b.tight)/\LRen bl.length π b.c c')
  (aD:LRen bl.length π iz args) (hv:Sh bl.length (bl.length+fr.length) U.n vm v) (hK:K v (VE U fr)):VCalled P f args U K:=by
 intro ρ w aw hH hL;have bU:∀ B,¬ Wr (λi=>if i<bl.length then ρ (π i) else none) (V6 bl []) B:=by
  rintro B ⟨i,p,b,_,hb,hw,_⟩;have hi:i<bl.length:=by have:=(V6 bl []).lt hb;simpa [V6] using this
  simp only[V6,z2 hi] at hb;cases eR:bl[i]? with
  |none=>rw[eR] at hb;cases hb
  |some b0=>rw[eR] at hb;obtain rfl:=osj hb;cases hw
 have ur:HRel (λi=>if i<bl.length then ρ (π i) else none) (V6 bl []) w:=by
  refine⟨⟨λi b hb=>?_,λi hi=>?_,λi p hp=>?_,λi j p q b _ hp _ hb hw _=>(bU _ ⟨i,p,b,hp,hb,hw,rfl⟩).elim⟩,λg cs hg=>⟨(hH.tab g cs hg).1,bU g⟩⟩
  .have hi:i<bl.length:=by have:=(V6 bl []).lt hb;simpa [V6] using this
   simp only[V6,z2 hi] at hb;cases eR:bl[i]? with
   |none=>rw[eR] at hb;cases hb
   |some b0 =>rw[eR] at hb;obtain rfl:=osj hb;obtain⟨wr,c',hg,qE⟩:=hπ i b0 eR;obtain⟨p,hp,hB⟩:=hH.live _ _ hg;exact⟨p,by simp[hi,hp],BRel.renRo qE hB⟩
  .by_cases h:i<bl.length
   .simp only[V6,z2 h,z3 h] at hi;cases hi
   .simp[h]
  .skip
   split at hp
   .exact hH.lt _ p hp
   .cases hp
 have uu:LRel (λi=>if i<bl.length then ρ (π i) else none) (V6 bl []).n iz aw.toList:=by have:=aD.rel hL;simpa [V6] using this
 have lift:∀ c w',Got (λi=>if i<bl.length then ρ (π i) else none) (V6 bl []) w (λu τ=>u=vm/\τ=V6 bl fr) c w'->Got ρ U w K c w':=by
  rintro c w' ⟨_,ρm,_,⟨rfl,rfl⟩,dH,iA,hE⟩;have dK:∀ B,B<w.heap.size->w'.heap[B]?=w.heap[B]?:=λB hB=>hE.keep B hB (bU B);have fT:∀ i p,bl.length<=i->ρm i=some p->w.heap.size<=p.blk:=λi p hi hp=>by
   rcases zf p.blk w.heap.size with h|h
   .refine (bU _ (hE.wr p.blk h ?_)).elim;have hU:=iA.idlt hp;cases hb:(V6 bl fr).get i with
    |none=>rw[iA.dead i hb] at hp;cases hp
    |some b =>
     refine⟨i,p,b,hp,hb,?_,rfl⟩;simp only[V6,z0 (wB.2 hi)] at hb;cases eR:fr[i-bl.length]? with
     |none=>rw[eR] at hb;cases hb
     |some b0=>rw[eR] at hb;obtain rfl:=osj hb;rfl
   .exact h
  have hρ:∀ i,U.n<=i->(if i<U.n then ρ i else if i<U.n+fr.length then ρm (bl.length+(i-U.n)) else none)=if i<U.n+fr.length then ρm (bl.length+(i-U.n)) else none:=λi hi=>z0 (by omega)
  have hX:Ext ρ U w (λi=>if i<U.n then ρ i else if i<U.n+fr.length then ρm (bl.length+(i-U.n)) else none) (VE U fr) w':=by
   refine⟨hE.os,hE.tape,hE.output,hE.size,λB hB _=>dK B hB,?_,by simp[VE],λi hi p hp=>?_⟩
   .rintro B hB ⟨i,p,b,hp,hb,hw,rfl⟩
    replace hp:(if i<U.n then ρ i else if i<U.n+fr.length then ρm (bl.length+(i-U.n)) else none)=some p:=hp
    by_cases hi:i<U.n
    .rw[z2 hi] at hp;simp only[VE,z2 hi] at hb;exact⟨i,p,b,hp,hb,hw,rfl⟩
    .rw[z0 hi] at hp;split at hp
     .have:=fT _ p (by omega) hp;omega
     .cases hp
   .skip
    rwa [z2 hi] at hp
  refine⟨v,λi=>if i<U.n then ρ i else if i<U.n+fr.length then ρm (bl.length+(i-U.n)) else none,VE U fr,hK,?_,hH.ext ⟨λi b hb=>?_,λi hi=>?_,λi p hp=>?_,λi j p q b cE hp hq hb hw hx=>?_⟩ hX,hX⟩
  .refine hv.rel (by simp[VE]) (λi h1 h2=>?_) dH;rw[z0 (by omega),z2 (by omega)];congr 1;omega
  .by_cases hi:i<U.n
   .simp only[VE,z2 hi] at hb;obtain⟨p,hp,hB⟩:=hH.live i b hb;exact⟨p,by simp[hi,hp],hB.mono (by simp[VE]) (λj hj q hq=>by simpa [hj] using hq) (dK _ (hH.lt i p hp))⟩
   .simp only[VE,z0 hi] at hb;cases eR:fr[i-U.n]? with
    |none=>rw[eR] at hb;cases hb
    |some b0 =>
     rw[eR] at hb;obtain rfl:=osj hb;have ao:i-U.n<fr.length:=(zi.1 eR).1;obtain⟨p,hp,hB⟩:=iA.live (bl.length+(i-U.n)) (b0.blk true) (by
      show (if _ then _ else _)=_;rw[z0 (by omega),show bl.length+(i-U.n)-bl.length=i-U.n by omega,eR];rfl)
     exact⟨p,by rw[z0 hi,z2 (by omega)];exact hp,BRel.any (df b0 (zX eR)) hB⟩
  .by_cases h:i<U.n
   .simp only[VE,z2 h] at hi;rw[z2 h];exact hH.dead i hi
   .simp only[VE,z0 h] at hi;rw[z0 h];split
    .rename_i h2;have ao:i-U.n<fr.length:=by omega
     rw[z3 ao] at hi;cases hi
    .rfl
  .skip
   split at hp
   .exact zT (hH.lt i p hp) hE.size
   .split at hp
    .exact iA.lt _ p hp
    .cases hp
  .skip
   by_cases hi:i<U.n<;>by_cases hj:j<U.n
   .rw[z2 hi] at hp;rw[z2 hj] at hq;simp only[VE,z2 hi] at hb;exact hH.sep i j p q b cE hp hq hb hw hx
   .rw[z2 hi] at hp;rw[z0 hj] at hq;split at hq
    .have h1:=hH.lt i p hp;have h2:=fT _ q (by omega) hq;omega
    .cases hq
   .rw[z0 hi] at hp;rw[z2 hj] at hq;split at hp
    .have h1:=hH.lt j q hq;have h2:=fT _ p (by omega) hp;omega
    .cases hp
   .rw[z0 hi] at hp;rw[z0 hj] at hq;split at hp
    .split at hq
     .simp only[VE,z0 hi] at hb;refine iA.sep (bl.length+(i-U.n)) (bl.length+(j-U.n)) p q b (by omega) hp hq ?_ hw hx;show (if _ then _ else _)=_;rw[z0 (by omega),show bl.length+(i-U.n)-bl.length=i-U.n by omega];exact hb
     .cases hq
    .cases hp
 rcases hm _ w aw ur uu with⟨h1,h2⟩|⟨c,h1,h2⟩
 .refine .inl ⟨h1,?_⟩;exact h2.mono λe w' he=>by
   obtain⟨c,rfl,hc⟩:=he;exact⟨c,rfl,lift c w' hc⟩
 .refine .inr ⟨c,lift c w h1,λw' gA=>h2 w' ⟨gA.1,λi p hp=>?_,gA.tab⟩⟩
  replace hp:(if i<bl.length then ρ (π i) else none)=some p:=hp
  split at hp
  .exact gA.2 _ p hp
  .cases hp
def Z01 {α:Type}(p:α->α->Bool):List α->List α->Bool
 |[],[]=>true
 |a::l,b::m=>p a b&&Z01 p l m
 |_,_=>false
theorem De {α:Type}{p:α->α->Bool}(hp:∀ a b,p a b=true->a=b):∀ l m,Z01 p l m=true->l=m
 |[],[],_=>rfl
 |a::l,b::m,h=>by simp only[Z01,z1] at h;rw[hp a b h.1,De hp l m h.2]
 |[],_::_,h=>by cases h
 |_::_,[],h=>by cases h
def Q56:Nat->Value->Value->Bool
 |0,_,_=>false
 |f+1,a,b=>match a,b with
  |.bool x,.bool y=>x==y
  |.int k x,.int k' y=>decide (k=k')&&decide (x=y)
  |.string s,.string t=>decide (s.data.toList=t.data.toList)
  |.pointer none,.pointer none=>true
  |.pointer (some ⟨i,o,none⟩),.pointer (some ⟨j,q,none⟩)=>Nat.beq i j&&Nat.beq o q
  |.slice none l c,.slice none l' c'=>Nat.beq l l'&&Nat.beq c c'
  |.slice (some ⟨i,o,none⟩) l c,.slice (some ⟨j,q,none⟩) l' c'=>Nat.beq i j&&(Nat.beq o q&&(Nat.beq l l'&&Nat.beq c c'))
  |.slice (some ⟨i,o,some 0⟩) l c,.slice (some ⟨j,q,some 0⟩) l' c'=>Nat.beq i j&&(Nat.beq o q&&(Nat.beq l l'&&Nat.beq c c'))
  |.map x,.map y=>decide (x=y)
  |.chan none,.chan none=>true
  |.nilFunc,.nilFunc=>true
  |.nilIface,.nilIface=>true
  |.func (.func g) fs cs,.func (.func g') sj cs'=>decide (g=g')&&(Z01 (Q56 f) fs.toList sj.toList&&Z01 (Q56 f) cs.toList cs'.toList)
  |.func (.yield i) ⟨[]⟩ ⟨[]⟩,.func (.yield j) ⟨[]⟩ ⟨[]⟩=>Nat.beq i j
  |.iface t v,.iface t' v'=>decide (t=t')&&Q56 f v v'
  |.agg cs,.agg ds=>Z01 (Q56 f) cs.toList ds.toList
  |.tuple cs,.tuple ds=>Z01 (Q56 f) cs.toList ds.toList
  |_,_=>false
theorem Ak {α:Type}{a b:Array α}(h:a.toList=b.toList):a=b:=by cases a;cases b;simp at h;rw[h]
theorem TE:∀ (f:Nat) (a b:Value),Q56 f a b=true->a=b:=by
 intro f;induction f with
 |zero=>intro a b h;cases h
 |succ f ih =>
  intro a b h;unfold Q56 at h
  split at h<;>first
   |(cases h;done)
   |rfl
   |(simp at h;subst h;rfl)
   |(simp at h;obtain⟨rfl,rfl⟩:=h;rfl)
   |(simp at h;obtain⟨rfl,rfl,rfl,rfl⟩:=h;rfl)
   |skip
  .rename_i s t;have h:=zA h;have:=Ak h;cases s;cases t;simp at this;rw[this]
  .rename_i g fs cs g' sj cs';simp only[z1,z6] at h;obtain⟨rfl,h1,h2⟩:=h;rw[Ak (De ih _ _ h1),Ak (De ih _ _ h2)]
  .rename_i t v t' v';simp only[z1,z6] at h;obtain⟨rfl,h1⟩:=h;rw[ih _ _ h1]
  .rw[Ak (De ih _ _ h)]
  .rw[Ak (De ih _ _ h)]
def EB.beq:EB->EB->Bool
 |.cells c e w t,.cells c' e' w' t'=>decide (e=e')&&(w==w'&&(t==t'&&Z01 (Q56 20) c c'))
 |.map es cl w,.map bK uv w'=>Nat.beq cl uv&&(w==w'&&Z01 (λa b=>Q56 20 a.1 b.1&&(Q56 20 a.2.1 b.2.1&&Nat.beq a.2.2 b.2.2)) es bK)
 |.iter m s sn l,.iter m' s' uw l'=>Nat.beq m m'&&(Nat.beq s s'&&(Nat.beq l l'&&decide (sn=uw)))
 |.lp .ready none,.lp .ready none=>true
 |.lp .busy none,.lp .busy none=>true
 |.siter s p,.siter s' p'=>decide (s.data.toList=s'.data.toList)&&Nat.beq p p'
 |_,_=>false
theorem EB.beq_eq {a b:EB}(h:a.beq b=true):a=b:=by
 unfold EB.beq at h
 split at h<;>first
  |(cases h;done)
  |rfl
  |skip
 .simp only[z1,z6,zH] at h;obtain⟨rfl,rfl,rfl,h⟩:=h;rw[De (TE 20) _ _ h]
 .simp only[z1,zH,Nat.beq_eq] at h;obtain⟨rfl,rfl,h⟩:=h;rw[De (λa b h=>by
   simp only[z1,Nat.beq_eq] at h;obtain⟨a1,a2,a3⟩:=a;obtain⟨b1,b2,b3⟩:=b;obtain⟨h1,h2,h3⟩:=h;simp at h1 h2 h3;rw[TE _ _ _ h1,TE _ _ _ h2,h3]) _ _ h]
 .simp only[z1,z6,Nat.beq_eq] at h;obtain⟨rfl,rfl,rfl,rfl⟩:=h;rfl
 .rename_i s _ s' _;simp only[z1,z6,Nat.beq_eq] at h;obtain⟨h1,rfl⟩:=h;have:=Ak h1;cases s;cases s';simp at this;rw[this]
def CH.newOk (h h':CH):Bool:=Nat.ble h.n h'.n&&(h'.room&&(List.range' h.n (h'.n-h.n)).all λi=>match h'.get i with
 |some (.lp _ _)=>false
 |_=>true)
structure AnsOps (A:Type) where
 fail:A
 both:A->A->A
structure Good {A:Type}(R:AnsOps A) (G:A->Prop):Prop where
 fail:¬ G R.fail
 both:∀ a b,G (R.both a b)->G a/\G b
def Dk:AnsOps Bool:=⟨false,and⟩
theorem Q6g:Good Dk (·=true):=⟨by simp[Dk],λa b h=>by simpa [Dk] using h⟩
def Q63:AnsOps (Option (Value×CH)):=⟨none,λ_ _=>none⟩
theorem Z4q (x:Value×CH):Good Q63 (·=some x):=⟨by simp[Q63],λa b h=>by simp[Q63] at h⟩
def CH.same (h h':CH):Bool:=Nat.beq h.n h'.n&&(List.range h.n).all λi=>match h.get i,h'.get i with
 |none,none=>true
 |some a,some b=>a.beq b
 |_,_=>false
def EB.plainE:EB->Bool
 |.cells c _ _ _=>c.all J8
 |.map es _ _=>es.all λkv=>J8 kv.2.1
 |_=>false
def CH.keepOk (h h':CH):Bool:=Nat.ble h.n h'.n&&(List.range h.n).all λi=>match h.get i,h'.get i with
 |_,none=>true
 |some a,some b=>b.plainE||a.beq b
 |_,_=>false
def gcI (n0:Nat) (refs:List Nat) (i:Nat):Nat×List Nat :=
 if i<n0 then (i,refs) else if refs.contains i=true then (n0+refs.idxOf i,refs) else (n0+refs.length,refs++[i])
def Z14 (g:List Nat->Value->Option (Value×List Nat)):List Value->List Nat->Option (List Value×List Nat)
 |[],refs=>some ([],refs)
 |v::vs,refs=>match g refs v with
  |none=>none
  |some p=>match Z14 g vs p.2 with
   |none=>none
   |some q=>some (p.1::q.1,q.2)
def gcX (n0:Nat):Nat->List Nat->Value->Option (Value×List Nat)
 |0,_,_=>none
 |f+1,refs,v=>match v with
  |.pointer (some ⟨i,o,none⟩)=>some (.pointer (some ⟨(gcI n0 refs i).1,o,none⟩),(gcI n0 refs i).2)
  |.slice (some ⟨i,o,none⟩) l c=>some (.slice (some ⟨(gcI n0 refs i).1,o,none⟩) l c,(gcI n0 refs i).2)
  |.slice (some ⟨i,o,some 0⟩) l c=>some (.slice (some ⟨(gcI n0 refs i).1,o,some 0⟩) l c,(gcI n0 refs i).2)
  |.map (some i)=>some (.map (some (gcI n0 refs i).1),(gcI n0 refs i).2)
  |.chan none=>some (.chan none,refs)
  |.iface t u=>match gcX n0 f refs u with
   |some p=>some (.iface t p.1,p.2)
   |none=>none
  |.agg cs=>match Z14 (gcX n0 f) cs.toList refs with
   |some p=>some (.agg p.1.toArray,p.2)
   |none=>none
  |.tuple cs=>match Z14 (gcX n0 f) cs.toList refs with
   |some p=>some (.tuple p.1.toArray,p.2)
   |none=>none
  |.func (.func g) fs cs=>match Z14 (gcX n0 f) fs.toList refs with
   |some p=>match Z14 (gcX n0 f) cs.toList p.2 with
    |some q=>some (.func (.func g) p.1.toArray q.1.toArray,q.2)
    |none=>none
   |none=>none
  |.func (.yield i) ⟨[]⟩ ⟨[]⟩=>if i<n0 then some (.func (.yield i) ⟨[]⟩ ⟨[]⟩,refs) else none
  |v=>if J8 v=true then some (v,refs) else none
def J0c (n0:Nat):List Yx->List Nat->Option (List Yx×List Nat)
 |[],refs=>some ([],refs)
 |e::es,refs=>match gcX n0 8 refs e.2.1 with
  |none=>none
  |some p=>match J0c n0 es p.2 with
   |none=>none
   |some q=>some ((e.1,p.1,e.2.2)::q.1,q.2)
def gcB (n0:Nat) (refs:List Nat):EB->Option (EB×List Nat)
 |.cells c e w t=>match Z14 (gcX n0 8) c refs with
  |some p=>some (.cells p.1 e w t,p.2)
  |none=>none
 |.map es cl w=>match J0c n0 es refs with
  |some p=>some (.map p.1 cl w,p.2)
  |none=>none
 |_=>none
def Z2r (h':CH) (n0:Nat):Nat->Nat->List Nat->CH->Option (CH×List Nat)
 |0,_,_,_=>none
 |f+1,k,refs,acc=>if refs.length<=k then (if k=refs.length then some (acc,refs) else none) else match h'.get (refs.getD k 0) with
  |none=>none
  |some b=>match gcB n0 refs b with
   |none=>none
   |some p=>if acc.room=true then Z2r h' n0 f (k+1) p.2 (acc.push p.1) else none
def Z3j (h h':CH) (refs:List Nat):Option (CH×List Nat) :=
 if h.keepOk h'=true then Z2r h' h.n 100000 0 refs ⟨h'.t,h.n⟩ else none
def Q15 (h h':CH) (v:Value):Option (Value×CH):=match gcX h.n 8 [] v with
 |none=>none
 |some p=>match Z3j h h' p.2 with
  |none=>none
  |some q=>some (p.1,q.1)
def joinOps:AnsOps (Option (Value×CH)):=⟨none,λa b=>match a with
 |some x=>match b with
  |some y=>if Q56 20 x.1 y.1=true/\x.2.same y.2=true then some x else none
  |none=>none
 |none=>none⟩
structure ET where
 t:GT Value
 m:Nat
def ET.get (e:ET) (i:Nat):Value:=Bool.rec (motive:=λ_=>Value) undef (e.t.get undef i) (Nat.blt i e.m)
def ET.set (e:ET) (i:Nat) (v:Value):ET:=Bool.rec (motive:=λ_=>ET) e ⟨e.t.set undef 32 i v,e.m⟩ (Nat.blt i e.m)
def ET.put (e:ET) (d:Option Nat) (v:Value):ET:=Option.rec (motive:=λ_=>ET) e (λd=>e.set d v) d
def etL (l:List Value):Nat->GT Value->GT Value:=List.rec (motive:=λ_=>Nat->GT Value->GT Value) (λ_ t=>t) (λv _ ih i t=>ih (i+1) (t.set undef 32 i v)) l
def ET.of (args:List Value) (nt:Nat):ET:=⟨etL args 0 .nil,args.length+(nt-args.length)⟩
def Tm (e:ET) (x:Operand):Value:=Operand.rec (motive:=λ_=>Value) (λt=>e.get t) (λv=>v) (λg=>.pointer (some ⟨g,0,some 0⟩)) (λf=>.func (.func f) #[] #[]) x
def Z3s (e:ET) (ps:List Nat):List Value->ET:=List.rec (motive:=λ_=>ET->List Value->ET) (λe _=>e) (λp _ ih e vs=>List.rec (motive:=λ_=>ET) e (λv vs _=>ih (e.set p v) vs) vs) ps e
def Q9s (e:ET) (g:Option (Nat×Bool)):Option Bool:=match g with
 |none=>some true
 |some (d,want)=>match e.get d with
  |.bool b=>some (b==want)
  |.tuple _=>some false
  |_=>none
def ET.list (e:ET):List Value:=(List.range e.m).map e.get
def J05 (h h':CH) (e:ET):Option (Value×CH):=Q15 h h' (.tuple e.list.toArray)
structure RCtx where
 ps:List Nat
 a:VCode
 b:VCode
 env:ET
abbrev Ys:=List (Nat×RCtx)
def Ys.find:Ys->Nat->Option RCtx
 |[],_=>none
 |(j,c)::l,i=>if Nat.beq i j=true then some c else Ys.find l i
structure Memo where
 args:List Value
 bl:List PB
 v:Value
 fr:List PB
def Z6i (g:Value->Option Value):List Value->Option (List Value)
 |[]=>some []
 |v::vs=>match g v with
  |none=>none
  |some u=>match Z6i g vs with
   |none=>none
   |some us=>some (u::us)
def shX (a m d:Nat):Nat->Value->Option Value
 |0,_=>none
 |f+1,v=>match v with
  |.pointer (some ⟨i,o,none⟩)=>if a<=i/\i<m then some (.pointer (some ⟨d+(i-a),o,none⟩)) else none
  |.slice (some ⟨i,o,none⟩) l c=>if a<=i/\i<m then some (.slice (some ⟨d+(i-a),o,none⟩) l c) else none
  |.agg cs=>match Z6i (shX a m d f) cs.toList with
   |some p=>some (.agg p.toArray)
   |none=>none
  |.tuple cs=>match Z6i (shX a m d f) cs.toList with
   |some p=>some (.tuple p.toArray)
   |none=>none
  |v=>if J8 v=true then some v else none
def IA (h:CH):Nat->List Nat->List PB->Option (List Nat)
 |k,refs,[]=>if refs.length=k then some refs else none
 |k,refs,b::m=>if k<refs.length then
   match h.get (refs.getD k 0) with
   |some (.cells c e _ t)=>(match Z14 (gcX 0 8) c refs with
    |some p=>if (decide (e=b.esz)&&(t==b.tight&&Z01 (Q56 20) p.1 b.c))=true then IA h (k+1) p.2 m else none
    |none=>none)
   |_=>none
  else none
def P7:List PB->CH->CH
 |[],h=>h
 |b::l,h=>P7 l (h.push (.cells b.c b.esz true b.tight))
def Q58 (h:CH) (args:List Value) (refs:List Nat):List Memo->Option Memo
 |[]=>none
 |m::ms=>if (Z01 (Q56 20) args m.args&&(IA h 0 refs m.bl).isSome)=true then some m else Q58 h args refs ms
def Ol (h:CH) (args:List Value) (ms:List Memo):Option (Value×CH) :=
 match Z14 (gcX 0 8) args [] with
 |none=>none
 |some p=>match Q58 h p.1 p.2 ms with
  |none=>none
  |some m=>match Nat.ble (h.n+m.fr.length) 1000000000 with
   |false=>none
   |true=>match shX m.bl.length (m.bl.length+m.fr.length) h.n 8 m.v with
    |some v=>some (v,P7 m.fr h)
    |none=>none
inductive FEnt where
 |code (vc:VCode) (rs:List VResult) (nt:Nat)
 |codeJ (vc:VCode) (rs:List VResult) (nt:Nat)
 |codeM (vc:VCode) (rs:List VResult) (nt:Nat) (ms:List Memo)
 |same
abbrev Tab:=FuncId->Option FEnt
abbrev Z65:=∀ {A:Type},AnsOps A->Ys->VCode->Option Nat->ET->CH->(Exit->ET->CH->A)->A
def Az (env:ET) (U:CH):VResult->Option Value
 |.tmp t=>some (env.get t)
 |.cell a agg size=>match Z92 agg size (env.get a) U with|some p=>some p.1|none=>none
def Ra (env:ET) (U:CH):List VResult->Option (List Value)
 |[]=>some []
 |r::rs=>match Az env U r with
  |none=>none
  |some v=>match Ra env U rs with
   |none=>none
   |some vs=>some (v::vs)
def HX (env:ET) (U:CH) (rs:List VResult):Option Value :=
 match rs with
 |[r]=>Az env U r
 |rs=>match Ra env U rs with|some vs=>some (.tuple vs.toArray)|none=>none
section
variable (T:Tab) (ev:Z65) {A:Type}(R:AnsOps A) (ys:Ys)
def Z3d (fail:A) (rs:List VResult) (k:Value->CH->A):Exit->ET->CH->A:=λe env h'=>match e with
  |.normal=>(match HX env h' rs with|some v=>k v h'|none=>fail)
  |.ret=>(match HX env h' rs with|some v=>k v h'|none=>fail)
  |_=>fail
def Q4r (f:FuncId) (args:List Value) (h:CH) (k:Value->CH->A):A :=
 match T f with
 |some (.code vc rs nt)=>match Nat.ble (ET.of args nt).m 1000000 with
  |true=>ev R ys vc none (ET.of args nt) h (Z3d R.fail rs k)
  |false=>R.fail
 |some (.codeJ vc rs nt)=>match Nat.ble (ET.of args nt).m 1000000 with
  |true=>(match ev joinOps ys vc none (ET.of args nt) h (Z3d none rs λv h'=>Q15 h h' v) with
   |some x=>if x.2.room=true/\Nat.ble h.n x.2.n=true then k x.1 x.2 else R.fail
   |none=>R.fail)
  |false=>R.fail
 |some (.codeM vc rs nt ms)=>match Ol h args ms with
  |some p=>k p.1 p.2
  |none=>match Nat.ble (ET.of args nt).m 1000000 with
   |true=>ev R ys vc none (ET.of args nt) h (Z3d R.fail rs k)
   |false=>R.fail
 |some .same=>match args with
  |[v]=>k v h
  |_=>R.fail
 |none=>R.fail
def Z07 (i:Nat) (k:Value->CH->A):Exit->ET->CH->A:=λe _ h =>
 match h.get i with
 |some (.lp .busy none)=>match e with
  |.normal=>k (.bool true) (h.upd i (.lp .ready none))
  |.ret=>k (.bool false) (h.upd i (.lp .done (some .ret)))
  |.exit id=>k (.bool false) (h.upd i (.lp .done (some (.exit id))))
  |_=>R.fail
 |_=>R.fail
def Z40 (c:RCtx) (i:Nat) (k:Value->CH->A):Exit->ET->CH->A:=λe bp h1=>match e with
 |.normal=>(match h1.get i with
  |some (.lp .ready none)=>ev R ys c.b (some i) bp (h1.upd i (.lp .busy none)) (Z07 R i k)
  |_=>R.fail)
 |_=>R.fail
def Q99 (i:Nat) (args:List Value) (h:CH) (k:Value->CH->A):A :=
 match ys.find i with
 |some c=>match h.get i with
  |some (.lp .ready none)=>if args.length=c.ps.length then ev R ys c.a (some i) (Z3s c.env c.ps args) h (Z40 ev R ys c i k) else R.fail
  |_=>R.fail
 |none=>R.fail
def Pu (i m since clock:Nat) (seen:List Nat) (h:CH) (k:Value->CH->A):List Yx->Option A
 |[]=>none
 |e::es=>if seen.contains e.2.2=true then Pu i m since clock seen h k es
  else match Pu i m since clock seen h k es with
   |none=>some (k (.tuple #[.bool true,e.1,e.2.1]) (h.upd i (.iter m since (seen++[e.2.2]) clock)))
   |some a=>some (R.both (k (.tuple #[.bool true,e.1,e.2.1]) (h.upd i (.iter m since (seen++[e.2.2]) clock))) a)
def Z4d (x:Value) (h:CH) (k:Value->CH->A):A :=
 match x with
 |.pointer (some ⟨i,0,none⟩)=>match h.get i with
  |some (.iter m since seen last)=>match h.mapAt m with
   |some (es,clock,_) =>
    if (seen.isEmpty||es.isEmpty||es.any (λe=>decide (e.2.2<last)))=true/\es.all (λe=>MN e.1)=true then
     (match Pu R i m since clock seen h k es with
     |none=>if es.all (λe=>seen.contains e.2.2||decide (since<=e.2.2))=true then k (.tuple #[.bool false]) h else R.fail
     |some a=>if es.all (λe=>seen.contains e.2.2||decide (since<=e.2.2))=true then R.both (k (.tuple #[.bool false]) h) a else a)
    else R.fail
   |none=>R.fail
  |_=>R.fail
 |_=>R.fail
def Z34 (f:Value) (args:List Value) (h:CH) (k:Value->CH->A):A:=match f with
  |.func (.func g) first cap=>Q4r T ev R ys g (first.toList++args++cap.toList) h k
  |.func (.yield i) _ _=>Q99 ev R ys i args h k
  |_=>R.fail
def Z0t (r:Option (Value×CH)) (k:Value->CH->A):A:=match r with
  |some p=>k p.1 p.2
  |none=>R.fail
def Z46 (o:VOp) (env:ET) (h:CH) (k:Value->CH->A):A :=
 match o with
 |.callF f args=>Q4r T ev R ys f (args.map (Tm env)) h k
 |.callV f args=>Z34 T ev R ys (Tm env f) (args.map (Tm env)) h k
 |.ext (.nextMap x)=>Z4d R (Tm env x) h k
 |o=>Z0t R (Q44 o (Tm env) h) k
def Q9a (l:List VOper):ET->CH->(ET->CH->A)->A :=
 List.rec (motive:=λ_=>ET->CH->(ET->CH->A)->A) (λenv h k=>k env h)
  (λo _ ih env h k=>match Q9s env o.guard with
   |none=>R.fail
   |some true=>Z46 T ev R ys o.op env h λv h'=>ih (env.put o.dst v) h' k
   |some false=>ih (env.put o.dst undef) h k) l
def Q5j (op:VOp) (ev:Operand->Value) (v:Value) (h:CH):Bool:=match Q44 op ev h with
 |some q=>Q56 20 q.1 v
 |none=>false
def Q91 (r:Nat) (h:CH):List (Nat×(CH->Bool))->Bool
 |[]=>true
 |c::l=>(!(Nat.ble r c.1)||c.2 h)&&Q91 r h l
def PV:List DOper->ET->List CH->CH->List (Nat×(CH->Bool))->(ET->CH->A)->A
 |[],env,_,h,_,k=>k env h
 |o::rest,env,hs,h,pend,k=>match Q9s env o.guard with
  |none=>R.fail
  |some true=>if o.kind=2 then
    (match Z46 T ev Q63 ys o.op env h (λv h'=>some (v,h')) with
    |some p=>if h.newOk p.2=true/\Q91 hs.length p.2 pend=true then PV rest (env.put o.dst p.1) (hs++[p.2]) p.2 pend k else R.fail
    |none=>R.fail)
   else if o.kind=1 then
    (match Q44 o.op (Tm env) h with
    |some p=>if (hs.drop o.kmin).all (Q5j o.op (Tm env) p.1)=true then
      PV rest (env.put o.dst p.1) hs h (if hs.length<=o.kmax then (o.kmax,Q5j o.op (Tm env) p.1)::pend else pend) k else R.fail
    |none=>R.fail)
   else match Q44 o.op (Tm env) h with
    |some p=>PV rest (env.put o.dst p.1) hs h pend k
    |none=>R.fail
  |some false=>if o.kind=2 then
    (if Q91 hs.length h pend=true then PV rest (env.put o.dst undef) (hs++[h]) h pend k else R.fail)
   else PV rest (env.put o.dst undef) hs h pend k
def Z5d (env:ET) (h:CH) (a:List DOper):Option (Value×CH):=PV T ev joinOps ys a env [h] h [] λenv h'=>J05 h h' env
def Q5n (env:ET) (h:CH):List (List DOper)->Option (Value×CH)
 |[]=>none
 |[a]=>Z5d T ev ys env h a
 |a::b::r=>joinOps.both (Z5d T ev ys env h a) (Q5n env h (b::r))
def Af:List DSeg->ET->CH->(ET->CH->A)->A
 |[],env,h,k=>k env h
 |.one o::rest,env,h,k=>Q9a T ev R ys [o] env h λenv h=>Af rest env h k
 |.alts [a]::rest,env,h,k=>PV T ev R ys a env [h] h [] λenv h=>Af rest env h k
 |.alts l::rest,env,h,k=>match Q5n T ev ys env h l with
  |some x=>(match x.1 with
   |.tuple vs=>if x.2.room=true/\Nat.ble h.n x.2.n=true/\vs.toList.length=env.m then Af rest (ET.of vs.toList 0) x.2 k else R.fail
   |_=>R.fail)
  |none=>R.fail
def Z3e (h:CH):Option Nat->Bool
 |none=>true
 |some i=>match h.get i with
  |some (.lp _ _)=>true
  |_=>false
def Z48:LoopState->Bool
 |.busy=>false
 |_=>true
def Z6l (env:ET) (i:Nat) (k:Exit->ET->CH->A):Value->CH->A:=λ_ h =>
 match h.get i with
 |some (.lp st pend)=>if Z48 st=true then (match pend with
   |none=>k .normal env (h.kill i)
   |some .ret=>k .ret env (h.kill i)
   |some (.exit id)=>k (.exit id) env (h.kill i)
   |some _=>R.fail) else R.fail
 |_=>R.fail
def Z7w (kb k:Exit->ET->CH->A):Exit->ET->CH->A:=λe env h=>match e with
 |.normal=>kb .normal env h
 |e=>k e env h
def Q97 (id:Nat) (k:Exit->ET->CH->A):Exit->ET->CH->A:=λe env h=>match e with
 |.exit gS=>if gS=id then k .normal env h else k (.exit gS) env h
 |e=>k e env h
def Z56 (v:Value) (a b:A):A:=match v with
 |.bool true=>a
 |.bool false=>b
 |_=>R.fail
def Q98 (g:Value) (ps:List Nat) (a b:VCode) (ro:Option Nat) (env:ET) (h:CH) (k:Exit->ET->CH->A):A:=match g with
 |.func (.func f) first cap=>match T f with
  |some (.code _ _ _)=>if Z3e h ro=true/\h.room=true then
    Q4r T ev R ((h.n,⟨ps,a,b,env⟩)::ys) f (first.toList++[.func (.yield h.n) #[] #[]]++cap.toList) (h.push (.lp .ready none)) (Z6l R env h.n k)
   else R.fail
  |_=>R.fail
 |_=>R.fail
def Q2k (c:VCode):Option Nat->ET->CH->(Exit->ET->CH->A)->A :=
 VCode.rec (motive:=λ_=>Option Nat->ET->CH->(Exit->ET->CH->A)->A)
  (λ_ env h k=>k .normal env h)
  (λops _ env h k=>Q9a T ev R ys ops env h (k .normal))
  (λaU _ env h k=>Af T ev R ys aU env h (k .normal))
  (λg ps a b _ _ ro env h k=>Q98 T ev R ys (Tm env g) ps a b ro env h k)
  (λ_ _ fC fa ro env h k=>fC ro env h (Z7w (λ_ ah h'=>fa ro ah h' k) k))
  (λc _ _ fC fa ro env h k=>Z56 R (Tm env c) (fC ro env h k) (fa ro env h k))
  (λid _ ih ro env h k=>ih ro env h (Q97 id k))
  (λb ih ro env h k=>ih ro env h (Z7w (λ_ ah h'=>ev R ys (.loop b) ro ah h' k) k))
  (λid _ env h k=>k (.exit id) env h)
  (λ_ env h k=>k .ret env h)
  (λ_ _ _ _=>R.fail) c
end
def Q09 (T:Tab) (n:Nat):Z65 :=
 Nat.rec (motive:=λ_=>Z65) (λR _ _ _ _ _ _=>R.fail) (λ_ ih {_} R ys c ro env h k=>Q2k T ih R ys c ro env h k) n
end Go.V
namespace Go.V
open Go
structure FRel (e:ET) (env:Env):Prop where
 m:e.m=List.length env
 sm:e.m<=1000000
 get:∀ i,env.getD i undef=e.get i
theorem ET.q0w {e:ET}{i:Nat}(hi:i<e.m):e.get i=e.t.get undef i:=by unfold ET.get;rw[show Nat.blt i e.m=true from Nat.ble_eq_true_of_le hi]
theorem ET.q0t {e:ET}{i:Nat}(hi:e.m<=i):e.get i=undef:=by
 unfold ET.get;cases hb:Nat.blt i e.m with
 |false=>rfl
 |true=>have:=zp hb;omega
theorem ET.q1z {e:ET}{i:Nat}{v:Value}(hi:i<e.m):e.set i v=⟨e.t.set undef 32 i v,e.m⟩:=by unfold ET.set;rw[show Nat.blt i e.m=true from Nat.ble_eq_true_of_le hi]
theorem ET.q1y {e:ET}{i:Nat}{v:Value}(hi:e.m<=i):e.set i v=e:=by
 unfold ET.set;cases hb:Nat.blt i e.m with
 |false=>rfl
 |true=>have:=zp hb;omega
theorem ET.q2g (e:ET) (i:Nat) (v:Value):(e.set i v).m=e.m:=by
 rcases zf i e.m with h|h
 .rw[ET.q1z h]
 .rw[ET.q1y h]
theorem ET.q1d {e:ET}(hs:e.m<=1000000) (i:Nat) (v:Value) (j:Nat):(e.set i v).get j=if j=i/\i<e.m then v else e.get j:=by
 rcases zf i e.m with hi|hi
 .rw[ET.q1z hi];rcases zf j e.m with hj|hj
  .rw[ET.q0w (e:=⟨e.t.set undef 32 i v,e.m⟩) hj,ET.q0w hj];show (e.t.set undef 32 i v).get undef j=_;rw[GT.q1d undef 32 _ _ _ _ (by omega)];by_cases h:j=i
   .rw[z2 h,z2 ⟨h,hi⟩]
   .rw[z0 h,z0 (λe=>h e.1)]
  .rw[ET.q0t (e:=⟨e.t.set undef 32 i v,e.m⟩) hj,ET.q0t hj,z0 (by rintro⟨rfl,_⟩;omega)]
 .rw[ET.q1y hi,z0 (by rintro⟨_,h⟩;omega)]
theorem FRel.set {e:ET}{env:Env}(h:FRel e env) (i:Nat) (v:Value):FRel (e.set i v) (env.set i v):=by
 refine⟨by rw[ET.q2g,xl];exact h.m,by rw[ET.q2g];exact h.sm,λj=>?_⟩;rw[ET.q1d h.sm,<-h.get,z5,z5,xq,h.m];by_cases cE:i=j
 .subst cE;rcases zf i (List.length env) with hi|hi
  .rw[z2 rfl,z2 hi,z2 ⟨rfl,hi⟩];rfl
  .rw[z2 rfl,z0 (by omega),z0 (by rintro⟨_,h⟩;omega),zz hi]
 .rw[z0 cE,z0 (λe=>cE e.1.symm)]
theorem FRel.put {e:ET}{env:Env}(h:FRel e env) (d:Option Nat) (v:Value):FRel (e.put d v) (YR env d v):=by
 cases d with
 |none=>exact h
 |some d=>exact h.set d v
theorem Cw {e:ET}{env:Env}(h:FRel e env):Tm e=Q5 env:=by
 funext x
 cases x with
 |tmp t=>exact(h.get t).symm
 |_=>rfl
theorem Q5b {e:ET}{env:Env}(h:FRel e env) (g:Option (Nat×Bool)):Q9s e g=Wz env g:=by
 cases g with
 |none=>rfl
 |some p =>obtain⟨d,w⟩:=p;simp only[Q9s,Wz,h.get];cases e.get d<;>rfl
theorem IJ:∀ (ps:List Nat) (vs:List Value) {e:ET}{env:Env},FRel e env->FRel (Z3s e ps vs) (Av env ps vs)
 |[],vs,e,env,h=>by cases vs<;>exact h
 |p::ps,[],e,env,h=>h
 |p::ps,v::vs,e,env,h=>IJ ps vs (h.set p v)
theorem Q9o:∀ (l:List Value) (i:Nat) (t:GT Value) (j:Nat),i+l.length<=1000000->(etL l i t).get undef j=if i<=j/\j<i+l.length then l.getD (j-i) undef else t.get undef j
 |[],i,t,j,_=>by rw[z0 (by simp only[List.length_nil];omega)];rfl
 |v::l,i,t,j,h=>by
  have h:i+(l.length+1)<=1000000:=h;show (etL l (i+1) (t.set undef 32 i v)).get undef j=_;rw[Q9o l (i+1) _ j (by omega),GT.q1d undef 32 _ _ _ _ (by omega)];by_cases aP:j=i
  .subst aP;rw[z0 (by omega),z2 rfl,z2 (by simp)];simp
  .by_cases hc:i+1<=j/\j<i+1+l.length
   .rw[z2 hc,z2 (by simp;omega),show j-i=j-(i+1)+1 by omega];rfl
   .rw[z0 hc,z0 aP,z0 (by simp;omega)]
theorem ET.q1o {args:List Value}{nt:Nat}(h:(ET.of args nt).m<=1000000):FRel (ET.of args nt) (args++List.replicate (nt-args.length) undef):=by
 refine⟨by simp[ET.of],h,λi=>?_⟩;have hm:(ET.of args nt).m=args.length+(nt-args.length):=rfl;rw[hm] at h;rcases zf i (ET.of args nt).m with hi|hi
 .rw[ET.q0w hi];show _=(etL args 0 .nil).get undef i;rw[Q9o _ _ _ _ (by omega),z5,List.getElem?_append];rw[hm] at hi;by_cases hl:i<args.length
  .rw[z2 hl,z2 (by omega)];simp[z5]
  .rw[z0 hl,z0 (by omega),List.getElem?_replicate,z2 (by omega)];rfl
 .rw[ET.q0t hi];rw[hm] at hi;rw[z5,zz (by simp;omega)];rfl
def Q8y (P:Program) (f:FuncId) (m:Memo):Prop :=
 VCalled P f m.args (V6 m.bl []) (λu τ=>u=m.v/\τ=V6 m.bl m.fr)/\∀ b∈m.fr,b.c.all J8=true
structure TabOk (P:Program) (T:Tab):Prop where
 code:∀ f vc rs nt,T f=some (.code vc rs nt)->Fun P f vc rs nt
 codeJ:∀ f vc rs nt,T f=some (.codeJ vc rs nt)->Fun P f vc rs nt
 codeM:∀ f vc rs nt ms,T f=some (.codeM vc rs nt ms)->Fun P f vc rs nt/\∀ m∈ms,Q8y P f m
 same:∀ f,T f=some .same->∀ (v:Value) (U:Heap) (K:Value->Heap->Prop),K v U->VCalled P f [v] U K
section
variable {P:Program}{T:Tab}{ev:Z65}
abbrev Br:=Nat->Env×Loop
def YOk (P:Program) (ys:Ys) (rs:Br) (n:Nat):Prop :=
 ∀ i c,ys.find i=some c->i<n/\FRel c.env (rs i).1/\MS P i (Q5m (vwp (Q4 P) c.a (some i)) (vwp (Q4 P) c.b (some i)) c.ps (rs i).1 (rs i).2 i)
theorem YOk.mono {ys:Ys}{rs bt:Br}{n n':Nat}(h:YOk P ys rs n) (hn:n<=n') (hr:∀ i,i<n->bt i=rs i):YOk P ys bt n':=λi c hc=>by obtain⟨h1,h2,h3⟩:=h i c hc;rw[hr i h1];exact⟨by omega,h2,h3⟩
def Z64 {A:Type}(G:A->Prop) (rs:Br) (h:CH) (k:Value->CH->A) (K:Value->Heap->Prop):Prop :=
 ∀ v h' bt U',h.n<=h'.n->(∀ i,i<h.n->bt i=rs i)->CSim bt h' U'->G (k v h')->K v U'
def Z1t {A:Type}(G:A->Prop) (rs:Br) (h:CH) (m:Nat) (k:Exit->ET->CH->A) (Q:Exit->Env->Heap->Prop):Prop :=
 ∀ e dD h' bt U' ah,h.n<=h'.n->(∀ i,i<h.n->bt i=rs i)->CSim bt h' U'->FRel dD ah->List.length ah=m->G (k e dD h')->Q e ah U'
def Z20 {A:Type}(G:A->Prop) (rs:Br) (h:CH) (m:Nat) (k:ET->CH->A) (K:Env->Heap->Prop):Prop :=
 ∀ dD h' bt U' ah,h.n<=h'.n->(∀ i,i<h.n->bt i=rs i)->CSim bt h' U'->FRel dD ah->List.length ah=m->G (k dD h')->K ah U'
def Sd (P:Program) (ev:Z65):Prop:=∀ {A:Type}(R:AnsOps A) (G:A->Prop),Good R G->∀ (ys:Ys) (c:VCode) (ro:Option Nat) (et:ET) (env:Env) (h:CH) (k:Exit->ET->CH->A) (rs:Br) (U:Heap) (Q:Exit->Env->Heap->Prop),
 YOk P ys rs h.n->CSim rs h U->FRel et env->G (ev R ys c ro et h k)->Z1t G rs h (List.length env) k Q->vwp (Q4 P) c ro Q env U
theorem S1 {rs:Br}{h:CH}{U:Heap}(hs:CSim rs h U) {et:ET}{env:Env}(hE:FRel et env) {r:VResult}{v:Value}(hr:Az et h r=some v):Y8 env U r=some v:=by
 cases r with
 |tmp t=>simp only[Az] at hr;simp only[Y8,hE.get];exact hr
 |cell a agg size =>
  simp only[Az] at hr;split at hr
  .rename_i p hp;rw[<-hE.get] at hp;obtain⟨_,U',h1,_⟩:=N_ (o:=.load agg size (.tmp a)) (ev:=Q5 env) hs hp;simp only[Y8,h1,xS];exact hr
  .cases hr
theorem Pt {rs:Br}{h:CH}{U:Heap}(hs:CSim rs h U) {et:ET}{env:Env}(hE:FRel et env):∀ (l:List VResult) (vs:List Value),Ra et h l=some vs->l.mapM (Y8 env U)=some vs
 |[],vs,hr=>by simp[Ra] at hr;subst hr;rfl
 |r::l,vs,hr=>by
  simp only[Ra] at hr;split at hr
  .cases hr
  .rename_i v hv;split at hr
   .cases hr
   .rename_i ws hw;obtain rfl:=osj hr;rw[zZ,S1 hs hE hv];simp[Pt hs hE l ws hw]
theorem PT {rs:Br}{h:CH}{U:Heap}(hs:CSim rs h U) {et:ET}{env:Env}(hE:FRel et env) {l:List VResult}{v:Value}(hr:HX et h l=some v):Yn env U l=some v:=by
 unfold HX at hr;split at hr
 .exact S1 hs hE hr
 .rename_i aJ;split at hr
  .rename_i vs cq;unfold Yn;split
   .rename_i r;exact absurd rfl (aJ r)
   .rw[Pt hs hE _ _ cq];exact hr
  .cases hr
variable {A:Type}{R:AnsOps A}{G:A->Prop}
theorem P6 (hG:Good R G) {rl:List VResult}{k:Value->CH->A}{rs:Br}{h:CH}{U:Heap}{K:Value->Heap->Prop}{m:Nat}(hk:Z64 G rs h k K):Z1t G rs h m (Z3d R.fail rl k) (J0f U rl K):=by
 intro e dD h' bt U' ah hn hr bg bR _ hg;have fin:G (match HX dD h' rl with|some v=>k v h'|none=>R.fail)->Jk (Yn ah U' rl) λv=>∃ v' aN,DropTo U v U' v' aN/\K v' aN:=by
  intro hg;split at hg
  .rename_i v hv;rw[PT bg bR hv];exact⟨v,U',.refl _ _ _,hk v h' bt U' hn hr bg hg⟩
  .exact(hG.fail hg).elim
 cases e with
 |normal=>exact fin hg
 |ret=>exact fin hg
 |_=>exact(hG.fail hg).elim
def CH.toHeap (rs:Br) (h:CH):Heap:=⟨λi=>(h.get i).map (EB.to (rs i)),h.n,λi hi=>by rw[CH.q0t hi];rfl⟩
theorem SE {rs:Br}{h:CH}(hr:h.n<=1000000001):CSim rs h (h.toHeap rs):=⟨rfl,hr,λ_=>rfl⟩
theorem CSim.eq {rs:Br}{h:CH}{U:Heap}(hs:CSim rs h U):U=h.toHeap rs:=Heap.ext' (λj=>hs.get j) hs.n.symm
def Q88 (x:Value×CH) (a:Option (Value×CH)):Prop:=∃ y,a=some y/\y.1=x.1/\y.2.n=x.2.n/\∀ i,y.2.get i=x.2.get i
theorem Z2g {h h':CH}(hs:h.same h'=true):h.n=h'.n/\∀ i,h.get i=h'.get i:=by
 simp only[CH.same,z1,z8,zQ,Nat.beq_eq] at hs;refine⟨hs.1,λi=>?_⟩;rcases zf i h.n with hi|hi
 .have:=hs.2 i hi;split at this
  .rename_i h1 h2;rw[h1,h2]
  .rename_i a b h1 h2;rw[h1,h2,EB.beq_eq this]
  .cases this
 .rw[CH.q0t hi,CH.q0t (by rw[<-hs.1];exact hi)]
theorem Q0f (x:Value×CH):Good joinOps (Q88 x):=by
 refine⟨λ⟨y,h,_⟩=>(by cases h),λa b h=>?_⟩;obtain⟨y,h1,h2,h3,h4⟩:=h;cases a with
 |none=>cases h1
 |some xa =>
  cases b with
  |none=>cases h1
  |some xb =>
   simp only[joinOps] at h1;split at h1
   .rename_i hc;obtain rfl:=osj h1;have e1:=TE _ _ _ hc.1;obtain⟨e2,e3⟩:=Z2g hc.2;exact⟨⟨xa,rfl,h2,h3,h4⟩,xb,rfl,by rw[<-e1];exact h2,by rw[<-e2];exact h3,λi=>by rw[<-e3 i];exact h4 i⟩
   .cases h1
theorem Q9v {b:EB}{q:Env×Loop}(h:b.plainE=true):(b.to q).plain=true/\∀ q',b.to q'=b.to q:=by cases b<;>first|exact⟨h,λ_=>rfl⟩|cases h
def gcP (n0:Nat) (refs:List Nat) (i:Nat):Nat:=if i<n0 then i else refs.getD (i-n0) 0
def RExt (n0:Nat) (a b:List Nat):Prop:=(∃ t,b=a++t/\∀ x∈t,n0<=x)/\(a.Nodup->b.Nodup)
theorem RExt.refl (n0:Nat) (a:List Nat):RExt n0 a a:=⟨⟨[],by simp,λx hx=>by cases hx⟩,id⟩
theorem RExt.trans {n0:Nat}{a b c:List Nat}(h:RExt n0 a b) (k:RExt n0 b c):RExt n0 a c:=by obtain⟨⟨t,rfl,ht⟩,h2⟩:=h;obtain⟨⟨u,rfl,hu⟩,k2⟩:=k;exact⟨⟨t++u,by simp,λx hx=>(xh.1 hx).elim (ht x) (hu x)⟩,λh=>k2 (h2 h)⟩
def Sub (a b:List Nat):Prop:=∃ t,b=a++t
theorem Sub.trans {a b c:List Nat}(h:Sub a b) (k:Sub b c):Sub a c:=by obtain⟨t,rfl⟩:=h;obtain⟨u,rfl⟩:=k;exact⟨t++u,by simp⟩
theorem RExt.sub {n0:Nat}{a b:List Nat}(h:RExt n0 a b):Sub a b:=by obtain⟨⟨t,h,_⟩,_⟩:=h;exact⟨t,h⟩
theorem Cs (n0:Nat) (refs:List Nat) (i:Nat):RExt n0 refs (gcI n0 refs i).2/\∀ (all:List Nat),Sub (gcI n0 refs i).2 all->(gcI n0 refs i).1<n0+all.length/\gcP n0 all (gcI n0 refs i).1=i:=by
 unfold gcI;split
 .rename_i hi;exact⟨RExt.refl _ _,λall _=>⟨by simp only;omega,by simp[gcP,hi]⟩⟩
 .rename_i hi;split
  .rename_i hc;have hm:i∈refs:=by simpa using hc
   have ao:=List.idxOf_lt_length_of_mem hm;refine⟨RExt.refl _ _,λall ⟨t,ht⟩=>?_⟩;simp only at ht;have cQ:refs.idxOf i<all.length:=by rw[ht,zn];omega
   refine⟨by simp only;omega,?_⟩;simp only[gcP,z0 (show ¬ n0+refs.idxOf i<n0 by omega),show n0+refs.idxOf i-n0=refs.idxOf i by omega,z5];rw[ht,xd ao,z3 ao];simp
  .rename_i hc;have hm:i∉refs:=by simpa using hc
   refine⟨⟨⟨[i],rfl,λx hx=>by simp at hx;omega⟩,λh1=>List.nodup_append.2 ⟨h1,by simp,λa ha b hb=>by simp at hb;subst hb;rintro rfl;exact hm ha⟩⟩,λall ⟨t,ht⟩=>?_⟩;simp only at ht;have ao:refs.length<all.length:=by rw[ht];simp
   refine⟨by simp only;omega,?_⟩;simp only[gcP,z0 (show ¬ n0+refs.length<n0 by omega),show n0+refs.length-n0=refs.length by omega];simp[ht,z5]
def Z7m (n0:Nat) (refs fk:List Nat) (v' v:Value):Prop:=RExt n0 refs fk/\∀ (all:List Nat),Sub fk all->Ren (n0+all.length) (gcP n0 all) v' v
def J1a (n0:Nat) (refs fk:List Nat) (v' v:List Value):Prop:=RExt n0 refs fk/\∀ (all:List Nat),Sub fk all->LRen (n0+all.length) (gcP n0 all) v' v
theorem Uk {n0:Nat}{g:List Nat->Value->Option (Value×List Nat)}(hg:∀ refs v p,g refs v=some p->Z7m n0 refs p.2 p.1 v):∀ (vs:List Value) (refs:List Nat) (p:List Value×List Nat),Z14 g vs refs=some p->J1a n0 refs p.2 p.1 vs
 |[],refs,p,h=>by obtain rfl:=osj h;exact⟨RExt.refl _ _,λall _=>⟨rfl,λi a b ha=>by simp at ha⟩⟩
 |v::vs,refs,p,h=>by
  simp only[Z14] at h;split at h
  .cases h
  .rename_i p1 h1;split at h
   .cases h
   .rename_i p2 h2;obtain rfl:=osj h;obtain⟨a1,a2⟩:=hg _ _ _ h1;obtain⟨b1,b2⟩:=Uk hg vs _ _ h2;refine⟨a1.trans b1,λall aj=>?_⟩;have c1:=a2 all (b1.sub.trans aj);have c2:=b2 all aj;refine⟨by simp[c2.1],λi a b ha hb=>?_⟩;cases i with
    |zero=>simp at ha hb;subst ha;subst hb;exact c1
    |succ i=>exact c2.2 i a b (by simpa using ha) (by simpa using hb)
theorem LRen.agg {n:Nat}{π:Nat->Nat}{cJ:List Value}{cs:Array Value}(h:LRen n π cJ cs.toList):Ren n π (.agg cJ.toArray) (.agg cs) :=
 .agg _ _ (by simpa using h.1) λi h1 h2=>h.2 i _ _ (by simp) (by simp)
theorem LRen.tuple {n:Nat}{π:Nat->Nat}{cJ:List Value}{cs:Array Value}(h:LRen n π cJ cs.toList):Ren n π (.tuple cJ.toArray) (.tuple cs) :=
 .tuple _ _ (by simpa using h.1) λi h1 h2=>h.2 i _ _ (by simp) (by simp)
theorem RJ (n0:Nat):∀ (f:Nat) (refs:List Nat) (v:Value) (p:Value×List Nat),gcX n0 f refs v=some p->Z7m n0 refs p.2 p.1 v:=by
 intro f;induction f with
 |zero=>intro refs v p h;cases h
 |succ f ih =>
  intro refs v p h;unfold gcX at h;split at h
  .rename_i i o;obtain rfl:=osj h;obtain⟨h1,h2⟩:=Cs n0 refs i;refine⟨h1,λall aj=>?_⟩;obtain⟨k1,k2⟩:=h2 all aj;have:=Ren.ptr (n:=n0+all.length) (π:=gcP n0 all) (gcI n0 refs i).1 o k1
   rwa [k2] at this
  .rename_i i o l c;obtain rfl:=osj h;obtain⟨h1,h2⟩:=Cs n0 refs i;refine⟨h1,λall aj=>?_⟩;obtain⟨k1,k2⟩:=h2 all aj;have:=Ren.sl (n:=n0+all.length) (π:=gcP n0 all) (gcI n0 refs i).1 o l c k1
   rwa [k2] at this
  .rename_i i o l c;obtain rfl:=osj h;obtain⟨h1,h2⟩:=Cs n0 refs i;refine⟨h1,λall aj=>?_⟩;obtain⟨k1,k2⟩:=h2 all aj;have:=Ren.slx (n:=n0+all.length) (π:=gcP n0 all) (gcI n0 refs i).1 o l c k1
   rwa [k2] at this
  .rename_i i;obtain rfl:=osj h;obtain⟨h1,h2⟩:=Cs n0 refs i;refine⟨h1,λall aj=>?_⟩;obtain⟨k1,k2⟩:=h2 all aj;have:=Ren.map (n:=n0+all.length) (π:=gcP n0 all) (gcI n0 refs i).1 k1
   rwa [k2] at this
  .obtain rfl:=osj h;exact⟨RExt.refl _ _,λall _=>.poison _⟩
  .split at h
   .rename_i q hq;obtain rfl:=osj h;obtain⟨h1,h2⟩:=ih _ _ _ hq;exact⟨h1,λall aj=>.iface _ _ _ (h2 all aj)⟩
   .cases h
  .split at h
   .rename_i q hq;obtain rfl:=osj h;obtain⟨h1,h2⟩:=Uk ih _ _ _ hq;exact⟨h1,λall aj=>(h2 all aj).agg⟩
   .cases h
  .split at h
   .rename_i q hq;obtain rfl:=osj h;obtain⟨h1,h2⟩:=Uk ih _ _ _ hq;exact⟨h1,λall aj=>(h2 all aj).tuple⟩
   .cases h
  .split at h
   .rename_i q hq;split at h
    .rename_i q2 ux;obtain rfl:=osj h;obtain⟨h1,h2⟩:=Uk ih _ _ _ hq;obtain⟨h3,h4⟩:=Uk ih _ _ _ ux;refine⟨h1.trans h3,λall aj=>?_⟩;have c1:=h2 all (h3.sub.trans aj);have c2:=h4 all aj;exact .func _ _ _ _ _ (by simpa using c1.1) (by simpa using c2.1) (λi h1 h2=>c1.2 i _ _ (by simp) (by simp)) (λi h1 h2=>c2.2 i _ _ (by simp) (by simp))
    .cases h
   .cases h
  .rename_i i;split at h
   .rename_i hi;obtain rfl:=osj h;refine⟨RExt.refl _ _,λall _=>?_⟩;have:=Ren.yield (n:=n0+all.length) (π:=gcP n0 all) i (by omega)
    rwa [show gcP n0 all i=i by simp[gcP,hi]] at this
   .cases h
  .split at h
   .rename_i hp;obtain rfl:=osj h;exact⟨RExt.refl _ _,λall _=>.plain _ hp⟩
   .cases h
theorem Q2p (n0:Nat):∀ (es:List Yx) (refs:List Nat) (p:List Yx×List Nat),J0c n0 es refs=some p->RExt n0 refs p.2/\∀ (all:List Nat),Sub p.2 all ->
  p.1.length=es.length/\∀ (k:Nat) (a b:Yx),p.1[k]?=some a->es[k]?=some b->a.1=b.1/\a.2.2=b.2.2/\Ren (n0+all.length) (gcP n0 all) a.2.1 b.2.1
 |[],refs,p,h=>by obtain rfl:=osj h;exact⟨RExt.refl _ _,λall _=>⟨rfl,λi a b ha=>by simp at ha⟩⟩
 |e::es,refs,p,h=>by
  simp only[J0c] at h;split at h
  .cases h
  .rename_i p1 h1;split at h
   .cases h
   .rename_i p2 h2;obtain rfl:=osj h;obtain⟨a1,a2⟩:=RJ n0 _ _ _ _ h1;obtain⟨b1,b2⟩:=Q2p n0 es _ _ h2;refine⟨a1.trans b1,λall aj=>?_⟩;have c1:=a2 all (b1.sub.trans aj);obtain⟨c2,c3⟩:=b2 all aj;refine⟨by simp[c2],λi a b ha hb=>?_⟩;cases i with
    |zero=>simp at ha hb;subst ha;subst hb;exact⟨rfl,rfl,c1⟩
    |succ i=>exact c3 i a b (by simpa using ha) (by simpa using hb)
theorem Z2w {n0:Nat}{refs:List Nat}{b:EB}{p:EB×List Nat}(h:gcB n0 refs b=some p):RExt n0 refs p.2/\∀ (all:List Nat),Sub p.2 all->∀ q q',BRen (n0+all.length) (gcP n0 all) (p.1.to q') (b.to q):=by
 unfold gcB at h;split at h
 .split at h
  .rename_i q hq;obtain rfl:=osj h;obtain⟨h1,h2⟩:=Uk (RJ n0 8) _ _ _ hq;exact⟨h1,λall aj _ _=>⟨rfl,rfl,rfl,h2 all aj⟩⟩
  .cases h
 .split at h
  .rename_i q hq;obtain rfl:=osj h;obtain⟨h1,h2⟩:=Q2p n0 _ _ _ hq;exact⟨h1,λall aj _ _=>⟨rfl,rfl,(h2 all aj).1,(h2 all aj).2⟩⟩
  .cases h
 .cases h
theorem Q89 {h':CH}{n0:Nat}:∀ (f k:Nat) (refs:List Nat) (acc:CH) (r:CH×List Nat),Z2r h' n0 f k refs acc=some r->acc.n=n0+k->acc.n<=1000000001 ->
  RExt n0 refs r.2/\r.1.n=n0+r.2.length/\r.1.n<=1000000001/\(∀ i,i<acc.n->r.1.get i=acc.get i) /\
  ∀ j,k<=j->j<r.2.length->∃ b b',h'.get (r.2.getD j 0)=some b/\r.1.get (n0+j)=some b'/\∀ q q',BRen (n0+r.2.length) (gcP n0 r.2) (b'.to q') (b.to q):=by
 intro f;induction f with
 |zero=>intro k refs acc r h;cases h
 |succ f ih =>
  intro k refs acc r h hn hs;simp only[Z2r] at h;split at h
  .split at h
   .rename_i hk;obtain rfl:=osj h;exact⟨RExt.refl _ _,by rw[hn,hk],hs,λ_ _=>rfl,λj h1 h2=>by simp only at h2;omega⟩
   .cases h
  .rename_i hk;split at h
   .cases h
   .rename_i b hb;split at h
    .cases h
    .rename_i p hp;split at h
     .rename_i aX;have aX:acc.n<=1000000000:=zp aX;obtain⟨a1,a2⟩:=Z2w hp;have kP:(acc.push p.1).n=acc.n+1:=rfl;obtain⟨b1,b2,b3,b4,b5⟩:=ih (k+1) p.2 (acc.push p.1) r h (by rw[kP];omega) (by rw[kP];omega);refine⟨a1.trans b1,b2,b3,λi hi=>?_,λj nD iN=>?_⟩
      .rw[b4 i (by rw[kP];omega),CH.q1r hs,z0 (by omega)]
      .by_cases eo:j=k
       .subst eo;have cO:j<refs.length:=by omega
        obtain⟨t,ht⟩:=(a1.trans b1).sub;have hg:r.2.getD j 0=refs.getD j 0:=by rw[ht,z5,z5,xd cO]
        refine⟨b,p.1,by rw[hg];exact hb,?_,a2 r.2 b1.sub⟩;rw[<-hn,b4 _ (by rw[kP];omega),CH.q1r hs,z2 rfl]
       .exact b5 j (by omega) iN
     .cases h
theorem Lg {rs bt:Br}{h h':CH}{U U':Heap}(hs:CSim rs h U) (bg:CSim bt h' U') (hr:∀ i,i<h.n->bt i=rs i) {v:Value}{y x:Value×CH}(hg:Q15 h h' v=some y) (h1:y.1=x.1) (h2:y.2.n=x.2.n) (h3:∀ i,y.2.get i=x.2.get i) :
  DropTo U v U' x.1 (x.2.toHeap rs):=by
 unfold Q15 at hg;split at hg
 .cases hg
 .rename_i p hp;split at hg
  .cases hg
  .rename_i q hq;obtain rfl:=osj hg;simp only at h1 h2 h3;obtain⟨f1,f2⟩:=RJ h.n 8 [] v p hp;unfold Z3j at hq;split at hq
   .rename_i dK;simp only[CH.keepOk,z1,z8,zQ] at dK;obtain⟨hle,dK⟩:=dK;have hle:h.n<=h'.n:=zp hle;have pD:=hs.sm;obtain⟨g0,g1,g2,g3,g4⟩:=Q89 _ 0 p.2 ⟨h'.t,h.n⟩ q hq rfl pD;have aj:=f1.trans g0;have ib:q.2.Nodup:=aj.2 List.nodup_nil;have cA:∀ x∈q.2,h.n<=x:=by
     obtain⟨⟨t,ht,hx⟩,_⟩:=aj;simpa [ht] using hx
    have hold:∀ i,i<h.n->q.1.get i=h'.get i:=λi hi=>by rw[g3 i hi,CH.q0w (h:=⟨h'.t,h.n⟩) hi,CH.q0w (by omega)]
    have kQ:(x.2.toHeap rs).n=h.n+q.2.length:=by show x.2.n=_;rw[<-h2,g1]
    have sk:∀ i,(x.2.toHeap rs).get i=(q.1.get i).map (EB.to (rs i)):=λi=>by show (x.2.get i).map _=_;rw[<-h3 i]
    rw[<-h1];refine DropTo.rename (gcP h.n q.2) (by rw[kQ,<-hs.n];omega) (λi hi=>?_) (λi gi gZ=>?_) (λi j gi gZ nD iN he=>?_) (by rw[kQ];exact f2 q.2 g0.sub)
    .rw[<-hs.n] at hi;refine⟨by simp[gcP,hi],by rw[sk,hold i hi,bg.get,hr i hi],?_⟩;have:=dK i hi;rw[bg.get,hs.get];split at this
     .rename_i e2;rw[e2];exact .inr (.inr rfl)
     .rename_i a b e1 e2;rw[e1,e2];rw[zl] at this;rcases this with hb|hb
      .exact .inr (.inl ⟨_,rfl,(Q9v hb).1⟩)
      .rw[EB.beq_eq hb,hr i hi];exact .inl rfl
     .cases this
    .rw[<-hs.n] at gi;rw[kQ] at gZ;obtain⟨b,b',e1,e2,e3⟩:=g4 (i-h.n) (by omega) (by omega);have jS:gcP h.n q.2 i=q.2.getD (i-h.n) 0:=by simp[gcP,wB.2 gi]
     have aQ:q.2.getD (i-h.n) 0∈q.2:=by
      have:i-h.n<q.2.length:=by omega
      simp[z5,this]
     rw[show h.n+(i-h.n)=i by omega] at e2;rw[jS];refine⟨by rw[<-hs.n];exact cA _ aQ,b'.to (rs i),b.to (bt (q.2.getD (i-h.n) 0)),by rw[sk,e2];rfl,by rw[bg.get,e1];rfl,by rw[kQ];exact e3 _ _⟩
    .rw[<-hs.n] at gi nD;rw[kQ] at gZ iN;simp only[gcP,wB.2 gi,wB.2 nD,if_false] at he;have jr:i-h.n<q.2.length:=by omega
     have iu:j-h.n<q.2.length:=by omega
     simp only[z5,z3 jr,z3 iu,Option.getD_some] at he;have:=(List.getElem_inj (h₀:=jr) (h₁:=iu) ib).1 he;omega
   .cases hq
theorem C_ {a m d:Nat}{g:Value->Option Value}(hg:∀ v u,g v=some u->Sh a m d v u):∀ (vs us:List Value),Z6i g vs=some us->vs.length=us.length/\∀ (i:Nat) (v u:Value),vs[i]?=some v->us[i]?=some u->Sh a m d v u
 |[],us,h=>by obtain rfl:=osj h;exact⟨rfl,λi v u h=>by simp at h⟩
 |v::vs,us,h=>by
  simp only[Z6i] at h;split at h
  .cases h
  .rename_i u hu;split at h
   .cases h
   .rename_i mi eK;obtain rfl:=osj h;obtain⟨h1,h2⟩:=C_ hg vs mi eK;refine⟨by simp[h1],λi v' u' jP dE=>?_⟩;cases i with
    |zero=>simp at jP dE;subst jP;subst dE;exact hg _ _ hu
    |succ i=>exact h2 i v' u' (by simpa using jP) (by simpa using dE)
theorem Z1e (a m d:Nat):∀ (f:Nat) (v u:Value),shX a m d f v=some u->Sh a m d v u:=by
 intro f;induction f with
 |zero=>intro v u h;cases h
 |succ f ih =>
  intro v u h;unfold shX at h;split at h
  .split at h
   .rename_i hc;obtain rfl:=osj h;exact .ptr _ _ hc.1 hc.2
   .cases h
  .split at h
   .rename_i hc;obtain rfl:=osj h;exact .sl _ _ _ _ hc.1 hc.2
   .cases h
  .split at h
   .rename_i p hp;obtain rfl:=osj h;obtain⟨h1,h2⟩:=C_ ih _ _ hp;exact .agg _ _ (by simpa using h1) λi k1 k2=>h2 i _ _ (by simp) (by simp)
   .cases h
  .split at h
   .rename_i p hp;obtain rfl:=osj h;obtain⟨h1,h2⟩:=C_ ih _ _ hp;exact .tuple _ _ (by simpa using h1) λi k1 k2=>h2 i _ _ (by simp) (by simp)
   .cases h
  .split at h
   .rename_i hc;obtain rfl:=osj h;exact .plain _ hc
   .cases h
theorem Ea {rs:Br}{h:CH}{U:Heap}(hs:CSim rs h U):∀ (m:List PB) (k:Nat) (refs r:List Nat),IA h k refs m=some r ->
  Sub refs r/\r.length=k+m.length/\∀ i b,m[i]?=some b->∃ wr c',U.get (r.getD (k+i) 0)=some (.cells c' b.esz wr b.tight)/\LRen r.length (gcP 0 r) b.c c'
 |[],k,refs,r,hb=>by
  simp only[IA] at hb;split at hb
  .rename_i hl;obtain rfl:=osj hb;exact⟨⟨[],by simp⟩,by simp[hl],λi b h=>by simp at h⟩
  .cases hb
 |b::m,k,refs,r,hb=>by
  simp only[IA] at hb;split at hb
  .rename_i hk;split at hb
   .rename_i c e w t hg;split at hb
    .rename_i p hp;split at hb
     .rename_i hc;simp only[z1,z6,zH] at hc;obtain⟨rfl,rfl,h3⟩:=hc;have h3:=De (TE 20) _ _ h3;obtain⟨s1,s2⟩:=Uk (RJ 0 8) _ _ _ hp;obtain⟨i1,i2,i3⟩:=Ea hs m (k+1) p.2 r hb;have jj:=s1.sub.trans i1;refine⟨jj,by rw[i2,zr];omega,λi b' ck=>?_⟩;cases i with
      |zero =>
       have ck:b=b':=by simpa using ck
       subst ck;obtain⟨u,hu⟩:=jj;have dL:r.getD (k+0) 0=refs.getD k 0:=by rw[hu,zR,z5,z5,xd hk]
       have hl:=s2 r i1;rw[h3,zY] at hl;exact⟨w,c,by rw[dL];exact hs.cells hg,hl⟩
      |succ i =>
       have:=i3 i b' (by simpa using ck)
       rwa [show k+1+i=k+(i+1) by omega] at this
     .cases hb
    .cases hb
   .cases hb
  .cases hb
theorem Lx {rs:Br}:∀ (fr:List PB) {h:CH}{U:Heap},CSim rs h U->h.n+fr.length<=1000000000->CSim rs (P7 fr h) (VE U fr)/\(P7 fr h).n=h.n+fr.length
 |[],h,U,hs,_=>by
  have:VE U []=U:=Heap.ext' (λj=>by
   show (if j<U.n then U.get j else _)=_;split
   .rfl
   .rename_i hj;rw[U.wf j (by omega)];simp) rfl
  rw[this];exact⟨hs,rfl⟩
 |b::l,h,U,hs,hr=>by
  have hr:h.n+(l.length+1)<=1000000000:=hr;have hn:=hs.n;have h1:CSim rs (h.push (.cells b.c b.esz true b.tight)) (U.push (b.blk true)):=hs.push (Nat.ble_eq_true_of_le (by omega)) rfl;obtain⟨h2,h3⟩:=Lx l h1 (by show h.n+1+_<=_;omega);refine⟨?_,by rw[show P7 (b::l) h=P7 l (h.push (.cells b.c b.esz true b.tight)) from rfl,h3];show h.n+1+l.length=h.n+(l.length+1);omega⟩;have:VE U (b::l)=VE (U.push (b.blk true)) l:=Heap.ext' (λj=>by
   show (if j<U.n then U.get j else _)=(if j<U.n+1 then (U.push (b.blk true)).get j else _);rcases Nat.lt_trichotomy j U.n with hj|hj|hj
   .rw[z2 hj,z2 (by omega),Heap.q0j _ _ hj]
   .subst hj;rw[z0 (by omega),z2 (by omega),Heap.q0a];simp
   .rw[z0 (by omega),z0 (by omega)];rw[show j-U.n=(j-(U.push (b.blk true)).n)+1 by simp;omega];rfl) (by simp[VE];omega)
  rw[this];exact h2
theorem Es {h:CH}{args:List Value}{refs:List Nat}:∀ (ms:List Memo) (m:Memo),Q58 h args refs ms=some m->m∈ms/\args=m.args/\(IA h 0 refs m.bl).isSome=true
 |[],m,h=>by cases h
 |m0::ms,m,h=>by
  simp only[Q58] at h;split at h
  .rename_i hc;obtain rfl:=osj h;rw[z1] at hc;exact⟨z_,De (TE 20) _ _ hc.1,hc.2⟩
  .obtain⟨h1,h2⟩:=Es ms m h;exact⟨xk _ h1,h2⟩
theorem Fb {f:FuncId}{args:List Value}{ms:List Memo}(hm:∀ m∈ms,Q8y P f m) {rs:Br}{h:CH}{U:Heap}(hs:CSim rs h U) {p:Value×CH}(hp:Ol h args ms=some p)
  {K:Value->Heap->Prop}(hK:∀ U',h.n<=p.2.n->CSim rs p.2 U'->K p.1 U'):VCalled P f args U K:=by
 unfold Ol at hp;split at hp
 .cases hp
 .rename_i q hq;split at hp
  .cases hp
  .rename_i m l7;obtain⟨h1,h2,h3⟩:=Es ms m l7;obtain⟨k1,k3⟩:=hm m h1;obtain⟨r,jH⟩:=Option.isSome_iff_exists.1 h3;obtain⟨l0,l1,l2⟩:=Ea hs _ _ _ _ jH;rw[zY] at l1;split at hp
   .cases hp
   .rename_i hr;have hr:=zp hr;split at hp
    .rename_i v hv;obtain rfl:=osj hp;obtain⟨s1,s2⟩:=Lx m.fr hs hr;have hx:=(Uk (RJ 0 8) _ _ _ hq).2 r l0;rw[h2,l1] at hx;refine VCalled.localize (π:=gcP 0 r) k1 k3 (λi b hb=>?_) (by simpa using hx) ?_ (hK _ (by rw[s2];omega) s1)
     .obtain⟨wr,c',g1,g2⟩:=l2 i b hb;rw[l1] at g2;exact⟨wr,c',by simpa [gcP] using g1,g2⟩
     .have:=Z1e _ _ _ _ _ _ hv
      rwa [hs.n] at this
    .cases hp
theorem AR (hm:P.follows .mixedOrders=true) (hT:TabOk P T) (cH:Sd P ev) (hG:Good R G) {ys:Ys}{f:FuncId}{args:List Value}{h:CH}{k:Value->CH->A}{rs:Br}{U:Heap}{K:Value->Heap->Prop}
  (hY:YOk P ys rs h.n) (hs:CSim rs h U) (he:G (Q4r T ev R ys f args h k)) (hk:Z64 G rs h k K):VCalled P f args U K:=by
 unfold Q4r at he;split at he
 .rename_i vc rl nt hf;have hF:=hT.code f vc rl nt hf;split at he
  .rename_i hb;exact hF.calls hm OA (cH R G hG ys vc none _ _ h _ rs U _ hY hs (ET.q1o (zp hb)) he (P6 hG hk))
  .exact(hG.fail he).elim
 .rename_i vc rl nt hf;have hF:=hT.codeJ f vc rl nt hf;split at he
  .rename_i hb;split at he
   .rename_i x hx;split at he
    .rename_i hc;have aX:x.2.n<=1000000000:=zp hc.1;have hK:=hk x.1 x.2 rs _ (zp hc.2) (λ_ _=>rfl) (SE (by omega)) he;refine hF.calls hm OA (cH joinOps (Q88 x) (Q0f x) ys vc none _ _ h _ rs U _ hY hs (ET.q1o (zp hb)) (show Q88 x _ from ⟨x,hx,rfl,rfl,λ_=>rfl⟩) ?_);intro e dD h' bt U' ah hn hr bg bR _ hg;have fin:Q88 x (match HX dD h' rl with|some v=>Q15 h h' v|none=>none)->Jk (Yn ah U' rl) λv=>∃ v' aN,DropTo U v U' v' aN/\K v' aN:=by
      rintro⟨y,hy,h1,h2,h3⟩;split at hy
      .rename_i v hv;rw[PT bg bR hv];exact⟨_,_,Lg hs bg hr hy h1 h2 h3,hK⟩
      .cases hy
     cases e with
     |normal=>exact fin hg
     |ret=>exact fin hg
     |_=>obtain⟨y,hy,_⟩:=hg;cases hy
    .exact(hG.fail he).elim
   .exact(hG.fail he).elim
  .exact(hG.fail he).elim
 .rename_i vc rl nt ms hf;obtain⟨hF,hM⟩:=hT.codeM f vc rl nt ms hf;split at he
  .rename_i p hp;exact Fb hM hs hp λU' hn bg=>hk _ _ rs U' hn (λ_ _=>rfl) bg he
  .split at he
   .rename_i hb;exact hF.calls hm OA (cH R G hG ys vc none _ _ h _ rs U _ hY hs (ET.q1o (zp hb)) he (P6 hG hk))
   .exact(hG.fail he).elim
 .rename_i hf;split at he
  .rename_i v;exact hT.same f hf v U K (hk v h rs U (z4 _) (λ_ _=>rfl) hs he)
  .exact(hG.fail he).elim
 .exact(hG.fail he).elim
theorem Q0t (hm:P.follows .mixedOrders=true) (cH:Sd P ev) (hG:Good R G) {ys:Ys}{f:FuncId}{vc:VCode}{rl:List VResult}{nt:Nat}(hf:T f=some (.code vc rl nt)) (hF:Fun P f vc rl nt) {args:List Value}{h:CH}{k:Value->CH->A}{rs:Br}{U:Heap}{K:Value->Heap->Prop}
  (hY:YOk P ys rs h.n) (hs:CSim rs h U) (he:G (Q4r T ev R ys f args h k)) (hk:Z64 G rs h k K):VCallsTo P f args U K:=by
 unfold Q4r at he;rw[hf] at he;simp only at he;split at he
 .rename_i hb;exact hF.callsTo hm OA (cH R G hG ys vc none _ _ h _ rs U _ hY hs (ET.q1o (zp hb)) he (P6 hG hk))
 .exact(hG.fail he).elim
theorem Q2b (cH:Sd P ev) (hG:Good R G) {ys:Ys}{i:Nat}{args:List Value}{h:CH}{k:Value->CH->A}{rs:Br}{U:Heap}{K:Value->Heap->Prop}
  (hY:YOk P ys rs h.n) (hs:CSim rs h U) (he:G (Q99 ev R ys i args h k)) (hk:Z64 G rs h k K):Ar P i args U K:=by
 unfold Q99 at he;split at he
 .rename_i c hc;obtain⟨aQ,kN,au⟩:=hY i c hc;split at he
  .rename_i hg;split at he
   .rename_i hlen;refine au args U K ⟨hs.lp hg,hlen,?_⟩;refine cH R G hG ys c.a (some i) _ _ h _ rs U _ hY hs (IJ c.ps args kN) he ?_;intro e jW h1 fl σ1 bp fx fA dM fw _ gH;cases e with
    |normal =>
     simp only[Z40] at gH;split at gH
     .rename_i iU;have e1:fl i=rs i:=fA i aQ;have nE:=dM.lp iU;rw[e1] at nE;refine⟨nE,?_⟩;have gi:=dM.lt iU;refine cH R G hG ys c.b (some i) jW bp _ _ fl _ _ (hY.mono (n':=(h1.upd i (.lp .busy none)).n) fx fA) (dM.upd gi (b:=.lp .busy none) (by rw[EB.to,e1])) fw gH ?_;intro e2 fD h2 dZ σ2 aT dJ dQ bG fE _ cX;have kX:h1.n<=h2.n:=dJ;have jX:dZ i=rs i:=(dQ i gi).trans e1;unfold Z07 at cX;split at cX
      .rename_i nF;have gZ:=bG.lt nF;have nG:=bG.lp nF;rw[jX] at nG;refine⟨nG,?_⟩;have dN:∀ j,j<h.n->dZ j=rs j:=λj hj=>(dQ j (zT hj fx)).trans (fA j hj);cases e2 with
       |normal=>exact hk _ (h2.upd i (.lp .ready none)) dZ _ (zO fx kX) dN (bG.upd gZ (b:=.lp .ready none) (by simp only[EB.to,jX])) cX
       |ret=>exact hk _ (h2.upd i (.lp .done (some .ret))) dZ _ (zO fx kX) dN (bG.upd gZ (b:=.lp .done (some .ret)) (by simp only[EB.to,jX])) cX
       |exit id=>exact hk _ (h2.upd i (.lp .done (some (.exit id)))) dZ _ (zO fx kX) dN (bG.upd gZ (b:=.lp .done (some (.exit id))) (by simp only[EB.to,jX])) cX
       |_=>exact(hG.fail cX).elim
      .exact(hG.fail cX).elim
     .exact(hG.fail gH).elim
    |_=>exact(hG.fail gH).elim
   .exact(hG.fail he).elim
  .exact(hG.fail he).elim
 .exact(hG.fail he).elim
theorem Lq (hG:Good R G) {i m since clock:Nat}{seen:List Nat}{h:CH}{k:Value->CH->A}:∀ (es:List Yx),
  (∀ e∈es,seen.contains e.2.2=true)/\Pu R i m since clock seen h k es=none \/
  ∃ a,Pu R i m since clock seen h k es=some a/\(G a->∀ e∈es,seen.contains e.2.2=false->G (k (.tuple #[.bool true,e.1,e.2.1]) (h.upd i (.iter m since (seen++[e.2.2]) clock))))
 |[]=>.inl ⟨λ_ h=>(by cases h),rfl⟩
 |e::es=>by
  have ih:=Lq hG (i:=i) (m:=m) (since:=since) (clock:=clock) (seen:=seen) (h:=h) (k:=k) es;by_cases hc:seen.contains e.2.2=true
  .have he:Pu R i m since clock seen h k (e::es)=Pu R i m since clock seen h k es:=by rw[Pu,z2 hc]
   rw[he];rcases ih with⟨h1,h2⟩|⟨a,h1,h2⟩
   .exact .inl ⟨λx hx=>by rcases zB.1 hx with rfl|hx;exact hc;exact h1 x hx,h2⟩
   .refine .inr ⟨a,h1,λkY x hx bj=>?_⟩;rcases zB.1 hx with rfl|hx
    .rw[hc] at bj;cases bj
    .exact h2 kY x hx bj
  .rcases ih with⟨h1,h2⟩|⟨a,h1,h2⟩
   .refine .inr ⟨k (.tuple #[.bool true,e.1,e.2.1]) (h.upd i (.iter m since (seen++[e.2.2]) clock)),by rw[Pu,z0 hc,h2],λkY x hx bj=>?_⟩;rcases zB.1 hx with rfl|hx
    .exact kY
    .rw[h1 x hx] at bj;cases bj
   .refine .inr ⟨R.both (k (.tuple #[.bool true,e.1,e.2.1]) (h.upd i (.iter m since (seen++[e.2.2]) clock))) a,by rw[Pu,z0 hc,h1],λkY x hx bj=>?_⟩;obtain⟨g1,g2⟩:=hG.both _ _ kY;rcases zB.1 hx with rfl|hx
    .exact g1
    .exact h2 g2 x hx bj
theorem Q46 (hG:Good R G) {x:Value}{h:CH}{k:Value->CH->A}{rs:Br}{U:Heap}{K:Value->Heap->Prop}(hs:CSim rs h U) (he:G (Z4d R x h k)) (hk:Z64 G rs h k K):Q3p x U K:=by
 unfold Z4d at he;unfold Q3p;split at he
 .rename_i i;split at he
  .rename_i m since seen last hg;have hi:=hs.lt hg;simp only[hs.iter hg];split at he
   .rename_i es clock wr gC;obtain⟨k1,_⟩:=hs.mapAt gC;simp only[k1];split at he
    .rename_i hc;refine⟨hc.1,hc.2,?_⟩;rcases Lq hG (i:=i) (m:=m) (since:=since) (clock:=clock) (seen:=seen) (h:=h) (k:=k) es with⟨h1,h2⟩|⟨a,h1,h2⟩
     .rw[h2] at he;simp only at he;split at he
      .exact⟨λ_=>hk _ _ rs U (z4 _) (λ_ _=>rfl) hs he,λe il nH=>by rw[h1 e il] at nH;cases nH⟩
      .exact(hG.fail he).elim
     .rw[h1] at he;simp only at he;have key:G a->∀ e∈es,seen.contains e.2.2=false->K (.tuple #[.bool true,e.1,e.2.1]) (U.upd i (.obj (.iter m since (seen++[e.2.2]) clock) true)):=λkY e il nH =>
       hk _ (h.upd i (.iter m since (seen++[e.2.2]) clock)) rs _ (z4 _) (λ_ _=>rfl) (hs.upd hi rfl) (h2 kY e il nH)
      split at he
      .obtain⟨g1,g2⟩:=hG.both _ _ he;exact⟨λ_=>hk _ _ rs U (z4 _) (λ_ _=>rfl) hs g1,key g2⟩
      .rename_i hn;exact⟨λhh=>absurd hh hn,key he⟩
    .exact(hG.fail he).elim
   .exact(hG.fail he).elim
  .exact(hG.fail he).elim
 .exact(hG.fail he).elim
theorem Iy (hm:P.follows .mixedOrders=true) (hT:TabOk P T) (cH:Sd P ev) (hG:Good R G) {ys:Ys}{o:VOp}{et:ET}{env:Env}(hE:FRel et env) {h:CH}{k:Value->CH->A}{rs:Br}{U:Heap}{K:Value->Heap->Prop}
  (hY:YOk P ys rs h.n) (hs:CSim rs h U) (he:G (Z46 T ev R ys o et h k)) (hk:Z64 G rs h k K):vop (Q4 P) o env U K:=by
 have al:=Cw hE;have other:∀ o':VOp,G (Z0t R (Q44 o' (Tm et) h) k)->Jk (Qb o' (Q5 env) U) λp=>K p.1 p.2:=by
  intro o' hg;rw[al] at hg;unfold Z0t at hg;split at hg
  .rename_i p hp;obtain⟨h1,U',h2,h3⟩:=N_ hs hp;rw[h2];exact hk _ _ rs U' h1 (λ_ _=>rfl) h3 hg
  .exact(hG.fail hg).elim
 cases o
 case callF f args =>
  simp only[Z46,al] at he;exact AR hm hT cH hG hY hs he hk
 case callV f args =>
  simp only[Z46,al] at he;simp only[vop];unfold Z34 at he;split at he
  .rename_i g first cap hg
   simp only[hg];exact AR hm hT cH hG hY hs he hk
  .rename_i i first cap hg
   simp only[hg];exact Q2b cH hG hY hs he hk
  .exact(hG.fail he).elim
 case ext x =>
  cases x
  case nextMap x =>
   simp only[Z46,al] at he;exact Q46 hG hs he hk
  case delete a b c=>exact other (.ext (.delete a b c)) he
  case mapEntry a z b c=>exact other (.ext (.mapEntry a z b c)) he
  case entryStore a b c=>exact other (.ext (.entryStore a b c)) he
  all_goals exact other _ he
 case move a=>exact other (.move a) he
 case makeFunc a b c=>exact other (.makeFunc a b c) he
 case bad=>exact other .bad he
 all_goals exact other _ he
theorem Ad (hm:P.follows .mixedOrders=true) (hT:TabOk P T) (cH:Sd P ev) (hG:Good R G) {ys:Ys}{k:ET->CH->A}{K:Env->Heap->Prop}:∀ (ops:List VOper) (et:ET) (env:Env) (h:CH) (rs:Br) (U:Heap),
  YOk P ys rs h.n->CSim rs h U->FRel et env->G (Q9a T ev R ys ops et h k)->Z20 G rs h (List.length env) k K->FP (Q4 P) ops env U K:=by
 intro ops;induction ops with
 |nil=>intro et env h rs U hY hs hE he hk;exact hk et h rs U env (z4 _) (λ_ _=>rfl) hs hE rfl he
 |cons o rest ih =>
  intro et env h rs U hY hs hE he hk
  have he:G (match Q9s et o.guard with
   |none=>R.fail
   |some true=>Z46 T ev R ys o.op et h λv h'=>Q9a T ev R ys rest (et.put o.dst v) h' k
   |some false=>Q9a T ev R ys rest (et.put o.dst undef) h k):=he
  rw[Q5b hE] at he;simp only[FP];split at he
  .exact(hG.fail he).elim
  .rename_i hw;rw[hw];refine⟨λ_=>?_,λhh=>by cases hh⟩;refine Iy hm hT cH hG hE hY hs he ?_;intro v h' bt U' hn hr bg hg;refine ih _ _ h' bt U' (hY.mono hn hr) bg (hE.put _ _) hg ?_;intro fD h2 dZ σ2 aT dJ dQ bG fE hl cX;exact hk fD h2 dZ σ2 aT (zO hn dJ) (λi hi=>(dQ i (by omega)).trans (hr i hi)) bG fE (by rw[hl,Xl]) cX
  .rename_i hw;rw[hw];refine⟨λhh=>(by cases hh),λ_=>?_⟩;refine ih _ _ h rs U hY hs (hE.put _ _) he ?_;intro fD h2 dZ σ2 aT dJ dQ bG fE hl cX;exact hk fD h2 dZ σ2 aT dJ dQ bG fE (by rw[hl,Xl]) cX
def CSims (rs:Br) (n:Nat):List CH->List Heap->Prop
 |[],[]=>True
 |h::hs,U::σs=>(CSim rs h U/\h.n<=n)/\CSims rs n hs σs
 |_,_=>False
theorem CSims.mono {rs bt:Br}{n n':Nat}(hn:n<=n') (hr:∀ i,i<n->bt i=rs i):∀ {hs:List CH}{σs:List Heap},CSims rs n hs σs->CSims bt n' hs σs
 |[],[],_=>trivial
 |h::hs,U::σs,⟨⟨h1,h2⟩,h3⟩=>⟨⟨h1.rs λi hi=>hr i (by omega),by omega⟩,CSims.mono hn hr h3⟩
 |[],_::_,h=>h.elim
 |_::_,[],h=>h.elim
theorem CSims.snoc {rs:Br}{n:Nat}{h:CH}{U:Heap}(hs:CSim rs h U) (hn:h.n<=n):∀ {hl:List CH}{σl:List Heap},CSims rs n hl σl->CSims rs n (hl++[h]) (σl++[U])
 |[],[],_=>⟨⟨hs,hn⟩,trivial⟩
 |_::_,_::_,⟨h1,h2⟩=>⟨h1,CSims.snoc hs hn h2⟩
 |[],_::_,h=>h.elim
 |_::_,[],h=>h.elim
theorem Lu {rs:Br}{h:CH}{U:Heap}(hs:CSim rs h U) {op:VOp}{ev:Operand->Value}{v:Value}(hr:Q5j op ev v h=true):YK op ev v U:=by
 unfold Q5j at hr;split at hr
 .rename_i q hq;obtain⟨_,U',h2,_⟩:=N_ hs hq;unfold YK;rw[h2];exact TE _ _ _ hr
 .cases hr
def Z2i:List (Nat×(CH->Bool))->List (Nat×(Heap->Prop))->Prop
 |[],[]=>True
 |c::l,d::m=>(c.1=d.1/\∀ rs h U,CSim rs h U->c.2 h=true->d.2 U)/\Z2i l m
 |_,_=>False
theorem TU {rs:Br}{h:CH}{U:Heap}(hs:CSim rs h U) {r:Nat}:∀ {l:List (Nat×(CH->Bool))}{m:List (Nat×(Heap->Prop))},Z2i l m->Q91 r h l=true->YT r U m
 |[],[],_,_=>trivial
 |c::l,d::m,⟨⟨h1,h2⟩,h3⟩,he=>by
  simp only[Q91,z1,zl,Bool.not_eq_true'] at he;refine⟨λhr=>h2 rs h U hs ?_,TU hs h3 he.2⟩;rcases he.1 with h|h
  .rw[h1,Nat.ble_eq_true_of_le hr] at h;cases h
  .exact h
 |[],_::_,h,_=>h.elim
 |_::_,[],h,_=>h.elim
theorem CSims.mem {rs:Br}{n:Nat}:∀ {hl:List CH}{σl:List Heap},CSims rs n hl σl->∀ (f:CH->Bool) (Q:Heap->Prop),(∀ rs h U,CSim rs h U->f h=true->Q U)->∀ j,(hl.drop j).all f=true->∀ τ∈σl.drop j,Q τ
 |[],[],_,_,_,_,_,_,τ,hτ=>by simp at hτ
 |h::hl,U::σl,⟨h1,h2⟩,f,Q,hQ,0,ha,τ,hτ=>by
  simp only[xA,zL,z1,zB] at ha hτ;rcases hτ with rfl|hτ
  .exact hQ rs h τ h1.1 ha.1
  .exact CSims.mem h2 f Q hQ 0 (by simpa using ha.2) τ (by simpa using hτ)
 |h::hl,U::σl,⟨h1,h2⟩,f,Q,hQ,j+1,ha,τ,hτ=>CSims.mem h2 f Q hQ j (by simpa using ha) τ (by simpa using hτ)
 |[],_::_,h,_,_,_,_,_,_,_=>h.elim
 |_::_,[],h,_,_,_,_,_,_,_=>h.elim
theorem CSims.length {rs:Br}{n:Nat}:∀ {hl:List CH}{σl:List Heap},CSims rs n hl σl->hl.length=σl.length
 |[],[],_=>rfl
 |_::_,_::_,⟨_,h⟩=>by simp[CSims.length h]
 |[],_::_,h=>h.elim
 |_::_,[],h=>h.elim
theorem L5 (hm:P.follows .mixedOrders=true) (hT:TabOk P T) (cH:Sd P ev) (hG:Good R G) {ys:Ys}{k:ET->CH->A}{K:Env->Heap->Prop}:∀ (ops:List DOper) (et:ET) (env:Env) (hl:List CH) (h:CH) (pe:List (Nat×(CH->Bool))) (rs:Br) (σl:List Heap) (U:Heap) (pv:List (Nat×(Heap->Prop))),
  YOk P ys rs h.n->CSim rs h U->FRel et env->CSims rs h.n hl σl->Z2i pe pv->G (PV T ev R ys ops et hl h pe k)->Z20 G rs h (List.length env) k K->XD (Q4 P) ops env σl U pv K:=by
 intro ops;induction ops with
 |nil=>intro et env hl h pe rs σl U pv hY hs hE kZ hp he hk;exact hk et h rs U env (z4 _) (λ_ _=>rfl) hs hE rfl he
 |cons o rest ih =>
  intro et env hl h pe rs σl U pv hY hs hE kZ eA he hk;have al:=Cw hE;simp only[PV,Q5b hE,al] at he;simp only[XD];have hlen:=kZ.length;split at he
  .exact(hG.fail he).elim
  .rename_i hw;rw[hw];refine⟨λ_=>?_,λhh=>by cases hh⟩;split at he
   .rename_i aB;rw[z2 aB];split at he
    .rename_i p hp;split at he
     .rename_i k_;obtain⟨ju,qF⟩:=k_;simp only[CH.newOk,z1,z8] at ju;obtain⟨n1,n2,n3⟩:=ju;have n1:h.n<=p.2.n:=zp n1;have n2:p.2.n<=1000000000:=zp n2;have la:CSim rs p.2 (p.2.toHeap rs):=SE (by omega);refine .inl ⟨p.1,p.2.toHeap rs,?_,?_,?_⟩
      .refine Iy hm hT cH (Z4q p) hE hY hs hp ?_;intro v h' bt U' hn hr bg hg;have hg:(v,h')=p:=osj hg;subst hg;refine⟨rfl,?_⟩;have:CSim rs h' U':=by
        refine⟨bg.n,bg.sm,λi=>?_⟩;rw[bg.get];cases iU:h'.get i with
        |none=>rfl
        |some b =>
         rcases zf i h.n with hi|hi
         .rw[hr i hi]
         .have aQ:=bg.lt iU;have:=n3 i (List.mem_range'_1.2 ⟨hi,by simp at n1 |-;omega⟩);simp only[iU] at this;cases b<;>first|rfl|cases this
       exact this.eq
      .rw[<-hlen];exact TU la eA qF
      .refine ih _ _ _ p.2 pe rs _ _ pv (hY.mono n1 (λ_ _=>rfl)) la (hE.put _ _) ((kZ.mono n1 (λ_ _=>rfl)).snoc la (z4 _)) eA he ?_;intro fD h2 dZ σ2 aT dJ dQ bG fE bZ cX;exact hk fD h2 dZ σ2 aT (zO n1 dJ) (λi hi=>dQ i (by omega)) bG fE (by rw[bZ,Xl]) cX
     .exact(hG.fail he).elim
    .exact(hG.fail he).elim
   .rename_i aB;rw[z0 aB];have done:∀ (u:Value) (pE:List (Nat×(CH->Bool))) (pF:List (Nat×(Heap->Prop))),Z2i pE pF->G (PV T ev R ys rest (et.put o.dst u) hl h pE k)->XD (Q4 P) rest (YR env o.dst u) σl U pF K:=by
     intro u pE pF bu hg;refine ih _ _ hl h pE rs σl U pF hY hs (hE.put _ _) kZ bu hg ?_;intro fD h2 dZ σ2 aT dJ dQ bG fE bZ cX;exact hk fD h2 dZ σ2 aT dJ dQ bG fE (by rw[bZ,Xl]) cX
    split at he
    .rename_i bz;rw[z2 bz];split at he
     .rename_i p hp;split at he
      .rename_i aj;obtain⟨_,U',h2,_⟩:=N_ hs hp;rw[h2];refine⟨kZ.mem _ _ (λrs h U hc hf=>Lu hc hf) _ aj,?_⟩;refine done _ _ _ ?_ he;rw[<-hlen];split
       .exact⟨⟨rfl,λrs h U hc hf=>Lu hc hf⟩,eA⟩
       .exact eA
      .exact(hG.fail he).elim
     .exact(hG.fail he).elim
    .rename_i bz;rw[z0 bz];split at he
     .rename_i p hp;obtain⟨_,U',h2,_⟩:=N_ hs hp;rw[h2];exact done _ _ _ eA he
     .exact(hG.fail he).elim
  .rename_i hw;rw[hw];refine⟨λhh=>(by cases hh),λ_=>?_⟩;split at he
   .rename_i aB;rw[z2 aB];split at he
    .rename_i qF;refine⟨by rw[<-hlen];exact TU hs eA qF,?_⟩;refine ih _ _ _ h pe rs _ U pv hY hs (hE.put _ _) (kZ.snoc hs (z4 _)) eA he ?_;intro fD h2 dZ σ2 aT dJ dQ bG fE bZ cX;exact hk fD h2 dZ σ2 aT dJ dQ bG fE (by rw[bZ,Xl]) cX
    .exact(hG.fail he).elim
   .rename_i aB;rw[z0 aB];refine ih _ _ _ h pe rs _ U pv hY hs (hE.put _ _) kZ eA he ?_;intro fD h2 dZ σ2 aT dJ dQ bG fE bZ cX;exact hk fD h2 dZ σ2 aT dJ dQ bG fE (by rw[bZ,Xl]) cX
theorem ET.q2d {e:ET}{env:Env}(h:FRel e env):e.list=env:=by
 apply zK;intro i;unfold ET.list;rw[xp];rcases zf i e.m with hi|hi
 .rw[List.getElem?_range hi];have:=h.get i;rw[h.m] at hi;rw[z5,z3 hi] at this;rw[z3 hi,xS,<-this];rfl
 .rw[zz (by simpa using hi),zz (by rw[<-h.m];exact hi)];rfl
theorem OU {ρ:Plc}{n:Nat}{vs:Array Value}{cs:List Value}(h:VRel ρ n (.tuple vs) (.tuple cs.toArray)):LRel ρ n vs.toList cs:=by
 obtain⟨ds,he,hl⟩:=h.q1k;have:cs.toArray=ds:=by injection he
 subst this;simpa using hl
theorem Q1g (hm:P.follows .mixedOrders=true) (hT:TabOk P T) (cH:Sd P ev) {ys:Ys}{x:Value×CH}{vs:Array Value}(jQ:x.1=.tuple vs) {K:Env->Heap->Prop}{et:ET}{env:Env}{h:CH}{rs:Br}{U:Heap}(hY:YOk P ys rs h.n) (hs:CSim rs h U) (hE:FRel et env)
  (hk:K vs.toList (x.2.toHeap rs)):∀ (alts:List (List DOper)),Q88 x (Q5n T ev ys et h alts)->∀ ops∈alts,XD (Q4 P) ops env [U] U [] λbp σ1=>∃ aT σ2,DropE U bp σ1 aT σ2/\K aT σ2:=by
 have one:∀ a:List DOper,Q88 x (Z5d T ev ys et h a)->XD (Q4 P) a env [U] U [] λbp σ1=>∃ aT σ2,DropE U bp σ1 aT σ2/\K aT σ2:=by intro a ha;refine L5 hm hT cH (Q0f x) a et env [h] h [] rs [U] U [] hY hs hE ⟨⟨hs,z4 _⟩,trivial⟩ trivial ha ?_;intro dD h' bt U' ah hn hr bg bR hl hg;obtain⟨y,hy,h1,h2,h3⟩:=hg;unfold J05 at hy;have hd:=Lg hs bg hr hy h1 h2 h3;rw[ET.q2d bR,jQ] at hd;refine⟨vs.toList,x.2.toHeap rs,?_,hk⟩;intro ρ0 w0 ρ w cs fN qn hH hL;obtain⟨ρ',d1,d2,d3⟩:=hd ρ0 w0 ρ w (.tuple cs.toArray) fN qn hH (VRel.q0i hL);exact⟨ρ',OU d1,d2,d3⟩
 intro alts;induction alts with
 |nil=>rintro⟨y,hy,_⟩;cases hy
 |cons a l ih =>
  intro he ops ho;cases l with
  |nil =>obtain rfl:=zx.1 ho;exact one _ he
  |cons b r =>
   obtain⟨g1,g2⟩:=(Q0f x).both _ _ he;rcases zB.1 ho with rfl|ho
   .exact one _ g1
   .exact ih g2 ops ho
theorem Q1x (hm:P.follows .mixedOrders=true) (hT:TabOk P T) (cH:Sd P ev) (hG:Good R G) {ys:Ys}{k:ET->CH->A}{K:Env->Heap->Prop}:∀ (aU:List DSeg) (et:ET) (env:Env) (h:CH) (rs:Br) (U:Heap),
  YOk P ys rs h.n->CSim rs h U->FRel et env->G (Af T ev R ys aU et h k)->Z20 G rs h (List.length env) k K->Pb (Q4 P) aU env U K:=by
 intro aU;induction aU with
 |nil=>intro et env h rs U hY hs hE he hk;exact hk et h rs U env (z4 _) (λ_ _=>rfl) hs hE rfl he
 |cons x rest ih =>
  intro et env h rs U hY hs hE he hk;have next:Z20 G rs h (List.length env) (λet h=>Af T ev R ys rest et h k) (λenv U=>Pb (Q4 P) rest env U K):=by intro jW h1 fl σ1 bp fx fA dM fw eC gH;refine ih jW bp h1 fl σ1 (hY.mono fx fA) dM fw gH ?_;intro fD h2 dZ σ2 aT dJ dQ bG fE bZ cX;exact hk fD h2 dZ σ2 aT (zO fx dJ) (λi hi=>(dQ i (by omega)).trans (fA i hi)) bG fE (bZ.trans eC) cX
  cases x with
  |one o=>exact Ad hm hT cH hG [o] et env h rs U hY hs hE he next
  |alts l =>
   have many:G (match Q5n T ev ys et h l with
     |some x=>(match x.1 with
      |.tuple vs=>if x.2.room=true/\Nat.ble h.n x.2.n=true/\vs.toList.length=et.m then Af T ev R ys rest (ET.of vs.toList 0) x.2 k else R.fail
      |_=>R.fail)
     |none=>R.fail)->Pb (Q4 P) (.alts l::rest) env U K:=by
    intro he;split at he
    .rename_i x hx;split at he
     .rename_i vs jQ;split at he
      .rename_i hc;obtain⟨c1,c2,c3⟩:=hc;have aX:x.2.n<=1000000000:=zp c1;have uy:FRel (ET.of vs.toList 0) vs.toList:=by
        have:=ET.q1o (args:=vs.toList) (nt:=0) (by show vs.toList.length+(0-vs.toList.length)<=_;have:=hE.sm;omega);simpa using this
       exact Q1g hm hT cH jQ hY hs hE (next _ x.2 rs _ _ (zp c2) (λ_ _=>rfl) (SE (by omega)) uy (by rw[c3,hE.m]) he) l ⟨x,hx,rfl,rfl,λ_=>rfl⟩
      .exact(hG.fail he).elim
     .exact(hG.fail he).elim
    .exact(hG.fail he).elim
   match l,he with
   |[],he=>exact many he
   |[a],he =>intro ops ho;obtain rfl:=zx.1 ho;refine L5 hm hT cH hG ops et env [h] h [] rs [U] U [] hY hs hE ⟨⟨hs,z4 _⟩,trivial⟩ trivial he ?_;intro dD h' bt U' ah hn hr bg bR hl hg;exact⟨ah,U',.refl _ _ _,next dD h' bt U' ah hn hr bg bR hl hg⟩
   |a::b::r,he=>exact many he
def Q1e (P:Program) (T:Tab) (ev:Z65) (c:VCode):Prop:=∀ {A:Type}(R:AnsOps A) (G:A->Prop),Good R G->∀ (ys:Ys) (ro:Option Nat) (et:ET) (env:Env) (h:CH) (k:Exit->ET->CH->A) (rs:Br) (U:Heap) (Q:Exit->Env->Heap->Prop),
 YOk P ys rs h.n->CSim rs h U->FRel et env->G (Q2k T ev R ys c ro et h k)->Z1t G rs h (List.length env) k Q->vwp (Q4 P) c ro Q env U
theorem Q2d (hm:P.follows .mixedOrders=true) (hT:TabOk P T) (cH:Sd P ev) (hG:Good R G) {ys:Ys}{g:Operand}{ps:List Nat}{a b:VCode}{ro:Option Nat}{et:ET}{env:Env}{h:CH}{k:Exit->ET->CH->A}{rs:Br}{U:Heap}{Q:Exit->Env->Heap->Prop}
  (hY:YOk P ys rs h.n) (hs:CSim rs h U) (hE:FRel et env) (he:G (Q98 T ev R ys (Tm et g) ps a b ro et h k)) (hk:Z1t G rs h (List.length env) k Q):vwp (Q4 P) (.rangeF g ps a b) ro Q env U:=by
 rw[Cw hE] at he;unfold Q98 at he;simp only[vwp,Q2w];split at he
 .rename_i f first cap hg
  simp only[hg];split at he
  .rename_i vc rl nt hf;have hF:=hT.code f vc rl nt hf;split at he
   .rename_i k_;obtain⟨aQ,aX⟩:=k_;have mZ:(Q4 P).it f=some λi Y args U K=>MS P i Y->VCallsTo P f args U K:=by
     simp only[Q4];rw[z2 hF.enterable]
    rw[mZ];refine⟨?_,λr uz=>?_⟩
    .cases ro with
     |none=>trivial
     |some i =>
      simp only[Z3e] at aQ;split at aQ
      .rename_i st pend iU;exact⟨_,_,_,_,hs.lp iU⟩
      .cases aQ
    .let fl:Br:=λi=>if i=h.n then (env,r) else rs i
     have eX:∀ i,i<h.n->fl i=rs i:=λi hi=>by simp only[fl];rw[z0 (by omega)]
     have dM:CSim fl (h.push (.lp .ready none)) (U.push (.obj (.lp env r .ready none) true)) :=
      (hs.rs eX).push aX (by simp[EB.to,fl])
     have uA:YOk P ((h.n,⟨ps,a,b,et⟩)::ys) fl (h.push (.lp .ready none)).n:=by
      intro i c hc;simp only[Ys.find] at hc;split at hc
      .rename_i eR;have eR:=zD eR;subst eR;obtain rfl:=osj hc;refine⟨Nat.lt_succ_self _,by simp only[fl,zq];exact hE,?_⟩;rw[hs.n] at *
       simpa [fl,hs.n] using uz
      .obtain⟨h1,h2,h3⟩:=hY i c hc;rw[eX i h1];exact⟨Nat.lt_succ_of_lt h1,h2,h3⟩
     rw[<-hs.n];refine Q0t hm cH hG hf hF uA dM he ?_;intro v h' bt U' hn hr bg de;have pB:h.n+1<=h'.n:=hn;unfold Z6l at de;unfold Z2h;split at de
     .rename_i st pend iU;have hi:=bg.lt iU;simp only[bg.lp iU];split at de
      .rename_i cP;refine⟨(by rintro rfl;cases cP),?_⟩;have dN:∀ j,j<h.n->bt j=rs j:=λj hj=>(hr j (Nat.lt_succ_of_lt hj)).trans (eX j hj);have cO:=bg.kill hi;split at de
       .exact hk _ _ _ bt _ _ (by show h.n<=h'.n;omega) dN cO hE rfl de
       .exact hk _ _ _ bt _ _ (by show h.n<=h'.n;omega) dN cO hE rfl de
       .exact hk _ _ _ bt _ _ (by show h.n<=h'.n;omega) dN cO hE rfl de
       .exact(hG.fail de).elim
      .exact(hG.fail de).elim
     .exact(hG.fail de).elim
   .exact(hG.fail he).elim
  .exact(hG.fail he).elim
 .exact(hG.fail he).elim
theorem Q1v (hm:P.follows .mixedOrders=true) (hT:TabOk P T) (cH:Sd P ev)
  (nJ:∀ b,Q1e P T ev b->Q1e P T ev (.loop b)):∀ (c:VCode),Q1e P T ev c:=by
 intro c;induction c with
 |skip=>intro A R G hG ys ro et env h k rs U Q hY hs hE he hk;exact hk _ _ _ rs U _ (z4 _) (λ_ _=>rfl) hs hE rfl he
 |region ops =>intro A R G hG ys ro et env h k rs U Q hY hs hE he hk;exact Ad hm hT cH hG ops et env h rs U hY hs hE he λdD h' bt U' ah h1 h2 h3 h4 h5 h6=>hk _ _ _ _ _ _ h1 h2 h3 h4 h5 h6
 |regionD aU =>intro A R G hG ys ro et env h k rs U Q hY hs hE he hk;exact Q1x hm hT cH hG aU et env h rs U hY hs hE he λdD h' bt U' ah h1 h2 h3 h4 h5 h6=>hk _ _ _ _ _ _ h1 h2 h3 h4 h5 h6
 |rangeF g ps a b fC fa =>intro A R G hG ys ro et env h k rs U Q hY hs hE he hk;exact Q2d hm hT cH hG hY hs hE he hk
 |seq a b fC fa =>
  intro A R G hG ys ro et env h k rs U Q hY hs hE he hk;simp only[vwp];refine fC R G hG ys ro et env h _ rs U _ hY hs hE he ?_;intro e dD h' bt U' ah hn hr bg bR hl hg;cases e with
  |normal =>refine fa R G hG ys ro dD ah h' k bt U' Q (hY.mono hn hr) bg bR hg ?_;intro e2 fD h2 dZ σ2 aT dJ dQ bG fE bZ cX;exact hk e2 fD h2 dZ σ2 aT (zO hn dJ) (λi hi=>(dQ i (by omega)).trans (hr i hi)) bG fE (bZ.trans hl) cX
  |_=>exact hk _ dD h' bt U' ah hn hr bg bR hl hg
 |cond c a b fC fa =>
  intro A R G hG ys ro et env h k rs U Q hY hs hE he hk;have he:G (Z56 R (Tm et c) (Q2k T ev R ys a ro et h k) (Q2k T ev R ys b ro et h k)):=he;rw[Cw hE] at he;unfold Z56 at he;simp only[vwp];split at he
  .rename_i hc;rw[hc];exact⟨λ_=>fC R G hG ys ro et env h k rs U Q hY hs hE he hk,λhh=>by cases hh⟩
  .rename_i hc;rw[hc];exact⟨λhh=>(by cases hh),λ_=>fa R G hG ys ro et env h k rs U Q hY hs hE he hk⟩
  .exact(hG.fail he).elim
 |block id b ih =>
  intro A R G hG ys ro et env h k rs U Q hY hs hE he hk;simp only[vwp];refine ih R G hG ys ro et env h _ rs U _ hY hs hE he ?_;intro e dD h' bt U' ah hn hr bg bR hl hg;cases e with
  |exit gS =>
   simp only[Q97] at hg;simp only[Q5f];split at hg
   .rename_i bL;rw[z2 bL];exact hk _ dD h' bt U' ah hn hr bg bR hl hg
   .rename_i bL;rw[z0 bL];exact hk _ dD h' bt U' ah hn hr bg bR hl hg
  |_=>exact hk _ dD h' bt U' ah hn hr bg bR hl hg
 |loop b ih =>intro A R G hG ys ro et env h k rs U Q hY hs hE he hk;exact nJ b ih R G hG ys ro et env h k rs U Q hY hs hE he hk
 |exit id=>intro A R G hG ys ro et env h k rs U Q hY hs hE he hk;exact hk _ _ _ rs U _ (z4 _) (λ_ _=>rfl) hs hE rfl he
 |ret=>intro A R G hG ys ro et env h k rs U Q hY hs hE he hk;exact hk _ _ _ rs U _ (z4 _) (λ_ _=>rfl) hs hE rfl he
 |bad=>intro A R G hG ys ro et env h k rs U Q hY hs hE he hk;exact(hG.fail he).elim
theorem IL {v:Value}(h:Q6r v=true):J8 v=true\/∃ vs,v=.tuple vs/\vs.toList.all J8=true:=by unfold Q6r at h;split at h<;>first|exact .inl rfl|exact .inr ⟨_,rfl,h⟩|cases h
theorem Z1q {ρ:Plc}{n:Nat}{v c:Value}(h:Q6r v=true) (hv:VRel ρ n v c):c=v:=by
 rcases IL h with hp|⟨vs,rfl,aj⟩
 .exact UY hp hv
 .obtain⟨ds,rfl,hl⟩:=hv.q1k;have aj:∀ x∈vs.toList,J8 x=true:=z8.1 aj;have:ds.toList=vs.toList:=by
   apply zK;intro i;rcases zf i vs.toList.length with hi|hi
   .have cY:i<ds.toList.length:=by rw[<-hl.1];exact hi
    rw[z3 hi,z3 cY];rw[UY (aj _ (zd hi)) (hl.2 i _ _ (z3 hi) (z3 cY))]
   .rw[zz hi,zz (by rw[<-hl.1];exact hi)]
  rw[Ak this]
theorem Q9y {ρ:Plc}{n:Nat}{v:Value}(h:Q6r v=true):VRel ρ n v v:=by
 rcases IL h with hp|⟨vs,rfl,aj⟩
 .exact V0 hp
 .exact .tuple _ _ rfl λi h1 _=>V0 (z8.1 aj _ (by simp))
theorem Sy (m:Nat) (env:Env) (h:List.length env=m):C3 (List.range m) env=env:=by
 apply zK;intro i;simp only[C3,xp];rcases zf i m with hi|hi
 .rw[List.getElem?_range hi];simp[z5,h,hi]
 .rw[zz (by simpa using hi),zz (by omega)];rfl
theorem IY:∀ (l:List Nat) (vs base:List Value) (i:Nat),l.Nodup->vs.length=l.length->(∀ x∈l,x<base.length)->(Ky l vs base)[i]?=if i∈l then vs[l.idxOf i]? else base[i]?
 |[],[],base,i,_,_,_=>by simp[Ky]
 |[],_::_,_,_,_,h,_=>by simp at h
 |_::_,[],_,_,_,h,_=>by simp at h
 |x::l,v::vs,base,i,hn,h,hb=>by
  obtain⟨h1,h2⟩:=xY.1 hn;simp only[Ky];rw[IY l vs _ i h2 (by simpa using h) (λy hy=>by rw[xl];exact hb y (by simp[hy]))];by_cases mj:i=x
  .subst mj;rw[z0 h1,z2 (by simp),List.getElem?_set_self (hb i (by simp))];simp
  .by_cases hU:i∈l
   .have e:(x::l).idxOf i=l.idxOf i+1:=by rw[List.idxOf_cons,show (x==i)=false from by simpa using Ne.symm mj];rfl
    rw[z2 hU,z2 (by simp[hU]),e];rfl
   .rw[z0 hU,z0 (by simp[mj,hU]),List.getElem?_set_ne (Ne.symm mj)]
theorem Q13 (m:Nat) (vs:List Value) (h:vs.length=m):Ky (List.range m) vs (List.replicate m poison)=vs:=by
 apply zK;intro i;rw[IY _ _ _ _ List.nodup_range (by simpa using h) (λx hx=>by simpa using hx)];split
 .rename_i hi;have hi:=zQ.1 hi;have:(List.range m).idxOf i=i:=by
   have h1:(List.range m).idxOf i<(List.range m).length:=List.idxOf_lt_length_of_mem (zQ.2 hi);have h2:=List.getElem_idxOf h1;rw[List.getElem_range] at h2;exact h2
  rw[this]
 .rename_i hi;have hi:m<=i:=by simpa using hi
  rw[zz (by simpa using hi),zz (by omega)]
theorem Q83 (hm:P.follows .mixedOrders=true) (hT:TabOk P T):∀ (n:Nat) (c:VCode),Q1e P T (Q09 T n) c:=by
 intro n;induction n using Nat.strongRecOn with
 |ind n pz =>
  have cH:Sd P (Q09 T n):=by
   cases n with
   |zero=>intro A R G hG ys c ro et env h k rs U Q hY hs hE he hk;exact(hG.fail he).elim
   |succ n=>intro A R G hG ys c ro et env h k rs U Q hY hs hE he hk;exact pz n (Nat.lt_succ_self _) c R G hG ys ro et env h k rs U Q hY hs hE he hk
  refine Q1v hm hT cH λb fa=>?_;intro A R G hG ys ro et env h k rs U Q hY hs hE he hk;have nK:∀ j,j<=n->Q1e P T (Q09 T j) b:=λj hj=>by
   rcases zf j n with h'|h'
   .exact pz j h' b
   .obtain rfl:j=n:=by omega
    exact fa
  simp only[vwp];refine⟨List.range (List.length env),λj vs σ1=>j<=n/\∃ jW h1 fl,h.n<=h1.n/\(∀ i,i<h.n->fl i=rs i)/\CSim fl h1 σ1/\FRel jW vs/\List.length vs=List.length env/\G (Q2k T (Q09 T j) R ys (.loop b) ro jW h1 k),n,?_,?_⟩
  .rw[Sy _ _ rfl];exact⟨z4 _,et,h,rs,z4 _,λ_ _=>rfl,hs,hE,rfl,he⟩
  .rintro j vs σ1 ⟨hj,jW,h1,fl,g1,g2,g3,gE,g4,g5⟩;rw[Q13 _ _ g4];refine nK j hj R G hG ys ro jW vs h1 _ fl σ1 _ (hY.mono g1 g2) g3 gE g5 ?_;intro e dD h' bt U' ah hn hr bg bR hl hg;cases e with
   |normal =>
    cases j with
    |zero=>exact(hG.fail hg).elim
    |succ j =>
     refine⟨j,Nat.lt_succ_self _,by omega,dD,h',bt,zO g1 hn,λi hi=>(hr i (by omega)).trans (g2 i hi),bg,?_,?_,?_⟩
     .rw[Sy _ _ (hl.trans g4)];exact bR
     .rw[Sy _ _ (hl.trans g4)];exact hl.trans g4
     .exact hg
   |_=>exact hk _ dD h' bt U' ah (zO g1 hn) (λi hi=>(hr i (by omega)).trans (g2 i hi)) bg bR (hl.trans g4) hg
theorem Q3v (hm:P.follows .mixedOrders=true) (hT:TabOk P T) (n:Nat):Sd P (Q09 T n):=by
 cases n with
 |zero=>intro A R G hG ys c ro et env h k rs U Q hY hs hE he hk;exact(hG.fail he).elim
 |succ n=>intro A R G hG ys c ro et env h k rs U Q hY hs hE he hk;exact Q83 hm hT n c R G hG ys ro et env h k rs U Q hY hs hE he hk
theorem HRel.forget {ρ:Plc}{U:Heap}{w:World}(hH:HRel ρ U w):HRel (λ_=>none) Heap.empty w :=
 ⟨⟨λi b h=>(by cases h),λ_ _=>rfl,λi p h=>(by cases h),λi j p q b _ h=>(by cases h)⟩,λg cs hg=>⟨(hH.tab g cs hg).1,λ⟨_,_,_,h,_⟩=>by cases h⟩⟩
theorem Q12 {f:FuncId}{args:List Value}(ha:args.all J8=true) {v:Value}(hv:Q6r v=true) (he:Km P f) (h0:VCallsTo P f args Heap.empty (λu _=>u=v)) {U:Heap}{K:Value->Heap->Prop}(hK:K v U):VCalled P f args U K:=by
 refine VCallsTo.called he ?_;intro ρ w aw hH hL;refine (h0 (λ_=>none) w aw hH.forget ?_).mono ?_
 .refine⟨hL.1,λi a c jE hc=>?_⟩;have hp:=z8.1 ha a (zX jE);have:=UY hp (hL.2 i a c jE hc);subst this;exact V0 hp
 .rintro e w' ⟨c,rfl,u,ρ',U',rfl,ez,gd,hE⟩;refine⟨c,rfl,u,ρ,U,hK,?_,?_,?_⟩
  .have:c=u:=Z1q hv ez;subst this;exact Q9y hv
  .exact hH.world hE.size (λi p hp=>hE.keep _ (hH.lt i p hp) (λ⟨_,_,_,h,_⟩=>by cases h)) λg cs hg=>hE.keep _ (hH.tab.lt hg) (λ⟨_,_,_,h,_⟩=>by cases h)
  .exact⟨hE.os,hE.tape,hE.output,hE.size,λB hB _=>hE.keep B hB (λ⟨_,_,_,h,_⟩=>by cases h),λ_ _ h=>h,z4 _,λ_ _ _ h=>h⟩
theorem Z2t (hm:P.follows .mixedOrders=true) (hT:TabOk P T) (n:Nat) {f:FuncId}{vc:VCode}{rl:List VResult}{nt:Nat}(hF:Fun P f vc rl nt) (args:List Value) (ha:args.all J8=true) (v:Value) (hv:Q6r v=true) (p:Value->Bool) (hp:∀ u,p u=true->u=v)
  (eG:Nat.ble (ET.of args nt).m 1000000=true) (he:Q09 T n Dk [] vc none (ET.of args nt) CH.empty (Z3d false rl λv _=>p v)=true) {U:Heap}{K:Value->Heap->Prop}(hK:K v U):VCalled P f args U K:=by
 refine Q12 ha hv hF.enterable ?_ hK;refine hF.callsTo hm OA ?_
 exact Q3v hm hT n Dk (·=true) Q6g [] vc none _ _ CH.empty _ (λ_=>([],default)) Heap.empty _ (λi c h=>by cases h) ⟨rfl,by decide,λi=>rfl⟩ (ET.q1o (zp eG)) he
  (P6 (R:=Dk) Q6g λv' h' bt U' _ _ _ hg=>hp v' hg)
end
end Go.V
namespace Go.V
open Go
def Z29 (P:Program) (f:FuncId):Option FEnt->Prop
 |none=>True
 |some (.code vc rs nt)=>Fun P f vc rs nt
 |some (.codeJ vc rs nt)=>Fun P f vc rs nt
 |some (.codeM vc rs nt ms)=>Fun P f vc rs nt/\∀ m∈ms,Q8y P f m
 |some .same=>∀ (v:Value) (U:Heap) (K:Value->Heap->Prop),K v U->VCalled P f [v] U K
def EntsOk (P:Program):Nat->List (Option FEnt)->Prop
 |_,[]=>True
 |i,e::l=>Z29 P i e/\EntsOk P (i+1) l
theorem EntsOk.get {P:Program}:∀ {l:List (Option FEnt)}{i j:Nat}{e:FEnt},EntsOk P i l->l[j]?=some (some e)->Z29 P (i+j) (some e)
 |[],_,_,_,_,h=>by simp at h
 |x::l,i,0,e,h,hj=>by simp at hj;subst hj;exact h.1
 |x::l,i,j+1,e,h,hj=>by have:=EntsOk.get (l:=l) (i:=i+1) (j:=j) h.2 (by simpa using hj);rw[zo,xN 1 j] at this;exact this
theorem Z2x {P:Program}{l:List (Option FEnt)}(h:EntsOk P 0 l):TabOk P (λf=>(l[f]?).join):=by
 have key:∀ f e,(l[f]?).join=some e->Z29 P f (some e):=λf e he=>by
  have:=EntsOk.get (j:=f) (e:=e) h (by
   cases hl:l[f]? with
   |none=>rw[hl] at he;cases he
   |some x=>rw[hl] at he;simp at he;rw[he])
  simpa using this
 exact⟨λf vc rs nt he=>key f _ he,λf vc rs nt he=>key f _ he,λf vc rs nt ms he=>key f _ he,λf he=>key f _ he⟩
theorem Z33 {P:Program}{f:FuncId}{fn:Func}{e:Array Value->Sem Value}(hf:P.funcs[f]?=some fn) (h1:(fn.name=="runtime.NumGoroutine")=false) (h2:fn.body.isNone=true) (h3:Extern.findNext fn=none) (h4:Extern.find fn=some e) (h5:∀ (c:Value) w,(e #[c]).run P w=.ok c w)
  (v:Value) (U:Heap) (K:Value->Heap->Prop) (hK:K v U):VCalled P f [v] U K:=by
 intro ρ w aw hH hL;obtain⟨c,hc⟩:∃ c,aw=#[c]:=by
  have hl:=hL.1
  match aw,hl with
  |⟨[c]⟩,_=>exact⟨c,rfl⟩
 subst hc;refine .inr ⟨c,⟨v,ρ,U,hK,hL.2 0 v c rfl rfl,hH,Ext.refl _ _ _⟩,λw' _=>?_⟩;have iu:fn.body=none:=by simpa using h2
 have jr:¬ fn.name="runtime.NumGoroutine":=by simpa using h1
 simp[callFunc,hf,jr,iu,h3,h4,h5]
def isTrue:Value->Bool
 |.bool true=>true
 |_=>false
theorem Z0x {v:Value}(h:isTrue v=true):v=.bool true:=by
 unfold isTrue at h;split at h
 .rfl
 .cases h
theorem Q59 {P:Program}(hm:P.follows .mixedOrders=true) {T:Tab}(hT:TabOk P T) (n:Nat) {f:FuncId}{vc:VCode}{rl:List VResult}{nt:Nat}(hF:Fun P f vc rl nt) (eG:Nat.ble (ET.of [] nt).m 1000000=true)
  (he:Q09 T n Dk [] vc none (ET.of [] nt) CH.empty (Z3d false rl λv _=>isTrue v)=true) {U:Heap}{K:Value->Heap->Prop}(hK:K (.bool true) U):VCalled P f [] U K :=
 Z2t hm hT n hF [] rfl (.bool true) rfl isTrue (λ_ h=>Z0x h) eG he hK
end Go.V