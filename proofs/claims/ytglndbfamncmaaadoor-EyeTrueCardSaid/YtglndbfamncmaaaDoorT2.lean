/- A framework for walks, contracts of functions, and their proofs: part 2. -/
import Derived.RangeFuncLeaves
import Derived.RangeFuncCalls
import Derived.OrdersIn
import Derived.TacticsIn
import Derived.Sort.LoopGhostIn
import Derived.Deep.LoopGhost
import Derived.Test.YtglndbfamncmaaaDoorT1
noncomputable section
namespace Go.V
open Go
section
variable {P:Program}{S:VSpecs}{B:Nat}
def FF:Option Nat->Fence
 |none=>Fence.wide
 |some l=>Fence.wide.inRound l
theorem Ei (ro:Option Nat) (f:FuncId):(FF ro).fn f:=by cases ro<;>trivial
theorem RF (ro:Option Nat):(FF ro).depth=none:=by cases ro<;>rfl
theorem Q0r (ro:Option Nat):(FF ro).round=ro:=by cases ro<;>rfl
theorem Au {ro:Option Nat}{n:Nat}{f:FuncId}{args:Array Value}{w:World}{R:Ending->World->Prop}(h:Calls P f args w R):CallsIn (FF ro) n P f args w R:=by
 cases ro with
 |none=>exact callsIn_wide.2 h
 |some l=>exact CallsIn.inRound l (callsIn_wide.2 h)
theorem CW {ro:Option Nat}{n m:Nat}{l:Nat}{f:FuncId}{tmps:Array Value}{eD body:Code}{w:World}{R:Ending->World->Prop}(h:RoundIn Fence.wide m P l f tmps eD body w R):RoundIn (FF ro) n P l f tmps eD body w R:=by refine⟨Ei _ _,λc cs _=>?_⟩;obtain⟨e,w',r,s⟩:=h.2 c cs (room_wide _);refine⟨e,w',r,?_⟩;cases ro<;>exact s
def Got (ρ:Plc) (U:Heap) (w:World) (R:Value->Heap->Prop) (c:Value) (w':World):Prop :=
 ∃ v ρ' U',R v U'/\VRel ρ' U'.n v c/\HRel ρ' U' w'/\Ext ρ U w ρ' U' w'
def VCallsTo (P:Program) (f:FuncId) (args:List Value) (U:Heap) (R:Value->Heap->Prop):Prop :=
 ∀ ρ w (aq:Array Value),HRel ρ U w->LRel ρ U.n args aq.toList->Calls P f aq w λe w'=>∃ c,e=.returned c/\Got ρ U w R c w'
def VCalled (P:Program) (f:FuncId) (args:List Value) (U:Heap) (R:Value->Heap->Prop):Prop :=
 ∀ ρ w (aq:Array Value),HRel ρ U w->LRel ρ U.n args aq.toList ->
  ((∀ w,(callFunc f aq).run P w=.ok (.enter f aq) w)/\Calls P f aq w λe w'=>∃ c,e=.returned c/\Got ρ U w R c w') \/
  (∃ c,Got ρ U w R c w/\∀ w',Like ρ w w'->(callFunc f aq).run P w'=.ok (.value c) w')
def He (P:Program) (i:Nat) (args:List Value) (U:Heap) (R:Value->Heap->Prop):Prop :=
 ∀ ρ w (aq:Array Value),HRel ρ U w->LRel ρ U.n args aq.toList ->
  ∃ p,ρ i=some p/\∃ fn tmps eD body,(Instr.yield p.blk aq).run P w=.ok (.round p.blk fn tmps eD body) w /\
   RoundIn Fence.wide 0 P p.blk fn tmps eD body w λe w'=>∃ c,e=.returned c/\Got ρ U w R c w'
def Jj (P:Program) (f:FuncId):Prop:=∃ fn,P.funcs[f]?=some fn/\fn.body.isSome=true/\(fn.name=="runtime.NumGoroutine")=false
def Q3p (P:Program) (f:FuncId) (s:PN):Prop:=∀ args U K,s args U K->VCalled P f args U K
def Kr (P:Program) (i:Nat) (s:PN):Prop:=∀ args U K,s args U K->He P i args U K
def Q52 (P:Program) (f:FuncId) (T:Nat->PN->PN):Prop:=Jj P f/\∀ i Y,Kr P i Y->∀ args U K,T i Y args U K->VCallsTo P f args U K
structure OkSpecs (P:Program) (S:VSpecs):Prop where
 fn:∀ f s,S.fn f=some s->Q3p P f s
 yl:∀ i s,S.yl i=some s->Kr P i s
 it:∀ f T,S.it f=some T->Q52 P f T
theorem K2 {f:FuncId}(h:Jj P f) (args:Array Value) (w:World):(callFunc f args).run P w=.ok (.enter f args) w:=by
 obtain⟨fn,h1,h2,h3⟩:=h;have h4:¬ fn.body=none:=λe=>by rw[e] at h2;cases h2
 have h5:¬ fn.name="runtime.NumGoroutine":=λe=>by rw[e] at h3;simp at h3
 simp[callFunc,h1,h4,h5]
theorem VCallsTo.called {f:FuncId}{args:List Value}{U:Heap}{R:Value->Heap->Prop}(he:Jj P f) (h:VCallsTo P f args U R):VCalled P f args U R :=
 fun ρ w aq hH hL=>.inl ⟨λw=>K2 he aq w,h ρ w aq hH hL⟩
theorem Got.mono {ρ:Plc}{U:Heap}{w:World}{R R':Value->Heap->Prop}{c:Value}{w':World}(h:Got ρ U w R c w') (hr:∀ v U',R v U'->R' v U'):Got ρ U w R' c w' :=
 let ⟨v,ρ',U',h1,h2⟩:=h;⟨v,ρ',U',hr _ _ h1,h2⟩
theorem VCallsTo.mono {f:FuncId}{args:List Value}{U:Heap}{R R':Value->Heap->Prop}(h:VCallsTo P f args U R) (hr:∀ v U',R v U'->R' v U'):VCallsTo P f args U R' :=
 fun ρ w aq hH hL=>(h ρ w aq hH hL).mono λ_ _ ⟨c,he,hg⟩=>⟨c,he,hg.mono hr⟩
theorem Yc {ρ:Plc}{n:Nat}{env:Env}{a:Act}(h:LRel ρ n env a.tmps.toList) {v c:Value}(hv:VRel ρ n v c) (d:Option Nat):LRel ρ n (JK env d v) (a.put d c).tmps.toList:=by
 cases d with
 |none=>exact h
 |some d=>simp only[JK,Act.put,Array.toList_setIfInBounds];exact h.set d hv
theorem Zt (env:Env) (d:Option Nat) (v:Value):List.length (JK env d v)=List.length env:=by cases d<;>simp[JK]
theorem JN (a:Act) (d:Option Nat) (c:Value):(a.put d c).defers=a.defers:=by cases d<;>rfl
theorem Gg {ρ:Plc}{n:Nat}{env:Env}{a:Act}{ops:Array Oper}{o:Oper}{vo:VOper}(hc:J2 P ops o=some vo) (hL:LRel ρ n env a.tmps.toList) {b:Bool}(h:ZY env vo.guard=some b) :
  Region.wanted o (yielded ops a.tmps)=b/\vo.dst=o.dst/\YO P o.op=vo.op:=by
 unfold J2 at hc;simp only[zE] at hc;cases hg:o.guard with
 |none =>simp[hg] at hc;subst hc;simp[ZY] at h;subst h;simp[Region.wanted,hg]
 |some jw =>
  obtain⟨j,want⟩:=jw;simp[hg] at hc;cases hj:ops[j]? with
  |none=>simp[hj] at hc
  |some oj =>
   cases hd:oj.dst with
   |none=>simp[hj,hd] at hc
   |some d =>
    simp[hj,hd] at hc;subst hc;refine⟨?_,rfl,rfl⟩;simp only[ZY] at h;simp only[Region.wanted,hg,yielded,hj,xd,hd];have hlen:List.length env=a.tmps.size:=by have:=hL.1;omega
    rcases zn d (List.length env) with af|aZ
    .have cL:d<a.tmps.size:=by rw[<-hlen];exact af
     have hr:=hL.2 d env[d] a.tmps[d] (z8 af) (by simp[cL]);have he:env.getD d undef=env[d]:=by simp[List.getD,af]
     rw[he] at h;simp only[xy cL];split at h
     .rename_i b' heq;rw[heq] at hr;rw[hr.q1c];simp at h;simp[<-h]
     .rename_i vs heq;rw[heq] at hr;obtain⟨ds,hds,_⟩:=hr.q1j;simp_all
     .cases h
    .have he:env.getD d undef=undef:=by simp_all
     rw[he] at h;have:a.tmps[d]?=none:=(by simp_all);simp only[this];simp[undef] at h;subst h;simp
theorem Q0p {o:Oper}{vo:VOp}(hc:KZ P o.op=some vo) {ρ:Plc}{U:Heap}{env:Env}{a:Act}(hL:LRel ρ U.n env a.tmps.toList) {K:Value->Heap->Prop}
  (aA:(∃ f bE,vo=.callF f bE)\/(∃ f bE,vo=.callV f bE)) {σ0:Heap}(h:vop S vo env σ0 K) :
  (∃ f args aq,vcall S f args σ0 K/\LRel ρ U.n args aq.toList/\∀ w,(execOp a.eval o).run P w=(callFunc f aq).run P w) \/
  (∃ i r args aq,Ee S i args σ0 K/\VRel ρ U.n (.func (.yield i) #[] #[]) (.func (.yield r) #[] #[])/\LRel ρ U.n args aq.toList/\∀ w,(execOp a.eval o).run P w=(Instr.yield r aq).run P w):=by
 have a_:=hc;cases dA:KZ P o.op with
 |none=>rw[dA] at hc;cases hc
 |some uq =>
  clear dA hc uq;obtain⟨dst,op,ty,pos,after,guard⟩:=o;simp only at a_;unfold KZ at a_;split at a_
  .cases a_
  rename_i aj;simp only[x3,x9] at aj;cases op
  case call c =>
   simp only[Op.operands] at aj a_;split at a_
   .rename_i f aE;simp at a_;subst a_;simp only[vop] at h;have au:(c.args.toList).all JL=true:=by
     simp only[Call.operands,aE,Array.toList_append,List.all_append,z1] at aj;exact aj.2
    refine .inl ⟨f,_,c.args.map a.eval,h,by have:=Rh (λx hx=>XX hL hx) au;simpa using this,λw=>?_⟩;simp[execOp,resolve,aE,Act.eval,Deferred.ofValue,invoke]
   .rename_i fo aJ aE;simp at a_;subst a_;simp only[vop] at h;simp only[Call.operands,aE,Array.toList_append,List.all_append,z1] at aj;have hf:=XX hL (x:=fo) (by simpa using aj.1);have has:=Rh (λx hx=>XX hL hx) aj.2;split at h
    .rename_i g first cap heq
     rw[heq] at hf;cases jL:a.eval fo with
     |func fn gs ds =>
      rw[jL] at hf;cases hf with
      |func _ _ _ _ _ h1 h2 h3 h4 =>
       refine .inl ⟨g,_,gs++c.args.map a.eval++ds,h,?_,λw=>?_⟩
       .have eu:=LRel.of_array h1 h3;have bX:=LRel.of_array h2 h4;have:=(eu.append has).append bX;simpa using this
       .simp[execOp,resolve,aE,jL,Deferred.ofValue,invoke]
     |_=>rw[jL] at hf;cases hf
    .rename_i i first cap heq
     rw[heq] at hf;have hinv:∀ c,VRel ρ U.n (.func (.yield i) first cap) c->∃ r,c=.func (.yield r) #[] #[]/\VRel ρ U.n (.func (.yield i) #[] #[]) (.func (.yield r) #[] #[]):=by
      intro c h;cases h with
      |yield _ r hi hr=>exact⟨r,rfl,.yield i r hi hr⟩
     obtain⟨r,jL,hv⟩:=hinv _ hf;refine .inr ⟨i,r,_,c.args.map a.eval,h,hv,by simpa using has,λw=>?_⟩;simp[execOp,resolve,aE,jL,Deferred.ofValue,invoke]
    .cases h
   all_goals
    repeat' first
     |(cases a_;done)
     |(simp at a_;subst a_;rcases aA with⟨f,bE,h⟩|⟨f,bE,h⟩<;>cases h;done)
     |split at a_
   grind [Option.bind_eq_bind,Option.bind_eq_some_iff]
  all_goals simp only[Op.operands] at aj a_
  all_goals
   repeat' first
    |(cases a_;done)
    |(simp at a_;subst a_;rcases aA with⟨f,bE,h⟩|⟨f,bE,h⟩<;>cases h;done)
    |split at a_
  all_goals simp only[zE,zU,reduceCtorEq,and_false,exists_false] at a_
  all_goals first
   |(obtain⟨_,_,a_⟩:=a_;simp at a_;subst a_;rcases aA with⟨f,bE,h⟩|⟨f,bE,h⟩<;>cases h;done)
   |(obtain⟨_,_,_,_,a_⟩:=a_;simp at a_;subst a_;rcases aA with⟨f,bE,h⟩|⟨f,bE,h⟩<;>cases h;done)
   |(obtain⟨_,_,_,_,_,_,a_⟩:=a_;simp at a_;subst a_;rcases aA with⟨f,bE,h⟩|⟨f,bE,h⟩<;>cases h;done)
   |(obtain⟨d,_,a_⟩:=a_;cases d<;>simp at a_<;>subst a_<;>rcases aA with⟨f,bE,h⟩|⟨f,bE,h⟩<;>cases h;done)
   |(obtain⟨_,_,_,_,a_⟩:=a_;split at a_<;>simp at a_;subst a_;rcases aA with⟨f,bE,h⟩|⟨f,bE,h⟩<;>cases h;done)
   |(obtain⟨_,_,a_⟩:=a_;split at a_<;>simp at a_;subst a_;rcases aA with⟨f,bE,h⟩|⟨f,bE,h⟩<;>cases h;done)
theorem Uw {o:Op}{vo:VOp}(h:YO P o=vo) (hv:vo≠.bad):KZ P o=some vo\/∃ x,PS P o=some x/\vo=.ext x:=by
 unfold YO at h
 grind
theorem Ew {o:Op}{x:XOp}(h:KZ P o=some (.ext x)):False:=by
 unfold KZ at h
 repeat' first
  |contradiction
  |(cases h;done)
  |(simp at h;done)
  |(rw[zE,zU] at h;obtain⟨_,_,h⟩:=h)
  |split at h
theorem RG {o:Op}{vo:VOp}(h:YO P o=vo) (hv:vo≠.bad) (c:Call):o≠.defer c:=by
 rintro rfl;rcases Uw h hv with h|⟨x,h,_⟩
 .unfold KZ at h;split at h<;>simp at h
 .unfold PS at h;split at h<;>simp at h
theorem Eo {o:Oper}{x:Operand}(hc:PS P o.op=some (.nextMap x)) {ρ:Plc}{U:Heap}{w:World}{env:Env}{ev:Operand->Value}(hH:HRel ρ U w) (hE:∀ x,JL x=true->VRel ρ U.n (Q5 env x) (ev x))
  {K:Value->Heap->Prop}(h:Cc (Q5 env x) U K):∃ c w',(execOp ev o).run P w=.ok (.value c) w'/\Got ρ U w K c w':=by
 obtain⟨dst,op,ty,pos,after,guard⟩:=o;simp only at hc;unfold PS at hc;split at hc
 .cases hc
 rename_i aj;simp only[x3,x9] at aj;have bp:op=.next x false:=by
  cases op
  case next y b=>cases b<;>simp at hc;subst hc;rfl
  all_goals
   simp only at hc
   repeat' first
    |contradiction
    |(obtain⟨_,h⟩:=F8 hc;cases h;done)
    |(cases hc;done)
    |(simp at hc;done)
    |(rw[zE,zU] at hc;obtain⟨_,_,hc⟩:=hc)
    |split at hc
 subst bp;clear hc;simp[Op.operands] at aj;have hx:=hE x aj;unfold Cc at h;split at h
 .rename_i i aX;rw[aX] at hx;split at h
  .rename_i m since seen last hb;split at h
   .rename_i es clock wr aG;obtain⟨h1,hall,h2,h3⟩:=h;obtain⟨p,hp,⟨_,dG⟩,O,hO,rm,rfl,mi⟩:=hH.live i _ hb;obtain⟨q,entries,gX,dj,aB,aD⟩:=J_ hH aG mi;simp at gX;subst gX;obtain⟨_,_,bT⟩:=hx.q0w hp;rw[dG,x4] at bT;have gG:(getObj p.blk).run P w=.ok (.mapIter (some q.blk) since seen.toArray last) w:=(by grind [Qu]);have cP:(getObj q.blk).run P w=.ok (.map entries clock) w:=(by grind [Qu]);let left:=entries.filter λe=>!seen.toArray.contains e.born;let bn:=left.filter (·.born<since);let new:=left.filter (·.born>=since);let bL:Array (Option MapEntry):=(if bn.isEmpty then #[none] else #[])++(bn++new).map some;have dh:0<bL.size:=by
     by_cases ho:bn.isEmpty=true
     .grind
     .have:bn.size≠0:=(by simp_all)
      grind
    obtain⟨k,w1,hk,d_,sO⟩:∃ k w1,k<bL.size/\(choose (.mapNext bL.size)).run P w=.ok k w1/\(w1=w\/w1=w.drew):=by
     rw[run_choose_drew];by_cases hf:(Question.mapNext bL.size).forced=true
     .exact⟨0,w,dh,by rw[z7 hf],.inl rfl⟩
     .refine⟨_,w.drew,?_,by rw[z6 hf],.inr rfl⟩;exact wP _ dh
    have iL:HRel ρ U w1:=by rcases sO with rfl|rfl;exact hH;exact hH.drew
    have e9:Ext ρ U w ρ U w1:=by grind [Ext.refl,Ext.drew]
    have ur:w1.heap[p.blk]?=some (.mapIter (some q.blk) since seen.toArray last):=by rcases sO with rfl|rfl<;>exact hO
    have ah:¬ ((!seen.toArray.isEmpty&&!entries.isEmpty&&entries.all (λe=>decide (e.born>=last)))=true):=by
     intro hh;simp only[z1] at hh;obtain⟨⟨h4,h5⟩,h6⟩:=hh;simp only[zw] at h1;rcases h1 with (h1|h1)|h1
     .simp_all
     .rw[List.isEmpty_iff] at h1;subst h1;have:entries=#[]:=by have:=aD.1;simpa using this
      subst this;simp at h5
     .obtain⟨kv,dE,af⟩:=xT.1 h1;obtain⟨j,hj⟩:=zY.1 dE;have bR:j<entries.toList.length:=by rw[aD.1];grind
      have he:=aD.2 j entries.toList[j] kv (z8 bR) hj;have:=Array.all_eq_true'.1 h6 entries.toList[j] (by rw[<-Array.mem_toList_iff];exact zi bR);have h7:=he.2.1
      grind
    have aP:∀ r,(match bL[k]? with
      |some (some e)=>(do setObj p.blk (.mapIter (some q.blk) since (seen.toArray.push e.born) clock);pure (Value.tuple #[.bool true,e.key,e.val]):Sem Value)
      |some none=>pure (.tuple #[.bool false])
      |none=>stuck "Next: no such candidate").run P w1=r->(Instr.next (ev x) false ty).run P w=r:=by
     intro r hr;rw[<-hr];simp only[Instr.next,bT,zx,gG,cP,zj];rw[z6 ah];simp only[zx];change ((choose (Question.mapNext bL.size)).run P w).andThen _=_;rw[d_];rfl
    have hval:∀ c w',(Instr.next (ev x) false ty).run P w=.ok c w'->(execOp ev ⟨dst,.next x false,ty,pos,after,guard⟩).run P w=.ok (.value c) w':=λc w' h=>by simp[execOp,h]
    have eB:bL[k]?=some bL[k]:=xy hk;cases hx:bL[k] with
    |none =>
     rw[hx] at eB;have aT:none∈bL:=hx▸Array.getElem_mem hk;have hold:bn.isEmpty=true:=by
      grind
     refine⟨_,w1,hval _ _ (aP _ (by rw[eB];rfl)),_,ρ,U,h2 ?_,VRel.q0i (LRel.cons (.bool _) (LRel.nil _ _)),iL,e9⟩;refine zf.2 λkv dE=>?_;obtain⟨j,hj⟩:=zY.1 dE;have bR:j<entries.toList.length:=by rw[aD.1];grind
     have he:=aD.2 j entries.toList[j] kv (z8 bR) hj;cases uu:seen.contains kv.2.2 with
     |true=>rfl
     |false =>
      simp only[Bool.false_or,zg];rcases zn kv.2.2 since with af|aZ
      .exfalso;have:entries.toList[j]∈bn:=by
        simp only[bn,left,Array.mem_filter,zg];refine⟨⟨by simp_all,?_⟩,by rw[he.2.1];exact af⟩;rw[he.2.1];simpa using uu
       simp_all
      .exact aZ
    |some e =>
     rw[hx] at eB;have aT:some e∈bL:=hx▸Array.getElem_mem hk;have na:e∈left:=by
      have h4:e∈bn++new:=by simp only[bL,Array.mem_append,Array.mem_map] at aT;simp_all
      grind
     obtain⟨hel,mj⟩:=Array.mem_filter.1 na;rw[<-Array.mem_toList_iff] at hel;obtain⟨j,hj⟩:=zY.1 hel;have bR:j<es.length:=by rw[<-aD.1];grind
     have he:=aD.2 j e es[j] hj (z8 bR);have iT:=h3 es[j] (zi bR) (by rw[<-he.2.1];simpa using mj);obtain⟨k1,k2⟩:=iL.setObj (o':=.iter m since (seen++[es[j].2.2]) clock) (O':=.mapIter (some q.blk) since (seen.toArray.push e.born) clock) hp hb ⟨q.blk,by rw[he.2.1];simp,mi⟩;have bU:VRel ρ U.n es[j].1 e.key:=by rw[he.1];exact V2 (by grind)
     refine⟨_,_,hval _ _ (aP _ (by
      rw[eB];simp only[zx,QL ur (λ_ _ _ e=>by cases e),zj,xc])),_,ρ,_,iT,VRel.q0i (LRel.cons (.bool _) (LRel.cons bU (LRel.cons he.2.2 (LRel.nil _ _)))),k1,e9.trans k2⟩
   .exact h.elim
  .exact h.elim
 .exact h.elim
theorem IU (hS:OkSpecs P S) {f:FuncId}{args:List Value}{U:Heap}{K:Value->Heap->Prop}(h:vcall S f args U K):VCalled P f args U K:=by
 unfold vcall at h;split at h
 .rename_i s hs;exact hS.fn f s hs _ _ _ h
 .exact h.elim
theorem Fj (hS:OkSpecs P S) {i:Nat}{args:List Value}{U:Heap}{K:Value->Heap->Prop}(h:Ee S i args U K):He P i args U K:=by
 unfold Ee at h;split at h
 .rename_i s hs;exact hS.yl i s hs _ _ _ h
 .exact h.elim
theorem FW {o:Oper}{vo:VOp}(hc:YO P o.op=vo) {ρ:Plc}{U:Heap}{w:World}{env:Env}{a:Act}(hH:HRel ρ U w) (hL:LRel ρ U.n env a.tmps.toList) {v:Value}{U':Heap}
  (h:Q6 vo (Q5 env) U=some (v,U')):R3 P ρ U w v U' (execOp a.eval o):=by
 cases hq:vo.quiet with
 |false=>exact(by grind [Q02,XX])
 |true =>obtain⟨rfl,c,dP,hr⟩:=IK hc hq hH (λx hx=>XX hL hx) h;exact⟨c,w,ρ,.inl (hr w (Like.refl ρ w)),dP,hH,Ext.refl _ _ _⟩
theorem V1 (hS:OkSpecs P S) {ro:Option Nat}{n:Nat}{o:Oper}{vo:VOp}(bp:YO P o.op=vo) {ρ:Plc}{U:Heap}{w:World}{env:Env}{a:Act}(hH:HRel ρ U w) (hL:LRel ρ U.n env a.tmps.toList)
  {K:Value->Heap->Prop}(h:vop S vo env U K) {next:Act->World->Prop}{Q':Exit->Act->World->Prop}(hn:∀ c w',Got ρ U w K c w'->next (a.put o.dst c) w'):o.wpIn (FF ro) n P a w next Q':=by
 refine⟨λf _=>Ei _ _,?_⟩;have cK:vo≠.bad:=by rintro rfl;exact h.elim
 rw[Oper.semAt_eq _ _ _ (RG bp cK)];by_cases aA:(∃ f bE,vo=.callF f bE)\/(∃ f bE,vo=.callV f bE)
 .have hc:KZ P o.op=some vo:=by
   grind [Uw]
  rcases Q0p (S:=S) hc hL aA h with⟨f,args,aq,hv,mX,hr⟩|⟨i,r,args,aq,hv,dx,mX,hr⟩
  .rcases IU hS hv ρ w aq hH mX with⟨h1,h2⟩|⟨c,hg,h2⟩
   .rw[hr,h1];exact⟨(by grind [RF]),(Au h2).mono (by simp_all)⟩
   .rw[hr,h2 w (Like.refl ρ w)];exact hn c w hg
  .obtain⟨p,hp,fn,tmps,eD,body,h1,h2⟩:=Fj hS hv ρ w aq hH mX;have uv:r=p.blk:=by
    cases dx with
    |yield _ _ _ hh=>exact hh p hp
   rw[hr,uv,h1];exact⟨(by grind [RF]),(CW h2).mono (by simp_all)⟩
 .by_cases g_:∃ x,vo=.ext (.nextMap x)
  .obtain⟨x,rfl⟩:=g_;have hc:PS P o.op=some (.nextMap x):=by
    rcases Uw bp cK with hc|⟨y,hy,hx⟩
    .have:=Ew hc;exact this.elim
    .cases hx;exact hy
   obtain⟨c,w',hr,hg⟩:=Eo hc hH (λx hx=>XX hL hx) h;rw[hr];exact hn c w' hg
  .have kL:∃ v U',Q6 vo (Q5 env) U=some (v,U')/\K v U':=by
    unfold vop at h;split at h
    .simp_all
    .simp_all
    .exact absurd ⟨_,rfl⟩ g_
    .cases dk:Q6 vo (Q5 env) U with
     |none=>rw[dk] at h;exact h.elim
     |some p=>rw[dk] at h;exact⟨p.1,p.2,rfl,h⟩
   obtain⟨v,U',dk,hK⟩:=kL;obtain⟨c,w',ρ',aP,dP,fQ,hE⟩:=FW bp hH hL dk;have hg:Got ρ U w K c w':=⟨v,ρ',U',hK,dP,fQ,hE⟩;rcases aP with aP|⟨aP,rfl⟩
   .rw[aP];exact hn c w' hg
   .rw[aP];exact hn undef w' hg
def Mks (B:Nat) (ds:List Deferred) (w:World):Prop:=B<=w.heap.size/\∃ Ds:List Nat,ds=Ds.map (λD=>⟨.collected D,#[]⟩)/\Ds.Nodup/\∀ D∈Ds,B<=D/\w.heap[D]?=some (.deferred (some []))
theorem Mks.nil {w:World}(h:B<=w.heap.size):Mks B [] w:=⟨h,[],rfl,List.nodup_nil,λ_ h=>by cases h⟩
theorem Mks.ext {ds:List Deferred}{ρ ρ':Plc}{U U':Heap}{w w':World}(h:Mks B ds w) (hH:HRel ρ U w) (hE:Ext ρ U w ρ' U' w'):Mks B ds w':=by
 obtain⟨h0,Ds,h1,h2,h3⟩:=h;refine⟨zJ h0 hE.size,Ds,h1,h2,λD hD=>⟨(h3 D hD).1,?_⟩⟩;have hb:=(h3 D hD).2;have af:D<w.heap.size:=by
  grind
 rw[hE.keep D af (λ⟨i,p,b,hp,_,_,uw⟩=>hH.q0k hb i p hp uw)];exact hb
def Br (B m:Nat) (ρ:Plc) (U:Heap) (w:World) (K:Env->Heap->Prop) (a':Act) (w':World):Prop :=
 ∃ ae ρ' U',K ae U'/\List.length ae=m/\HRel ρ' U' w'/\LRel ρ' U'.n ae a'.tmps.toList/\Mks B a'.defers w'/\Ext ρ U w ρ' U' w'
theorem E_ (hS:OkSpecs P S) {ro:Option Nat}{n:Nat}(ops:Array Oper) (Q:Exit->Act->World->Prop):∀ (l:List Oper) (lv:List VOper),l.mapM (J2 P ops)=some lv ->
  ∀ (env:Env) (U:Heap) (K:Env->Heap->Prop) (ρ:Plc) (w:World) (a:Act),T0 S lv env U K->HRel ρ U w->LRel ρ U.n env a.tmps.toList->Mks B a.defers w ->
  (∀ a' w',Br B (List.length env) ρ U w K a' w'->Q .normal a' w')->wpListIn (FF ro) n P ops Q l a w:=by
 intro l;induction l with
 |nil =>intro lv bV env U K ρ w a h hH hL hd hQ;simp at bV;subst bV;exact hQ a w ⟨env,ρ,U,h,rfl,hH,hL,hd,Ext.refl _ _ _⟩
 |cons o l ih =>
  intro lv bV env U K ρ w a h hH hL hd hQ;rw[x6] at bV;cases a_:J2 P ops o with
  |none=>simp[a_] at bV
  |some vo =>
   cases gW:l.mapM (J2 P ops) with
   |none=>simp[a_,gW] at bV
   |some sP =>
    simp[a_,gW] at bV;subst bV;simp only[T0] at h;cases hw:ZY env vo.guard with
    |none=>rw[hw] at h;exact h.elim
    |some b =>
     rw[hw] at h;obtain⟨cQ,bw,bp⟩:=Gg a_ hL hw;obtain⟨ht,hf⟩:=h;simp only[wpListIn];rw[cQ];cases b with
     |false =>rw[z6 (by simp)];exact⟨λf _=>Ei _ _,ih sP gW (JK env vo.dst undef) U K ρ w _ (hf rfl) hH (by rw[bw];exact Yc hL Jl o.dst) (by rw[JN];exact hd) (by grind [Zt])⟩
     |true =>
      rw[z7 rfl];refine V1 hS bp hH hL (ht rfl) λc w' ⟨v,ρ',U',hK,dP,fQ,hE⟩=>?_
      exact ih sP gW (JK env vo.dst v) U' K ρ' w' _ hK fQ (by rw[bw];exact Yc (hE.lrel hL) dP o.dst) (by rw[JN];exact hd.ext hH hE)
       (λa' pX ⟨nc,dX,aH,k1,k0,k2,k3,k4,k5⟩=>hQ a' pX ⟨nc,dX,aH,k1,by rw[k0,Zt],k2,k3,k4,hE.trans k5⟩)
theorem R6:∀ (l:List Nat) (vs:List Value) (env:Env),(Xn l vs env).length=env.length:=by
 intro l;induction l with
 |nil=>intro vs env;cases vs<;>rfl
 |cons i l ih =>
  intro vs env;cases vs with
  |nil=>rfl
  |cons v vs=>simp only[Xn];rw[ih];simp
theorem Ek {ρ:Plc}{n:Nat}:∀ (l:List Nat) (env base:Env) (cs:List Value),LRel ρ n env cs->LRel ρ n base cs->LRel ρ n (Xn l (Bp l env) base) cs:=by
 intro l;induction l with
 |nil=>intro env base cs _ hb;exact hb
 |cons i l ih =>
  intro env base cs he hb;simp only[Bp,zW,Xn];refine ih env _ cs he ?_;refine⟨by simp[hb.1],λj v c hv hc=>?_⟩;by_cases cq:i=j
  .subst cq;rcases zn i (List.length base) with af|aZ
   .rw[List.getElem?_set_self af] at hv;obtain rfl:=osj hv;have cL:i<List.length env:=by rw[he.1,<-hb.1];exact af
    have:env.getD i poison=env[i]:=by simp[List.getD,cL]
    rw[this];exact he.2 i _ c (z8 cL) hc
   simp_all
  .rw[List.getElem?_set_ne cq] at hv;exact hb.2 j v c hv hc
theorem EU {ρ:Plc}{n:Nat}(cs:List Value) {m:Nat}(h:m=cs.length):LRel ρ n (List.replicate m poison) cs :=
 ⟨by simp[h],λi v c hv _=>by
  have:=z_ hv;rw[List.mem_replicate] at this;rw[this.2];exact .poison c⟩
def RoRel (cB ro:Option Nat) (ρ:Plc) (n:Nat):Prop:=(cB=none/\ro=none)\/∃ i l,cB=some i/\ro=some l/\i<n/\∀ p,ρ i=some p->p.blk=l
theorem RoRel.ext {cB ro:Option Nat}{ρ ρ':Plc}{U U':Heap}{w w':World}(h:RoRel cB ro ρ U.n) (hE:Ext ρ U w ρ' U' w'):RoRel cB ro ρ' U'.n:=by
 rcases h with h|⟨i,l,h1,h2,h3,h4⟩
 .exact .inl h
 .exact .inr ⟨i,l,h1,h2,xh h3 hE.n,λp hp=>h4 p (hE.pl i h3 p hp)⟩
def Sound (P:Program) (S:VSpecs) (c:Code) (vc:VCode):Prop :=
 ∀ ⦃B:Nat⦄ (cB ro:Option Nat) (n:Nat) (Q:Exit->Env->Heap->Prop) (env:Env) (U:Heap) (ρ:Plc) (w:World) (a:Act),vwp S vc cB Q env U->HRel ρ U w->LRel ρ U.n env a.tmps.toList->Mks B a.defers w->RoRel cB ro ρ U.n ->
  ∀ (Q':Exit->Act->World->Prop),(∀ e a' w',Br B (List.length env) ρ U w (Q e) a' w'->Q' e a' w')->c.wpIn (FF ro) n P Q' a w
theorem IB {ρ:Plc}{n:Nat}:∀ (ps:List Nat) (vs cs:List Value) (env:Env) (tmps:Array Value),LRel ρ n env tmps.toList->LRel ρ n vs cs ->
  LRel ρ n (H9 env ps vs) ((ps.zip cs).foldl (λ(tmps:Array Value) (q:Nat×Value)=>tmps.setIfInBounds q.1 q.2) tmps).toList:=by
 intro ps;induction ps with
 |nil=>intro vs cs env tmps h _;cases vs<;>exact h
 |cons p ps ih =>
  intro vs cs env tmps h hv;cases vs with
  |nil =>
   cases cs with
   |nil=>exact h
   |cons _ _=>have:=hv.1;simp at this
  |cons v vs =>
   cases cs with
   |nil=>have:=hv.1;simp at this
   |cons c cs =>simp only[H9,List.zip_cons_cons,xJ];refine ih vs cs _ _ ?_ ⟨by have:=hv.1;simpa using this,λi a b ha hb=>hv.2 (i+1) a b (by simpa using ha) (by simpa using hb)⟩;rw[Array.toList_setIfInBounds];exact h.set p (hv.2 0 v c rfl rfl)
theorem Xi {w:World}{l:Nat}{r:Loop}(h:w.heap[l]?=some (.loop r)):(Instr.getLoop l).run P w=.ok r w:=by simp[Instr.getLoop,Qu h (λ_ _ _ e=>by cases e)]
theorem N3 {ρ:Plc}{U:Heap}{w:World}(hH:HRel ρ U w) {i:Nat}{env:Env}{r:Loop}{st:LoopState}{pend:Option Code}{wr:Bool}(h:U.get i=some (.obj (.lp env r st pend) wr)) :
  ∃ p,ρ i=some p/\w.heap[p.blk]?=some (.loop {r with state:=st,pending:=pend})/\LRel ρ U.n env r.tmps.toList:=by
 obtain⟨p,hp,_,O,h1,rfl,h2⟩:=hH.live i _ h;exact⟨p,hp,h1,h2⟩
theorem Sk {ρ:Plc}{U:Heap}{w:World}(hH:HRel ρ U w) {i:Nat}{env:Env}{r:Loop}{st:LoopState}{pend:Option Code}{p:Pl}(hp:ρ i=some p) (h:U.get i=some (.obj (.lp env r st pend) true)) (mn:LoopState) (bC:Option Code) :
  HRel ρ (U.upd i (.obj (.lp env r mn bC) true)) (BX w p.blk (.loop {r with state:=mn,pending:=bC})) /\
  Ext ρ U w ρ (U.upd i (.obj (.lp env r mn bC) true)) (BX w p.blk (.loop {r with state:=mn,pending:=bC})):=by
 obtain⟨p',bh,h1,h2⟩:=N3 hH h;exact hH.setObj hp h ⟨rfl,h2⟩
theorem Cv {eD body:Code}{va vb:VCode}(ha:Sound P S eD va) (hb:Sound P S body vb) (ps:List Nat) (env:Env) (r:Loop) (eF:r.assign=eD) (dy:r.body=body) (kM:r.params.toList=ps) (i:Nat) :
  Kr P i (Al (vwp S va (some i)) (vwp S vb (some i)) ps env r i):=by
 intro args U K h ρ w aq hH hL;obtain⟨h1,h2,h3⟩:=h;obtain⟨p,hp,aB,kN⟩:=N3 hH h1;refine⟨p,hp,r.fn,(r.params.zip aq).foldl (λtmps (t,a)=>tmps.setIfInBounds t a) r.tmps,r.assign,r.body,?_,?_⟩
 .have aC:aq.size=r.params.size:=by
   have h4:=hL.1
   grind
  simp[Instr.yield,Xi aB,aC]
 .refine roundIn_of_wpIn (F:=Fence.wide) trivial ?_;rw[eF,dy];refine ha (some i) (some p.blk) 0 _ _ U ρ w _ h3 hH ?_ (Mks.nil (zd _)) (.inr ⟨i,p.blk,rfl,rfl,U.lt h1,(by simp_all)⟩) _ ?_
  .have:=IB ps args aq.toList env r.tmps kN hL;rw[<-kM,<-Array.toList_zip,Array.foldl_toList] at this;rw[kM] at this;exact this
  .intro e a1 w1 ⟨a7,ρ1,σ1,k1,k0,k2,k3,k4,k5⟩;cases e with
   |normal =>
    obtain⟨k6,k7⟩:=k1;obtain⟨p1,qY,jM,sQ⟩:=N3 k2 k6;have qZ:p1=p:=by have:=k5.pl i (U.lt h1) p1 qY;simp_all
    subst qZ;obtain⟨j1,j2⟩:=Sk k2 qY k6 .busy none;refine⟨_,by simp[Instr.beginRound,Xi jM,QL jM (λ_ _ _ e=>by cases e)];rfl,?_⟩;refine hb (some i) (some p1.blk) 0 _ _ _ ρ1 _ a1 k7 j1 k3 (k4.ext k2 j2) (.inr ⟨i,p1.blk,rfl,rfl,σ1.lt k6,(by simp_all)⟩) _ ?_;intro e2 a2 w2 ⟨aM,ρ2,σ2,m1,m0,m2,m3,m4,m5⟩;obtain⟨m6,m7⟩:=m1;obtain⟨p2,dw,dU,sR⟩:=N3 m2 m6;have qZ:p2=p1:=by have h8:=m5.pl i (by rw[Heap.q2n];exact σ1.lt k6) p2 dw;simp_all
    subst qZ;cases e2 with
    |normal =>obtain⟨q1,q2⟩:=Sk m2 dw m6 .ready none;refine⟨.bool true,_,?_,_,rfl,.bool true,ρ2,_,m7,.bool _,q1,k5.trans (j2.trans (m5.trans q2))⟩;simp[Instr.endRound,Xi dU,QL dU (λ_ _ _ e=>by cases e)]
    |ret =>obtain⟨q1,q2⟩:=Sk m2 dw m6 .done (some .ret);refine⟨.bool false,_,?_,_,rfl,.bool false,ρ2,_,m7,.bool _,q1,k5.trans (j2.trans (m5.trans q2))⟩;simp[Instr.endRound,Xi dU,QL dU (λ_ _ _ e=>by cases e)]
    |exit id =>obtain⟨q1,q2⟩:=Sk m2 dw m6 .done (some (.exit id));refine⟨.bool false,_,?_,_,rfl,.bool false,ρ2,_,m7,.bool _,q1,k5.trans (j2.trans (m5.trans q2))⟩;simp[Instr.endRound,Xi dU,QL dU (λ_ _ _ e=>by cases e)]
    |goto l=>exact m7.elim
    |panic ch=>exact m7.elim
    |outgrown=>exact m7.elim
   |exit id=>exact k1.elim
   |goto l=>exact k1.elim
   |ret=>exact k1.elim
   |panic ch=>exact k1.elim
   |outgrown=>exact k1.elim
theorem Heap.ext' {U U':Heap}(h:∀ j,U.get j=U'.get j) (hn:U.n=U'.n):U=U':=by obtain⟨g,n,wf⟩:=U;obtain⟨g',n',wu⟩:=U';have hg:g=g':=funext h;simp_all
theorem Mks.push {ds:List Deferred}{w:World}(h:Mks B ds w):Mks B ({target:=.collected w.heap.size,args:=#[]}::ds) (w.alloc (.deferred (some []))):=by
 obtain⟨h0,Ds,h1,h2,h3⟩:=h;have af:∀ D∈Ds,D<w.heap.size:=(by grind);refine⟨by rw[World.size_alloc];omega,w.heap.size::Ds,by rw[h1];rfl,(by grind),λD hD=>?_⟩;rcases zG.1 hD with rfl|hD
 .refine⟨h0,?_⟩;show (w.heap.push _)[w.heap.size]?=_;simp
 .refine⟨(h3 D hD).1,?_⟩;show (w.heap.push _)[D]?=_
  grind
theorem Ext.q1e {ρ:Plc}{U:Heap}(w:World) (O:Obj):Ext ρ U w ρ U (w.alloc O) :=
 ⟨rfl,rfl,rfl,by have:=World.size_alloc w O;omega,λB hB _=>by show (w.heap.push _)[B]?=_;grind,λ_ _ h=>h,zd _,λ_ _ _ h=>h⟩
theorem HRel.q1e {ρ:Plc}{U:Heap}{w:World}(h:HRel ρ U w) (O:Obj):HRel ρ U (w.alloc O) :=
 h.world (by have:=World.size_alloc w O;omega) (λi p hp=>by show (w.heap.push _)[p.blk]?=_;rw[Array.getElem?_push,z6 (by have:=h.lt i p hp;omega)]) λg cs hg=>by show (w.heap.push _)[g]?=_;rw[Array.getElem?_push,z6 (by have:=h.tab.lt hg;omega)]
theorem CR {cB ro:Option Nat}{ρ:Plc}{U:Heap}{w:World}{a:Act}{env:Env}(hH:HRel ρ U w) (hL:LRel ρ U.n env a.tmps.toList) (hd:Mks B a.defers w) (hR:RoRel cB ro ρ U.n) (aL:Q8m U cB) (fn:FuncId) (ps:Array Nat) (eD body:Code) :
  ∃ (r:Loop) (mark:List Deferred) (w1:World) (ρ1:Plc),(Instr.enterLoop fn a.tmps ps eD body ro).run P w=.ok (w1.heap.size-1,mark) w1/\r.assign=eD/\r.body=body/\r.params=ps /\
   HRel ρ1 (U.push (.obj (.lp env r .ready none) true)) w1/\Ext ρ U w ρ1 (U.push (.obj (.lp env r .ready none) true)) w1/\Mks B (mark++a.defers) w1 /\
   (∀ p,ρ1 U.n=some p->p.blk=w1.heap.size-1):=by
 rcases hR with⟨rfl,rfl⟩|⟨i,l,rfl,rfl,hi,fz⟩
 .let w0:=w.alloc (.deferred (some []));have fA:HRel ρ U w0:=hH.q1e _;have q9:Ext ρ U w ρ U w0:=Ext.q1e _ _;let r:Loop:={state:=.ready,pending:=none,fn,tmps:=a.tmps,params:=ps,assign:=eD,body:=body,defers:=w.heap.size};obtain⟨ρ1,h1,h2,h3⟩:=fA.newObj (.lp env r .ready none) (.loop r) ⟨rfl,hL⟩;have aC:(w0.alloc (.loop r)).heap.size-1=w0.heap.size:=by simp_all
  refine⟨r,[{target:=.collected w.heap.size,args:=#[]}],w0.alloc (.loop r),ρ1,?_,rfl,rfl,rfl,h2,q9.trans h3,?_,λp hp=>?_⟩
  .rw[aC];simp[Instr.enterLoop];exact⟨(World.size_alloc w _).symm,rfl⟩
  .exact(hd.push).ext fA h3
  simp_all
 .obtain⟨ux,r0,st,pend,hb⟩:=aL;obtain⟨p,hp,aB,_⟩:=N3 hH hb;have aN:=fz p hp;subst aN;let r:Loop:={state:=.ready,pending:=none,fn,tmps:=a.tmps,params:=ps,assign:=eD,body:=body,defers:=r0.defers};obtain⟨ρ1,h1,h2,h3⟩:=hH.newObj (.lp env r .ready none) (.loop r) ⟨rfl,hL⟩;have aC:(w.alloc (.loop r)).heap.size-1=w.heap.size:=by simp_all
  refine⟨r,[],w.alloc (.loop r),ρ1,?_,rfl,rfl,rfl,h2,h3,?_,λp hp=>?_⟩
  .rw[aC];simp[Instr.enterLoop,Xi aB];rfl
  .exact hd.ext hH h3
  simp_all
theorem Ce (hS:OkSpecs P S) {eD body:Code}{va vb:VCode}(ha:Sound P S eD va) (hb:Sound P S body vb) (g:Operand) (hg:JL g=true) (ps:Array Nat):Sound P S (.rangeFunc g ps eD body) (.rangeF g ps.toList va vb):=by
 intro B cB ro n Q env U ρ w a h hH hL hd hR Q' hQ;simp only[vwp,SP] at h;have gh:=XX hL hg;split at h
 .rename_i f first cap aZ
  rw[aZ] at gh;split at h
  .rename_i T hT;obtain⟨aL,h⟩:=h;refine wpIn_rangeFunc λfn _=>?_;obtain⟨r,mark,w1,ρ1,he,eF,dy,kM,iL,e9,uy,eu⟩:=CR (P:=P) hH hL hd hR aL fn ps eD body;obtain⟨hU,hit⟩:=hS.it f T hT;obtain⟨gs,ds,qf,me,jC⟩:∃ gs ds,a.eval g=.func (.func f) gs ds/\LRel ρ U.n first.toList gs.toList/\LRel ρ U.n cap.toList ds.toList:=by
    cases qf:a.eval g with
    |func wv gs ds =>
     rw[qf] at gh;cases gh with
     |func _ _ _ _ _ k1 k2 k3 k4=>exact⟨gs,ds,rfl,LRel.of_array k1 k3,LRel.of_array k2 k4⟩
    |_=>rw[qf] at gh;cases gh
   have hY:Kr P U.n (Al (vwp S va (some U.n)) (vwp S vb (some U.n)) ps.toList env r U.n):=(by grind [Cv]);have kO:=hit U.n _ hY _ _ _ (h r) ρ1 w1 (gs++#[.func (.yield (w1.heap.size-1)) #[] #[]]++ds) iL (by
    have k1:=e9.lrel me;have k2:=e9.lrel jC;have k3:LRel ρ1 (U.push (.obj (.lp env r .ready none) true)).n [.func (.yield U.n) #[] #[]] [.func (.yield (w1.heap.size-1)) #[] #[]] :=
     LRel.cons (.yield _ _ (by simp) (λp hp=>(eu p hp).symm)) (LRel.nil _ _)
    have:=(k1.append k3).append k2;simpa using this)
   refine⟨w1.heap.size-1,mark,w1,{target:=.fn (.func f) ds,args:=gs++#[.func (.yield (w1.heap.size-1)) #[] #[]]},w1,f,gs++#[.func (.yield (w1.heap.size-1)) #[] #[]]++ds,w1,?_,?_,λ_ _=>Ei _ _,?_,(by grind [RF]),?_⟩
   .rw[Q0r];exact he
   .simp[resolve,qf,Deferred.ofValue];rfl
   .simp only[invoke];exact K2 hU _ _
   .refine (Au kO).mono λe w3 ⟨c,uz,v,ρ3,σ3,k1,k2,k3,k4⟩=>?_;subst uz;unfold Q0g at k1;split at k1
    .rename_i ae r' st pend mT;obtain⟨bB,k1⟩:=k1;obtain⟨p3,ng,h_,sS⟩:=N3 k3 mT;have aN:p3.blk=w1.heap.size-1:=eu p3 (k4.pl U.n (by simp) p3 ng);obtain⟨q1,q2⟩:=Sk k3 ng mT .exhausted pend;rw[aN] at h_ q1 q2;obtain⟨q3,q4⟩:=q1.kill U.n;have fx:(σ3.upd U.n (.obj (.lp ae r' .exhausted pend) true)).kill U.n=σ3.kill U.n:=by
      apply Heap.ext'
      .grind [Heap.q0h,Heap.q0d,Heap.q0b]
      .rfl
     rw[fx] at q3 q4;have jN:=e9.trans (k4.trans (q2.trans q4));have dH:=uy.ext iL (k4.trans (q2.trans q4));refine⟨pend,_,by simp[Instr.endLoop,Xi h_,QL h_ (λ_ _ _ e=>by cases e),bB];rfl,?_⟩;have g_:∀ K:Env->Heap->Prop,K env (σ3.kill U.n)->Br B (List.length env) ρ U w K {a with defers:=mark++a.defers} (BX w3 (w1.heap.size-1) (.loop {r' with state:=.exhausted,pending:=pend})):=λK hK =>
      ⟨env,_,_,hK,rfl,q3,jN.lrel hL,dH,jN⟩
     grind [wpIn_ret,wpIn_exit]
    .exact k1.elim
  .exact h.elim
 .exact h.elim
end
end Go.V
namespace Go.V
open Go
theorem WV {ev fc:Operand->Value}(x:Option Operand) (d:Nat) (h:∀ y∈x.toList,ev y=fc y):ZX ev x d=ZX fc x d:=by
 cases x with
 |none=>rfl
 |some y=>simp only[ZX];rw[h y (by simp)]
theorem Fp {o:XOp}{ev fc:Operand->Value}{U:Heap}(h:∀ x∈o.opds,ev x=fc x):Zd o ev U=Zd o fc U:=by cases o<;>simp only[XOp.opds,zG,List.not_mem_nil,or_false,forall_eq_or_imp,forall_eq] at h<;>simp only[Zd]<;>(try simp only[h])
theorem GJ {o:VOp}{ev fc:Operand->Value}{U:Heap}(h:∀ x∈o.opds,ev x=fc x):Q6 o ev U=Q6 o fc U:=by
 cases o
 case build z ps =>
  have:(ps.map λp=>(p.1,p.2.1,ev p.2.2))=ps.map λp=>(p.1,p.2.1,fc p.2.2):=zZ λp hp=>by rw[h p.2.2 (zM.2 ⟨p,hp,rfl⟩)]
  simp only[Q6,this]
 case buildSlice e z n ps =>
  have:(ps.map λp=>(p.1*e.sz,e.sz,ev p.2))=ps.map λp=>(p.1*e.sz,e.sz,fc p.2):=zZ λp hp=>by rw[h p.2 (zM.2 ⟨p,hp,rfl⟩)]
  simp only[Q6,this]
 case makeFunc fn a b =>
  have h1:a.map ev=a.map fc:=zZ λx hx=>h x (w7 _ hx);have h2:b.map ev=b.map fc:=zZ λx hx=>h x (xS _ hx);simp only[Q6,h1,h2]
 case slice size x lo hi mx =>
  have h1:=WV lo 0 (λy hy=>h y (by simp[VOp.opds] at *;exact .inr (.inl hy)));have h2:∀ n,ZX ev hi n=ZX fc hi n:=λn=>WV hi n (λy hy=>h y (by simp[VOp.opds] at *;exact .inr (.inr (.inl hy))));have h3:=WV mx 0 (λy hy=>h y (by simp[VOp.opds] at *;exact .inr (.inr (.inr hy))));have h4:=h x (by simp[VOp.opds]);simp only[Q6,h4];cases fc x<;>simp only[h1,h2,h3]
 case sliceStr x lo hi =>
  have h1:=WV lo 0 (λy hy=>h y (by simp[VOp.opds] at *;exact .inr (.inl hy)));have h2:∀ n,ZX ev hi n=ZX fc hi n:=λn=>WV hi n (λy hy=>h y (by simp[VOp.opds] at *;exact .inr (.inr hy)));have h4:=h x (by simp[VOp.opds]);simp only[Q6,h4];cases fc x<;>simp only[h1,h2]
 case ext o=>exact Fp h
 all_goals
  simp only[VOp.opds,zG,List.not_mem_nil,or_false,forall_eq_or_imp,forall_eq] at h;simp only[Q6];try simp only[h]
theorem Lp {S:VSpecs}{o:VOp}{env ae:Env}{U:Heap}{K:Value->Heap->Prop}(h:∀ x∈o.opds,Q5 env x=Q5 ae x):vop S o env U K=vop S o ae U K:=by
 cases o
 case callF f bE =>
  have:bE.map (Q5 env)=bE.map (Q5 ae):=zZ h;simp only[vop,this]
 case callV f bE =>
  have h1:Q5 env f=Q5 ae f:=h f (by simp[VOp.opds]);have h2:bE.map (Q5 env)=bE.map (Q5 ae):=zZ λx hx=>h x (by simp[VOp.opds,hx]);simp only[vop,h1,h2]
 case ext o =>
  by_cases hx:∃ x,o=.nextMap x
  .obtain⟨x,rfl⟩:=hx;have h1:Q5 env x=Q5 ae x:=h x (by simp[VOp.opds,XOp.opds]);simp only[vop,h1]
  .have e1:=GJ (U:=U) h;cases o<;>first|exact absurd ⟨_,rfl⟩ hx|(simp only[vop];rw[e1])
 all_goals
  have e1:=GJ (U:=U) h;simp only[vop];rw[e1]
theorem Heap.Le.refl (U:Heap):U.Le U:=⟨zd _,λ_ _ h=>h⟩
theorem Heap.Le.trans {U U' aH:Heap}(h:U.Le U') (k:U'.Le aH):U.Le aH:=⟨zJ h.1 k.1,λi b hb=>k.2 i b (h.2 i b hb)⟩
theorem Q6y {U U':Heap}(h:U.Le U') {esz:Nat}{v:Value}{xs:List Value}(hx:U.sl esz v=some xs):U'.sl esz v=some xs:=by
 unfold Heap.sl at hx |-;split at hx
 .exact hx
 .rename_i i o n c;split at hx
  .rename_i cs e wr t hb;simp only[h.2 i _ hb];exact hx
  .cases hx
 .cases hx
theorem S8 {U U':Heap}(h:U.Le U') {m:Nat}{x:List JH×Nat×Bool}(hx:U.mapAt m=some x):U'.mapAt m=some x:=by
 unfold Heap.mapAt at hx |-;split at hx
 .rename_i es clock wr hb;simp only[h.2 m _ hb];exact hx
 .cases hx
theorem FA {U U':Heap}(h:U.Le U') {kd:Nat}{a b:Value}{r:Bool}(hx:J8 kd a b U=some r):J8 kd a b U'=some r:=by
 unfold J8 at hx |-
 split at hx<;>first
  |exact hx
  |(cases hx;done)
  |skip
 rename_i i o j q;split at hx
 .rename_i hc;obtain⟨h1,h2,h3⟩:=hc;obtain⟨b,hb⟩:=Option.isSome_iff_exists.1 h3;rw[z7 ⟨h1,h2,by rw[h.2 _ _ hb];rfl⟩];exact hx
 .cases hx
theorem LK {neg:Bool}{s:List MK}{x y:Operand}{ev:Operand->Value}{U U' σ1:Heap}{v:Value}(h:Zd (.eqAgg neg s x y) ev U=some (v,σ1)):Zd (.eqAgg neg s x y) ev U'=some (v,U'):=by
 simp only[Zd] at h |-;split at h
 .simp_all
 .cases h
theorem Og {o:XOp}{ev:Operand->Value}{U U' σ1:Heap}{v:Value}(hk:(VOp.ext o).kind≠2) (h:Zd o ev U=some (v,σ1)) (hl:U.Le U'):Zd o ev U'=some (v,U'):=by
 cases o<;>simp only[VOp.kind,VOp.quiet,XOp.quiet] at hk<;>try (exact absurd rfl hk)
 case eqAgg neg s x y=>exact LK h
 case eqNil kd neg x y =>
  simp only[Zd] at h |-
  grind [FA]
 case lookup mk z ok x i =>
  simp only[Zd] at h |-;split at h
  .rename_i bt;rw[z7 bt];split at h
   .simp_all
   .rename_i m wx;split at h
    .rename_i es clock wr hm;simp only[S8 hl hm]
     grind
    .cases h
   .cases h
  .cases h
 case lenMap x =>
  simp only[Zd] at h |-
  grind [S8]
 case entry x =>
  simp only[Zd] at h |-;split at h
  .rename_i i hx;split at h
   .rename_i m since seen last wr hb;simp only[hl.2 i _ hb];split at h
    .rename_i es clock kH b hm di;simp only[S8 hl hm,di]
     grind
    .cases h
   .cases h
  .cases h
 case toUnsafe x =>
  simp only[Zd] at h |-;split at h
  .simp_all
  .rename_i i o hx;split at h
   .rename_i c e wr t hb;simp only[hl.2 i _ hb];simp_all
   .cases h
  .cases h
 case fromUnsafe u sz x =>
  simp only[Zd] at h |-;split at h
  .simp_all
  .rename_i i o hx;split at h
   .rename_i c e hb;simp only[hl.2 i _ hb];simp_all
   .cases h
  .cases h
 case sliceData x =>
  simp only[Zd] at h |-;split at h
  .simp_all
  .rename_i i o n cap hx;split at h
   .rename_i hc;obtain⟨h1,h2⟩:=hc;obtain⟨b,hb⟩:=Option.isSome_iff_exists.1 h2;rw[z7 ⟨h1,by rw[hl.2 _ _ hb];rfl⟩];simp_all
   .cases h
  .cases h
 case bytesStr x =>
  simp only[Zd] at h |-;split at h
  .grind [Q6y]
  .cases h
theorem BY {o:VOp}{ev:Operand -> Value}{U U' σ1:Heap}{v:Value}(hk:o.kind = 0) (h:Q6 o ev U = some (v, σ1)):Q6 o ev U' = some (v, U'):=by
  cases o
  case ext o =>
    cases o <;> first | (simp [VOp.kind, VOp.quiet, XOp.quiet] at hk; done) | skip
    case eqAgg neg s x y => exact LK h
  case slice size x lo hi mx => cases mx <;> simp [VOp.kind, VOp.quiet] at hk
  case build z ps =>
    simp only [Q6] at h |-;split at h
    . simp_all
    . cases h
  all_goals first
    | (simp [VOp.kind, VOp.quiet] at hk; done)
    | skip
  all_goals
    simp only [Q6] at h |-
    (repeat' split at h) <;> first
      | (cases h; done)
      | (rename_i q_; obtain ⟨rfl, rfl, rfl⟩:=q_; simp_all; done)
      | (simp_all; done)
      | (simp_all
         obtain ⟨rfl, _⟩:=h
         first
          | rw [z6 (by omega)]
          | rw [z7 (by omega)])
theorem HG {o:VOp}{ev:Operand->Value}{U U' σ1:Heap}{v:Value}(hk:o.kind≠2) (h:Q6 o ev U=some (v,σ1)) (hl:U.Le U'):Q6 o ev U'=some (v,U'):=by
 cases o
 case ext o=>exact Og hk h hl
 case load agg size a =>
  simp only[Q6] at h |-;split at h
  .split at h
   .split at h
    .rename_i hall;rw[z7 hall];split at h
     .simp_all
     .cases h
    .cases h
   .cases h
  .rename_i i o hx;split at h
   .rename_i c e wr t hb;simp only[hl.2 i _ hb];split at h
    .simp_all
    .cases h
   .cases h
  .cases h
 case slice size x lo hi mx =>
  cases mx with
  |some m=>simp[VOp.kind,VOp.quiet] at hk
  |none =>
   simp only[Q6] at h |-;split at h
   .rename_i a n cap hx;split at h
    .rename_i l k eu bX;unfold W5 at h |-;split at h
     .simp_all
     .rename_i i o n' al heq;split at h
      .rename_i c e wr t hb;simp only[hl.2 i _ hb];simp_all
      .cases h
     .cases h
    .rename_i hm;cases hm
    .cases h
   .cases h
 all_goals first
  |(exact absurd rfl hk)
  |(exact BY rfl h)
section
variable {P:Program}{S:VSpecs}{B:Nat}
def EL (lv:List VOper) (env:Env) (tr:Nat->Value) (A:Nat->Bool):Nat->Env
 |0=>env
 |i+1=>if A i then JK (EL lv env tr A i) ((lv[i]?).bind (·.dst)) (tr i) else EL lv env tr A i
theorem YS (lv:List VOper) (env:Env) (tr:Nat->Value) (A:Nat->Bool):∀ i,List.length (EL lv env tr A i)=List.length env
 |0=>rfl
 |i+1=>by
  simp only[EL];split
  .rw[Zt];exact YS lv env tr A i
  .exact YS lv env tr A i
theorem Ki (lv:List VOper) (env:Env) {tr tr':Nat->Value}{A B:Nat->Bool}:∀ i,(∀ l,l<i->tr l=tr' l)->(∀ l,l<i->A l=B l)->EL lv env tr A i=EL lv env tr' B i
 |0,_,_=>rfl
 |i+1,h,h'=>by simp only[EL];rw[Ki lv env i (λl hl=>h l (by omega)) (λl hl=>h' l (by omega)),h i (by omega),h' i (by omega)]
theorem NZ (env:Env) (d:Option Nat) (v:Value) {x:Nat}(h:d≠some x):(JK env d v)[x]?=env[x]?:=by
 cases d with
 |none=>rfl
 |some d=>simp only[JK];rw[List.getElem?_set_ne (by rintro rfl;exact h rfl)]
theorem Q3s (lv:List VOper) (env:Env) {tr tr':Nat->Value}{A:Nat->Bool}:∀ i,(∀ l,l<i->A l=true->tr l=tr' l)->EL lv env tr A i=EL lv env tr' A i
 |0,_=>rfl
 |i+1,h=>by simp only[EL];rw[Q3s lv env i λl hl hA=>h l (by omega) hA];simp_all
theorem M5 (lv:List VOper) (env:Env) (tr:Nat->Value) {A B:Nat->Bool}(x:Nat):∀ i,(∀ l,l<i->(lv[l]?).bind (·.dst)=some x->A l=B l)->(EL lv env tr A i)[x]?=(EL lv env tr B i)[x]?
 |0,_=>rfl
 |i+1,h=>by
  have ih:=M5 lv env tr x i (λl hl hd=>h l (by omega) hd);by_cases hd:(lv[i]?).bind (·.dst)=some x
  .have mq:=h i (by omega) hd;simp only[EL];rw[mq];split
   .rw[hd];simp only[JK,xx];rw[YS,YS];rfl
   .exact ih
  .simp only[EL]
   grind [NZ]
theorem Gi (lv:List VOper) (env:Env) (tr:Nat->Value) (j:Nat):∀ i,j<=i->EL lv env tr (λl=>decide (l<j)) i=EL lv env tr (λ_=>true) j
 |0,h=>by
  obtain rfl:j=0:=by omega
  rfl
 |i+1,h=>by
  by_cases hj:j=i+1
  .subst hj;exact Ki lv env _ (λ_ _=>rfl) (λl hl=>by simp[hl])
  .simp only[EL];rw[z6 (by simp;omega)];exact Gi lv env tr j i (by omega)
def DFact (S:VSpecs) (d:DInfo) (lv:List VOper) (env:Env) (tr:Nat->Value) (hp:Nat->Heap) (u:Nat) (i:Nat):Prop :=
 ∀ v,lv[i]?=some v->∃ b,ZY (EL lv env tr (λ_=>true) i) v.guard=some b /\
  (b=true->v.op.kind=2->vop S v.op (EL lv env tr (λ_=>true) i) (hp (d.rank i)) (λv' U'=>v'=tr i/\U'=hp (d.rank i+1))) /\
  (b=true->v.op.kind=1->∀ r,d.kmin i<=r->r<=d.kmax i->r<=u->∃ U',Q6 v.op (Q5 (EL lv env tr (λ_=>true) i)) (hp r)=some (tr i,U')) /\
  (b=true->v.op.kind≠1->v.op.kind≠2->∃ U',Q6 v.op (Q5 (EL lv env tr (λ_=>true) i)) (hp (d.rank i))=some (tr i,U')) /\
  (b=false->tr i=undef/\(v.op.kind=2->hp (d.rank i+1)=hp (d.rank i)))
def Q4h (d:DInfo) (lv:List VOper) (env:Env) (tr:Nat->Value) (i:Nat) (pend:List (Nat×(Heap->Prop))):Prop :=
 ∀ l,l<i->∀ v,lv[l]?=some v->ZY (EL lv env tr (λ_=>true) l) v.guard=some true->v.op.kind=1->d.rank i+1<=d.kmax l->(d.kmax l,JC v.op (Q5 (EL lv env tr (λ_=>true) l)) (tr l))∈pend
inductive Know (S:VSpecs) (d:DInfo) (lv:List VOper) (env:Env) (K:Env->Heap->Prop):List Nat->Nat->(Nat->Value)->(Nat->Heap)->Prop
 |full {nd:List Nat}{tr:Nat->Value}{hp:Nat->Heap}(hF:∀ l,l<lv.length->l∉nd->DFact S d lv env tr hp (d.rank lv.length) l) (hK:K (EL lv env tr (λ_=>true) lv.length) (hp (d.rank lv.length))):Know S d lv env K nd lv.length tr hp
 |part {nd:List Nat}{i:Nat}{tr:Nat->Value}{hp:Nat->Heap}{v:VOper}(hv:lv[i]?=some v) (hk:v.op.kind=2) (hw:ZY (EL lv env tr (λ_=>true) i) v.guard=some true)
   (hF:∀ l,l<i->l∉nd->DFact S d lv env tr hp (d.rank i) l) (jO:∀ j,i<j->j<lv.length->∃ e u,i<=e/\e<j/\lv[e]?=some u/\((∃ x,u.dst=some x/\∀ v,lv[j]?=some v->x∈Kg v)\/(u.op.kind=2/\∀ v,lv[j]?=some v->v.op.kind=2)))
   (R:Value->Heap->Prop) (fB:vop S v.op (EL lv env tr (λ_=>true) i) (hp (d.rank i)) R)
   (I:∀ u U',R u U'->Nat) (T:∀ u U',R u U'->Nat->Value) (H:∀ u U',R u U'->Nat->Heap)
   (hT:∀ u U' h,i<I u U' h/\(∀ l,l<i->T u U' h l=tr l)/\T u U' h i=u/\(∀ r,r<=d.rank i->H u U' h r=hp r)/\H u U' h (d.rank i+1)=U')
   (next:∀ u U' h,Know S d lv env K (i::nd) (I u U' h) (T u U' h) (H u U' h)):Know S d lv env K nd i tr hp
theorem C5 {r:Nat}{U:Heap}:∀ {l:List (Nat×(Heap->Prop))},Jz r U l->∀ c∈l,r<=c.1->c.2 U
 |[],_,_,h=>by cases h
 |x::l,h,c,hc=>by
  rcases zG.1 hc with rfl|hc
  .exact h.1
  .exact C5 h.2 c hc
theorem Hr {op:VOp}{ev:Operand->Value}{v:Value}{Z:Heap}(h:JC op ev v Z):∃ U',Q6 op ev Z=some (v,U'):=by
 unfold JC at h;cases hv:Q6 op ev Z with
 |none=>rw[hv] at h;exact h.elim
 |some q =>rw[hv] at h;have h:q.1=v:=h;exact⟨q.2,by rw[<-h]⟩
theorem DFact.congr {d:DInfo}{lv:List VOper}{env:Env}{tr tr':Nat->Value}{hp bh:Nat->Heap}{u u' l:Nat}(h:DFact S d lv env tr hp u l) (ht:∀ k,k<=l->tr' k=tr k) (hh:∀ r,r<=u->bh r=hp r) (hr:d.rank l<=u) (h2:∀ v,lv[l]?=some v->v.op.kind=2->d.rank l+1<=u)
  (hu:∀ v,lv[l]?=some v->ZY (EL lv env tr (λ_=>true) l) v.guard=some true->v.op.kind=1->∀ r,u<r->r<=u'->r<=d.kmax l->∃ U',Q6 v.op (Q5 (EL lv env tr (λ_=>true) l)) (bh r)=some (tr l,U')):DFact S d lv env tr' bh u' l:=by
 intro v hv;obtain⟨b,f1,f2,f3,f4,f5⟩:=h v hv;have e:=Ki lv env (tr:=tr') (tr':=tr) (A:=λ_=>true) (B:=λ_=>true) l (λk hk=>ht k (by omega)) (λ_ _=>rfl);rw[e,ht l (zd _),hh _ hr]
 grind
theorem To:∀ (d:DInfo) (rest:List VOper) (i:Nat) (xs:List Nat),waits xs (d.opers rest i)=true->∀ (k:Nat) (v:VOper),rest[k]?=some v->v.op.kind=2\/(∃ x∈xs,x∈Kg v)\/∃ (e:Nat) (u:VOper) (x:Nat),e<k/\rest[e]?=some u/\u.dst=some x/\x∈Kg v
 |d,[],i,xs,_,k,v,hv=>by simp at hv
 |d,o::rest,i,xs,h,k,v,hv=>by
  simp only[DInfo.opers,waits,z1,zw,xT,zr] at h;obtain⟨h1,h2⟩:=h;cases k with
  |zero =>
   obtain rfl:o=v:=by simpa using hv
   rcases h1 with h1|⟨x,hx,aW⟩
   .exact .inl h1
   refine .inr (.inl ⟨x,by simpa using aW,?_⟩);simp only[Kg,x7] at hx |-;rcases hx with hx|hx
   .exact .inl (.inr hx)
   .exact .inr hx
  |succ k =>
   rcases To d rest (i+1) _ h2 k v (by simpa using hv) with h3|⟨y,hy,sU⟩|⟨e,u,y,he,hu,hd,hn⟩
   .exact .inl h3
   .rcases x7.1 hy with hy|hy
    .exact .inr (.inr ⟨0,o,y,by omega,rfl,by simpa using hy,sU⟩)
    .exact .inr (.inl ⟨y,hy,sU⟩)
   .exact .inr (.inr ⟨e+1,u,y,by omega,by simpa using hu,hd,hn⟩)
theorem SU (d:DInfo) {i j:Nat}(h:i<=j):d.rank i<=d.rank j:=by
 induction j with
 |zero =>
  obtain rfl:i=0:=by omega
  exact zd _
 |succ j ih =>
  by_cases cq:i=j+1
  .subst cq;exact zd _
  .have:=ih (by omega);simp only[DInfo.rank];split<;>omega
theorem Q3i (d:DInfo) (lv:List VOper) (mr:∀ i v,lv[i]?=some v->d.k i=v.op.kind) (env:Env) (K:Env->Heap->Prop):∀ (rest:List VOper) (i:Nat),i<=lv.length->lv.drop i=rest->∀ (nd:List Nat) (tp:Nat->Value) (hq:Nat->Heap) (pend:List (Nat×(Heap->Prop))),
  (∀ l,l<i->l∉nd->DFact S d lv env tp hq (d.rank i) l)->Q4h d lv env tp i pend ->
  Zr S (d.opers rest i) (EL lv env tp (λ_=>true) i) ((List.range (d.rank i+1)).map hq) (hq (d.rank i)) pend K ->
  ∃ k tr hp,i<=k/\(∀ l,l<i->tr l=tp l)/\(∀ r,r<=d.rank i->hp r=hq r)/\Know S d lv env K nd k tr hp:=by
 intro rest;induction rest with
 |nil =>
  intro i fz hi nd tp hq pend hF hP h;have hl:lv.length<=i:=by simpa using hi
  obtain rfl:i=lv.length:=by omega
  simp only[DInfo.opers,Zr] at h;exact⟨_,tp,hq,zd _,λ_ _=>rfl,λ_ _=>rfl,.full hF h⟩
 |cons v rest ih =>
  intro i fz hi nd tp hq pend hF hP h;have af:i<lv.length:=by
   grind
  have hv:lv[i]?=some v:=by
   have:=congrArg List.head? hi
   grind [List.head?_drop]
  have fR:lv.drop (i+1)=rest:=by have:=congrArg List.tail hi;simpa using this
  have hk:=mr i v hv;have eF:v.op.kind=2->d.rank (i+1)=d.rank i+1:=λe=>by simp only[DInfo.rank,hk,e,zB]
  have jG:v.op.kind≠2->d.rank (i+1)=d.rank i:=λe=>by simp only[DInfo.rank,hk,e,if_false]
  have e_:∀ l,l<i->d.rank l<=d.rank i/\∀ w,lv[l]?=some w->w.op.kind=2->d.rank l+1<=d.rank i:=λl hl=>by have h1:=SU d (show l+1<=i by omega);refine⟨by simp only[DInfo.rank] at h1;split at h1<;>omega,λw hw h2=>?_⟩;simp only[DInfo.rank,mr l w hw,h2,zB] at h1;exact h1
  simp only[DInfo.opers,Zr] at h;have hlen:((List.range (d.rank i+1)).map hq).length=d.rank i+1:=by simp
  cases hw:ZY (EL lv env tp (λ_=>true) i) v.guard with
  |none=>rw[hw] at h;exact h.elim
  |some b =>
   rw[hw] at h;obtain⟨ht,hf⟩:=h
   have go:∀ (jh:List Nat) (u:Value) (U':Heap) (bC:List (Nat×(Heap->Prop))),(∀ l,l∈nd->l∈jh) ->
     Zr S (d.opers rest (i+1)) (JK (EL lv env tp (λ_=>true) i) v.dst u) (if v.op.kind=2 then (List.range (d.rank i+1)).map hq++[U'] else (List.range (d.rank i+1)).map hq) (if v.op.kind=2 then U' else hq (d.rank i)) bC K ->
     (v.op.kind=2->Jz (d.rank i+1) U' pend)->(∀ c∈pend,c∈bC) ->
     (b=true->v.op.kind=1->d.rank i+1<=d.kmax i->(d.kmax i,JC v.op (Q5 (EL lv env tp (λ_=>true) i)) u)∈bC) ->
     (i∉jh->∀ tr hp,(∀ l,l<i->tr l=tp l)->tr i=u->(∀ r,r<=d.rank i->hp r=hq r)->(v.op.kind=2->hp (d.rank i+1)=U')->DFact S d lv env tr hp (d.rank (i+1)) i) ->
     ∃ k tr hp,i<k/\(∀ l,l<i->tr l=tp l)/\tr i=u/\(∀ r,r<=d.rank i->hp r=hq r)/\(v.op.kind=2->hp (d.rank i+1)=U')/\Know S d lv env K jh k tr hp:=by
    intro jh u U' bC gJ h jP ji kP nh;let ia:Nat->Value:=λl=>if l=i then u else tp l
    let dj:Nat->Heap:=λr=>if v.op.kind=2/\r=d.rank i+1 then U' else hq r
    have et:∀ l,l<i->ia l=tp l:=(by grind);have ei:ia i=u:=by simp[ia]
    have eh:∀ r,r<=d.rank i->dj r=hq r:=(by grind);have sV:v.op.kind=2->dj (d.rank i+1)=U':=λax=>by simp[dj,ax]
    have e1:EL lv env ia (λ_=>true) (i+1)=JK (EL lv env tp (λ_=>true) i) v.dst u:=by simp only[EL,zB];rw[Ki lv env (tr:=ia) (tr':=tp) i et (λ_ _=>rfl),hv,ei];rfl
    have e2:(List.range (d.rank (i+1)+1)).map dj=if v.op.kind=2 then (List.range (d.rank i+1)).map hq++[U'] else (List.range (d.rank i+1)).map hq:=by
     grind [List.range_succ,List.map_congr_left]
    have e3:dj (d.rank (i+1))=if v.op.kind=2 then U' else hq (d.rank i):=by simp only[DInfo.rank,hk];split<;>rename_i ax<;>simp[dj,ax]
    have uA:∀ l,l<i+1->l∉jh->DFact S d lv env ia dj (d.rank (i+1)) l:=λl hl ib=>by
     by_cases ic:l=i
     .subst ic;exact nh ib ia dj et ei eh sV
     .have ic:l<i:=by omega
      refine (hF l ic λh=>ib (gJ l h)).congr (λk hk=>et k (by omega)) eh (e_ l ic).1 (e_ l ic).2 λw gi qg bu r r1 r2 r3=>?_;by_cases ax:v.op.kind=2
      .rw[eF ax] at r2;obtain rfl:r=d.rank i+1:=by omega
       rw[sV ax];exact Hr (C5 (jP ax) _ (hP l ic w gi qg bu (by omega)) (by simpa using r3))
      .rw[jG ax] at r2;omega
    have uB:Q4h d lv env ia (i+1) bC:=λl hl w gi qg bu sN=>by
     by_cases ic:l=i
     .subst ic;rw[hv] at gi;obtain rfl:=osj gi;have e:=Ki lv env (tr:=ia) (tr':=tp) (A:=λ_=>true) (B:=λ_=>true) l et (λ_ _=>rfl);simp_all
     .have ic:l<i:=by omega
      have e:=Ki lv env (tr:=ia) (tr':=tp) (A:=λ_=>true) (B:=λ_=>true) l (λk hk=>et k (by omega)) (λ_ _=>rfl);rw[e] at qg |-;rw[et l ic];have hle:d.rank i<=d.rank (i+1):=by simp only[DInfo.rank];split<;>omega
      exact ji _ (hP l ic w gi qg bu (by omega))
    obtain⟨k,tr,hp,k0,k1,k2,k3⟩:=ih (i+1) (by omega) fR jh ia dj bC uA uB (by rw[e1,e2,e3];exact h)
    grind
   have weak:∀ {jh:List Nat}{u:Value}{U':Heap},(∃ k tr hp,i<k/\(∀ l,l<i->tr l=tp l)/\tr i=u/\(∀ r,r<=d.rank i->hp r=hq r)/\(v.op.kind=2->hp (d.rank i+1)=U')/\Know S d lv env K jh k tr hp)->∃ k tr hp,i<=k/\(∀ l,l<i->tr l=tp l)/\(∀ r,r<=d.rank i->hp r=hq r)/\Know S d lv env K jh k tr hp:=by
    grind
   have fact:∀ {u:Value}{U':Heap},(b=true->v.op.kind=1->∀ r,d.kmin i<=r->r<=d.rank i->JC v.op (Q5 (EL lv env tp (λ_=>true) i)) u (hq r))->(b=true->v.op.kind≠1->v.op.kind≠2->∃ aH,Q6 v.op (Q5 (EL lv env tp (λ_=>true) i)) (hq (d.rank i))=some (u,aH))->(b=false->u=undef/\(v.op.kind=2->U'=hq (d.rank i)))->(b=true->v.op.kind=2->vop S v.op (EL lv env tp (λ_=>true) i) (hq (d.rank i)) (λv' aH=>v'=u/\aH=U')) ->
     ∀ tr hp,(∀ l,l<i->tr l=tp l)->tr i=u->(∀ r,r<=d.rank i->hp r=hq r)->(v.op.kind=2->hp (d.rank i+1)=U')->DFact S d lv env tr hp (d.rank (i+1)) i:=by
    intro u U' g1 g2 g3 k5 tr hp k1 k2 k3 k4 v' jQ;rw[hv] at jQ;obtain rfl:=osj jQ;have e:=Ki lv env (tr:=tr) (tr':=tp) (A:=λ_=>true) (B:=λ_=>true) i k1 (λ_ _=>rfl);rw[e,k2,k3 _ (zd _)]
    grind [Hr]
   cases b with
   |false =>
    have hf:=hf rfl;by_cases ax:v.op.kind=2
    .rw[z7 ax] at hf;obtain⟨qY,hf⟩:=hf;exact weak (go nd undef (hq (d.rank i)) pend (λ_ h=>h) (by rw[z7 ax,ite_self];exact hf) (by grind) (λ_ h=>h) (λh=>by cases h) (λ_=>fact (λh=>by cases h) (λh=>by cases h) (λ_=>⟨rfl,λ_=>rfl⟩) (λh=>by cases h)))
    .rw[z6 ax] at hf;exact weak (go nd undef (hq (d.rank i)) pend (λ_ h=>h) (by rw[z6 ax,ite_self];exact hf) (λh=>absurd h ax) (λ_ h=>h) (λh=>by cases h) (λ_=>fact (λh=>by cases h) (λh=>by cases h) (λ_=>⟨rfl,λ_=>rfl⟩) (λh=>by cases h)))
   |true =>
    have ht:=ht rfl;by_cases ax:v.op.kind=2
    .rw[z7 ax] at ht;rw[hlen] at ht;rcases ht with⟨u,U',h1,h2,h3⟩|⟨gL,fB⟩
     .exact weak (go nd u U' pend (λ_ h=>h) (by rw[z7 ax,z7 ax];exact h3) (λ_=>h2) (λ_ h=>h) (λ_ hk=>by omega) (λ_=>fact (λ_ hk=>by omega) (λ_ _ hk=>absurd ax hk) (λh=>by cases h) (λ_ _=>h1)))
     .have nx:∀ u U',(Jz (d.rank i+1) U' pend/\Zr S (d.opers rest (i+1)) (JK (EL lv env tp (λ_=>true) i) v.dst u) ((List.range (d.rank i+1)).map hq++[U']) U' pend K) ->
        ∃ k tr hp,i<k/\(∀ l,l<i->tr l=tp l)/\tr i=u/\(∀ r,r<=d.rank i->hp r=hq r)/\(v.op.kind=2->hp (d.rank i+1)=U')/\Know S d lv env K (i::nd) k tr hp:=λu U' ⟨h2,h3⟩ =>
       go (i::nd) u U' pend (λ_ h=>zT _ h) (by rw[z7 ax,z7 ax];exact h3) (λ_=>h2) (λ_ h=>h) (λ_ hk=>by omega) (λh=>absurd zQ h)
      refine⟨i,tp,hq,zd _,λ_ _=>rfl,λ_ _=>rfl,.part hv ax hw hF (λj hj aK=>?_) _ fB (λu U' h=>(nx u U' h).choose) (λu U' h=>(nx u U' h).choose_spec.choose) (λu U' h=>(nx u U' h).choose_spec.choose_spec.choose) (λu U' h=>?_) (λu U' h=>?_)⟩
      .obtain⟨n,hn⟩:∃ n,j=i+1+n:=⟨j-(i+1),by omega⟩;subst hn;have uC:∀ k w,lv[i+1+k]?=some w->rest[k]?=some w:=(by grind);have ra:∀ k w,rest[k]?=some w->lv[i+1+k]?=some w:=(by grind);have uD:=z8 aK;rcases To d rest (i+1) _ gL n _ (uC n _ uD) with rf|⟨x,hx,kQ⟩|⟨e,u,x,he,hu,hd,kQ⟩
       .exact⟨i,v,zd _,by omega,hv,(by grind)⟩
       .exact⟨i,v,zd _,by omega,hv,(by grind)⟩
       .exact⟨i+1+e,u,by omega,by omega,ra e u hu,(by grind)⟩
      .grind
      grind
    .rw[z6 ax] at ht;by_cases bu:v.op.kind=1
     .rw[z7 bu] at ht;cases dk:Q6 v.op (Q5 (EL lv env tp (λ_=>true) i)) (hq (d.rank i)) with
      |none=>rw[dk] at ht;exact ht.elim
      |some p =>
       rw[dk] at ht;obtain⟨g1,g2⟩:=ht;refine weak (go nd p.1 (hq (d.rank i)) _ (λ_ h=>h) (by rw[z6 ax,ite_self];exact g2) (λh=>absurd h ax) (λc hc=>?_) (λ_ _ hr=>?_) (λ_=>fact (λ_ _ r uE uF=>?_) (λ_ hk=>absurd bu hk) (λh=>by cases h) (λ_ hk=>absurd hk ax)))
       .grind
       .grind
       .refine g1 _ ?_;rw[zY];refine⟨r-d.kmin i,?_⟩
        grind
     .rw[z6 bu] at ht;cases dk:Q6 v.op (Q5 (EL lv env tp (λ_=>true) i)) (hq (d.rank i)) with
      |none=>rw[dk] at ht;exact ht.elim
      |some p =>rw[dk] at ht;exact weak (go nd p.1 (hq (d.rank i)) pend (λ_ h=>h) (by rw[z6 ax,ite_self];exact ht) (λh=>absurd h ax) (λ_ h=>h) (λ_ hk=>absurd hk bu) (λ_=>fact (λ_ hk=>absurd hk bu) (λ_ _ _=>⟨p.2,dk⟩) (λh=>by cases h) (λ_ hk=>absurd hk ax)))
structure DOk (d:DInfo) (n:Nat):Prop where
 edge:∀ j,j<n->∀ e∈d.ed.getD j [],e<j
 path:∀ j,j<n->∀ i,i<j->d.lt i j=true->∃ e∈d.ed.getD j [],e=i\/(i<e/\d.lt i e=true)
 free:∀ j,j<n->∀ i,i<j->d.lt i j=false->d.touch i j=false/\¬(d.k i=2/\d.k j=2)
 kmin:∀ j,j<n->d.k j=1->(d.kmin j<=d.rank j/\d.rank j<=d.kmax j)/\d.kmax j<=d.rank n/\∀ l,l<n->d.k l=2->((d.lt l j=true<->d.rank l<d.kmin j)/\(d.lt j l=true<->d.kmax j<=d.rank l))
theorem DOk.of {d:DInfo}(h:d.ok=true):DOk d d.ks.length:=by
 have h0:∀ j,j<d.ks.length->d.okE j=true/\d.okP j=true/\d.okK j=true:=λj hj=>by have:=zf.1 h j (x5.2 hj);simpa [z1] using this
 refine⟨λj hj e he=>?_,λj hj i hi af=>?_,λj hj i hi af=>?_,λj hj hk=>?_⟩
 .have:=zf.1 (h0 j hj).1 e he;simpa using this
 .have:=zf.1 (h0 j hj).2.1 i (x5.2 hi);simp_all
 .have:=zf.1 (h0 j hj).2.1 i (x5.2 hi)
  grind
 .have:=(h0 j hj).2.2;simp only[DInfo.okK,hk,BEq.rfl,xO,Bool.false_or,z1,zg] at this
  grind
theorem Pf (d:DInfo) {i j:Nat}(h:i<j) (hk:d.k i=2):d.rank i<d.rank j:=by have:=SU d (show i+1<=j from h);simp only[DInfo.rank,hk,zB] at this;omega
theorem Vk (d:DInfo):∀ j r,r<d.rank j->∃ l,l<j/\d.k l=2/\d.rank l=r
 |0,r,h=>by simp[DInfo.rank] at h
 |j+1,r,h=>by
  simp only[DInfo.rank] at h;split at h
  .rename_i hk;rcases zn r (d.rank j) with h'|h'
   .obtain⟨l,h1,h2⟩:=Vk d j r h';exact⟨l,by omega,h2⟩
   grind
  .obtain⟨l,h1,h2⟩:=Vk d j r h;exact⟨l,by omega,h2⟩
theorem MX {d:DInfo}{n:Nat}(hd:DOk d n) {A:Nat->Bool}(hc:∀ j,j<n->A j=true->∀ e∈d.ed.getD j [],A e=true):∀ j,j<n->A j=true->∀ i,i<j->d.lt i j=true->A i=true:=by
 intro j;induction j using Nat.strongRecOn with
 |ind j ih =>
  intro hj hA i hi af;obtain⟨e,he,h⟩:=hd.path j hj i hi af;have ni:=hd.edge j hj e he;have gM:=hc j hj hA e he;rcases h with rfl|⟨h1,h2⟩
  .exact gM
  .exact ih e ni (by omega) gM i h1 h2
def cnt (A:Nat->Bool):Nat->Nat
 |0=>0
 |i+1=>cnt A i+if A i then 0 else 1
theorem Ax {A:Nat->Bool}:∀ {n},cnt A n=0->∀ i,i<n->A i=true
 |0,_,i,h=>by omega
 |n+1,hc,i,h=>by
  simp only[cnt] at hc;by_cases hi:i=n
  .simp_all
  .exact Ax (n:=n) (by omega) i (by omega)
theorem Oi {A B:Nat->Bool}{j:Nat}(hA:A j=false) (hB:B j=true) (h:∀ i,i≠j->A i=B i):∀ n,j<n->cnt A n=cnt B n+1
 |0,hj=>by omega
 |n+1,hj=>by
  simp only[cnt];by_cases aK:j=n
  .subst aK;have:cnt A j=cnt B j:=by
    have key:∀ m,m<=j->cnt A m=cnt B m:=by
     intro m;induction m with
     |zero=>intro _;rfl
     |succ m ih=>intro hm;simp only[cnt];rw[ih (by omega),h m (by omega)]
    exact key j (zd _)
   simp[hA,hB,this]
  .have:=Oi hA hB h n (by omega);rw[h n (by omega)];omega
theorem Q21 (o:VOp):o.kind<=2:=by
 unfold VOp.kind;split<;>try omega
 split<;>omega
theorem Q2x {o:VOp}{env:Env}{U:Heap}{p:Value×Heap}{K:Value->Heap->Prop}(hk:o.kind≠2) (h:Q6 o (Q5 env) U=some p) (hK:K p.1 p.2):vop S o env U K:=by
 cases o
 case callF=>exact absurd rfl hk
 case callV=>exact absurd rfl hk
 case ext x =>
  cases x
  case nextMap=>exact absurd rfl hk
  all_goals (simp only[vop];rw[h];exact hK)
 all_goals (simp only[vop];rw[h];exact hK)
theorem Gh {o:VOp}{ev:Operand->Value}{U U':Heap}{v:Value}(hk:o.kind≠2) (h:Q6 o ev U=some (v,U')):U'=U:=by have:=HG hk h (Heap.Le.refl U);simp_all
theorem Tt {env ae:Env}{g:Option (Nat×Bool)}(h:∀ x b,g=some (x,b)->env[x]?=ae[x]?):ZY env g=ZY ae g:=by
 cases g with
 |none=>rfl
 |some p =>obtain⟨x,b⟩:=p;simp only[ZY,ze];rw[h x b rfl]
theorem Tf {env ae:Env}{x:Operand}(h:∀ t,x=.tmp t->env[t]?=ae[t]?):Q5 env x=Q5 ae x:=by
 cases x<;>try rfl
 rename_i t;simp only[Q5,ze];rw[h t rfl]
structure DInv (B:Nat) (d:DInfo) (lv:List VOper) (env:Env) (tr:Nat->Value) (hp:Nat->Heap) (ρ0:Plc) (σ0:Heap) (w0:World) (A:Nat->Bool) (a:Act) (w:World):Prop where
 closed:∀ j,j<lv.length->A j=true->∀ e∈d.ed.getD j [],A e=true
 run:∃ m ρ,(∀ l,l<lv.length->d.k l=2->(A l=true<->d.rank l<m))/\m<=d.rank lv.length/\HRel ρ (hp m) w/\LRel ρ (hp m).n (EL lv env tr A lv.length) a.tmps.toList/\Mks B a.defers w/\Ext ρ0 σ0 w0 ρ (hp m) w
structure DLink (P:Program) (ops:Array Oper) (pm:List Nat) (d:DInfo) (lv:List VOper):Prop where
 comp:∀ (p:Nat) (v:VOper),lv[p]?=some v->∃ o,ops[pm.getD p 0]?=some o/\J2 P ops o=some v/\d.k p=v.op.kind
 touch:∀ (i j:Nat) (u v:VOper),lv[i]?=some u->lv[j]?=some v->d.touch i j=false->(∀ x,u.dst=some x->x∉Kg v)/\(∀ x,v.dst=some x->x∉Kg u)
 size:pm.length=lv.length
theorem DLink.of {ops:Array Oper}{vs:List VOper}(h:ops.toList.mapM (J2 P ops)=some vs) {d0:DInfo}{pm:List Nat}(gF:∀ i∈pm,i<vs.length):DLink P ops pm (Ad d0 vs pm) (Kz vs pm):=by
 obtain⟨h1,h2⟩:=XJ _ _ _ h;refine⟨λp v hv=>?_,λi j u v hu hv ht=>?_,by simp[Kz]⟩
 .simp only[Kz,xp,zt] at hv;obtain⟨i,hi,rfl⟩:=hv;have aL:=gF i (z_ hi);have uG:i<ops.toList.length:=by omega
  obtain⟨v,hv,hc⟩:=h2 i _ (z8 uG);have hg:vs.getD i default=v:=by simp[ze,hv]
  have hp:pm.getD p 0=i:=by simp[ze,hi]
  refine⟨ops.toList[i],?_,by rw[hg];exact hc,?_⟩
  .rw[hp];simp
  .simp[DInfo.k,Ad,Kz,ze,hi]
 .simp only[DInfo.touch,Ad,Q15,ze,xp,hu,hv,xQ,Option.getD_some,Bool.or_eq_false_iff] at ht
  grind
theorem E7 {v:VOper}{x:Nat}(h:v.dst=some x):x∈Kg v:=by simp[Kg,h]
theorem E2 {v:VOper}{x:Nat}(h:Operand.tmp x∈v.op.opds):x∈Kg v:=by refine w7 _ (xS _ ?_);exact List.mem_filterMap.2 ⟨_,h,rfl⟩
theorem Tw {v:VOper}{x:Nat}{b:Bool}(h:v.guard=some (x,b)):x∈Kg v:=by refine xS _ ?_;simp[h]
theorem HJ (hS:OkSpecs P S) {ro:Option Nat}{n:Nat}{ops:Array Oper}{pm:List Nat}{d:DInfo}{lv:List VOper}(hl:DLink P ops pm d lv) (hd:DOk d lv.length) {env:Env}{tr:Nat->Value}{hp:Nat->Heap}
  {bd j:Nat}(hF:DFact S d lv env tr hp bd j)
  {Q:Exit->Act->World->Prop}{ρ0:Plc}{σ0:Heap}{w0:World}{A:Nat->Bool}{a:Act}{w:World}(mu:∀ m,(∀ l,l<lv.length->d.k l=2->(A l=true<->d.rank l<m))->m<=d.rank lv.length->m<=bd) (hI:DInv B d lv env tr hp ρ0 σ0 w0 A a w)
  (aK:j<lv.length) (kR:A j=false) (fC:∀ e∈d.ed.getD j [],A e=true) {A':Nat->Bool}(bO:∀ i,A' i=if i=j then true else A i) {K:Act->World->Prop}(hK:∀ a' w',DInv B d lv env tr hp ρ0 σ0 w0 A' a' w'->K a' w'):wpOpIn (FF ro) n P ops Q (pm.getD j 0) K a w:=by
 obtain⟨v,hv⟩:∃ v,lv[j]?=some v:=⟨_,z8 aK⟩;obtain⟨o,ho,hc,hk⟩:=hl.comp j v hv;obtain⟨cC,m,ρ,hm,nj,hH,hL,dI,hE⟩:=hI;have nk:∀ i,i<j->d.lt i j=true->A i=true:=by
  intro i hi af;obtain⟨e,he,h⟩:=hd.path j aK i hi af;have ni:=hd.edge j aK e he;have gM:A e=true:=fC e he;rcases h with rfl|⟨h1,h2⟩
  .exact gM
  .exact MX hd cC e (by omega) gM i h1 h2
 have nq:∀ i,i<lv.length->j<i->d.lt j i=true->A i=false:=by
  intro i hi aI af;cases hA:A i with
  |false=>rfl
  |true=>rw[MX hd cC i hi hA j aI af] at kR;cases kR
 have nr:∀ x,x∈Kg v->(EL lv env tr A lv.length)[x]?=(EL lv env tr (λ_=>true) j)[x]?:=by
  intro x hx;rw[<-Gi lv env tr j lv.length (by omega)];refine M5 lv env tr x lv.length λl a8 bw=>?_;cases bV:lv[l]? with
  |none=>rw[bV] at bw;cases bw
  |some u =>
   rw[bV] at bw;rcases Nat.lt_trichotomy l j with h|h|h
   .have af:d.lt l j=true:=by
     cases af:d.lt l j with
     |true=>rfl
     |false=>exact absurd hx ((hl.touch l j u v bV hv (hd.free j aK l h af).1).1 x bw)
    simp_all
   .simp_all
   .have af:d.lt j l=true:=by
     cases af:d.lt j l with
     |true=>rfl
     |false=>exact absurd hx ((hl.touch j l v u hv bV (hd.free l a8 j h af).1).2 x bw)
    grind
 obtain⟨b,f1,f2,f3,uH,f4⟩:=hF v hv;have hw:ZY (EL lv env tr A lv.length) v.guard=some b:=by
  grind [Tt,Tw]
 have jj:∀ x∈v.op.opds,Q5 (EL lv env tr A lv.length) x=Q5 (EL lv env tr (λ_=>true) j) x:=(by grind [Tf,E2]);obtain⟨cQ,bw,bp⟩:=Gg hc hL hw;have ec:EL lv env tr A' lv.length=JK (EL lv env tr A lv.length) v.dst (tr j):=by
  apply zK;intro x;by_cases hx:v.dst=some x
  .have h1:(EL lv env tr A' lv.length)[x]?=(EL lv env tr (λl=>decide (l<j+1)) lv.length)[x]?:=by
    refine M5 lv env tr x lv.length λl a8 cj=>?_;rw[bO];by_cases ie:l=j
    .subst ie;simp
    .rw[z6 ie];cases bV:lv[l]? with
     |none=>rw[bV] at cj;cases cj
     |some u =>
      rw[bV] at cj;have jR:=E7 hx;rcases zn l j with h|h
      .have af:d.lt l j=true:=by
        cases af:d.lt l j with
        |true=>rfl
        |false=>exact absurd jR ((hl.touch l j u v bV hv (hd.free j aK l h af).1).1 x cj)
       grind
      .have h':j<l:=by omega
       have af:d.lt j l=true:=by
        cases af:d.lt j l with
        |true=>rfl
        |false=>exact absurd jR ((hl.touch j l v u hv bV (hd.free l a8 j h' af).1).2 x cj)
       grind
   rw[h1,Gi lv env tr (j+1) lv.length (by omega)];simp only[EL,zB,hv,xd,hx,JK];rw[xx,xx];simp only[zB,YS]
  grind [NZ,M5]
 have bW:∀ i,i<lv.length->A' i=true->∀ e∈d.ed.getD i [],A' e=true:=by
  grind
 have rh:d.k j=2->d.rank j=m:=by
  intro ax;have h1:¬ d.rank j<m:=(by grind);by_cases h2:d.rank j=m
  .exact h2
  .obtain⟨l,ie,cI,e_⟩:=Vk d j m (by omega);have af:d.lt l j=true:=by
    cases af:d.lt l j with
    |true=>rfl
    |false=>exact absurd ⟨cI,ax⟩ (hd.free j aK l ie af).2
   grind
 have jk:d.k j=2->∀ l,l<lv.length->d.k l=2->(A' l=true<->d.rank l<m+1):=by
  grind [Nat.lt_or_ge,Pf]
 have qh:d.k j≠2->∀ l,l<lv.length->d.k l=2->(A' l=true<->d.rank l<m):=by
  grind
 have kS:d.k j=2->m+1<=d.rank lv.length:=(by grind [Pf]);unfold wpOpIn;simp only[ho];cases b with
 |false =>
  rw[cQ,z6 (by simp)];obtain⟨g1,g2⟩:=f4 rfl;refine⟨λf _=>Ei _ _,hK _ _ ⟨bW,?_⟩⟩;by_cases ax:d.k j=2
  .grind [JN,Yc,Jl]
  .grind [JN,Yc,Jl]
 |true =>
  rw[cQ,z7 rfl];by_cases ax:d.k j=2
  .have fS:=rh ax;have g1:=f2 rfl (hk▸ax);rw[fS] at g1;rw[<-Lp jj] at g1;refine V1 hS bp hH hL g1 λc w' ⟨u,ρ',U',⟨hu,hσ⟩,dP,fQ,bG⟩=>hK _ _ ⟨bW,?_⟩;subst hu;subst hσ;refine⟨m+1,ρ',jk ax,kS ax,fQ,?_,by rw[JN];exact dI.ext hH bG,hE.trans bG⟩;rw[ec,bw];exact Yc (bG.lrel hL) dP o.dst
  .have g2:∃ σ1,Q6 v.op (Q5 (EL lv env tr A lv.length)) (hp m)=some (tr j,σ1):=by
    rw[GJ jj];by_cases bu:d.k j=1
    .obtain⟨⟨k1,k4⟩,k3,k2⟩:=hd.kmin j aK bu;refine f3 rfl (hk▸bu) m ?_ ?_ (mu m hm nj)
     .rcases zn m (d.kmin j) with h|h
      .obtain⟨l,a8,cI,e_⟩:=Vk d j m (by omega)
       grind
      .exact h
     .rcases zn (d.kmax j) m with h|h
      .obtain⟨l,a8,cI,e_⟩:=Vk d lv.length (d.kmax j) (by omega);have af:=(k2 l a8 cI).2.2 (by omega);have sW:=(hm l a8 cI).2 (by omega);rcases Nat.lt_trichotomy j l with h'|h'|h'
       .simp_all
       .subst h';omega
       .exfalso;have eF:d.rank l<d.rank j:=Pf d h' cI;omega
      .exact h
    .have gZ:v.op.kind=0:=by
      grind [Q21]
     obtain⟨σ1,g1⟩:=uH rfl (by omega) (by omega);exact⟨hp m,BY gZ g1⟩
   obtain⟨σ1,g2⟩:=g2;have hq:=Gh (hk▸ax) g2;subst hq;refine V1 hS (K:=λv' U'=>v'=tr j/\U'=hp m) bp hH hL (by grind [Q2x]) λc w' ⟨u,ρ',U',⟨hu,hσ⟩,dP,fQ,bG⟩=>hK _ _ ⟨bW,?_⟩;subst hu;subst hσ;refine⟨m,ρ',qh ax,nj,fQ,?_,by rw[JN];exact dI.ext hH bG,hE.trans bG⟩;rw[ec,bw];exact Yc (bG.lrel hL) dP o.dst
theorem Cm (hS:OkSpecs P S) {ro:Option Nat}{n:Nat}{ops:Array Oper}{pm:List Nat}{d:DInfo}{lv:List VOper}(hl:DLink P ops pm d lv) (hd:DOk d lv.length) {env:Env}{tr:Nat->Value}{hp:Nat->Heap}
  {j:Nat}{v:VOper}(hv:lv[j]?=some v) (ri:v.op.kind=2) (wy:ZY (EL lv env tr (λ_=>true) j) v.guard=some true) {R:Value->Heap->Prop}(fB:vop S v.op (EL lv env tr (λ_=>true) j) (hp (d.rank j)) R)
  {Q:Exit->Act->World->Prop}{ρ0:Plc}{σ0:Heap}{w0:World}{A:Nat->Bool}{a:Act}{w:World}(hI:DInv B d lv env tr hp ρ0 σ0 w0 A a w) (sX:∀ l,j<=l->l<lv.length->A l=false)
  (aK:j<lv.length) (kR:A j=false) (fC:∀ e∈d.ed.getD j [],A e=true) {A':Nat->Bool}(bO:∀ i,A' i=if i=j then true else A i) {K:Act->World->Prop}
  (hK:∀ u U' a' w',R u U'->(∀ tr' bh,(∀ l,l<j->tr' l=tr l)->tr' j=u->(∀ r,r<=d.rank j->bh r=hp r)->bh (d.rank j+1)=U'->DInv B d lv env tr' bh ρ0 σ0 w0 A' a' w')->K a' w'):wpOpIn (FF ro) n P ops Q (pm.getD j 0) K a w:=by
 obtain⟨o,ho,hc,hk⟩:=hl.comp j v hv;obtain⟨cC,m,ρ,hm,nj,hH,hL,dI,hE⟩:=hI;have nk:∀ i,i<j->d.lt i j=true->A i=true:=by
  intro i hi af;obtain⟨e,he,h⟩:=hd.path j aK i hi af;have ni:=hd.edge j aK e he;have gM:A e=true:=fC e he;rcases h with rfl|⟨h1,h2⟩
  .exact gM
  .exact MX hd cC e (by omega) gM i h1 h2
 have nq:∀ i,i<lv.length->j<i->d.lt j i=true->A i=false:=by
  grind
 have nr:∀ x,x∈Kg v->(EL lv env tr A lv.length)[x]?=(EL lv env tr (λ_=>true) j)[x]?:=by
  intro x hx;rw[<-Gi lv env tr j lv.length (by omega)];refine M5 lv env tr x lv.length λl a8 bw=>?_;cases bV:lv[l]? with
  |none=>rw[bV] at bw;cases bw
  |some u =>
   rw[bV] at bw;rcases Nat.lt_trichotomy l j with h|h|h
   .have af:d.lt l j=true:=by
     cases af:d.lt l j with
     |true=>rfl
     |false=>exact absurd hx ((hl.touch l j u v bV hv (hd.free j aK l h af).1).1 x bw)
    simp_all
   .simp_all
   .grind
 have hw:ZY (EL lv env tr A lv.length) v.guard=some true:=by
  grind [Tt,Tw]
 have jj:∀ x∈v.op.opds,Q5 (EL lv env tr A lv.length) x=Q5 (EL lv env tr (λ_=>true) j) x:=(by grind [Tf,E2]);obtain⟨cQ,bw,bp⟩:=Gg hc hL hw;have ec:∀ tr:Nat->Value,EL lv env tr A' lv.length=JK (EL lv env tr A lv.length) v.dst (tr j):=λtr=>by
  apply zK;intro x;by_cases hx:v.dst=some x
  .have h1:(EL lv env tr A' lv.length)[x]?=(EL lv env tr (λl=>decide (l<j+1)) lv.length)[x]?:=by
    refine M5 lv env tr x lv.length λl a8 cj=>?_;rw[bO];by_cases ie:l=j
    .subst ie;simp
    .rw[z6 ie];cases bV:lv[l]? with
     |none=>rw[bV] at cj;cases cj
     |some u =>
      rw[bV] at cj;have jR:=E7 hx;rcases zn l j with h|h
      .have af:d.lt l j=true:=by
        cases af:d.lt l j with
        |true=>rfl
        |false=>exact absurd jR ((hl.touch l j u v bV hv (hd.free j aK l h af).1).1 x cj)
       grind
      .grind
   rw[h1,Gi lv env tr (j+1) lv.length (by omega)];simp only[EL,zB,hv,xd,hx,JK];rw[xx,xx];simp only[zB,YS]
  grind [NZ,M5]
 have bW:∀ i,i<lv.length->A' i=true->∀ e∈d.ed.getD i [],A' e=true:=by
  grind
 have rh:d.k j=2->d.rank j=m:=by
  intro ax;have h1:¬ d.rank j<m:=(by grind);by_cases h2:d.rank j=m
  .exact h2
  .obtain⟨l,ie,cI,e_⟩:=Vk d j m (by omega);have af:d.lt l j=true:=by
    cases af:d.lt l j with
    |true=>rfl
    |false=>exact absurd ⟨cI,ax⟩ (hd.free j aK l ie af).2
   grind
 have jk:d.k j=2->∀ l,l<lv.length->d.k l=2->(A' l=true<->d.rank l<m+1):=by
  grind [Nat.lt_or_ge,Pf]
 have qh:d.k j≠2->∀ l,l<lv.length->d.k l=2->(A' l=true<->d.rank l<m):=by omega
 have kS:d.k j=2->m+1<=d.rank lv.length:=(by grind [Pf]);unfold wpOpIn;simp only[ho];rw[cQ,z7 rfl];have ax:d.k j=2:=hk.trans ri;have fS:=rh ax;rw[fS,<-Lp jj] at fB;refine V1 hS bp hH hL fB λc w' ⟨u,ρ',U',hR,dP,fQ,bG⟩=>hK u U' _ _ hR λtr' bh t1 t2 t3 t4=>⟨bW,m+1,ρ',jk ax,kS ax,?_,?_,?_,?_⟩
 .rw[<-fS,t4];exact fQ
 .have e0:EL lv env tr' A lv.length=EL lv env tr A lv.length:=(by grind [Q3s,Nat.lt_or_ge]);rw[<-fS,t4,ec tr',e0,bw,t2];exact Yc (bG.lrel hL) dP o.dst
 .rw[JN];exact dI.ext hH bG
 .rw[<-fS,t4];exact hE.trans bG
theorem Q8v {ops:Array Oper}{pm:List Nat}{d:DInfo}{lv:List VOper}(_hl:DLink P ops pm d lv) {env:Env}{tr:Nat->Value}{hp:Nat->Heap}{ρ0:Plc}{σ0:Heap}{w0:World}{A:Nat->Bool}{a:Act}{w:World}
  (hI:DInv B d lv env tr hp ρ0 σ0 w0 A a w) (hall:∀ j,j<lv.length->A j=true):Br B (List.length env) ρ0 σ0 w0 (λae U'=>ae=EL lv env tr (λ_=>true) lv.length/\U'=hp (d.rank lv.length)) a w:=by
 obtain⟨cC,m,ρ,hm,nj,hH,hL,dI,hE⟩:=hI;have fD:m=d.rank lv.length:=by
  rcases zn m (d.rank lv.length) with h|h
  .grind [Vk]
  .omega
 subst fD;have e:=Ki lv env (tr:=tr) (tr':=tr) (A:=A) (B:=λ_=>true) lv.length (λ_ _=>rfl) (λl hl=>hall l hl);exact⟨_,ρ,_,⟨rfl,rfl⟩,YS _ _ _ _ _,hH,by rw[<-e];exact hL,dI,hE⟩
def FN (pm:List Nat) (d:DInfo) (n:Nat):(Nat->Bool)->List Nat->Prop
 |A,[]=>∀ p,p<n->A p=true
 |A,j::rest=>∃ p,p<n/\pm.getD p 0=j/\A p=false/\(∀ e∈d.ed.getD p [],A e=true)/\FN pm d n (λq=>if q=p then true else A q) rest
theorem EK (hS:OkSpecs P S) {ro:Option Nat}{n:Nat}{ops:Array Oper}{pm:List Nat}{d:DInfo}{lv:List VOper}(hl:DLink P ops pm d lv) (hd:DOk d lv.length) {env:Env}{K:Env->Heap->Prop}
  {Q:Exit->Act->World->Prop}{ρ0:Plc}{σ0:Heap}{w0:World}{l2:List Nat}(hQ:∀ a w,Br B (List.length env) ρ0 σ0 w0 K a w->wpOpsIn (FF ro) n P ops Q l2 a w) {nd:List Nat}{i:Nat}{tr:Nat->Value}{hp:Nat->Heap}(uI:Know S d lv env K nd i tr hp) :
  ∀ (l:List Nat) (A:Nat->Bool) (a:Act) (w:World),FN pm d lv.length A l->DInv B d lv env tr hp ρ0 σ0 w0 A a w->(∀ j,i<=j->j<lv.length->A j=false)->(∀ j,j∈nd->j<lv.length->A j=true)->wpOpsIn (FF ro) n P ops Q (l++l2) a w:=by
 induction uI with
 |full hF hK =>
  intro l;induction l with
  |nil =>intro A a w hs hI _ _;obtain⟨ae,ρ',U',⟨e1,e2⟩,n1⟩:=Q8v hl hI hs;exact hQ a w ⟨ae,ρ',U',by rw[e1,e2];exact hK,n1⟩
  |cons j rest ih =>
   intro A a w hs hI hA hN;obtain⟨p,bh,rfl,jS,he,aS⟩:=hs;rw[xw,wpOpsIn_cons];refine HJ hS hl hd (hF p bh λh=>?_) (λm _ h=>h) hI bh jS he (λ_=>rfl) λa' w' nu=>ih _ a' w' aS nu (λj h1 h2=>by omega) (λj hj iI=>?_)
   .rw[hN p h bh] at jS;cases jS
   .simp_all
 |part hv hk hw hF jO R fB I T H hT next qi =>
  rename_i nd i tr hp v;have aL:i<lv.length:=by
   grind
  intro l;induction l with
  |nil =>intro A a w hs hI hA _;have:=hs i aL;rw[hA i (zd _) aL] at this;cases this
  |cons j rest ih =>
   intro A a w hs hI hA hN;obtain⟨p,bh,rfl,jS,he,aS⟩:=hs;rw[xw,wpOpsIn_cons];have kp:d.k i=2:=by obtain⟨_,_,_,h⟩:=hl.comp i v hv;exact h.trans hk
   rcases Nat.lt_trichotomy p i with jT|rfl|jT
   .refine HJ hS hl hd (hF p jT λh=>?_) (λm hm _=>?_) hI bh jS he (λ_=>rfl) λa' w' nu=>ih _ a' w' aS nu (λj h1 h2=>?_) (λj hj iI=>?_)
    .rw[hN p h bh] at jS;cases jS
    .grind
    .grind
    simp_all
   .refine Cm hS hl hd hv hk hw fB hI hA bh jS he (λ_=>rfl) λu U' a' w' hR nu=>?_;obtain⟨q1,q2,q3,q4,q5⟩:=hT u U' hR;refine qi u U' hR _ _ a' w' aS (nu _ _ q2 q3 q4 q5) (λj h1 h2=>?_) (λj hj iI=>?_)
    .grind
    grind
   .exfalso;obtain⟨e,u,h1,h2,hu,hn⟩:=jO p jT bh;have jP:=z8 bh;have af:d.lt e p=true:=by
     cases h:d.lt e p with
     |true=>rfl
     |false =>
      rcases hn with⟨x,hx,hn⟩|⟨fm,dV⟩
      .exact absurd (hn _ jP) ((hl.touch e p u _ hu jP (hd.free p bh e h2 h).1).1 x hx)
      .obtain⟨_,_,_,q1⟩:=hl.comp e u hu;obtain⟨_,_,_,q2⟩:=hl.comp p _ jP;exact absurd ⟨q1.trans fm,q2.trans (dV _ jP)⟩ (hd.free p bh e h2 h).2
    have gM:A e=true:=by
     obtain⟨e',sY,h3⟩:=hd.path p bh e h2 af;have nw:=he e' sY;rcases h3 with rfl|⟨h3,h4⟩
     .exact nw
     .exact MX hd hI.closed e' (by have:=hd.edge p bh e' sY;omega) nw e h3 h4
    grind
def YY (ops:Array Oper):Array Bool->List Nat->Prop
 |L,[]=>∀ j,j<ops.size->L.getD j false=true
 |L,j::rest=>j∈Region.ready .any ops L/\YY ops (L.setIfInBounds j true) rest
theorem Vb (L:Array Bool) (j i:Nat) (hj:j<L.size):(L.setIfInBounds j true).getD i false=if i=j then true else L.getD i false:=by
 by_cases h:i=j
 .subst h;simp[hj]
 .simp[h,Array.getElem?_setIfInBounds_ne (Ne.symm h)]
theorem IP {ops:Array Oper}(ig:∀ (j:Nat) (o:Oper),ops[j]?=some o->∀ e∈DK o,e<j) {L:Array Bool}(hs:L.size=ops.size) (h:Region.ready .any ops L=[]):∀ j,j<ops.size->L.getD j false=true:=by
 intro j;induction j using Nat.strongRecOn with
 |ind j ih =>
  intro hj;cases hA:L.getD j false with
  |true=>rfl
  |false =>
   exfalso;have:j∈Region.ready .any ops L:=by
    refine mem_ready.2 ⟨?_,ops[j],xy hj,λe he hb=>?_⟩
    .simp_all
    .have:=ig j ops[j] (xy hj) e.on (zM.2 (by grind));exact ih _ this (by omega)
   rw[h] at this;cases this
theorem BJ {ops:Array Oper}{L:Array Bool}(hs:L.size=ops.size) {j:Nat}(h:j∈Region.ready .any ops L):j<ops.size/\L.getD j false=false/\∃ o,ops[j]?=some o/\∀ e∈DK o,L.getD e false=true:=by obtain⟨h1,o,ho,h2⟩:=mem_ready.1 h;have aK:j<ops.size:=(xE.1 ho).1;refine⟨aK,by simp[hs,aK] at h1 |-;exact h1,o,ho,λe he=>?_⟩;obtain⟨x,hx,rfl⟩:=zM.1 he;simp_all
theorem Q1n {ops:Array Oper}(ig:∀ (j:Nat) (o:Oper),ops[j]?=some o->∀ e∈DK o,e<j):∀ (fuel t:Nat) (L:Array Bool),L.size=ops.size->cnt (λi=>L.getD i false) ops.size<=fuel ->
  YY ops L (Region.linearise.go .any ops fuel t L []):=by
 intro fuel;induction fuel with
 |zero =>intro t L hs hc;simp only[Region.linearise.go,List.reverse_nil,YY];exact Ax (by omega)
 |succ fuel ih =>
  intro t L hs hc;simp only[Region.linearise.go]
  change YY ops L (match (Region.ready .any ops L)[t % (Region.ready .any ops L).length]? with
   |some i=>Region.linearise.go .any ops fuel (t / (Region.ready .any ops L).length) (L.setIfInBounds i true) [i]
   |none=>[].reverse)
  cases hi:(Region.ready .any ops L)[t % (Region.ready .any ops L).length]? with
  |none =>
   have jl:Region.ready .any ops L=[]:=by
    cases hr:Region.ready .any ops L with
    |nil=>rfl
    |cons x xs =>rw[hr] at hi;have af:t % (x::xs).length<(x::xs).length:=wP _ (by simp);simp at hi;simp at af;omega
   simp only[List.reverse_nil,YY];exact IP ig hs jl
  |some i =>
   simp only[];rw[linearise_go_acc,List.reverse_singleton,List.singleton_append];have jU:=z_ hi;obtain⟨aL,qj,_⟩:=BJ hs jU;refine⟨jU,ih _ _ (by simp[hs]) ?_⟩;have jV:i<L.size:=by rw[hs];exact aL
   have:=Oi (A:=λi=>L.getD i false) (B:=λk=>(L.setIfInBounds i true).getD k false) (j:=i) qj (by simp only[Vb L i i jV,zB]) (λk hk=>by simp only[Vb L i k jV,z6 hk]) ops.size aL;omega
theorem A3 {ops:Array Oper}:∀ (l:List Nat) (L:Array Bool),L.size=ops.size->YY ops L l->l.Nodup/\∀ j,j∈l<->(j<ops.size/\L.getD j false=false):=by
 intro l;induction l with
 |nil=>intro L hs h;exact⟨List.nodup_nil,λj=>⟨λh=>(by cases h),λ⟨h1,h2⟩=>by rw[h j h1] at h2;cases h2⟩⟩
 |cons i l ih =>
  intro L hs h;obtain⟨jU,h'⟩:=h;obtain⟨aL,qj,_⟩:=BJ hs jU;have jV:i<L.size:=by rw[hs];exact aL
  obtain⟨k1,k2⟩:=ih _ (by simp[hs]) h';refine⟨xC.2 ⟨λhm=>?_,k1⟩,λj=>?_⟩
  .simp_all
  .grind [Vb]
structure DBase (ops:Array Oper) (d:DInfo):Prop where
 ed:∀ (j:Nat) (o:Oper),ops[j]?=some o->d.ed.getD j []=DK o
 edge:∀ j,j<ops.size->∀ e∈d.ed.getD j [],e<j
 path:∀ j,j<ops.size->∀ i,i<j->d.lt i j=true->∃ e∈d.ed.getD j [],e=i\/(i<e/\d.lt i e=true)
 up:∀ i j,d.lt i j=true->i<j
 size:d.ks.length=ops.size
theorem Cd {ops:Array Oper}{d:DInfo}(hb:DBase ops d) {A:Nat->Bool}(hc:∀ j,j<ops.size->A j=true->∀ e∈d.ed.getD j [],A e=true):∀ j,j<ops.size->A j=true->∀ i,i<j->d.lt i j=true->A i=true:=by
 intro j;induction j using Nat.strongRecOn with
 |ind j ih =>
  intro hj hA i hi af;obtain⟨e,he,h⟩:=hb.path j hj i hi af;have ni:=hb.edge j hj e he;have gM:=hc j hj hA e he;rcases h with rfl|⟨h1,h2⟩
  .exact gM
  .exact ih e ni (by omega) gM i h1 h2
theorem Q4p {ops:Array Oper}{d:DInfo}(hb:DBase ops d):∀ (l:List Nat) (L:Array Bool),L.size=ops.size->(∀ j,j<ops.size->L.getD j false=true->∀ e∈d.ed.getD j [],L.getD e false=true)->YY ops L l ->
  l.Pairwise λj i=>d.lt i j=false:=by
 intro l;induction l with
 |nil=>intro L _ _ _;exact List.Pairwise.nil
 |cons j l ih =>
  intro L hs hc h;obtain⟨jU,h'⟩:=h;obtain⟨aL,qj,o,ho,ig⟩:=BJ hs jU;have jV:j<L.size:=by rw[hs];exact aL
  have cS:∀ k,k<ops.size->(L.setIfInBounds j true).getD k false=true->∀ e∈d.ed.getD k [],(L.setIfInBounds j true).getD e false=true:=by
   intro k hk hA e he;rw[Vb L j e jV];split
   .rfl
   .rw[Vb L j k jV] at hA;split at hA
    .rename_i uJ;subst uJ;rw[hb.ed _ o ho] at he;exact ig e he
    .exact hc k hk hA e he
  obtain⟨k1,k2⟩:=A3 l _ (by simp[hs]) h';refine List.Pairwise.cons (λi hi=>?_) (ih _ (by simp[hs]) cS h');cases af:d.lt i j with
  |false=>rfl
  |true =>
   exfalso;have cq:=hb.up i j af;have hA:(L.setIfInBounds j true).getD j false=true:=by rw[Vb L j j jV,z7 rfl]
   have:=Cd hb cS j aL hA i cq af;rw[((k2 i).1 hi).2] at this;cases this
theorem Rf (lt:Nat->Nat->Bool):∀ (s l:List Nat) (n:Nat),s.Perm l->l.length<=n->s.Pairwise (λj i=>lt i j=false)->s∈exts lt n l:=by
 intro s;induction s with
 |nil =>intro l n hp hn _;have:l=[]:=hp.symm.eq_nil;subst this;cases n<;>simp[exts]
 |cons k s ih =>
  intro l n hp hn hs;have hk:k∈l:=hp.mem_iff.1 (by simp);cases l with
  |nil=>cases hk
  |cons x xs =>
   cases n with
   |zero=>simp at hn
   |succ n =>
    simp only[exts];refine List.mem_flatMap.2 ⟨k,hk,?_⟩;obtain⟨h1,h2⟩:=List.pairwise_cons.1 hs;have hall:((x::xs).all λi=>i==k||!lt i k)=true:=by
     grind
    rw[z7 hall];refine zM.2 ⟨s,ih _ n ?_ ?_ h2,rfl⟩
    .grind
    .simp_all
theorem Q0m {j:Nat}:∀ (a a' b b':List Nat),j∉a->j∉a'->a++j::b=a'++j::b'->a=a':=by
 intro a;induction a with
 |nil =>
  intro a' b b' _ h' h;cases a' with
  |nil=>rfl
  |cons x a'=>simp at h;exact(by simp_all)
 |cons x a ih =>
  intro a' b b' h1 h2 h;cases a' with
  |nil=>simp at h;exact(by simp_all)
  |cons y a' =>simp at h;obtain⟨rfl,h⟩:=h;rw[ih a' b b' (λhm=>h1 (by simp[hm])) (λhm=>h2 (by simp[hm])) h]
theorem Am {ops:Array Oper}{d:DInfo}(hb:DBase ops d):∀ (l:List Nat) (L:Array Bool),L.size=ops.size->YY ops L l->∀ pre j post,l=pre++j::post->∀ e∈d.ed.getD j [],L.getD e false=true\/e∈pre:=by
 intro l;induction l with
 |nil=>intro L _ _ pre j post h;simp at h
 |cons i l ih =>
  intro L hs h pre j post he e ij;obtain⟨jU,h'⟩:=h;obtain⟨aL,qj,o,ho,ig⟩:=BJ hs jU;have jV:i<L.size:=by rw[hs];exact aL
  cases pre with
  |nil =>simp at he;obtain⟨rfl,_⟩:=he;rw[hb.ed _ o ho] at ij;exact .inl (ig e ij)
  |cons x pre =>
   simp at he;obtain⟨rfl,he⟩:=he;rcases ih _ (by simp[hs]) h' pre j post he e ij with h1|h1
   .grind [Vb]
   .exact .inr (by simp[h1])
theorem SC {d0 d:DInfo}{pm l:List Nat}(N:Nat) (hN:∀ i∈l,i<N) (kP:pm.Nodup) (ib:l.Nodup) (aT:∀ i,i∈pm<->i∈l) (cD:∀ pre j post,l=pre++j::post->∀ e∈d0.ed.getD j [],e∈l->e∈pre)
  (ig:∀ p,p<pm.length->d.ed.getD p []=Q22 d0 pm p) (hf:pm.filter (λi=>d0.k i==2)=l.filter (λi=>d0.k i==2)) :
  ∀ (post pre:List Nat),l=pre++post->FN pm d pm.length (λq=>pre.contains (pm.getD q N)) post:=by
 intro post;induction post with
 |nil =>
  intro pre hl p hp;have hm:pm.getD p N∈pm:=by simp[ze,hp]
  have:=(aT _).1 hm;rw[hl,xI] at this;simpa using this
 |cons j post ih =>
  intro pre hl;have bR:j∈l:=by rw[hl];simp
  have fS:=(aT j).2 bR;have hp:pm.idxOf j<pm.length:=List.idxOf_lt_length_of_mem fS;have wz:pm[pm.idxOf j]'hp=j:=List.getElem_idxOf hp;have hg:∀ z,pm.getD (pm.idxOf j) z=j:=(by simp_all);have ny:j∉pre:=(by grind);refine⟨pm.idxOf j,hp,hg 0,by simp only[hg];simpa using ny,λe he=>?_,?_⟩
  .rw[ig _ hp] at he;rcases x7.1 he with he|he
   .obtain⟨e0,qd,rfl⟩:=zM.1 he
    grind
   .split at he
    .rename_i ax;rw[hg] at ax;obtain⟨hq,hk⟩:=xW.1 (List.mem_of_getLast? (Option.mem_toList.1 he));have dj:e<pm.idxOf j:=x5.1 hq;have hel:e<pm.length:=by omega
     have heq:pm.getD e N=pm[e]'hel:=by simp[ze,hel]
     have rj:pm.getD e 0=pm[e]'hel:=by simp[ze,hel]
     rw[rj] at hk;simp only[heq];have fF:pm=pm.take (pm.idxOf j)++j::pm.drop (pm.idxOf j+1):=by
      grind [List.take_append_drop,List.drop_eq_getElem_cons]
     have sZ:j∉pm.take (pm.idxOf j):=by
      grind
     have uK:(pm.take (pm.idxOf j)).filter (λi=>d0.k i==2)++j::(pm.drop (pm.idxOf j+1)).filter (λi=>d0.k i==2)=pre.filter (λi=>d0.k i==2)++j::post.filter (λi=>d0.k i==2):=by
      grind
     have:=Q0m _ _ _ _ (by grind) (by grind) uK;have aL:pm[e]∈(pm.take (pm.idxOf j)).filter (λi=>d0.k i==2):=(by grind)
     grind
    .cases he
  .have rk:(λq=>if q=pm.idxOf j then true else pre.contains (pm.getD q N))=λq=>(pre++[j]).contains (pm.getD q N):=by
    grind
   rw[rk];exact ih (pre++[j]) (by rw[hl];simp)
theorem I8 {ops:Array Oper}{vs:List VOper}(h:ops.toList.mapM (J2 P ops)=some vs) (aj:(Kv ops.toList vs).okB=true):DBase ops (Kv ops.toList vs):=by
 have hlen:vs.length=ops.size:=by have:=(XJ _ _ _ h).1;simpa using this
 have mr:(Kv ops.toList vs).ks.length=ops.size:=by simp[Kv,hlen]
 have cA:=aj;unfold DInfo.okB at cA;rw[z1,zg] at cA;obtain⟨wA,mW⟩:=cA;have h0:∀ j,j<ops.size->(Kv ops.toList vs).okE j=true/\(Kv ops.toList vs).an.getD j 0<2 ^ j/\((List.range j).all λi=>!((Kv ops.toList vs).lt i j)||((Kv ops.toList vs).ed.getD j []).any (λe=>e==i||decide (i<e)&&(Kv ops.toList vs).lt i e))=true:=(by simp_all);have nz:∀ j,j<ops.size->∀ e∈(Kv ops.toList vs).ed.getD j [],e<j:=λj hj e he=>by have:=zf.1 (h0 j hj).1 e he;simpa using this
 refine⟨λj o ho=>by simp[Kv,ze,ho],nz,λj hj i hi af=>?_,λi j af=>?_,mr⟩
 .grind
 .rcases zn i j with h|h
  .exact h
  .exfalso;unfold DInfo.lt at af
   grind [Nat.lt_or_ge,Nat.lt_of_lt_of_le,Nat.pow_le_pow_right,Nat.testBit_lt_two_pow,List.getElem?_eq_none]
theorem AY {t:Nat}:∀ (l:List Nat),l.Pairwise (λj i=>¬ (i<t/\t<=j))->l=l.filter (λi=>decide (i<t))++l.filter (λi=>decide (t<=i))
 |[],_=>rfl
 |x::l,h=>by
  obtain⟨h1,h2⟩:=List.pairwise_cons.1 h;have ih:=AY l h2;by_cases hx:x<t
  .grind
  .have sG:t<=x:=by omega
   have jl:l.filter (λi=>decide (i<t))=[]:=(by grind [List.filter_eq_nil_iff])
   grind
theorem HY (hS:OkSpecs P S) {ro:Option Nat}{n:Nat}{ops:Array Oper}{vs:List VOper}(bY:ops.toList.mapM (J2 P ops)=some vs) {d0:DInfo}(_hb:DBase ops d0) {l l2 idx pm:List Nat}(ib:l.Nodup) (af:∀ i∈l,i<ops.size) (uL:∀ i,i∈l<->i∈idx)
  (cD:∀ pre j post,l=pre++j::post->∀ e∈d0.ed.getD j [],e∈l->e∈pre) (fD:Q5z d0 vs idx (l.filter λi=>d0.k i==2) pm=true)
  {env:Env}{U:Heap}{K:Env->Heap->Prop}{ρ:Plc}{w:World}{a:Act}(rn:Zr S ((Ad d0 vs pm).opers (Kz vs pm) 0) env [U] U [] K) (hH:HRel ρ U w) (hL:LRel ρ U.n env a.tmps.toList) (dI:Mks B a.defers w)
  {Q:Exit->Act->World->Prop}(hQ:∀ a' w',Br B (List.length env) ρ U w K a' w'->wpOpsIn (FF ro) n P ops Q l2 a' w'):wpOpsIn (FF ro) n P ops Q (l++l2) a w:=by
 have mR:vs.length=ops.size:=by have:=(XJ _ _ _ bY).1;simpa using this
 simp only[Q5z,z1,zg,zf,List.contains_iff_mem] at fD;obtain⟨m1,m2,m3,m4,m5⟩:=fD;have nB:∀ i,i∈pm<->i∈l:=(by grind);have jT:∀ i∈pm,i<vs.length:=(by simp_all);have hl:DLink P ops pm (Ad d0 vs pm) (Kz vs pm):=DLink.of bY jT;have rp:(Kz vs pm).length=pm.length:=by simp[Kz]
 have mr:(Ad d0 vs pm).ks.length=(Kz vs pm).length:=by simp[Ad]
 have hd:=DOk.of m5;rw[mr] at hd;have ig:∀ p,p<pm.length->(Ad d0 vs pm).ed.getD p []=Q22 d0 pm p:=λp hp=>by simp[Ad,ze,hp]
 have il:=SC (d:=Ad d0 vs pm) ops.size af m3 ib nB cD ig m4 l [] (by simp);have fx:∀ i v,(Kz vs pm)[i]?=some v->(Ad d0 vs pm).k i=v.op.kind:=λi v hv=>(hl.comp i v hv).choose_spec.2.2;obtain⟨k,tr,hp,_,_,k2,k3⟩:=Q3i (Ad d0 vs pm) (Kz vs pm) fx env K (Kz vs pm) 0 (by omega) rfl [] (λ_=>undef) (λ_=>U) [] (λl hl=>by omega) (λl hl=>by omega) (by simpa [DInfo.rank,EL] using rn);have rr:hp 0=U:=k2 0 (by omega);have nC:(λq=>([]:List Nat).contains (pm.getD q ops.size))=λ_=>false:=by funext q;rfl
 rw[nC] at il;refine EK (B:=B) (pm:=pm) hS hl hd hQ k3 l (λ_=>false) a w (by rw[rp];exact il) ?_ (λ_ _ _=>rfl) (λj hj=>by cases hj) (ρ0:=ρ) (σ0:=U) (w0:=w)
 .refine⟨λj hj hA=>(by cases hA),0,ρ,λl a8 hk=>by simp,by omega,by rw[rr];exact hH,?_,dI,by rw[rr];exact Ext.refl _ _ _⟩;have e:EL (Kz vs pm) env tr (λ_=>false) (Kz vs pm).length=env:=by
   have:∀ m,EL (Kz vs pm) env tr (λ_=>false) m=env:=by
    intro m;induction m with
    |zero=>rfl
    |succ m ih=>simp only[EL,zq,if_false];exact ih
   exact this _
  rw[e,rr];exact hL
theorem RB (d:DInfo):∀ (lv:List VOper) (i:Nat),(∀ v∈lv,v.op.kind≠2)->∀ (env:Env) (U:Heap) (pend:List (Nat×(Heap->Prop))) (K:Env->Heap->Prop),T0 S lv env U K->Zr S (d.opers lv i) env [U] U pend K:=by
 intro lv;induction lv with
 |nil=>intro i _ env U pend K h;exact h
 |cons v rest ih =>
  intro i hk env U pend K h;have ax:v.op.kind≠2:=hk v (by simp);have fR:∀ u∈rest,u.op.kind≠2:=λu hu=>hk u (by simp[hu]);simp only[T0] at h;simp only[DInfo.opers,Zr];cases hw:ZY env v.guard with
  |none=>rw[hw] at h;exact h.elim
  |some b =>
   rw[hw] at h;obtain⟨ht,hf⟩:=h;refine⟨λe=>?_,λe=>?_⟩
   .have ht:=ht e;have kL:∃ p,Q6 v.op (Q5 env) U=some p/\T0 S rest (JK env v.dst p.1) p.2 K:=by
     have cK:∀ x:XOp,v.op=.ext x->(∀ y,x≠.nextMap y):=λx hx y hy=>by rw[hx,hy] at ax;exact ax rfl
     have:=ht;unfold vop at this;split at this
     .rename_i f bE heq;rw[heq] at ax;exact absurd rfl ax
     .rename_i f bE heq;rw[heq] at ax;exact absurd rfl ax
     .simp_all
     .cases dk:Q6 v.op (Q5 env) U with
      |none=>rw[dk] at this;exact this.elim
      |some p=>rw[dk] at this;exact⟨p,rfl,this⟩
    obtain⟨p,hp,hr⟩:=kL;have hq:p.2=U:=(by grind [Gh]);rw[hq] at hr;rw[z6 ax];split
    .rw[hp];refine⟨λZ hτ=>?_,ih (i+1) fR _ _ _ _ hr⟩;have:Z=U:=by
      grind
     subst this;show Q_ (Q6 v.op (Q5 env) Z) _;rw[hp];rfl
    .rw[hp];exact ih (i+1) fR _ _ _ _ hr
   .simp_all
theorem Iz (hS:OkSpecs P S) {ro:Option Nat}{n:Nat}{ops:Array Oper}{vs:List VOper}(bY:ops.toList.mapM (J2 P ops)=some vs) {d0:DInfo}(hb:DBase ops d0) (_hk0:∀ i v,vs[i]?=some v->d0.k i=v.op.kind) {s len:Nat}(hlen:0<len) (gg:s+len<=ops.size) {x:DSeg}(hx:Q6b d0 vs s len=some x)
  {l l2:List Nat}(ib:l.Nodup) (aT:∀ i,i∈l<->(s<=i/\i<s+len)) (cD:∀ pre j post,l=pre++j::post->∀ e∈d0.ed.getD j [],e∈l->e∈pre) (jm:l.Pairwise λj i=>d0.lt i j=false)
  {rest:List DSeg}{env:Env}{U:Heap}{K:Env->Heap->Prop}{ρ:Plc}{w:World}{a:Act}(h:N8 S (x::rest) env U K) (hH:HRel ρ U w) (hL:LRel ρ U.n env a.tmps.toList) (dI:Mks B a.defers w)
  {Q:Exit->Act->World->Prop}(hQ:∀ a' w',Br B (List.length env) ρ U w (λenv U=>N8 S rest env U K) a' w'->wpOpsIn (FF ro) n P ops Q l2 a' w'):wpOpsIn (FF ro) n P ops Q (l++l2) a w:=by
 have mR:vs.length=ops.size:=by have:=(XJ _ _ _ bY).1;simpa using this
 unfold Q6b at hx;split at hx
 .rename_i h1;subst h1;obtain rfl:=osj hx;have hs:s<ops.size:=by omega
  have eu:l=[s]:=by
   have hm:∀ i,i∈l<->i=s:=λi=>by rw[aT i];omega
   have hp:l.Perm [s]:=(by grind);exact List.perm_singleton.1 hp
  subst eu;obtain⟨v,hv,hc⟩:=(XJ _ _ _ bY).2 s ops[s] (by simp[hs]);have hg:vs.getD s default=v:=by simp[ze,hv]
  simp only[N8,hg] at h;simp only[T0] at h;rw[List.singleton_append,wpOpsIn_cons];unfold wpOpIn;rw[xy hs];simp only;cases hw:ZY env v.guard with
  |none=>rw[hw] at h;exact h.elim
  |some b =>
   rw[hw] at h;obtain⟨ht,hf⟩:=h;obtain⟨cQ,bw,bp⟩:=Gg hc hL hw;rw[cQ];cases b with
   |false =>rw[z6 (by simp)];refine⟨λf _=>Ei _ _,hQ _ _ ⟨_,ρ,U,hf rfl,Zt _ _ _,hH,by rw[bw];exact Yc hL Jl _,by rw[JN];exact dI,Ext.refl _ _ _⟩⟩
   |true =>rw[z7 rfl];refine V1 hS bp hH hL (ht rfl) λc w' ⟨u,ρ',U',hK,dP,fQ,hE⟩=>?_;exact hQ _ _ ⟨_,ρ',U',hK,Zt _ _ _,fQ,by rw[bw];exact Yc (hE.lrel hL) dP _,by rw[JN];exact dI.ext hH hE,hE⟩
 .rename_i fm;simp only at hx;split at hx
  .rename_i hP;obtain rfl:=osj hx;simp only[N8] at h;have nD:(l.filter λi=>d0.k i==2).Perm ((List.range' s len).filter λi=>d0.k i==2):=by
    grind [List.Perm.filter,List.perm_ext_iff_of_nodup,List.nodup_range']
   have hs:=Rf d0.lt _ _ len nD (by
    refine zJ (List.length_filter_le _ _) (by simp)) (jm.filter _)
   have fD:=zf.1 hP _ (zM.2 ⟨_,hs,rfl⟩);have rn:=h _ (zM.2 ⟨_,zM.2 ⟨_,hs,rfl⟩,rfl⟩);exact HY hS bY hb ib (by grind) (by simp_all) cD fD rn hH hL dI (λa' w' hn=>by
    obtain⟨ae,ρ',U',⟨aM,σ2,hD,hR⟩,n1,n2,n3,n4,n5⟩:=hn;obtain⟨ρ2,d1,d2,d3⟩:=hD ρ w ρ' w' a'.tmps.toList hH n5 n2 n3;exact hQ a' w' ⟨aM,ρ2,σ2,hR,(d1.1.trans n3.1.symm).trans n1,d2,d1,n4,d3⟩)
  .cases hx
theorem Fh (hS:OkSpecs P S) {ro:Option Nat}{n:Nat}{ops:Array Oper}{vs:List VOper}(bY:ops.toList.mapM (J2 P ops)=some vs) {d0:DInfo}(hb:DBase ops d0) (gZ:∀ i v,vs[i]?=some v->d0.k i=v.op.kind)
  {Q:Exit->Act->World->Prop}{K:Env->Heap->Prop}:∀ (f s:Nat) (aO:List DSeg),Ol d0 vs f s=some aO->s<=ops.size->∀ (l:List Nat),l.Nodup->(∀ i,i∈l<->(s<=i/\i<ops.size)) ->
   (∀ pre j post,l=pre++j::post->∀ e∈d0.ed.getD j [],e∈l->e∈pre)->(l.Pairwise λj i=>d0.lt i j=false) ->
   ∀ (env:Env) (U:Heap) (ρ:Plc) (w:World) (a:Act),N8 S aO env U K->HRel ρ U w->LRel ρ U.n env a.tmps.toList->Mks B a.defers w->(∀ a' w',Br B (List.length env) ρ U w K a' w'->Q .normal a' w') ->
   wpOpsIn (FF ro) n P ops Q l a w:=by
 intro f
 have fin:∀ (s:Nat) (aO:List DSeg),s=d0.ks.length->[]=aO->∀ (l:List Nat),(∀ i,i∈l<->(s<=i/\i<ops.size))->∀ (env:Env) (U:Heap) (ρ:Plc) (w:World) (a:Act),N8 S aO env U K->HRel ρ U w->LRel ρ U.n env a.tmps.toList->Mks B a.defers w->(∀ a' w',Br B (List.length env) ρ U w K a' w'->Q .normal a' w') ->
   wpOpsIn (FF ro) n P ops Q l a w:=by
  intro s aO hs fe l aT env U ρ w a h hH hL dI hQ;subst fe;have:l=[]:=by
   cases l with
   |nil=>rfl
   |cons x l =>have:=(aT x).1 (by simp);rw[hs,hb.size] at this;omega
  subst this;exact hQ a w ⟨env,ρ,U,h,rfl,hH,hL,dI,Ext.refl _ _ _⟩
 induction f with
 |zero =>
  intro s aO fe hs l ib aT cD jm env U ρ w a h hH hL dI hQ;simp only[Ol] at fe;split at fe
  .grind
  .cases fe
 |succ f ih =>
  intro s aO fe hs l ib aT cD jm env U ρ w a h hH hL dI hQ;simp only[Ol] at fe;split at fe
  .grind
  .rename_i aJ;split at fe
   .cases fe
   .rename_i t ht;have ru:=List.find?_some ht;have nE:=List.mem_range'_1.1 (List.mem_of_find?_eq_some ht);rw[hb.size] at nE;split at fe
    .rename_i x r hx hr;obtain rfl:=osj fe;have af:∀ i p,i<t->t<=p->p<ops.size->d0.lt i p=true:=λi p hi hp kP=>by
      have h1:=zf.1 ru p (List.mem_range'_1.2 ⟨hp,by rw[hb.size];omega⟩);simp_all
     have rv:l.Pairwise (λj i=>¬ (i<t/\t<=j)):=by
      grind [List.pairwise_iff_forall_sublist]
     have fF:=AY l rv;have qh:∀ i,i∈l.filter (λi=>decide (i<t))<->(s<=i/\i<s+(t-s)):=λi=>by rw[xW,aT i,zg];omega
     have jk:∀ i,i∈l.filter (λi=>decide (t<=i))<->(t<=i/\i<ops.size):=λi=>by rw[xW,aT i,zg];omega
     rw[fF];refine Iz hS bY hb gZ (by omega) (by omega) hx (ib.filter _) qh ?_ (jm.filter _) h hH hL dI ?_
     .grind
     .intro a' w' ⟨ae,ρ',U',k1,k0,k2,k3,k4,k5⟩;refine ih t r hr (by omega) _ (ib.filter _) jk ?_ (jm.filter _) ae U' ρ' w' a' k1 k2 k3 k4 ?_
      .intro pre j post he e ij hel;have:=cD (l.filter (λi=>decide (i<t))++pre) j post (fF.trans (by rw[he,zX])) e ij (xW.1 hel).1
       grind
      .intro a2 w2 ⟨aM,ρ2,σ2,m1,m0,m2,m3,m4,m5⟩;exact hQ a2 w2 ⟨aM,ρ2,σ2,m1,m0.trans k0,m2,m3,m4,k5.trans m5⟩
    .cases fe
theorem Em (hm:P.follows .mixedOrders=true) (hS:OkSpecs P S) {ro:Option Nat}{n:Nat}{id:Nat}{ops:Array Oper}{vs:List VOper}(bY:ops.toList.mapM (J2 P ops)=some vs) {aO:List DSeg}(aj:Q2i (Kv ops.toList vs) vs=some aO)
  {env:Env}{U:Heap}{K:Env->Heap->Prop}{ρ:Plc}{w:World}{a:Act}(h:N8 S aO env U K) (hH:HRel ρ U w) (hL:LRel ρ U.n env a.tmps.toList) (dI:Mks B a.defers w)
  {Q:Exit->Act->World->Prop}(hQ:∀ a' w',Br B (List.length env) ρ U w K a' w'->Q .normal a' w'):(Code.region id ops true).wpIn (FF ro) n P Q a w:=by
 unfold Q2i at aj;split at aj
 .rename_i hB;have hb:=I8 bY hB;have fx:∀ i v,vs[i]?=some v->(Kv ops.toList vs).k i=v.op.kind:=λi v hv=>by
   simp[DInfo.k,Kv,ze,hv]
  generalize qU:Kv ops.toList vs=d0 at *
  refine wpIn_region_draw λt=>?_;simp only[Region.schedule,hm,Bool.true_or,zB];have fG:∀ (j:Nat) (o:Oper),ops[j]?=some o->∀ e∈DK o,e<j:=λj o ho e he=>hb.edge j (xE.1 ho).1 e (by rw[hb.ed j o ho];exact he);have hall:∀ i,(Array.replicate ops.size false).getD i false=false:=λi=>by rw[Array.getD_eq_getD_getElem?,Array.getElem?_replicate];split<;>rfl
  have gj:=Q1n fG ops.size t (Array.replicate ops.size false) (by simp) (by
   have:∀ m,cnt (λi=>(Array.replicate ops.size false).getD i false) m<=m:=by
    intro m;induction m with
    |zero=>exact zd _
    |succ m ih=>simp only[cnt];split<;>omega
   exact this _)
  change wpOpsIn _ _ _ _ _ (Region.linearise.go .any ops ops.size t (Array.replicate ops.size false) []) _ _;generalize Region.linearise.go .any ops ops.size t (Array.replicate ops.size false) []=l at *
  obtain⟨gJ,aT⟩:=A3 l _ (by simp) gj;have jm:=Q4p hb l _ (by simp) (λj _ hA=>by rw[hall] at hA;cases hA) gj;have cD:=Am hb l _ (by simp) gj;refine Fh hS bY hb fx _ 0 aO aj (by omega) l gJ (λi=>by rw[aT i,hall];simp) (λpre j post he e ij _=>?_) jm env U ρ _ a h hH.drew hL (dI.ext hH (Ext.drew _ _ _)) (λa' w' hn=>?_)
  .grind
  .obtain⟨ae,ρ',U',n0,n1,n2,n3,n4,n5⟩:=hn;exact hQ a' w' ⟨ae,ρ',U',n0,n1,n2,n3,n4,(Ext.drew _ _ _).trans n5⟩
 .cases aj
theorem L5 (hm:P.follows .mixedOrders=true) (hS:OkSpecs P S) {ro:Option Nat}{n:Nat}{id:Nat}{ops:Array Oper}{vs:List VOper}(bY:ops.toList.mapM (J2 P ops)=some vs) (aj:N_ (Kv ops.toList vs) vs=true)
  {env:Env}{U:Heap}{K:Env->Heap->Prop}{ρ:Plc}{w:World}{a:Act}(h:T0 S vs env U K) (hH:HRel ρ U w) (hL:LRel ρ U.n env a.tmps.toList) (dI:Mks B a.defers w)
  {Q:Exit->Act->World->Prop}(hQ:∀ a' w',Br B (List.length env) ρ U w K a' w'->Q .normal a' w'):(Code.region id ops true).wpIn (FF ro) n P Q a w:=by
 simp only[N_,z1] at aj;obtain⟨hB,ry,gF⟩:=aj;have hb:=I8 bY hB;have mR:vs.length=ops.size:=by have:=(XJ _ _ _ bY).1;simpa using this
 have ax:∀ v∈vs,v.op.kind≠2:=(by simp_all);have fx:∀ i v,vs[i]?=some v->(Kv ops.toList vs).k i=v.op.kind:=λi v hv=>by simp[DInfo.k,Kv,ze,hv]
 generalize qU:Kv ops.toList vs=d0 at *
 refine wpIn_region_draw λt=>?_;simp only[Region.schedule,hm,Bool.true_or,zB];have fG:∀ (j:Nat) (o:Oper),ops[j]?=some o->∀ e∈DK o,e<j:=λj o ho e he=>hb.edge j (xE.1 ho).1 e (by rw[hb.ed j o ho];exact he);have hall:∀ i,(Array.replicate ops.size false).getD i false=false:=λi=>by rw[Array.getD_eq_getD_getElem?,Array.getElem?_replicate];split<;>rfl
 have gj:=Q1n fG ops.size t (Array.replicate ops.size false) (by simp) (by
  have:∀ m,cnt (λi=>(Array.replicate ops.size false).getD i false) m<=m:=by
   intro m;induction m with
   |zero=>exact zd _
   |succ m ih=>simp only[cnt];split<;>omega
  exact this _)
 change wpOpsIn _ _ _ _ _ (Region.linearise.go .any ops ops.size t (Array.replicate ops.size false) []) _ _;generalize Region.linearise.go .any ops ops.size t (Array.replicate ops.size false) []=l at *
 obtain⟨gJ,aT⟩:=A3 l _ (by simp) gj;have cD:=Am hb l _ (by simp) gj;have af:∀ i∈l,i<ops.size:=λi hi=>((aT i).1 hi).1;have jl:l.filter (λi=>d0.k i==2)=[]:=(by simp_all);have uM:Kz vs (List.range' 0 d0.ks.length)=vs:=by
  apply zK;intro i;unfold Kz;rw[xp];rcases zn i vs.length with hi|hi
  .rw[List.getElem?_range' (by rw[hb.size];omega),z8 hi];simp[ze,hi]
  .rw[zD (by simp[hb.size];omega),zD hi];rfl
 have hd:=RB (S:=S) (Ad d0 vs (List.range' 0 d0.ks.length)) vs 0 ax env U [] K h;rw[<-xI l];refine HY hS bY hb gJ af (λi=>by rw[aT i,hall,List.mem_range'_1,hb.size];simp) (λpre j post he e ij _=>?_) (idx:=List.range' 0 d0.ks.length) (pm:=List.range' 0 d0.ks.length) (by rw[jl];exact gF) (by rw[uM];exact hd) hH.drew hL (dI.ext hH (Ext.drew _ _ _)) (λa' w' hn=>?_)
 .grind
 .obtain⟨ae,ρ',U',n0,n1,n2,n3,n4,n5⟩:=hn;exact hQ a' w' ⟨ae,ρ',U',n0,n1,n2,n3,n4,(Ext.drew _ _ _).trans n5⟩
theorem LJ (hS:OkSpecs P S) {id:Nat}{ops:Array Oper}{lv:List VOper}(bV:ops.toList.mapM (J2 P ops)=some lv):Sound P S (.region id ops false) (.region lv):=by
 intro B cB ro n Q env U ρ w a h hH hL hd hR Q' hQ;simp only[vwp] at h;refine wpIn_region ?_;rw[List.range_eq_range',<-Array.length_toList,wpOpsIn_eq_wpListIn ops.toList 0 (by simp)]
 grind [E_]
theorem cond_true {v:Value}{A B:Prop}(h:I3 v A B):∃ t,v=.bool t/\(t=true->A)/\(t=false->B):=by
 unfold I3 at h;split at h
 .exact⟨_,rfl,h⟩
 .exact h.elim
theorem Fc {c:Code}{vc:VCode}(ih:Sound P S c vc):Sound P S (.loop c) (.loop vc):=by
 intro B cB ro n Q env U ρ w a h hH hL hd hR Q' hQ;simp only[vwp] at h;obtain⟨live,I,n0,h0,kT⟩:=h;refine wpIn_loop_ghost (λk a' w'=>Br B (List.length env) ρ U w (λae U'=>I k (Bp live ae) U') a' w') n0 ⟨env,ρ,U,h0,rfl,hH,hL,hd,Ext.refl _ _ _⟩ ?_;rintro k a1 w1 ⟨a7,ρ1,σ1,k1,k0,k2,k3,k4,k5⟩;have hlen:List.length (Xn live (Bp live a7) (List.replicate env.length poison))=List.length env:=by rw[R6];simp
 refine ih cB ro n _ _ σ1 ρ1 w1 a1 (kT k (Bp live a7) σ1 k1) k2 (Ek live a7 _ _ k3 (EU _ (by rw[<-k3.1,k0]))) k4 (hR.ext k5) _ ?_;rintro e a2 w2 ⟨aM,ρ2,σ2,m1,m0,m2,m3,m4,m5⟩;rw[hlen] at m0;cases e with
 |normal =>obtain⟨n',mw,hI⟩:=m1;exact⟨n',mw,aM,ρ2,σ2,hI,m0,m2,m3,m4,k5.trans m5⟩
 |_=>exact hQ _ a2 w2 ⟨aM,ρ2,σ2,m1,m0,m2,m3,m4,k5.trans m5⟩
theorem Gm (c:Code):Sound P S c .bad:=by intro B cB ro n Q env U ρ w a h;exact h.elim
theorem Fy (hm:P.follows .mixedOrders=true) (hS:OkSpecs P S):∀ (c:Code) (vc:VCode),comp P c=some vc->Sound P S c vc:=by
 intro c;induction c with
 |skip =>intro vc hc;simp[comp] at hc;subst hc;intro B cB ro n Q env U ρ w a h hH hL hd hR Q' hQ;exact wpIn_skip (hQ _ _ _ ⟨env,ρ,U,h,rfl,hH,hL,hd,Ext.refl _ _ _⟩)
 |region id ops dr =>
  intro vc hc;cases dr with
  |false =>simp only[comp,zE,zU] at hc;obtain⟨lv,bV,hc⟩:=hc;simp at hc;subst hc;exact LJ hS bV
  |true =>
   simp only[comp,zE,zU] at hc;obtain⟨lv,bV,hc⟩:=hc;split at hc
   .rename_i aj;simp at hc;subst hc;intro B cB ro n Q env U ρ w a h hH hL hd hR Q' hQ;exact L5 hm hS bV aj h hH hL hd (λa' w' hn=>hQ .normal a' w' hn)
   split at hc
   .rename_i aO aj;simp at hc;subst hc;intro B cB ro n Q env U ρ w a h hH hL hd hR Q' hQ;exact Em hm hS bV aj h hH hL hd (λa' w' hn=>hQ .normal a' w' hn)
   .simp at hc;subst hc;exact Gm _
 |seq x y jW qk =>
  intro vc hc;simp only[comp,zE,zU] at hc;obtain⟨vx,hx,vy,hy,hc⟩:=hc;simp at hc;subst hc;intro B cB ro n Q env U ρ w a h hH hL hd hR Q' hQ;simp only[vwp] at h;refine wpIn_seq (jW vx hx cB ro n _ env U ρ w a h hH hL hd hR _ ?_);rintro e a1 w1 ⟨a7,ρ1,σ1,k1,k0,k2,k3,k4,k5⟩;cases e with
  |normal =>refine qk vy hy cB ro n _ a7 σ1 ρ1 w1 a1 k1 k2 k3 k4 (hR.ext k5) _ ?_;rintro e2 a2 w2 ⟨aM,ρ2,σ2,m1,m0,m2,m3,m4,m5⟩;exact hQ e2 a2 w2 ⟨aM,ρ2,σ2,m1,m0.trans k0,m2,m3,m4,k5.trans m5⟩
  |_=>exact hQ _ a1 w1 ⟨a7,ρ1,σ1,k1,k0,k2,k3,k4,k5⟩
 |cond c x y jW qk =>
  intro vc hc;simp only[comp] at hc;split at hc
  .rename_i aj;simp only[zE,zU] at hc;obtain⟨vx,hx,vy,hy,hc⟩:=hc;simp at hc;subst hc;intro B cB ro n Q env U ρ w a h hH hL hd hR Q' hQ;simp only[vwp] at h;obtain⟨t,ht,h1,h2⟩:=cond_true h;have hv:=XX hL aj;rw[ht] at hv;refine wpIn_cond_split hv.q1c (λe=>?_) (λe=>?_)
   .exact jW vx hx cB ro n Q env U ρ w a (h1 e) hH hL hd hR Q' hQ
   .exact qk vy hy cB ro n Q env U ρ w a (h2 e) hH hL hd hR Q' hQ
  .simp at hc;subst hc;exact Gm _
 |block id x jW =>
  intro vc hc;simp only[comp,zE,zU] at hc;obtain⟨vx,hx,hc⟩:=hc;simp at hc;subst hc;intro B cB ro n Q env U ρ w a h hH hL hd hR Q' hQ;simp only[vwp] at h;refine wpIn_block (jW vx hx cB ro n _ env U ρ w a h hH hL hd hR _ ?_);rintro e a1 w1 ⟨a7,ρ1,σ1,k1,k0,k2,k3,k4,k5⟩;cases e with
  |exit gR =>
   simp only[AH] at k1;simp only[Exit.inBlock];split at k1
   .rename_i he;rw[z7 he];exact hQ _ a1 w1 ⟨a7,ρ1,σ1,k1,k0,k2,k3,k4,k5⟩
   .rename_i he;rw[z6 he];exact hQ _ a1 w1 ⟨a7,ρ1,σ1,k1,k0,k2,k3,k4,k5⟩
  |_=>exact hQ _ a1 w1 ⟨a7,ρ1,σ1,k1,k0,k2,k3,k4,k5⟩
 |loop x jW =>intro vc hc;simp only[comp,zE,zU] at hc;obtain⟨vx,hx,hc⟩:=hc;simp at hc;subst hc;exact Fc (jW vx hx)
 |rangeFunc g ps x y jW qk =>
  intro vc hc;simp only[comp] at hc;split at hc
  .rename_i aj;simp only[zE,zU] at hc
   grind [Ce]
  .simp at hc;subst hc;exact Gm _
 |exit id =>intro vc hc;simp[comp] at hc;subst hc;intro B cB ro n Q env U ρ w a h hH hL hd hR Q' hQ;exact wpIn_exit (hQ _ _ _ ⟨env,ρ,U,h,rfl,hH,hL,hd,Ext.refl _ _ _⟩)
 |ret =>intro vc hc;simp[comp] at hc;subst hc;intro B cB ro n Q env U ρ w a h hH hL hd hR Q' hQ;exact wpIn_ret (hQ _ _ _ ⟨env,ρ,U,h,rfl,hH,hL,hd,Ext.refl _ _ _⟩)
 |_ =>intro vc hc;simp[comp] at hc;subst hc;exact Gm _
end
end Go.V
namespace Go.V
open Go
inductive Ren (n:Nat) (π:Nat->Nat):Value->Value->Prop
 |plain (v:Value) (h:QM v=true):Ren n π v v
 |poison (c:Value):Ren n π poison c
 |glob (g o s:Nat):Ren n π (.pointer (some ⟨g,o,some s⟩)) (.pointer (some ⟨g,o,some s⟩))
 |ptr (i o:Nat) (hi:i<n):Ren n π (.pointer (some ⟨i,o,none⟩)) (.pointer (some ⟨π i,o,none⟩))
 |sl (i o len cap:Nat) (hi:i<n):Ren n π (.slice (some ⟨i,o,none⟩) len cap) (.slice (some ⟨π i,o,none⟩) len cap)
 |slx (i o len cap:Nat) (hi:i<n):Ren n π (.slice (some ⟨i,o,some 0⟩) len cap) (.slice (some ⟨π i,o,some 0⟩) len cap)
 |map (i:Nat) (hi:i<n):Ren n π (.map (some i)) (.map (some (π i)))
 |iface (t:TypeId) (v c:Value) (h:Ren n π v c):Ren n π (.iface t v) (.iface t c)
 |yield (i:Nat) (hi:i<n):Ren n π (.func (.yield i) #[] #[]) (.func (.yield (π i)) #[] #[])
 |func (fn:FuncId) (fs gs cs ds:Array Value) (hf:fs.size=gs.size) (hc:cs.size=ds.size)
   (h1:∀ i (h1:i<fs.size) (h2:i<gs.size),Ren n π fs[i] gs[i]) (h2:∀ i (h1:i<cs.size) (h2:i<ds.size),Ren n π cs[i] ds[i]):Ren n π (.func (.func fn) fs cs) (.func (.func fn) gs ds)
 |agg (cs ds:Array Value) (hc:cs.size=ds.size) (h:∀ i (h1:i<cs.size) (h2:i<ds.size),Ren n π cs[i] ds[i]):Ren n π (.agg cs) (.agg ds)
 |tuple (cs ds:Array Value) (hc:cs.size=ds.size) (h:∀ i (h1:i<cs.size) (h2:i<ds.size),Ren n π cs[i] ds[i]):Ren n π (.tuple cs) (.tuple ds)
def LRen (n:Nat) (π:Nat->Nat) (vs cs:List Value):Prop:=vs.length=cs.length/\∀ (i:Nat) (v c:Value),vs[i]?=some v->cs[i]?=some c->Ren n π v c
theorem Ren.rel {ρ:Plc}{nf n':Nat}{π:Nat->Nat}{v' v:Value}(h:Ren n' π v' v):∀ {c:Value},VRel ρ nf v c->VRel (λi=>if i<n' then ρ (π i) else none) n' v' c:=by
 induction h with
 |plain v h =>intro c hv;have:c=v:=Yg h hv;subst this;exact X1 h
 |poison c=>intro c _;exact .poison _
 |glob g o s=>intro c hv;cases hv;exact .glob _ _ _
 |ptr i o hi =>intro c hv;obtain⟨a,rfl,_,h⟩:=hv.q1h;exact .ptr _ _ _ hi (by simp_all)
 |sl i o len cap hi =>intro c hv;obtain⟨a,al,rfl,_,h⟩:=hv.q1b;exact .sl _ _ _ _ _ _ hi (by simp_all)
 |slx i o len cap hi =>
  intro c hv;cases hv with
  |slx _ _ _ _ a _ h=>exact .slx _ _ _ _ _ hi (by simp_all)
 |map i hi =>
  intro c hv;cases hv with
  |map _ r _ h=>exact .map _ _ hi (by simp_all)
 |yield i hi =>
  intro c hv;cases hv with
  |yield _ r _ h=>exact .yield _ _ hi (by simp_all)
 |iface t v c h ih =>
  intro c hv;cases hv with
  |iface _ _ _ h=>exact .iface _ _ _ (ih h)
 |func fn fs gs cs ds hf hc h1 h2 mb mc =>
  intro c hv;cases hv with
  |func _ _ wB _ ds' rz cS jo gN =>exact .func _ _ _ _ _ (hf.trans rz) (hc.trans cS) (by simp_all) (by simp_all)
 |agg cs ds hc h ih =>
  intro c hv;cases hv with
  |agg _ ds' cS h'=>exact .agg _ _ (hc.trans cS) (by simp_all)
 |tuple cs ds hc h ih =>
  intro c hv;cases hv with
  |tuple _ ds' cS h'=>exact .tuple _ _ (hc.trans cS) (by simp_all)
theorem VRel.ren {ρ:Plc}{n n':Nat}{π:Nat->Nat}(hn:n<=n') (hπ:∀ i,i<n->π i=i) {v c:Value}(h:VRel ρ n v c):Ren n' π v v:=by
 induction h with
 |poison c=>exact .poison _
 |bool b=>exact .plain _ rfl
 |int k x=>exact .plain _ rfl
 |string s=>exact .plain _ rfl
 |nilPtr=>exact .plain _ rfl
 |nilSl=>exact .plain _ rfl
 |nilMap=>exact .plain _ rfl
 |nilFunc=>exact .plain _ rfl
 |nilIface=>exact .plain _ rfl
 |glob g o s=>exact .glob _ _ _
 |ptr i o a hi h=>have:=Ren.ptr (n:=n') (π:=π) i o (by omega);rwa [hπ i hi] at this
 |sl i o len cap a al hi h=>have:=Ren.sl (n:=n') (π:=π) i o len cap (by omega);rwa [hπ i hi] at this
 |slx i o len cap a hi h=>have:=Ren.slx (n:=n') (π:=π) i o len cap (by omega);rwa [hπ i hi] at this
 |map i r hi h=>have:=Ren.map (n:=n') (π:=π) i (by omega);rwa [hπ i hi] at this
 |yield i r hi h=>have:=Ren.yield (n:=n') (π:=π) i (by omega);rwa [hπ i hi] at this
 |iface t v c _ ih=>exact .iface _ _ _ ih
 |func fn fs gs cs ds hf hc _ _ mb mc=>exact .func _ _ _ _ _ rfl rfl (λi k1 _=>mb i k1 (by omega)) (λi k1 _=>mc i k1 (by omega))
 |agg cs ds hc _ ih=>exact .agg _ _ rfl λi k1 _=>ih i k1 (by omega)
 |tuple cs ds hc _ ih=>exact .tuple _ _ rfl λi k1 _=>ih i k1 (by omega)
theorem LRen.rel {ρ:Plc}{nf n':Nat}{π:Nat->Nat}{cH vs:List Value}(h:LRen n' π cH vs) {cs:List Value}(hL:LRel ρ nf vs cs):LRel (λi=>if i<n' then ρ (π i) else none) n' cH cs:=by
 refine⟨h.1.trans hL.1,λi v c hv hc=>?_⟩;have af:i<vs.length:=by rw[<-h.1];grind
 exact(h.2 i v _ hv (z8 af)).rel (hL.2 i _ c (z8 af) hc)
theorem LRel.ren {ρ:Plc}{n n':Nat}{π:Nat->Nat}(hn:n<=n') (hπ:∀ i,i<n->π i=i) {vs cs:List Value}(h:LRel ρ n vs cs):LRen n' π vs vs :=
 ⟨rfl,λi v u hv hu=>by
  obtain rfl:v=u:=osj (hv.symm.trans hu);obtain⟨c,_,hc⟩:=h.get hv;exact hc.ren hn hπ⟩
def ORen (n:Nat) (π:Nat->Nat):VObj->VObj->Prop
 |.map es clock,.map fs kU=>clock=kU/\es.length=fs.length/\∀ (k:Nat) (a b:JH),es[k]?=some a->fs[k]?=some b->a.1=b.1/\a.2.2=b.2.2/\Ren n π a.2.1 b.2.1
 |.iter m since seen last,.iter m' kV nF nG=>m'=π m/\m<n/\since=kV/\seen=nF/\last=nG
 |.lp env r st pend,.lp ae r' mn bC=>LRen n π env ae/\r=r'/\st=mn/\pend=bC
 |_,_=>False
theorem ORen.rel {ρ:Plc}{nf n':Nat}{π:Nat->Nat}{o' o:VObj}(h:ORen n' π o' o) {O:Obj}(hO:ORel ρ nf o O):ORel (λi=>if i<n' then ρ (π i) else none) n' o' O:=by
 cases o'<;>cases o<;>try exact h.elim
 .obtain⟨rfl,hl,hk⟩:=h;obtain⟨entries,h1,h2,h3⟩:=hO;refine⟨entries,h1,by rw[hl];exact h2,λk a ha=>?_⟩;have cI:=(zu.1 ha).1;rw[hl] at cI;obtain⟨e,he,h4,h5,h6⟩:=h3 k _ (z8 cI);obtain⟨k1,k2,k3⟩:=hk k a _ ha (z8 cI);exact⟨e,he,h4.trans k1.symm,h5.trans k2.symm,k3.rel h6⟩
 .obtain⟨rfl,hm,rfl,rfl,rfl⟩:=h;obtain⟨rm,h1,h2⟩:=hO;exact⟨rm,h1,(Ren.map _ hm).rel h2⟩
 .obtain⟨hl,rfl,rfl,rfl⟩:=h;exact⟨hO.1,hl.rel hO.2⟩
theorem ORel.ren {ρ:Plc}{n n':Nat}{π:Nat->Nat}(hn:n<=n') (hπ:∀ i,i<n->π i=i) {o:VObj}{O:Obj}(h:ORel ρ n o O):ORen n' π o o:=by
 cases o with
 |map es clock =>obtain⟨entries,h1,h2,h3⟩:=h;refine⟨rfl,rfl,λk a b ha hb=>?_⟩;obtain rfl:a=b:=osj (ha.symm.trans hb);obtain⟨e,_,_,_,hv⟩:=h3 k a ha;exact⟨rfl,rfl,hv.ren hn hπ⟩
 |iter m since seen last =>
  obtain⟨rm,h1,h2⟩:=h;cases h2 with
  |map _ _ hi _=>exact⟨(hπ m hi).symm,by omega,rfl,rfl,rfl⟩
 |lp env r st pend=>exact⟨h.2.ren hn hπ,rfl,rfl,rfl⟩
def BRen (n:Nat) (π:Nat->Nat):Blk->Blk->Prop
 |.cells c esz wr tight,.cells d nH kH iq=>esz=nH/\wr=kH/\tight=iq/\LRen n π c d
 |.obj o wr,.obj o' kH=>wr=kH/\ORen n π o o'
 |_,_=>False
theorem BRen.wr {n:Nat}{π:Nat->Nat}{b c:Blk}(h:BRen n π b c):b.wr=c.wr:=by cases b<;>cases c<;>first|(exact h.elim)|exact h.2.1|exact h.1
theorem BRen.rel {ρ:Plc}{nf n':Nat}{π:Nat->Nat}{p:Pl}{w:World}{b' b:Blk}(h:BRen n' π b' b) (hB:BRel ρ nf p w b):BRel (λi=>if i<n' then ρ (π i) else none) n' p w b':=by
 cases b' with
 |cells c esz wr tight =>
  cases b with
  |cells d nH kH iq =>
   obtain⟨rfl,rfl,rfl,hl⟩:=h;obtain⟨h1,h2,h3,h4,h5,h6⟩:=hB;refine⟨h1,h2,by rw[hl.1];exact h3,h4,λk v hk=>?_,h6⟩;have cI:k<d.length:=by rw[<-hl.1];grind
   obtain⟨u,hu,hv⟩:=h5 k _ (z8 cI);exact⟨u,hu,(hl.2 k v _ hk (z8 cI)).rel hv⟩
  |obj _ _=>exact h.elim
 |obj o wr =>
  cases b with
  |cells _ _ _ _=>exact h.elim
  |obj o' kH =>obtain⟨rfl,ho⟩:=h;obtain⟨h0,O,h1,h2⟩:=hB;exact⟨h0,O,h1,ho.rel h2⟩
def VObj.plain:VObj->Bool
 |.map es _=>es.all λkv=>QM kv.2.1
 |_=>false
def Blk.plain:Blk->Bool
 |.cells c _ _ _=>c.all QM
 |.obj o _=>o.plain
theorem LRen.plain {n:Nat}{π:Nat->Nat}{c:List Value}(h:c.all QM=true):LRen n π c c :=
 ⟨rfl,λi v u hv hu=>by
  obtain rfl:v=u:=osj (hv.symm.trans hu);exact .plain _ (by grind)⟩
theorem BRen.plain {n:Nat}{π:Nat->Nat}{b:Blk}(h:b.plain=true):BRen n π b b:=by
 cases b with
 |cells c esz wr tight=>exact⟨rfl,rfl,rfl,LRen.plain h⟩
 |obj o wr =>
  cases o with
  |map es clock =>refine⟨rfl,rfl,rfl,λk a b ha hb=>?_⟩;obtain rfl:a=b:=osj (ha.symm.trans hb);exact⟨rfl,rfl,.plain _ (zf.1 h a (z_ ha))⟩
  |_=>cases h
theorem BRel.ren {ρ:Plc}{n n':Nat}{π:Nat->Nat}(hn:n<=n') (hπ:∀ i,i<n->π i=i) {p:Pl}{w:World}{b:Blk}(h:BRel ρ n p w b):BRen n' π b b:=by
 cases b with
 |cells c esz wr tight =>refine⟨rfl,rfl,rfl,rfl,λi v u hv hu=>?_⟩;obtain rfl:v=u:=osj (hv.symm.trans hu);obtain⟨_,_,uN⟩:=h.2.2.2.2.1 i v hv;exact uN.ren hn hπ
 |obj o wr =>obtain⟨_,O,_,ho⟩:=h;exact⟨rfl,ho.ren hn hπ⟩
def DropTo (σ0:Heap) (v:Value) (σf:Heap) (v':Value) (U':Heap):Prop :=
 ∀ ρ0 w0 ρ w c,HRel ρ0 σ0 w0->Ext ρ0 σ0 w0 ρ σf w->HRel ρ σf w->VRel ρ σf.n v c->∃ ρ',VRel ρ' U'.n v' c/\HRel ρ' U' w/\Ext ρ0 σ0 w0 ρ' U' w
theorem DropTo.refl (σ0:Heap) (v:Value) (σf:Heap):DropTo σ0 v σf v σf:=λ_ _ ρ _ _ _ hE hH hv=>⟨ρ,hv,hH,hE⟩
theorem DropTo.rename {σ0 σf U':Heap}{v v':Value}(π:Nat->Nat) (h1:σ0.n<=U'.n)
  (h2:∀ i,i<σ0.n->π i=i/\U'.get i=σf.get i/\(σf.get i=σ0.get i\/∃ b,σf.get i=some b/\b.plain=true))
  (h3:∀ i,σ0.n<=i->i<U'.n->σ0.n<=π i/\∃ b' b,U'.get i=some b'/\σf.get (π i)=some b/\BRen U'.n π b' b)
  (h4:∀ i j,σ0.n<=i->i<U'.n->σ0.n<=j->j<U'.n->π i=π j->i=j) (h5:Ren U'.n π v' v):DropTo σ0 v σf v' U':=by
 intro ρ0 w0 ρ w c fA hE hH hv;have hπ:∀ i,i<σ0.n->π i=i:=λi hi=>(h2 i hi).1;have aB:∀ i b',U'.get i=some b'->∃ b,σf.get (π i)=some b/\BRen U'.n π b' b:=λi b' hb=>by
  have hi:=U'.lt hb;rcases zn i σ0.n with af|aZ
  .obtain⟨k1,k2,k3⟩:=h2 i af;rw[k1];rw[k2] at hb;refine⟨b',hb,?_⟩;rcases k3 with k3|⟨b,k3,k4⟩
   .rw[k3] at hb;obtain⟨p,_,hB⟩:=fA.live i b' hb;exact hB.ren h1 hπ
   grind [osj,BRen.plain]
  grind
 have dm:∀ i j,i<U'.n->j<U'.n->π i=π j->i=j:=(by grind);have hX:Ext ρ0 σ0 w0 (λi=>if i<U'.n then ρ (π i) else none) U' w:=by
  refine⟨hE.os,hE.tape,hE.output,hE.size,hE.keep,?_,h1,λi hi p hp=>?_⟩
  .rintro B hB ⟨i,p,b,hp,hb,hw,rfl⟩;change (if i<U'.n then ρ (π i) else none)=some p at hp;split at hp
   .obtain⟨b0,bz,bF⟩:=aB i b hb;exact hE.wr _ hB ⟨π i,p,b0,hp,bz,by rw[<-bF.wr];exact hw,rfl⟩
   .cases hp
  .change (if i<U'.n then ρ (π i) else none)=some p at hp;split at hp
   .rw[hπ i hi] at hp;exact hE.pl i hi p hp
   .cases hp
 refine⟨λi=>if i<U'.n then ρ (π i) else none,h5.rel hv,fA.ext ⟨λi b' hb=>?_,λi hi=>?_,λi p hp=>?_,λi j p q b cq hp hq hb hw hx=>?_⟩ hX,hX⟩
 .obtain⟨b,bz,bF⟩:=aB i b' hb;obtain⟨p,hp,hB⟩:=hH.live _ b bz;exact⟨p,by simp[U'.lt hb,hp],bF.rel hB⟩
 .show (if i<U'.n then ρ (π i) else none)=none;split
  .rename_i af;rcases zn i σ0.n with cL|aZ
   .obtain⟨k1,k2,_⟩:=h2 i cL;rw[k1];exact hH.dead i (by rw[<-k2];exact hi)
   grind
  .rfl
 .change (if i<U'.n then ρ (π i) else none)=some p at hp;split at hp
  .exact hH.lt _ p hp
  .cases hp
 .change (if i<U'.n then ρ (π i) else none)=some p at hp;change (if j<U'.n then ρ (π j) else none)=some q at hq;split at hp
  .rename_i hi;split at hq
   .rename_i hj;obtain⟨b0,bz,bF⟩:=aB i b hb;exact hH.sep (π i) (π j) p q b0 (λe=>cq (dm i j hi hj e)) hp hq bz (by rw[<-bF.wr];exact hw) hx
   .cases hq
  .cases hp
def Agree (σ0 σf:Heap):Prop:=∀ i,i<σ0.n->σf.get i=σ0.get i
theorem Agree.refl (U:Heap):Agree U U:=λ_ _=>rfl
theorem Agree.push {σ0 U:Heap}(h:Agree σ0 U) (hn:σ0.n<=U.n) (b:Blk):Agree σ0 (U.push b):=λi hi=>(Heap.q0j U b (by omega)).trans (h i hi)
theorem Agree.trans {σ0 σ1 σ2:Heap}(h:Agree σ0 σ1) (k:Agree σ1 σ2) (hn:σ0.n<=σ1.n):Agree σ0 σ2:=λi hi=>(k i (by omega)).trans (h i hi)
section
variable {P:Program}{S:VSpecs}
def KR (tmps:Array Value):ResultVar->Sem Value
 |.tmp t=>pure (tmps.getD t undef)
 |.cell a t=>do loadVar t (<-asAddr (tmps.getD a undef))
theorem TP (fn:Func) (tmps:Array Value):results fn tmps=(do
  let vs <-fn.results.mapM (KR tmps)
  pure (if h:vs.size=1 then vs[0] else .tuple vs)):=by
 unfold results;congr 1
theorem Rn {ρ:Plc}{U:Heap}{w:World}{env:Env}{tmps:Array Value}(hH:HRel ρ U w) (hL:LRel ρ U.n env tmps.toList) {r:ResultVar}{vr:VResult}
  (hc:Jq P r=some vr) {v:Value}(h:Jg env U vr=some v):∃ c,VRel ρ U.n v c/\(KR tmps r).run P w=.ok c w:=by
 have ai:∀ t,VRel ρ U.n (env.getD t undef) (tmps.getD t undef):=λt=>XX (a:=⟨tmps,[]⟩) hL (x:=.tmp t) rfl;cases r with
 |tmp t =>simp[Jq] at hc;subst hc;simp only[Jg,xg] at h;subst h;exact⟨_,ai t,rfl⟩
 |cell a t =>
  simp only[Jq] at hc;split at hc
  .rename_i i d hi hu;simp at hc;subst hc;simp only[Jg,zt] at h;obtain⟨p,hp,rfl⟩:=h;simp only[Q6,Q5] at hp;have ha:=ai a;split at hp
   .rename_i g o s h1;rw[h1] at ha;split at hp
    .rename_i c hb;split at hp
     .rename_i hall;split at hp
      .rename_i v0 hv;simp at hp;subst hp;obtain⟨u,cr,hr⟩:=L7 hH hi hu hb hall hv ha;refine⟨u,cr,?_⟩;have:=hr w (Like.refl ρ w);have nJ:tmps.getD a undef=.pointer (some ⟨g,o,none⟩):=by
        generalize tmps.getD a undef=c at ha;cases ha;rfl
       rw[nJ] at this;simp only[Instr.loadAt,Instr.sureAddr,zx,xc,zj] at this;simp only[KR,nJ,asAddr,zx,xc,zj];exact this
      .cases hp
     .cases hp
    .cases hp
   .rename_i i' o h1;rw[h1] at ha;split at hp
    .rename_i c esz wr tight hb;split at hp
     .rename_i v0 hv;simp at hp;subst hp;obtain⟨u,cr,hr⟩:=AU hH hi hu hb hv ha;refine⟨u,cr,?_⟩;have:=hr w (Like.refl ρ w);obtain⟨ad,nJ,_⟩:=ha.q1h;rw[nJ] at this;simp only[Instr.loadAt,Instr.sureAddr,zx,xc,zj] at this;simp only[KR,nJ,asAddr,zx,xc,zj];exact this
     .cases hp
    .cases hp
   .cases hp
  .cases hc
theorem Cw {α:Type}{ρ:Plc}{n:Nat}(g:α->Sem Value) (w:World) (f:α->Option Value):∀ (l:List α) (vs:List Value),l.mapM f=some vs ->
  (∀ a∈l,∀ v,f a=some v->∃ c,VRel ρ n v c/\(g a).run P w=.ok c w)->∃ cs,LRel ρ n vs cs/\(l.mapM g).run P w=.ok cs w:=by
 intro l;induction l with
 |nil=>intro vs h _;simp at h;subst h;exact⟨[],LRel.nil _ _,rfl⟩
 |cons a l ih =>
  intro vs h hg;rw[x6] at h;cases hf:f a with
  |none=>simp[hf] at h
  |some v =>
   cases hm:l.mapM f with
   |none=>simp[hf,hm] at h
   |some cH =>simp[hf,hm] at h;subst h;obtain⟨c,iN,iO⟩:=hg a (by simp) v hf;obtain⟨cs,rA,jq⟩:=ih cH hm (λb hb=>hg b (by simp[hb]));refine⟨c::cs,LRel.cons iN rA,?_⟩;rw[x6];simp[iO,jq]
theorem PM {ρ:Plc}{U:Heap}{w:World}{env:Env}{tmps:Array Value}(hH:HRel ρ U w) (hL:LRel ρ U.n env tmps.toList) {fn:Func}{rs:List VResult}
  (hc:Vs P fn.results.toList=some rs) {v:Value}(h:JM env U rs=some v):∃ c,VRel ρ U.n v c/\(results fn tmps).run P w=.ok c w:=by
 unfold Vs at hc;have hall:∀ vs,rs.mapM (Jg env U)=some vs->∃ cs,LRel ρ U.n vs cs/\(fn.results.mapM (KR tmps)).run P w=.ok cs.toArray w:=by
  intro vs bY;have nK:fn.results.toList.mapM (λr=>(Jq P r).bind (Jg env U))=some vs:=by
   have:∀ (l:List ResultVar) (rs:List VResult) (vs:List Value),l.mapM (Jq P)=some rs->rs.mapM (Jg env U)=some vs->l.mapM (λr=>(Jq P r).bind (Jg env U))=some vs:=by
    intro l;induction l with
    |nil=>intro rs vs h1 h2;simp at h1;subst h1;simpa using h2
    |cons r l ih =>
     intro rs vs h1 h2;rw[x6] at h1;cases hg:Jq P r with
     |none=>simp[hg] at h1
     |some x =>
      cases hm:l.mapM (Jq P) with
      |none=>simp[hg,hm] at h1
      |some bc =>
       simp[hg,hm] at h1;subst h1;rw[x6] at h2;cases hx:Jg env U x with
       |none=>simp[hx] at h2
       |some y =>
        cases jk:bc.mapM (Jg env U) with
        |none=>simp[hx,jk] at h2
        |some cH =>simp[hx,jk] at h2;subst h2;rw[x6];simp[hg,hx,ih bc cH hm jk]
   exact this _ _ _ hc bY
  obtain⟨cs,k1,k2⟩:=Cw (P:=P) (ρ:=ρ) (n:=U.n) (KR tmps) w _ _ _ nK (λr _ v hv=>by
   cases hr:Jq P r with
   |none=>rw[hr] at hv;cases hv
   |some vr=>rw[hr] at hv;exact Rn hH hL hr hv)
  refine⟨cs,k1,?_⟩;rw[Array.mapM_eq_mapM_toList];simp[k2]
 unfold JM at h;split at h
 .rename_i r;obtain⟨cs,k1,k2⟩:=hall [v] (by simp[h]);have cf:cs.length=1:=by rw[<-k1.1];rfl
  obtain⟨c,rfl⟩:=zS.1 cf;refine⟨c,k1.2 0 v c rfl rfl,?_⟩;rw[TP];simp_all
 .rename_i aJ;simp only[zt] at h;obtain⟨vs,bY,rfl⟩:=h;obtain⟨cs,k1,k2⟩:=hall vs bY;refine⟨.tuple cs.toArray,VRel.q0i k1,?_⟩;have hl:cs.length≠1:=by
   rw[<-k1.1,(XJ _ _ _ bY).1]
   grind [List.length_eq_one_iff]
  rw[TP];simp_all
theorem LU {ρ:Plc}{n:Nat}(k:Nat):LRel ρ n (List.replicate k undef) (List.replicate k undef) :=
 ⟨rfl,(by grind [osj,List.mem_of_getElem?,Jl])⟩
theorem B9 {w:World}{D:Nat}{ds:List Deferred}(h:w.heap[D]?=some (.deferred (some ds))):(Instr.takeDeferred D).run P w=.ok ds (BX w D (.deferred none)):=by simp[Instr.takeDeferred,Qu h (λ_ _ _ e=>by cases e),QL h (λ_ _ _ e=>by cases e)]
theorem Ext.mark {ρ0 ρ:Plc}{σ0 U:Heap}{w0 w:World}(hE:Ext ρ0 σ0 w0 ρ U w) {D:Nat}(hD:w0.heap.size<=D) (O:Obj):Ext ρ0 σ0 w0 ρ U (BX w D O) :=
 ⟨hE.os,hE.tape,hE.output,by rw[Mx];exact hE.size,λB hB hW=>(Yl w D O B (by omega)).trans (hE.keep B hB hW),hE.wr,hE.n,hE.pl⟩
theorem HRel.mark {ρ:Plc}{U:Heap}{w:World}(hH:HRel ρ U w) {D:Nat}{d:Option (List Deferred)}(hD:w.heap[D]?=some (.deferred d)) (O:Obj):HRel ρ U (BX w D O) :=
 hH.world (by rw[Mx];exact zd _) (λi p hp=>Yl w D O p.blk (hH.q0k hD i p hp)) λg cs hg=>Yl w D O g λe=>by obtain⟨⟨e',f,h1⟩,_⟩:=hH.tab g cs hg;rw[e,hD] at h1;cases h1
theorem LL {fn:Func}{tmps:Array Value}{R:Ending->World->Prop}{ρ0:Plc}{σ0:Heap}{w0:World}{ρ:Plc}{U:Heap}
  (rB:∀ w,HRel ρ U w->Ext ρ0 σ0 w0 ρ U w->∃ v,(results fn tmps).run P w=.ok v w/\R (.returned v) w) :
  ∀ (Ds:List Nat) (w:World),Ds.Nodup->(∀ D∈Ds,w0.heap.size<=D/\w.heap[D]?=some (.deferred (some [])))->HRel ρ U w->Ext ρ0 σ0 w0 ρ U w ->
   LeavesInM Fence.wide 0 P fn tmps R (Ds.map λD=>⟨.collected D,#[]⟩) .returning w:=by
 intro Ds;induction Ds with
 |nil=>intro w _ _ hH hE;exact rB w hH hE
 |cons D Ds ih =>intro w gJ hall hH hE;obtain⟨h1,h2⟩:=xC.1 gJ;obtain⟨h3,h4⟩:=hall D (by simp);refine⟨by simp,.inl ⟨D,_,rfl,B9 h4,ih _ h2 (λE bG=>?_) (hH.mark h4 _) (hE.mark h3 _)⟩⟩;obtain⟨k1,k2⟩:=hall E (by simp[bG]);exact⟨k1,by grind [Yl]⟩
theorem DD (hm:P.follows .mixedOrders=true) (hS:OkSpecs P S) {f:FuncId}{fn:Func}{c:Code}{vc:VCode}{rs:List VResult}(hf:P.funcs[f]?=some fn) (hb:fn.body=some c) (hc:comp P c=some vc) (hr:Vs P fn.results.toList=some rs)
  {args:List Value}{U:Heap}{R:Value->Heap->Prop}(h:vwp S vc none (Q5p rs λv σf=>∃ v' U',DropTo U v σf v' U'/\R v' U') (args++List.replicate (fn.ntmps-args.length) undef) U):VCallsTo P f args U R:=by
 intro ρ w aq hH hL;refine callsIn_wide.1 (callsIn_of_wp_marks (n:=0) hf hb trivial (Fy hm hS c vc hc (B:=w.heap.size) none none 0 _ _ U ρ w _ h hH ?_ (Mks.nil (zd _)) (.inl ⟨rfl,rfl⟩) _ ?_) rfl)
 .have hl:args.length=aq.size:=by have:=hL.1;simpa using this
  have:=hL.append (LU (ρ:=ρ) (n:=U.n) (fn.ntmps-args.length));simpa [hl] using this
 .intro e a' w' ⟨ae,ρ',U',k1,_,k2,k3,⟨_,Ds,k4,k6,k7⟩,k5⟩;have fin:(Q_ (JM ae U' rs) λv=>∃ v' aH,DropTo U v U' v' aH/\R v' aH)->LeavesInM Fence.wide 0 P fn a'.tmps (λe w'=>∃ c,e=.returned c/\Got ρ U w R c w') a'.defers .returning w':=by
   intro hk;rw[k4];refine LL (λw1 iL e9=>?_) Ds w' k6 k7 k2 k5;cases hv:JM ae U' rs with
   |none=>rw[hv] at hk;exact hk.elim
   |some v =>rw[hv] at hk;obtain⟨v',aH,hd,hR⟩:=hk;obtain⟨c,iN,iO⟩:=PM iL k3 hr hv;obtain⟨dX,j1,j2,j3⟩:=hd ρ w ρ' w1 c hH e9 iL iN;exact⟨c,iO,c,rfl,v',dX,aH,hR,j1,j2,j3⟩
  cases e with
  |normal=>exact fin k1
  |ret=>exact fin k1
  |_=>exact k1.elim
end
end Go.V
namespace Go.V
open Go
def Fun (P:Program) (f:FuncId) (vc:VCode) (rs:List VResult) (nt:Nat):Prop :=
 ∃ fn,P.funcs[f]?=some fn/\fn.body.bind (comp P)=some vc/\Vs P fn.results.toList=some rs/\fn.ntmps=nt/\(fn.name=="runtime.NumGoroutine")=false
def Q60 (U:Heap) (rs:List VResult) (R:Value->Heap->Prop):Exit->Env->Heap->Prop:=Q5p rs λv σf=>∃ v' U',DropTo U v σf v' U'/\R v' U'
section
variable {P:Program}{S:VSpecs}{f:FuncId}{vc:VCode}{rs:List VResult}{nt:Nat}
theorem Fun.calls (h:Fun P f vc rs nt) (hm:P.follows .mixedOrders=true) (hS:OkSpecs P S) {args:List Value}{U:Heap}{R:Value->Heap->Prop}
  (hw:vwp S vc none (Q60 U rs R) (args++List.replicate (nt-args.length) undef) U):VCalled P f args U R:=by
 obtain⟨fn,h1,h2,h3,h4,h5⟩:=h;cases hb:fn.body with
 |none=>rw[hb] at h2;cases h2
 |some c =>rw[hb] at h2;exact VCallsTo.called ⟨fn,h1,by rw[hb];rfl,h5⟩ (DD hm hS h1 hb h2 h3 (by rw[h4];exact hw))
theorem Fun.enterable (h:Fun P f vc rs nt):Jj P f:=by
 obtain⟨fn,h1,h2,h3,h4,h5⟩:=h;refine⟨fn,h1,?_,h5⟩;cases hb:fn.body with
 |none=>rw[hb] at h2;cases h2
 |some c=>rfl
theorem Fun.callsTo (h:Fun P f vc rs nt) (hm:P.follows .mixedOrders=true) (hS:OkSpecs P S) {args:List Value}{U:Heap}{R:Value->Heap->Prop}
  (hw:vwp S vc none (Q60 U rs R) (args++List.replicate (nt-args.length) undef) U):VCallsTo P f args U R:=by
 obtain⟨fn,h1,h2,h3,h4,h5⟩:=h;cases hb:fn.body with
 |none=>rw[hb] at h2;cases h2
 |some c =>rw[hb] at h2;exact DD hm hS h1 hb h2 h3 (by rw[h4];exact hw)
def Q3 (P:Program):VSpecs where
 fn f:=some λargs U K=>VCalled P f args U K
 yl i:=some λargs U K=>He P i args U K
 it f:=@ite _ (Jj P f) (Classical.propDecidable _) (some λi Y args U K=>Kr P i Y->VCallsTo P f args U K) none
theorem SN:OkSpecs P (Q3 P) :=
  ⟨λf s h => by obtain rfl:=osj h; exactλargs U K h => h,
   λf s h => by obtain rfl:=osj h; exactλargs U K h => h,
   λf T h => by
    simp only [Q3] at h;split at h
    . rename_i he; obtain rfl:=osj h; exact ⟨he, λi Y hY args U K h => h hY⟩
    . cases h⟩
end
end Go.V
namespace Go.V
open Go
inductive EB where
 |cells (c:List Value) (esz:El) (wr tight:Bool)
 |map (es:List JH) (clock:Nat) (wr:Bool)
 |iter (m since:Nat) (seen:List Nat) (last:Nat)
 |lp (st:LoopState) (pend:Option Code)
inductive GT (α:Type) where
 |nil
 |node (v:α) (l r:GT α)
def GT.get {α:Type}(d:α) (t:GT α):Nat->α :=
 GT.rec (motive:=λ_=>Nat->α) (λ_=>d)
  (λv _ _ gl gr i=>Bool.rec (motive:=λ_=>α) (Bool.rec (motive:=λ_=>α) (gr (i / 2-1)) (gl (i / 2)) (Nat.beq (i % 2) 1)) v (Nat.beq i 0)) t
def GT.set {α:Type}(d:α) (f:Nat):GT α->Nat->α->GT α :=
 Nat.rec (motive:=λ_=>GT α->Nat->α->GT α) (λt _ _=>t)
  (λ_ ih t i b=>GT.rec (motive:=λ_=>GT α)
   (Bool.rec (motive:=λ_=>GT α) (Bool.rec (motive:=λ_=>GT α) (.node d .nil (ih .nil (i / 2-1) b)) (.node d (ih .nil (i / 2) b) .nil) (Nat.beq (i % 2) 1)) (.node b .nil .nil) (Nat.beq i 0))
   (λv l r _ _=>Bool.rec (motive:=λ_=>GT α) (Bool.rec (motive:=λ_=>GT α) (.node v l (ih r (i / 2-1) b)) (.node v (ih l (i / 2) b) r) (Nat.beq (i % 2) 1)) (.node b l r) (Nat.beq i 0)) t) f
theorem GT.q0y {α:Type}(d v:α) (l r:GT α) (k:Nat):(GT.node v l r).get d k=if k=0 then v else if k % 2=1 then l.get d (k / 2) else r.get d (k / 2-1):=by
 show (Bool.rec (motive:=λ_=>α) (Bool.rec (motive:=λ_=>α) (r.get d (k / 2-1)) (l.get d (k / 2)) (Nat.beq (k % 2) 1)) v (Nat.beq k 0))=_;by_cases h0:k=0
 .subst h0;rfl
 .have:Nat.beq k 0=false:=by
   cases h:Nat.beq k 0 with
   |false=>rfl
   |true=>exact absurd (zP h) h0
  rw[this,z6 h0];by_cases h1:k % 2=1
  .rw[z7 h1,h1];rfl
  .have:Nat.beq (k % 2) 1=false:=by
    cases h:Nat.beq (k % 2) 1 with
    |false=>rfl
    |true=>exact absurd (zP h) h1
   rw[this,z6 h1]
theorem GT.q2i {α:Type}(d v:α) (f:Nat) (l r:GT α) (i:Nat) (b:α):(GT.node v l r).set d (f+1) i b=if i=0 then .node b l r else if i % 2=1 then .node v (l.set d f (i / 2) b) r else .node v l (r.set d f (i / 2-1) b):=by
 show (Bool.rec (motive:=λ_=>GT α) (Bool.rec (motive:=λ_=>GT α) (.node v l (r.set d f (i / 2-1) b)) (.node v (l.set d f (i / 2) b) r) (Nat.beq (i % 2) 1)) (.node b l r) (Nat.beq i 0))=_;by_cases h0:i=0
 .subst h0;rfl
 .have:Nat.beq i 0=false:=by
   cases h:Nat.beq i 0 with
   |false=>rfl
   |true=>exact absurd (zP h) h0
  rw[this,z6 h0];by_cases h1:i % 2=1
  .rw[z7 h1,h1];rfl
  .have:Nat.beq (i % 2) 1=false:=by
    cases h:Nat.beq (i % 2) 1 with
    |false=>rfl
    |true=>exact absurd (zP h) h1
   rw[this,z6 h1]
theorem GT.set_nil {α:Type}(d:α) (f i:Nat) (b:α):(GT.nil:GT α).set d (f+1) i b=(GT.node d .nil .nil).set d (f+1) i b:=rfl
theorem GT.q1d {α:Type}(d:α):∀ (f:Nat) (t:GT α) (i:Nat) (b:α) (j:Nat),i+1<2 ^ f->(t.set d f i b).get d j=if j=i then b else t.get d j:=by
 intro f;induction f with
 |zero=>intro t i b j h;simp at h
 |succ f ih =>
  intro t i b j h;have hp:2 ^ (f+1)=2*2 ^ f:=by rw[Nat.pow_succ];omega
  have fT:∀ v l r,((GT.node v l r).set d (f+1) i b).get d j=if j=i then b else (GT.node v l r).get d j:=by
   intro v l r;rw[GT.q2i];by_cases hi:i=0
   .subst hi;rw[z7 rfl,GT.q0y,GT.q0y];split<;>rfl
   .rw[z6 hi];by_cases ho:i % 2=1
    .rw[z7 ho,GT.q0y,GT.q0y,ih _ _ _ _ (by omega)];by_cases iJ:j=0
     .subst iJ;rw[z7 rfl,z6 (Ne.symm hi),z7 rfl]
     .rw[z6 iJ,z6 iJ];by_cases iu:j % 2=1
      .rw[z7 iu,z7 iu];by_cases aI:j=i
       .subst aI;simp
       .rw[z6 aI,z6 (by omega)]
      .rw[z6 iu,z6 iu,z6 (by rintro rfl;exact iu ho)]
    .rw[z6 ho,GT.q0y,GT.q0y,ih _ _ _ _ (by omega)];by_cases iJ:j=0
     .subst iJ;rw[z7 rfl,z6 (Ne.symm hi),z7 rfl]
     .rw[z6 iJ,z6 iJ];by_cases iu:j % 2=1
      .rw[z7 iu,z7 iu,z6 (by rintro rfl;exact ho iu)]
      .rw[z6 iu,z6 iu];by_cases aI:j=i
       .subst aI;simp
       .rw[z6 aI,z6 (by omega)]
  cases t with
  |node v l r=>exact fT v l r
  |nil =>
   rw[GT.set_nil,fT d .nil .nil,GT.q0y];split
   .rfl
   .split
    .rfl
    .split<;>rfl
structure CH where
 t:GT (Option EB)
 n:Nat
def CH.get (h:CH) (i:Nat):Option EB:=Bool.rec (motive:=λ_=>Option EB) none (h.t.get none i) (Nat.blt i h.n)
def CH.upd (h:CH) (i:Nat) (b:EB):CH:=⟨h.t.set none 32 i (some b),h.n⟩
def CH.kill (h:CH) (i:Nat):CH:=⟨h.t.set none 32 i none,h.n⟩
def CH.push (h:CH) (b:EB):CH:=⟨h.t.set none 32 h.n (some b),h.n+1⟩
def CH.room (h:CH):Bool:=Nat.ble h.n 1000000000
def CH.empty:CH:=⟨.nil,0⟩
theorem CH.q0v {h:CH}{i:Nat}(hi:i<h.n):h.get i=h.t.get none i:=by unfold CH.get;rw[show Nat.blt i h.n=true from Nat.ble_eq_true_of_le hi]
theorem CH.q0r {h:CH}{i:Nat}(hi:h.n<=i):h.get i=none:=by
 unfold CH.get;cases hb:Nat.blt i h.n with
 |false=>rfl
 |true=>have:=zA hb;omega
theorem CH.q2j {h:CH}{i:Nat}{b:EB}(hi:i<h.n) (hs:h.n<=1000000001) (j:Nat):(h.upd i b).get j=if j=i then some b else h.get j:=by
 rcases zn j h.n with hj|hj
 .rw[CH.q0v (h:=h.upd i b) hj,CH.q0v hj];exact GT.q1d none 32 _ _ _ _ (by omega)
 .rw[CH.q0r (h:=h.upd i b) hj,CH.q0r hj,z6 (by omega)]
theorem CH.q2d {h:CH}{i:Nat}(hi:i<h.n) (hs:h.n<=1000000001) (j:Nat):(h.kill i).get j=if j=i then none else h.get j:=by
 rcases zn j h.n with hj|hj
 .rw[CH.q0v (h:=h.kill i) hj,CH.q0v hj];exact GT.q1d none 32 _ _ _ _ (by omega)
 .rw[CH.q0r (h:=h.kill i) hj,CH.q0r hj];simp
theorem CH.q1r {h:CH}{b:EB}(hs:h.n<=1000000001) (j:Nat):(h.push b).get j=if j=h.n then some b else h.get j:=by
 rcases zn j (h.n+1) with hj|hj
 .rw[CH.q0v (h:=h.push b) hj];show (h.t.set none 32 h.n (some b)).get none j=_;rw[GT.q1d none 32 _ _ _ _ (by omega)];split
  .rfl
  .rw[CH.q0v (by omega)]
 .rw[CH.q0r (h:=h.push b) hj,CH.q0r (by omega),z6 (by omega)]
def EB.to (q:Env×Loop):EB->Blk
 |.cells c e w t=>.cells c e w t
 |.map es cl w=>.obj (.map es cl) w
 |.iter m s sn l=>.obj (.iter m s sn l) true
 |.lp st pend=>.obj (.lp q.1 q.2 st pend) true
structure CSim (rs:Nat->Env×Loop) (h:CH) (U:Heap):Prop where
 n:h.n=U.n
 sm:h.n<=1000000001
 get:∀ i,U.get i=(h.get i).map (EB.to (rs i))
theorem CSim.cells {rs:Nat->Env×Loop}{h:CH}{U:Heap}(hs:CSim rs h U) {i:Nat}{c:List Value}{e:El}{w t:Bool}(hg:h.get i=some (.cells c e w t)):U.get i=some (.cells c e w t):=by rw[hs.get,hg];rfl
theorem CSim.map {rs:Nat->Env×Loop}{h:CH}{U:Heap}(hs:CSim rs h U) {i:Nat}{es:List JH}{cl:Nat}{w:Bool}(hg:h.get i=some (.map es cl w)):U.get i=some (.obj (.map es cl) w):=by rw[hs.get,hg];rfl
theorem CSim.iter {rs:Nat->Env×Loop}{h:CH}{U:Heap}(hs:CSim rs h U) {i m s:Nat}{sn:List Nat}{l:Nat}(hg:h.get i=some (.iter m s sn l)):U.get i=some (.obj (.iter m s sn l) true):=by rw[hs.get,hg];rfl
theorem CSim.lp {rs:Nat->Env×Loop}{h:CH}{U:Heap}(hs:CSim rs h U) {i:Nat}{st:LoopState}{pend:Option Code}(hg:h.get i=some (.lp st pend)):U.get i=some (.obj (.lp (rs i).1 (rs i).2 st pend) true):=by rw[hs.get,hg];rfl
theorem CSim.lt {rs:Nat->Env×Loop}{h:CH}{U:Heap}(hs:CSim rs h U) {i:Nat}{b:EB}(hg:h.get i=some b):i<h.n:=by
 have:U.get i=some (b.to (rs i)):=by rw[hs.get,hg];rfl
 rw[hs.n];exact U.lt this
theorem CSim.upd {rs:Nat->Env×Loop}{h:CH}{U:Heap}(hs:CSim rs h U) {i:Nat}(hi:i<h.n) {b:EB}{b':Blk}(hb:b.to (rs i)=b'):CSim rs (h.upd i b) (U.upd i b'):=by
 refine⟨hs.n,hs.sm,λj=>?_⟩;rw[CH.q2j hi hs.sm];show (if j=i/\i<U.n then some b' else U.get j)=_;by_cases hj:j=i
 .subst hj;rw[z7 ⟨rfl,by rw[<-hs.n];exact hi⟩,z7 rfl,<-hb];rfl
 .rw[z6 (λe=>hj e.1),z6 hj];exact hs.get j
theorem CSim.kill {rs:Nat->Env×Loop}{h:CH}{U:Heap}(hs:CSim rs h U) {i:Nat}(hi:i<h.n):CSim rs (h.kill i) (U.kill i):=by
 refine⟨hs.n,hs.sm,λj=>?_⟩;rw[CH.q2d hi hs.sm];show (if j=i then none else U.get j)=_;by_cases hj:j=i
 .rw[z7 hj,z7 hj];rfl
 .rw[z6 hj,z6 hj];exact hs.get j
theorem CSim.push {rs:Nat->Env×Loop}{h:CH}{U:Heap}(hs:CSim rs h U) (hr:h.room=true) {b:EB}{b':Blk}(hb:b.to (rs h.n)=b'):CSim rs (h.push b) (U.push b'):=by
 have hr:h.n<=1000000000:=zA hr;refine⟨by show h.n+1=U.n+1;rw[hs.n],by show h.n+1<=_;omega,λj=>?_⟩;rw[CH.q1r hs.sm];show (if j=U.n then some b' else U.get j)=_;rw[<-hs.n];by_cases hj:j=h.n
 .subst hj;rw[z7 rfl,z7 rfl,<-hb];rfl
 .rw[z6 hj,z6 hj];exact hs.get j
theorem CSim.rs {rs bc:Nat->Env×Loop}{h:CH}{U:Heap}(hs:CSim rs h U) (hr:∀ i,i<h.n->bc i=rs i):CSim bc h U :=
 ⟨hs.n,hs.sm,λi=>by
  rw[hs.get];cases hg:h.get i with
  |none=>rfl
  |some b=>rw[hr i (hs.lt hg)]⟩
def CH.sl (U:CH) (esz:Nat):Value->Option (List Value)
 |.slice none 0 0=>some []
 |.slice (some ⟨i,o,none⟩) n _ =>
  match U.get i with
  |some (.cells c e _ _)=>if e.sz=esz/\o+n*esz<=c.length then some ((c.drop o).take (n*esz)) else none
  |_=>none
 |_=>none
def CH.mapAt (U:CH) (m:Nat):Option (List JH×Nat×Bool):=match U.get m with
 |some (.map es clock wr)=>some (es,clock,wr)
 |_=>none
def VT (U:CH) (b:EB) (v:Value):Option (Value×CH):=if U.room=true then some (v,U.push b) else none
def RH (esz:El) (bytes:Nat) (U:CH) (s:Value) (m:Nat) (xs:List Value):Option (Value×CH) :=
 match s with
 |.slice none 0 0 =>
  if m=0 then some (s,U) else
  if m*bytes<=2 ^ 46 then VT U (.cells xs esz true false) (.slice (some ⟨U.n,0,none⟩) m m) else none
 |.slice (some ⟨i,o,none⟩) n cap =>
  match U.get i with
  |some (.cells c e wr tight) =>
   if e=esz/\n<=cap/\o+n*esz.sz<=c.length then
    if m=0 then some (s,U) else
    if n+m<=cap then
     (if wr=true/\o+(n+m)*esz.sz<=c.length then some (.slice (some ⟨i,o,none⟩) (n+m) cap,U.upd i (.cells (W_ c (o+n*esz.sz) xs) e wr tight)) else none)
    else if (n+m)*bytes<=2 ^ 46 then
     (if tight then VT U (.cells ((c.drop o).take (n*esz.sz)++xs) esz true false) (.slice (some ⟨U.n,0,none⟩) (n+m) (n+m))
     else if wr then VT (U.kill i) (.cells ((c.drop o).take (n*esz.sz)++xs) esz true false) (.slice (some ⟨U.n,0,none⟩) (n+m) (n+m))
     else none)
    else none
   else none
  |_=>none
 |.slice (some ⟨i,o,some 0⟩) n cap =>
  match U.get i with
  |some (.cells c e _ _) =>
   if e=esz/\n=cap/\o+n*esz.sz<=c.length/\m≠0/\(n+m)*bytes<=2 ^ 46 then
    VT U (.cells ((c.drop o).take (n*esz.sz)++xs) esz true false) (.slice (some ⟨U.n,0,none⟩) (n+m) (n+m))
   else none
  |_=>none
 |_=>none
def AQ (size:Nat) (U:CH) (s:Value) (l h:Nat) (m:Option Nat):Option (Value×CH) :=
 match s with
 |.slice none 0 0=>if l=0/\h=0/\(m.getD 0)=0 then some (.slice none 0 0,U) else none
 |.slice (some ⟨i,o,none⟩) _ cap =>
  match U.get i with
  |some (.cells _ e _ t) =>
   match m with
   |none=>if e.sz=size/\l<=h/\h<=cap then some (.slice (some ⟨i,o+l*size,none⟩) (h-l) (cap-l),U) else none
   |some m =>
    if e.sz=size/\l<=h/\h<=m/\m<=cap then
     if m=l then VT U (.cells [] e false true) (.slice (some ⟨U.n,0,none⟩) 0 0)
     else if t=false/\h=m then some (.slice (some ⟨i,o+l*size,some 0⟩) (h-l) (m-l),U)
     else some (.slice (some ⟨i,o+l*size,none⟩) (h-l) (m-l),U)
    else none
  |_=>none
 |_=>none
def Q2g:Nat->Value->Value->CH->Option Bool
 |0,.pointer none,.pointer none,_=>some true
 |0,.pointer none,.pointer (some _),_=>some false
 |0,.pointer (some _),.pointer none,_=>some false
 |0,.pointer (some ⟨i,o,none⟩),.pointer (some ⟨j,q,none⟩),U=>if i=j/\o=q/\(U.get i).isSome=true then some true else none
 |1,.slice none _ _,.slice none _ _,_=>some true
 |1,.slice none _ _,.slice (some _) _ _,_=>some false
 |1,.slice (some _) _ _,.slice none _ _,_=>some false
 |2,.map none,.map none,_=>some true
 |2,.map none,.map (some _),_=>some false
 |2,.map (some _),.map none,_=>some false
 |3,.nilFunc,.nilFunc,_=>some true
 |3,.nilFunc,.func _ _ _,_=>some false
 |3,.func _ _ _,.nilFunc,_=>some false
 |_,_,_,_=>none
def Xr (o:XOp) (ev:Operand->Value) (U:CH):Option (Value×CH) :=
 match o with
 |.eqAgg neg s x y=>match ev x,ev y with
  |.agg a,.agg b=>if fits s a.toList=true/\fits s b.toList=true then some (.bool (if neg then !(Qn a.toList b.toList) else Qn a.toList b.toList),U) else none
  |_,_=>none
 |.eqNil kd neg x y=>match Q2g kd (ev x) (ev y) U with|some b=>some (.bool (if neg then !b else b),U)|none=>none
 |.makeMap=>VT U (.map [] 0 true) (.map (some U.n))
 |.lookup mk z ok x i =>
  let k:=ev i
  if ZZ mk k then
   match ev x with
   |.map none=>some (if ok then .tuple #[z,.bool false] else z,U)
   |.map (some m)=>match U.mapAt m with
    |some (es,_,_)=>if es.all (λe=>ZZ mk e.1) then
      (match QK k es with
      |some e=>some (if ok then .tuple #[e.2.1,.bool true] else e.2.1,U)
      |none=>some (if ok then .tuple #[z,.bool false] else z,U)) else none
    |none=>none
   |_=>none
  else none
 |.mapUpdate mk m k v=>match ev m with
  |.map (some i)=>match U.mapAt i with
   |some (es,clock,true)=>if ZZ mk (ev k)&&es.all (λe=>ZZ mk e.1) then some (undef,U.upd i (.map (QW (ev k) (ev v) clock es).1 (QW (ev k) (ev v) clock es).2 true)) else none
   |_=>none
  |_=>none
 |.delete mk m k=>match ev m with
  |.map (some i)=>match U.mapAt i with
   |some (es,clock,true)=>if ZZ mk (ev k)&&es.all (λe=>ZZ mk e.1) then some (.tuple #[],U.upd i (.map (DS (ev k) es) clock true)) else none
   |_=>none
  |_=>none
 |.lenMap x=>match ev x with
  |.map none=>some (.int .i64 0,U)
  |.map (some m)=>match U.mapAt m with
   |some (es,_,_)=>some (.int .i64 es.length,U)
   |none=>none
  |_=>none
 |.rangeMap x=>match ev x with
  |.map (some m)=>match U.mapAt m with
   |some (_,clock,_)=>VT U (.iter m clock [] clock) (.pointer (some ⟨U.n,0,none⟩))
   |none=>none
  |_=>none
 |.entry x=>match ev x with
  |.pointer (some ⟨i,0,none⟩)=>match U.get i with
   |some (.iter m _ seen last)=>match U.mapAt m,seen.getLast? with
    |some (es,clock,_),some b=>if clock=last then (match es.find? (λe=>e.2.2==b) with|some e=>if Kt e.1 then some (.tuple #[e.1,e.2.1],U) else none|none=>none) else none
    |_,_=>none
   |_=>none
  |_=>none
 |.copy size d s=>match ev d,ev s with
  |.slice db dn _,.slice sb sn sc =>
   if min sn dn=0 then some (.int .i64 0,U) else
   match db,U.sl size (.slice sb (min sn dn) sc) with
   |some ⟨i,o,none⟩,some xs=>match U.get i with
    |some (.cells c e wr tight)=>if wr=true/\e.sz=size/\o+xs.length<=c.length/\xs.all cellOk=true then some (.int .i64 (min sn dn:Nat),U.upd i (.cells (W_ c o xs) e wr tight)) else none
    |_=>none
   |_,_=>none
  |_,_=>none
 |.clear z x=>match ev x with
  |.slice b n _ =>
   if n=0 then some (.tuple #[],U) else
   match b with
   |some ⟨i,o,none⟩=>match U.get i with
    |some (.cells c e wr tight)=>if wr=true/\o+n*z.length<=c.length/\z.all cellOk=true then some (.tuple #[],U.upd i (.cells (W_ c o (BI n z)) e wr tight)) else none
    |_=>none
   |_=>none
  |_=>none
 |.toUnsafe x=>match ev x with
  |.pointer none=>some (.pointer none,U)
  |.pointer (some ⟨i,o,none⟩)=>match U.get i with
   |some (.cells c _ _ _)=>if o<c.length then some (.pointer (some ⟨i,o,none⟩),U) else none
   |_=>none
  |_=>none
 |.fromUnsafe u size x=>match ev x with
  |.pointer none=>some (.pointer none,U)
  |.pointer (some ⟨i,o,none⟩)=>match U.get i with
   |some (.cells c e true true)=>if o=0/\e.ty=u/\size<=c.length then some (.pointer (some ⟨i,o,none⟩),U) else none
   |_=>none
  |_=>none
 |.sliceData x=>match ev x with
  |.slice none _ _=>some (.pointer none,U)
  |.slice (some ⟨i,o,none⟩) _ cap=>if cap≠0/\(U.get i).isSome=true then some (.pointer (some ⟨i,o,none⟩),U) else none
  |_=>none
 |.unsafeStr e x n=>match ev x,ev n with
  |.pointer p,.int .i64 k =>
   if k=0 then some (.string ⟨#[]⟩,U) else
   match p with
   |some ⟨i,o,none⟩=>match U.get i with
    |some (.cells c el true tight) =>
     if 0<k/\k<=2 ^ 62/\el.ty=e/\o+k.toNat<=c.length then
      (match DI ((c.drop o).take k.toNat) with
      |some s=>some (.string s,U.upd i (.cells c el false tight))
      |none=>none) else none
    |_=>none
   |_=>none
  |_,_=>none
 |.bytesStr x=>match ev x with
  |.slice a n c=>match U.sl 1 (.slice a n c) with
   |some xs=>match DI xs with|some s=>some (.string s,U)|none=>none
   |none=>none
  |_=>none
 |.strBytes e x=>match ev x with
  |.string s=>if s.size<=2 ^ 62 then VT U (.cells (s.data.toList.map λb=>.int .u8 b.toNat) ⟨1,e⟩ true false) (.slice (some ⟨U.n,0,none⟩) s.size s.size) else none
  |_=>none
 |_=>none
def Heap.empty:Heap:=⟨λ_=>none,0,λ_ _=>rfl⟩
def Ow (o:VOp) (ev:Operand->Value) (U:CH):Option (Value×CH) :=
 match o with
 |.alloc t z=>VT U (.cells z ⟨z.length,t⟩ true true) (.pointer (some ⟨U.n,0,none⟩))
 |.box t x=>match YM (ev x) with
  |some vs=>VT U (.cells vs ⟨vs.length,t⟩ true true) (.pointer (some ⟨U.n,0,none⟩))
  |none=>none
 |.buildSlice esz z len parts=>match U8 (BI len z) (parts.map λp=>(p.1*esz.sz,esz.sz,ev p.2)) with
  |some cs=>VT U (.cells cs esz true true) (.slice (some ⟨U.n,0,none⟩) len len)
  |none=>none
 |.load agg size a=>match ev a with
  |.pointer (some ⟨g,o,some _⟩)=>(match Q03 g with
   |some c=>if c.all QM then (match X_ agg size c o with|some v=>some (v,U)|none=>none) else none
   |none=>none)
  |.pointer (some ⟨i,o,none⟩)=>match U.get i with
   |some (.cells c _ _ _)=>match X_ agg size c o with|some v=>some (v,U)|none=>none
   |_=>none
  |_=>none
 |.store size a v=>match ev a,YM (ev v) with
  |.pointer (some ⟨i,o,none⟩),some vs=>match U.get i with
   |some (.cells c e wr tight)=>if wr=true/\vs.length=size/\o+size<=c.length/\vs.all cellOk=true then some (undef,U.upd i (.cells (W_ c o vs) e wr tight)) else none
   |_=>none
  |_,_=>none
 |.slice size x lo hi mx =>
  match ev x with
  |.slice a n cap =>
   match ZX ev lo 0,ZX ev hi n,mx with
   |some l,some h,none=>AQ size U (.slice a n cap) l h none
   |some l,some h,some _=>match ZX ev mx 0,hi with
    |some m,some _=>AQ size U (.slice a n cap) l h (some m)
    |_,_=>none
   |_,_,_=>none
  |_=>none
 |.makeSlice esz bytes z l c =>
  match ev l,ev c with
  |.int _ a,.int _ b=>if 0<=a/\a<=b/\b*bytes<=2 ^ 46/\b<=2 ^ 46 then VT U (.cells (BI b.toNat z) esz true true) (.slice (some ⟨U.n,0,none⟩) a.toNat b.toNat) else none
  |_,_=>none
 |.append esz bytes s x =>
  match U.sl esz.sz (ev x),ev x with
  |some xs,.slice _ m _=>if xs.all cellOk then RH esz bytes U (ev s) m xs else none
  |_,_=>none
 |.ext o=>Xr o ev U
 |o=>if o.kind=0 then (match Q6 o ev Heap.empty with|some p=>some (p.1,U)|none=>none) else none
def ESnd (rs:Nat->Env×Loop) (h:CH) (_σ:Heap) (r:Option (Value×Heap)) (p:Value×CH):Prop:=h.n<=p.2.n/\∃ U',r=some (p.1,U')/\CSim rs p.2 U'
theorem ESnd.same {rs:Nat->Env×Loop}{h:CH}{U:Heap}(hs:CSim rs h U) {r:Option (Value×Heap)}{v:Value}(hr:r=some (v,U)):ESnd rs h U r (v,h):=⟨zd _,U,hr,hs⟩
theorem ESnd.upd {rs:Nat->Env×Loop}{h:CH}{U:Heap}(hs:CSim rs h U) {r:Option (Value×Heap)}{v:Value}{i:Nat}{b:EB}{b0:EB}(hg:h.get i=some b0) {b':Blk}(hb:b.to (rs i)=b') (hr:r=some (v,U.upd i b')):ESnd rs h U r (v,h.upd i b):=by have hi:=hs.lt hg;have nL:=hs.sm;exact⟨zd _,_,hr,hs.upd hi hb⟩
theorem ESnd.push {rs:Nat->Env×Loop}{h:CH}{U:Heap}(hs:CSim rs h U) {r:Option (Value×Heap)}{v:Value}{p:Value×CH}{b:EB}(hp:VT h b v=some p) {b':Blk}(hb:b.to (rs h.n)=b') (hr:r=some (v,U.push b')):ESnd rs h U r p:=by
 unfold VT at hp;split at hp
 .rename_i aQ;obtain rfl:=osj hp;have nL:=hs.sm;exact⟨Nat.le_succ _,_,hr,hs.push aQ hb⟩
 .cases hp
theorem CSim.sl {rs:Nat->Env×Loop}{h:CH}{U:Heap}(hs:CSim rs h U) {esz:Nat}{v:Value}{xs:List Value}(hx:h.sl esz v=some xs):U.sl esz v=some xs:=by
 unfold CH.sl at hx;unfold Heap.sl;split at hx
 .exact hx
 .rename_i i o n c;split at hx
  .rename_i cs e wr t hb;simp only[hs.cells hb];exact hx
  .cases hx
 .cases hx
theorem CSim.mapAt {rs:Nat->Env×Loop}{h:CH}{U:Heap}(hs:CSim rs h U) {m:Nat}{x:List JH×Nat×Bool}(hx:h.mapAt m=some x):U.mapAt m=some x/\h.get m=some (.map x.1 x.2.1 x.2.2):=by
 unfold CH.mapAt at hx;unfold Heap.mapAt;split at hx
 .rename_i es clock wr hb;obtain rfl:=osj hx;exact⟨by simp only[hs.map hb],hb⟩
 .cases hx
theorem Cg {rs:Nat->Env×Loop}{h:CH}{U:Heap}(hs:CSim rs h U) {kd:Nat}{a b:Value}{r:Bool}(hx:Q2g kd a b h=some r):J8 kd a b U=some r:=by
 unfold Q2g at hx;unfold J8
 split at hx<;>first
  |exact hx
  |(cases hx;done)
  |skip
 rename_i i o j q;split at hx
 .rename_i hc;obtain⟨h1,h2,h3⟩:=hc;have cS:i=j/\o=q/\(U.get i).isSome=true:=⟨h1,h2,by rw[hs.get];simpa using h3⟩;simp only[z7 cS];exact hx
 .cases hx
theorem Rq {rs:Nat->Env×Loop}{h:CH}{U:Heap}(hs:CSim rs h U) {esz:El}{bytes:Nat}{s:Value}{m:Nat}{xs:List Value}{p:Value×CH}(hx:RH esz bytes h s m xs=some p):ESnd rs h U (Y0 esz bytes U s m xs) p:=by
 unfold RH at hx;unfold Y0;split at hx
 .split at hx
  .rename_i hm;simp only[z7 hm];obtain rfl:=osj hx;exact .same hs rfl
  .rename_i hm;simp only[z6 hm];split at hx
   .rename_i hb;simp only[z7 hb];rw[hs.n] at hx;exact .push hs hx rfl rfl
   .cases hx
 .rename_i i o n cap;split at hx
  .rename_i c e wr tight hg;have nL:=hs.sm;have hi:=hs.lt hg;simp only[hs.cells hg];split at hx
   .rename_i h1;simp only[z7 h1];split at hx
    .rename_i h2;simp only[z7 h2];obtain rfl:=osj hx;exact .same hs rfl
    .rename_i h2;simp only[z6 h2];split at hx
     .rename_i h3;simp only[z7 h3];split at hx
      .rename_i h4;simp only[z7 h4];obtain rfl:=osj hx;exact .upd hs hg rfl rfl
      .cases hx
     .rename_i h3;simp only[z6 h3];split at hx
      .rename_i h4;simp only[z7 h4];split at hx
       .rename_i h5;simp only[z7 h5];rw[hs.n] at hx;exact .push hs hx rfl rfl
       .rename_i h5;simp only[z6 h5];split at hx
        .rename_i h6;simp only[z7 h6];rw[hs.n] at hx;have hk:=hs.kill hi;obtain⟨k1,U',k2,k3⟩:=ESnd.push (r:=some (.slice (some ⟨U.n,0,none⟩) (n+m) (n+m),(U.kill i).push (.cells ((c.drop o).take (n*esz.sz)++xs) esz true false))) hk hx rfl rfl;exact⟨k1,U',k2,k3⟩
        .cases hx
      .cases hx
   .cases hx
  .cases hx
 .rename_i i o n cap;split at hx
  .rename_i c e wr tight hg;simp only[hs.cells hg];split at hx
   .rename_i h1;simp only[z7 h1];rw[hs.n] at hx;exact .push hs hx rfl rfl
   .cases hx
  .cases hx
 .cases hx
theorem Dk {rs:Nat->Env×Loop}{h:CH}{U:Heap}(hs:CSim rs h U) {size:Nat}{s:Value}{l k:Nat}{m:Option Nat}{p:Value×CH}(hx:AQ size h s l k m=some p):ESnd rs h U (W5 size U s l k m) p:=by
 unfold AQ at hx;unfold W5;split at hx
 .split at hx
  .rename_i hm;simp only[z7 hm];obtain rfl:=osj hx;exact .same hs rfl
  .cases hx
 .rename_i i o n cap;split at hx
  .rename_i c e wr tight hg;simp only[hs.cells hg];split at hx
   .split at hx
    .rename_i h1;simp only[z7 h1];obtain rfl:=osj hx;exact .same hs rfl
    .cases hx
   .split at hx
    .rename_i h1;simp only[z7 h1];split at hx
     .rename_i h2;simp only[z7 h2];rw[hs.n] at hx;exact .push hs hx rfl rfl
     .rename_i h2;simp only[z6 h2];split at hx
      .rename_i h3;simp only[z7 h3];obtain rfl:=osj hx;exact .same hs rfl
      .rename_i h3;simp only[z6 h3];obtain rfl:=osj hx;exact .same hs rfl
    .cases hx
  .cases hx
 .cases hx
theorem H3 {rs:Nat->Env×Loop}{h:CH}{U:Heap}(hs:CSim rs h U) {o:XOp}{ev:Operand->Value}{p:Value×CH}(hx:Xr o ev h=some p):ESnd rs h U (Zd o ev U) p:=by
 cases o
 case eqAgg neg s x y =>
  simp only[Xr] at hx;simp only[Zd];split at hx
  .rename_i a b ha hb;split at hx
   .rename_i hc;rw[ha,hb];simp only;rw[z7 hc];obtain rfl:=osj hx;exact .same hs rfl
   .cases hx
  .cases hx
 case eqNil kd neg x y =>
  simp only[Xr] at hx;simp only[Zd];split at hx
  .rename_i b hb;rw[Cg hs hb];obtain rfl:=osj hx;exact .same hs rfl
  .cases hx
 case makeMap =>
  simp only[Xr] at hx;simp only[Zd];rw[hs.n] at hx;exact .push hs hx rfl rfl
 case lookup mk z ok x i =>
  simp only[Xr] at hx;simp only[Zd];generalize ev x=q0 at hx |-;generalize ev i=q1 at hx |-;split at hx
  .rename_i hk;simp only[z7 hk];split at hx
   .obtain rfl:=osj hx;exact .same hs rfl
   .rename_i m hm;split at hx
    .rename_i es cl wr gk;obtain⟨k1,k2⟩:=hs.mapAt gk;simp only[k1];split at hx
     .rename_i hall;simp only[z7 hall];split at hx
      .rename_i e hf;simp only[hf];obtain rfl:=osj hx;exact .same hs rfl
      .rename_i hf;simp only[hf];obtain rfl:=osj hx;exact .same hs rfl
     .cases hx
    .cases hx
   .cases hx
  .cases hx
 case mapUpdate mk m k v =>
  simp only[Xr] at hx;simp only[Zd];generalize ev m=q0 at hx |-;split at hx
  .rename_i i hi;split at hx
   .rename_i es cl gk;obtain⟨k1,k2⟩:=hs.mapAt gk;simp only[k1];split at hx
    .rename_i hc;simp only[z7 hc];obtain rfl:=osj hx;exact .upd hs k2 rfl rfl
    .cases hx
   .cases hx
  .cases hx
 case delete mk m k =>
  simp only[Xr] at hx;simp only[Zd];generalize ev m=q0 at hx |-;split at hx
  .rename_i i hi;split at hx
   .rename_i es cl gk;obtain⟨k1,k2⟩:=hs.mapAt gk;simp only[k1];split at hx
    .rename_i hc;simp only[z7 hc];obtain rfl:=osj hx;exact .upd hs k2 rfl rfl
    .cases hx
   .cases hx
  .cases hx
 case mapEntry=>cases hx
 case entryStore=>cases hx
 case lenMap x =>
  simp only[Xr] at hx;simp only[Zd];generalize ev x=q0 at hx |-;split at hx
  .obtain rfl:=osj hx;exact .same hs rfl
  .split at hx
   .rename_i es cl wr gk;obtain⟨k1,k2⟩:=hs.mapAt gk;simp only[k1];obtain rfl:=osj hx;exact .same hs rfl
   .cases hx
  .cases hx
 case rangeMap x =>
  simp only[Xr] at hx;simp only[Zd];generalize ev x=q0 at hx |-;split at hx
  .split at hx
   .rename_i es cl wr gk;obtain⟨k1,k2⟩:=hs.mapAt gk;simp only[k1];rw[hs.n] at hx;exact .push hs hx rfl rfl
   .cases hx
  .cases hx
 case nextMap=>cases hx
 case entry x =>
  simp only[Xr] at hx;simp only[Zd];generalize ev x=q0 at hx |-;split at hx
  .split at hx
   .rename_i m since seen last hg;simp only[hs.iter hg];split at hx
    .rename_i es clock wr b gk di;obtain⟨k1,_⟩:=hs.mapAt gk;simp only[k1,di];split at hx
     .rename_i hc;rw[z7 hc];split at hx
      .rename_i e hf;split at hx
       .rename_i hp;rw[hf];simp only[hp,zB];obtain rfl:=osj hx;exact .same hs rfl
       .cases hx
      .cases hx
     .cases hx
    .cases hx
   .cases hx
  .cases hx
 case copy size d s =>
  simp only[Xr] at hx;simp only[Zd];generalize ev d=q0 at hx |-;generalize ev s=q1 at hx |-;split at hx
  .rename_i db dn dc sb sn sc h1 h2;split at hx
   .rename_i hm;simp only[z7 hm];obtain rfl:=osj hx;exact .same hs rfl
   .rename_i hm;simp only[z6 hm];split at hx
    .rename_i i o xs aW;simp only[hs.sl aW];split at hx
     .rename_i c e wr tight hg;simp only[hs.cells hg];split at hx
      .rename_i hc;simp only[z7 hc];obtain rfl:=osj hx;exact .upd hs hg rfl rfl
      .cases hx
     .cases hx
    .cases hx
  .cases hx
 case clear z x =>
  simp only[Xr] at hx;simp only[Zd];generalize ev x=q0 at hx |-;split at hx
  .rename_i b n cap;split at hx
   .rename_i hm;simp only[z7 hm];obtain rfl:=osj hx;exact .same hs rfl
   .rename_i hm;simp only[z6 hm];split at hx
    .rename_i i o;split at hx
     .rename_i c e wr tight hg;simp only[hs.cells hg];split at hx
      .rename_i hc;simp only[z7 hc];obtain rfl:=osj hx;exact .upd hs hg rfl rfl
      .cases hx
     .cases hx
    .cases hx
  .cases hx
 case toUnsafe x =>
  simp only[Xr] at hx;simp only[Zd];generalize ev x=q0 at hx |-;split at hx
  .obtain rfl:=osj hx;exact .same hs rfl
  .split at hx
   .rename_i c e wr tight hg;simp only[hs.cells hg];split at hx
    .rename_i hc;simp only[z7 hc];obtain rfl:=osj hx;exact .same hs rfl
    .cases hx
   .cases hx
  .cases hx
 case fromUnsafe u size x =>
  simp only[Xr] at hx;simp only[Zd];generalize ev x=q0 at hx |-;split at hx
  .obtain rfl:=osj hx;exact .same hs rfl
  .split at hx
   .rename_i c e hg;simp only[hs.cells hg];split at hx
    .rename_i hc;simp only[z7 hc];obtain rfl:=osj hx;exact .same hs rfl
    .cases hx
   .cases hx
  .cases hx
 case sliceData x =>
  simp only[Xr] at hx;simp only[Zd];generalize ev x=q0 at hx |-;split at hx
  .obtain rfl:=osj hx;exact .same hs rfl
  .rename_i i o n cap;split at hx
   .rename_i hc;simp only[z7 (show cap≠0/\(U.get i).isSome=true from ⟨hc.1,by rw[hs.get];simpa using hc.2⟩)];obtain rfl:=osj hx;exact .same hs rfl
   .cases hx
  .cases hx
 case unsafeStr e x n =>
  simp only[Xr] at hx;simp only[Zd];generalize ev x=q0 at hx |-;generalize ev n=q1 at hx |-;split at hx
  .rename_i q k h1 h2;split at hx
   .rename_i hk;simp only[z7 hk];obtain rfl:=osj hx;exact .same hs rfl
   .rename_i hk;simp only[z6 hk];split at hx
    .rename_i i o;split at hx
     .rename_i c el tight hg;simp only[hs.cells hg];split at hx
      .rename_i hc;simp only[z7 hc];split at hx
       .rename_i u hu;simp only[hu];obtain rfl:=osj hx;exact .upd hs hg rfl rfl
       .cases hx
      .cases hx
     .cases hx
    .cases hx
  .cases hx
 case bytesStr x =>
  simp only[Xr] at hx;simp only[Zd];generalize ev x=q0 at hx |-;split at hx
  .split at hx
   .rename_i xs aW;simp only[hs.sl aW];split at hx
    .rename_i u hu;simp only[hu];obtain rfl:=osj hx;exact .same hs rfl
    .cases hx
   .cases hx
  .cases hx
 case strBytes e x =>
  simp only[Xr] at hx;simp only[Zd];generalize ev x=q0 at hx |-;split at hx
  .split at hx
   .rename_i h1;simp only[z7 h1];rw[hs.n] at hx;exact .push hs hx rfl rfl
   .cases hx
  .cases hx
theorem ID {rs:Nat->Env×Loop}{h:CH}{U:Heap}(hs:CSim rs h U) {o:VOp}{ev:Operand->Value}{p:Value×CH}
  (hx:(if o.kind=0 then (match Q6 o ev Heap.empty with|some p=>some (p.1,h)|none=>none) else none)=some p):ESnd rs h U (Q6 o ev U) p:=by
 split at hx
 .rename_i hk;split at hx
  .rename_i q hq;obtain rfl:=osj hx;exact .same hs (BY hk (v:=q.1) (σ1:=q.2) hq)
  .cases hx
 .cases hx
theorem Wk {rs:Nat->Env×Loop}{h:CH}{U:Heap}(hs:CSim rs h U) {o:VOp}{ev:Operand->Value}{p:Value×CH}(hx:Ow o ev h=some p):ESnd rs h U (Q6 o ev U) p:=by
 cases o
 case alloc t z =>
  simp only[Ow] at hx;simp only[Q6];rw[hs.n] at hx;exact .push hs hx rfl rfl
 case box t x =>
  simp only[Ow] at hx;simp only[Q6];generalize YM (ev x)=q0 at hx |-;split at hx
  .rw[hs.n] at hx;exact .push hs hx rfl rfl
  .cases hx
 case buildSlice esz z len parts =>
  simp only[Ow] at hx;simp only[Q6];generalize U8 (BI len z) (parts.map λp=>(p.1*esz.sz,esz.sz,ev p.2))=q0 at hx |-;split at hx
  .rw[hs.n] at hx;exact .push hs hx rfl rfl
  .cases hx
 case load agg size a =>
  simp only[Ow] at hx;simp only[Q6];generalize ev a=q0 at hx |-;split at hx
  .split at hx
   .rename_i c hg;split at hx
    .rename_i hall;simp only[hg,z7 hall];split at hx
     .rename_i u hu;simp only[hu];obtain rfl:=osj hx;exact .same hs rfl
     .cases hx
    .cases hx
   .cases hx
  .split at hx
   .rename_i c e wr tight hg;simp only[hs.cells hg];split at hx
    .rename_i u hu;simp only[hu];obtain rfl:=osj hx;exact .same hs rfl
    .cases hx
   .cases hx
  .cases hx
 case store size a v =>
  simp only[Ow] at hx;simp only[Q6];generalize YM (ev v)=q0 at hx |-;generalize ev a=q1 at hx |-;split at hx
  .rename_i i o vs h1 h2;split at hx
   .rename_i c e wr tight hg;simp only[hs.cells hg];split at hx
    .rename_i hc;simp only[z7 hc];obtain rfl:=osj hx;exact .upd hs hg rfl rfl
    .cases hx
   .cases hx
  .cases hx
 case slice size x lo hi mx =>
  simp only[Ow] at hx;simp only[Q6];generalize ev x=q0 at hx |-;split at hx
  .rename_i a n cap;dsimp only;generalize ZX ev lo 0=q1 at hx |-;generalize ZX ev hi n=q2 at hx |-;split at hx
   .exact Dk hs hx
   .rename_i l k m;dsimp only;generalize ZX ev (some m) 0=q3 at hx |-;split at hx
    .exact Dk hs hx
    .cases hx
   .cases hx
  .cases hx
 case makeSlice esz bytes z l c =>
  simp only[Ow] at hx;simp only[Q6];generalize ev l=q0 at hx |-;generalize ev c=q1 at hx |-;split at hx
  .split at hx
   .rename_i hc;simp only[z7 hc];rw[hs.n] at hx;exact .push hs hx rfl rfl
   .cases hx
  .cases hx
 case append esz bytes s x =>
  simp only[Ow] at hx;simp only[Q6];generalize ev x=q0 at hx |-;split at hx
  .rename_i aW;simp only[hs.sl aW];split at hx
   .rename_i hc;simp only[z7 hc];exact Rq hs hx
   .cases hx
  .cases hx
 case ext o=>exact H3 hs hx
 all_goals exact ID hs hx
def Es (k:IntKind) (n:Int):Int:=match n with
 |.ofNat x=>match Nat.ble x 127 with
  |true=>.ofNat x
  |false=>k.wrap (.ofNat x)
 |.negSucc x=>k.wrap (.negSucc x)
theorem Ar (k:IntKind) (n:Int):Es k n=k.wrap n:=by
 cases n with
 |negSucc x=>rfl
 |ofNat x =>
  simp only[Es];split
  .rename_i h;have hx:x<=127:=zA h;show (x:Int)=k.wrap (x:Int);cases k<;>simp[IntKind.wrap,IntKind.bits,IntKind.signed]<;>omega
  .rfl
def Q5u (c a b:Value):Option Value:=match c with|.bool t=>some (if t then a else b)|_=>none
def Q1t (op:BinOp) (x y:Value):Option Value:=match x,y with|.int k a,.int k' b=>if k=k' then some (.int k (match op with|.add=>Es k (a+b)|.sub=>Es k (a-b)|_=>Es k (a*b))) else none|_,_=>none
def Q81 (op:BinOp) (x y:Value):Option Value:=match x,y with|.int k a,.int k' b=>if k=k'/\b≠0 then some (.int k (Q39 op k a b)) else none|_,_=>none
def Q3w (op:BinOp) (x y:Value):Option Value:=match x,y with|.int k a,.int k' b=>if k=k' then some (.int k (ZS op k a b)) else none|_,_=>none
def Q1k (op:BinOp) (x y:Value):Option Value:=match x,y with|.int k a,.int _ b=>if 0<=b then some (.int k (Tg op k a b)) else none|_,_=>none
def Q8e (op:BinOp) (x y:Value):Option Value:=match x,y with|.int k a,.int k' b=>if k=k' then some (.bool (Q5w op a b)) else none|_,_=>none
def Q7w (op:BinOp) (x y:Value):Option Value:=match x,y with
  |.string a,.string b=>match op with
   |.add=>if a.size+b.size<=2 ^ 62 then some (.string (a++b)) else none
   |.eql=>some (.bool (a.data.toList==b.data.toList))
   |.neq=>some (.bool (!(a.data.toList==b.data.toList)))
   |.lss=>some (.bool (Op.bytesLess a.data.toList b.data.toList))
   |_=>none
  |_,_=>none
def Q7z (neg:Bool) (x y:Value):Option Value:=match x,y with|.bool a,.bool b=>some (.bool (if neg then !(a==b) else (a==b)))|_,_=>none
def pUn (op:UnOp) (x:Value):Option Value:=match op,x with
  |.not,.bool b=>some (.bool (!b))
  |.neg,.int k n=>some (.int k (k.wrap (0-n)))
  |.xor,.int k n=>some (.int k (ZS .xor k (if k.signed then -1 else k.max) n))
  |_,_=>none
def Q1g (k:IntKind) (x:Value):Option Value:=match x with|.int _ n=>some (.int k (Es k n))|_=>none
def Q13 (x:Value):Option Value:=match x with|.string s=>some (.string s)|_=>none
def Q1c (z:List Value) (l:List (Nat×Nat×Value)):Option Value:=match U8 z l with|some cs=>some (.agg cs.toArray)|none=>none
def Th (off:Nat) (a:Value):Option Value:=match a with
  |.pointer (some ⟨i,o,none⟩)=>some (.pointer (some ⟨i,o+off,none⟩))
  |_=>none
def Q1d (agg:Bool) (off size:Nat) (x:Value):Option Value:=match x with
  |.agg cs=>X_ agg size cs.toList off
  |_=>none
def TO (size:Nat) (x i:Value):Option Value:=match x,i with
  |.slice (some ⟨b,o,none⟩) n _,.int _ k=>if 0<=k/\k<n then some (.pointer (some ⟨b,o+k.toNat*size,none⟩)) else none
  |_,_=>none
def ME (len size:Nat) (x i:Value):Option Value:=match x,i with
  |.pointer (some ⟨g,o,some s⟩),.int _ k=>if 0<=k/\k<len then some (.pointer (some ⟨g,o+k.toNat*size,some s⟩)) else none
  |.pointer (some ⟨b,o,none⟩),.int _ k=>if 0<=k/\k<len then some (.pointer (some ⟨b,o+k.toNat*size,none⟩)) else none
  |_,_=>none
def SM (x i:Value):Option Value:=match x,i with
  |.string s,.int _ k=>if 0<=k then (match s.data.toList[k.toNat]? with|some b=>some (.int .u8 b.toNat)|none=>none) else none
  |_,_=>none
def Lb (len:Nat) (agg:Bool) (size:Nat) (x i:Value):Option Value:=match x,i with
  |.agg cs,.int _ k=>if 0<=k/\k<len then X_ agg size cs.toList (k.toNat*size) else none
  |_,_=>none
def Ln (ev:Operand->Value) (x:Value) (lo hi:Option Operand):Option Value:=match x with
  |.string s =>
   match ZX ev lo 0,ZX ev hi s.size with
   |some l,some h=>if l<=h/\h<=s.size then some (.string (s.extract l h)) else none
   |_,_=>none
  |_=>none
def Q8q (x:Value):Option Value:=match x with|.slice _ n _=>some (.int .i64 n)|_=>none
def IV (x:Value):Option Value:=match x with|.string s=>some (.int .i64 s.size)|_=>none
def Q5f (x y z w:Value):Option Value:=match x,y,z,w with|.int k a,.int k2 b,.int k3 c,.int k4 d=>if k=k2/\k=k3/\k=k4 then some (.int k (FD (FD (FD a b) c) d)) else none|_,_,_,_=>none
def Q8j (x y:Value):Option Value:=match x,y with|.int k a,.int k' b=>if k=k' then some (.int k (if b > a then b else a)) else none|_,_=>none
def Q8d (x y:Value):Option Value:=match x,y with|.int k a,.int k' b=>if k=k' then some (.int k (if b<a then b else a)) else none|_,_=>none
def Q1j (t:TypeId) (x:Value):Option Value:=match x with|.chan _=>none|v=>some (.iface t v)
def AE (i:Nat) (x:Value):Option Value:=match x with
  |.tuple vs=>vs.toList[i]?
  |_=>none
def Sr (x:Value):Option Value:=match x with
  |.pointer (some a)=>some (.pointer (some a))
  |.func (.func f) first cap=>some (.func (.func f) first cap)
  |_=>none
def ppp (r:Option Value) (U:CH):Option (Value×CH):=match r with|some v=>some (v,U)|none=>none
def Q8y (t:Nat) (x:Value) (U:CH):Option (Value×CH):=match YM x with
  |some vs=>VT U (.cells vs ⟨vs.length,t⟩ true true) (.pointer (some ⟨U.n,0,none⟩))
  |none=>none
def Co (esz:El) (z:List Value) (len:Nat) (l:List (Nat×Nat×Value)) (U:CH):Option (Value×CH):=match U8 (BI len z) l with
  |some cs=>VT U (.cells cs esz true true) (.slice (some ⟨U.n,0,none⟩) len len)
  |none=>none
def Q4e (agg:Bool) (size:Nat) (a:Value) (U:CH):Option (Value×CH):=match a with
  |.pointer (some ⟨g,o,some _⟩)=>(match Q03 g with
   |some c=>if c.all QM then (match X_ agg size c o with|some v=>some (v,U)|none=>none) else none
   |none=>none)
  |.pointer (some ⟨i,o,none⟩)=>match U.get i with
   |some (.cells c _ _ _)=>match X_ agg size c o with|some v=>some (v,U)|none=>none
   |_=>none
  |_=>none
def stL (c:List Value) (o:Nat) (vs:List Value):List Value:=match vs with
 |[v]=>c.set o v
 |vs=>c.take o++(vs++c.drop (o+vs.length))
theorem Ed:∀ (vs a b c:List Value),vs.length=b.length->W_ (a++(b++c)) a.length vs=a++(vs++c)
 |[],a,b,c,h=>by have:b=[]:=List.eq_nil_of_length_eq_zero (by simpa using h.symm);subst this;rfl
 |v::vs,a,[],c,h=>by simp at h
 |v::vs,a,x::b,c,h=>by
  simp only[W_];have e:(a++(x::b++c)).set a.length v=(a++[v])++(b++c):=by simp
  rw[e];have:=Ed vs (a++[v]) b c (by simpa using h);rw[zF,zl] at this;rw[this];simp
theorem Q45 {c:List Value}{o:Nat}{vs:List Value}(h:o+vs.length<=c.length):stL c o vs=W_ c o vs:=by
 unfold stL;split
 .rfl
 .have h1:c=c.take o++((c.drop o).take vs.length++c.drop (o+vs.length)):=by
   rw[<-List.drop_drop,xG,xG]
  have h2:(c.take o).length=o:=by simp;omega
  have:=Ed vs (c.take o) ((c.drop o).take vs.length) (c.drop (o+vs.length)) (by simp;omega);rw[h2,<-h1] at this;exact this.symm
def Q1b (size:Nat) (a v:Value) (U:CH):Option (Value×CH):=match a,YM v with
  |.pointer (some ⟨i,o,none⟩),some vs=>match U.get i with
   |some (.cells c e wr tight)=>if wr=true/\vs.length=size/\o+size<=c.length/\vs.all cellOk=true then some (undef,U.upd i (.cells (stL c o vs) e wr tight)) else none
   |_=>none
  |_,_=>none
def EO (esz:El) (bytes:Nat) (z:List Value) (l c:Value) (U:CH):Option (Value×CH) :=
  match l,c with
  |.int _ a,.int _ b=>if 0<=a/\a<=b/\b*bytes<=2 ^ 46/\b<=2 ^ 46 then VT U (.cells (BI b.toNat z) esz true true) (.slice (some ⟨U.n,0,none⟩) a.toNat b.toNat) else none
  |_,_=>none
def Q92 (esz:El) (bytes:Nat) (s x:Value) (U:CH):Option (Value×CH) :=
  match U.sl esz.sz x,x with
  |some xs,.slice _ m _=>if xs.all cellOk then RH esz bytes U s m xs else none
  |_,_=>none
def CD (o:VOp) (ev:Operand->Value) (U:CH):Option (Value×CH) :=
 match o with
 |.move x=>some (ev x,U)
 |.pick c a b=>ppp (Q5u (ev c) (ev a) (ev b)) U
 |.arith op x y=>ppp (Q1t op (ev x) (ev y)) U
 |.div op x y=>ppp (Q81 op (ev x) (ev y)) U
 |.bits op x y=>ppp (Q3w op (ev x) (ev y)) U
 |.shift op x y=>ppp (Q1k op (ev x) (ev y)) U
 |.cmp op x y=>ppp (Q8e op (ev x) (ev y)) U
 |.str op x y=>ppp (Q7w op (ev x) (ev y)) U
 |.eqB n x y=>ppp (Q7z n (ev x) (ev y)) U
 |.un op x=>ppp (pUn op (ev x)) U
 |.convI k x=>ppp (Q1g k (ev x)) U
 |.convS x=>ppp (Q13 (ev x)) U
 |.build z parts=>ppp (Q1c z (parts.map λp=>(p.1,p.2.1,ev p.2.2))) U
 |.fieldAddr off a=>ppp (Th off (ev a)) U
 |.field agg off size x=>ppp (Q1d agg off size (ev x)) U
 |.indexAddr size x i=>ppp (TO size (ev x) (ev i)) U
 |.indexAddrArr len size x i=>ppp (ME len size (ev x) (ev i)) U
 |.indexStr x i=>ppp (SM (ev x) (ev i)) U
 |.indexArr len agg size x i=>ppp (Lb len agg size (ev x) (ev i)) U
 |.sliceStr x lo hi=>ppp (Ln ev (ev x) lo hi) U
 |.len x=>ppp (Q8q (ev x)) U
 |.lenStr x=>ppp (IV (ev x)) U
 |.max x y=>ppp (Q8j (ev x) (ev y)) U
 |.max4 x y z w=>ppp (Q5f (ev x) (ev y) (ev z) (ev w)) U
 |.min x y=>ppp (Q8d (ev x) (ev y)) U
 |.makeFunc fn first cap=>some (.func fn (first.map ev).toArray (cap.map ev).toArray,U)
 |.iface t x=>ppp (Q1j t (ev x)) U
 |.extract x i=>ppp (AE i (ev x)) U
 |.nilCheck x=>ppp (Sr (ev x)) U
 |.alloc t z=>VT U (.cells z ⟨z.length,t⟩ true true) (.pointer (some ⟨U.n,0,none⟩))
 |.box t x=>Q8y t (ev x) U
 |.buildSlice esz z len parts=>Co esz z len (parts.map λp=>(p.1*esz.sz,esz.sz,ev p.2)) U
 |.load agg size a=>Q4e agg size (ev a) U
 |.store size a v=>Q1b size (ev a) (ev v) U
 |.slice size x lo hi mx=>Ow (.slice size x lo hi mx) ev U
 |.makeSlice esz bytes z l c=>EO esz bytes z (ev l) (ev c) U
 |.append esz bytes s x=>Q92 esz bytes (ev s) (ev x) U
 |.ext o=>Xr o ev U
 |_=>none
theorem IG {rs:Nat->Env×Loop}{h:CH}{U:Heap}(hs:CSim rs h U) {r:Option Value}{r':Option (Value×Heap)}{p:Value×CH}(hr:∀ v,r=some v->r'=some (v,U)) (hx:ppp r h=some p):ESnd rs h U r' p:=by
 unfold ppp at hx;split at hx
 .rename_i v;obtain rfl:=osj hx;exact .same hs (hr v rfl)
 .cases hx
theorem Yy {rs:Nat->Env×Loop}{h:CH}{U:Heap}(hs:CSim rs h U) {o:VOp}{ev:Operand->Value}{p:Value×CH}(hx:CD o ev h=some p):ESnd rs h U (Q6 o ev U) p:=by
 cases o
 case move x=>exact .same hs (by obtain rfl:=osj hx;rfl) |> λ(h:ESnd rs _ U (Q6 (.move x) ev U) (ev x,_))=>by obtain rfl:=osj hx;exact h
 case makeFunc fn a b=>obtain rfl:=osj hx;exact .same hs rfl
 case alloc t z=>exact Wk (o:=.alloc t z) hs hx
 case box t x=>exact Wk (o:=.box t x) hs hx
 case buildSlice a b c d=>exact Wk (o:=.buildSlice a b c d) hs hx
 case load a b c=>exact Wk (o:=.load a b c) hs hx
 case store size a v =>
  simp only[CD] at hx;simp only[Q6];unfold Q1b at hx;generalize YM (ev v)=q0 at hx |-;generalize ev a=q1 at hx |-;split at hx
  .rename_i i o vs;split at hx
   .rename_i c e wr tight hg;simp only[hs.cells hg];split at hx
    .rename_i hc;simp only[z7 hc];rw[Q45 (by omega)] at hx;obtain rfl:=osj hx;exact .upd hs hg rfl rfl
    .cases hx
   .cases hx
  .cases hx
 case slice a b c d e=>exact Wk (o:=.slice a b c d e) hs hx
 case makeSlice a b c d e=>exact Wk (o:=.makeSlice a b c d e) hs hx
 case append a b c d=>exact Wk (o:=.append a b c d) hs hx
 case ext o=>exact H3 hs hx
 case callF=>cases hx
 case callV=>cases hx
 case bad=>cases hx
 all_goals refine IG hs (λv hv=>?_) hx
 case arith op x y =>
  simp only[Q6];generalize ev x=a at hv |-;generalize ev y=b at hv |-;unfold Q1t at hv;split at hv
  .split at hv
   .rename_i hk;simp only[z7 hk];obtain rfl:=osj hv;cases op<;>simp only[Ti,Ar]
   .cases hv
  .cases hv
 case convI k x =>
  simp only[Q6];generalize ev x=a at hv |-;unfold Q1g at hv;split at hv
  .obtain rfl:=osj hv;simp only[Ar]
  .cases hv
 case pick c a b =>
  simp only[Q6];generalize ev c=q0 at hv |-;generalize ev a=q1 at hv |-;generalize ev b=q2 at hv |-;unfold Q5u at hv
  (repeat' split at hv)<;>first|(cases hv;done)|(obtain rfl:=osj hv;first|rfl|(simp_all;done)|(simp_all;intros;omega))
 case div op x y =>
  simp only[Q6];generalize ev x=q0 at hv |-;generalize ev y=q1 at hv |-;unfold Q81 at hv
  (repeat' split at hv)<;>first|(cases hv;done)|(obtain rfl:=osj hv;first|rfl|(simp_all;done)|(simp_all;intros;omega))
 case bits op x y =>
  simp only[Q6];generalize ev x=q0 at hv |-;generalize ev y=q1 at hv |-;unfold Q3w at hv
  (repeat' split at hv)<;>first|(cases hv;done)|(obtain rfl:=osj hv;first|rfl|(simp_all;done)|(simp_all;intros;omega))
 case shift op x y =>
  simp only[Q6];generalize ev x=q0 at hv |-;generalize ev y=q1 at hv |-;unfold Q1k at hv
  (repeat' split at hv)<;>first|(cases hv;done)|(obtain rfl:=osj hv;first|rfl|(simp_all;done)|(simp_all;intros;omega))
 case cmp op x y =>
  simp only[Q6];generalize ev x=q0 at hv |-;generalize ev y=q1 at hv |-;unfold Q8e at hv
  (repeat' split at hv)<;>first|(cases hv;done)|(obtain rfl:=osj hv;first|rfl|(simp_all;done)|(simp_all;intros;omega))
 case eqB n x y =>
  simp only[Q6];generalize ev x=q0 at hv |-;generalize ev y=q1 at hv |-;unfold Q7z at hv
  (repeat' split at hv)<;>first|(cases hv;done)|(obtain rfl:=osj hv;first|rfl|(simp_all;done)|(simp_all;intros;omega))
 case un op x =>
  simp only[Q6];generalize ev x=q0 at hv |-;unfold pUn at hv
  (repeat' split at hv)<;>first|(cases hv;done)|(obtain rfl:=osj hv;first|rfl|(simp_all;done)|(simp_all;intros;omega))
 case convS x =>
  simp only[Q6];generalize ev x=q0 at hv |-;unfold Q13 at hv
  (repeat' split at hv)<;>first|(cases hv;done)|(obtain rfl:=osj hv;first|rfl|(simp_all;done)|(simp_all;intros;omega))
 case fieldAddr off a =>
  simp only[Q6];generalize ev a=q0 at hv |-;unfold Th at hv
  (repeat' split at hv)<;>first|(cases hv;done)|(obtain rfl:=osj hv;first|rfl|(simp_all;done)|(simp_all;intros;omega))
 case indexAddr size x i =>
  simp only[Q6];generalize ev x=q0 at hv |-;generalize ev i=q1 at hv |-;unfold TO at hv
  (repeat' split at hv)<;>first|(cases hv;done)|(obtain rfl:=osj hv;first|rfl|(simp_all;done)|(simp_all;intros;omega))
 case indexAddrArr len size x i =>
  simp only[Q6];generalize ev x=q0 at hv |-;generalize ev i=q1 at hv |-;unfold ME at hv
  (repeat' split at hv)<;>first|(cases hv;done)|(obtain rfl:=osj hv;first|rfl|(simp_all;done)|(simp_all;intros;omega))
 case len x =>
  simp only[Q6];generalize ev x=q0 at hv |-;unfold Q8q at hv
  (repeat' split at hv)<;>first|(cases hv;done)|(obtain rfl:=osj hv;first|rfl|(simp_all;done)|(simp_all;intros;omega))
 case lenStr x =>
  simp only[Q6];generalize ev x=q0 at hv |-;unfold IV at hv
  (repeat' split at hv)<;>first|(cases hv;done)|(obtain rfl:=osj hv;first|rfl|(simp_all;done)|(simp_all;intros;omega))
 case max4 x y z w =>
  simp only[Q6];generalize ev x=q0 at hv |-;generalize ev y=q1 at hv |-;generalize ev z=q2 at hv |-;generalize ev w=q3 at hv |-;unfold Q5f at hv
  (repeat' split at hv)<;>first|(cases hv;done)|(rename_i q_;obtain⟨rfl,rfl,rfl⟩:=q_;obtain rfl:=osj hv;simp_all;done)
 case max x y =>
  simp only[Q6];generalize ev x=q0 at hv |-;generalize ev y=q1 at hv |-;unfold Q8j at hv
  (repeat' split at hv)<;>first|(cases hv;done)|(obtain rfl:=osj hv;first|rfl|(simp_all;done)|(simp_all;intros;omega))
 case min x y =>
  simp only[Q6];generalize ev x=q0 at hv |-;generalize ev y=q1 at hv |-;unfold Q8d at hv
  (repeat' split at hv)<;>first|(cases hv;done)|(obtain rfl:=osj hv;first|rfl|(simp_all;done)|(simp_all;intros;omega))
 case nilCheck x =>
  simp only[Q6];generalize ev x=q0 at hv |-;unfold Sr at hv
  (repeat' split at hv)<;>first|(cases hv;done)|(obtain rfl:=osj hv;first|rfl|(simp_all;done)|(simp_all;intros;omega))
 case str op x y =>
  simp only[Q6];generalize ev x=q0 at hv |-;generalize ev y=q1 at hv |-;unfold Q7w at hv
  (repeat' split at hv)<;>first|(cases hv;done)|(obtain rfl:=osj hv;first|rfl|(simp_all;done)|(simp_all;intros;omega))
 case build z parts =>
  simp only[Q6];unfold Q1c at hv;split at hv
  .rename_i cs hc;rw[hc];obtain rfl:=osj hv;rfl
  .cases hv
 case field agg off size x =>
  simp only[Q6];generalize ev x=q0 at hv |-;unfold Q1d at hv;split at hv
  .dsimp only;rw[hv]
  .cases hv
 case indexStr x i =>
  simp only[Q6];generalize ev x=q0 at hv |-;generalize ev i=q1 at hv |-;unfold SM at hv;split at hv
  .split at hv
   .rename_i hc;simp only[z7 hc];split at hv
    .rename_i b hb;simp only[hb];obtain rfl:=osj hv;rfl
    .cases hv
   .cases hv
  .cases hv
 case indexArr len agg size x i =>
  simp only[Q6];generalize ev x=q0 at hv |-;generalize ev i=q1 at hv |-;unfold Lb at hv;split at hv
  .split at hv
   .rename_i hc;simp only[z7 hc,hv]
   .cases hv
  .cases hv
 case sliceStr x lo hi =>
  simp only[Q6];generalize ev x=q0 at hv |-;unfold Ln at hv;split at hv
  .rename_i s;split at hv
   .rename_i l h h1 h2;split at hv
    .rename_i hc;simp only[h1,h2,z7 hc];obtain rfl:=osj hv;rfl
    .cases hv
   .cases hv
  .cases hv
 case iface t x =>
  simp only[Q6];generalize ev x=q0 at hv |-;unfold Q1j at hv;split at hv
  .cases hv
  .rename_i aJ;obtain rfl:=osj hv;split
   .exact absurd rfl (aJ _)
   .rfl
 case extract x i =>
  simp only[Q6];generalize ev x=q0 at hv |-;unfold AE at hv;split at hv
  .dsimp only;rw[hv]
  .cases hv
inductive Sh (a m d:Nat):Value->Value->Prop
 |plain (v:Value) (h:QM v=true):Sh a m d v v
 |ptr (i o:Nat) (h:a<=i) (hi:i<m):Sh a m d (.pointer (some ⟨i,o,none⟩)) (.pointer (some ⟨d+(i-a),o,none⟩))
 |sl (i o len cap:Nat) (h:a<=i) (hi:i<m):Sh a m d (.slice (some ⟨i,o,none⟩) len cap) (.slice (some ⟨d+(i-a),o,none⟩) len cap)
 |agg (cs ds:Array Value) (hc:cs.size=ds.size) (h:∀ i (h1:i<cs.size) (h2:i<ds.size),Sh a m d cs[i] ds[i]):Sh a m d (.agg cs) (.agg ds)
 |tuple (cs ds:Array Value) (hc:cs.size=ds.size) (h:∀ i (h1:i<cs.size) (h2:i<ds.size),Sh a m d cs[i] ds[i]):Sh a m d (.tuple cs) (.tuple ds)
theorem Sh.rel {ρ ρ':Plc}{a m d n':Nat}(hn:d+(m-a)<=n') (hρ:∀ i,a<=i->i<m->ρ' (d+(i-a))=ρ i) {v v':Value}(h:Sh a m d v v') :
  ∀ {c:Value},VRel ρ m v c->VRel ρ' n' v' c:=by
 induction h with
 |plain v h =>intro c hv;have:c=v:=Yg h hv;subst this;exact X1 h
 |ptr i o h hi =>intro c hv;obtain⟨a',rfl,_,bh⟩:=hv.q1h;exact .ptr _ _ _ (by omega) λp hp=>bh p (by rw[<-hρ i h hi];exact hp)
 |sl i o len cap h hi =>intro c hv;obtain⟨a',al,rfl,_,bh⟩:=hv.q1b;exact .sl _ _ _ _ _ _ (by omega) λp hp=>bh p (by rw[<-hρ i h hi];exact hp)
 |agg cs ds hc h ih =>
  intro c hv;cases hv with
  |agg _ ds' cS h'=>exact .agg _ _ (hc.symm.trans cS) λi k1 k2=>ih i (by omega) k1 (h' i (by omega) k2)
 |tuple cs ds hc h ih =>
  intro c hv;cases hv with
  |tuple _ ds' cS h'=>exact .tuple _ _ (hc.symm.trans cS) λi k1 k2=>ih i (by omega) k1 (h' i (by omega) k2)
theorem BRel.any {ρ ρ':Plc}{n n':Nat}{p:Pl}{w:World}{c:List Value}{esz:El}{wr tight:Bool}(hp:c.all QM=true) (h:BRel ρ n p w (.cells c esz wr tight)) :
  BRel ρ' n' p w (.cells c esz wr tight):=by
 obtain⟨h1,h2,h3,h4,h5,h6⟩:=h;refine⟨h1,h2,h3,h4,λk v hk=>?_,h6⟩;obtain⟨u,hu,hv⟩:=h5 k v hk;have aN:QM v=true:=zf.1 hp v (z_ hk);obtain rfl:u=v:=Yg aN hv;exact⟨u,hu,X1 aN⟩
theorem BRel.renRo {ρ:Plc}{nf n':Nat}{π:Nat->Nat}{p:Pl}{w:World}{c c':List Value}{esz:El}{wr tight:Bool}(hr:LRen n' π c c') (h:BRel ρ nf p w (.cells c' esz wr tight)) :
  BRel (λi=>if i<n' then ρ (π i) else none) n' p w (.cells c esz false tight):=by
 obtain⟨h1,h2,h3,h4,h5,h6⟩:=h;refine⟨h1,h2,by rw[hr.1];exact h3,h4,λk v hk=>?_,λh=>by cases h⟩;have af:k<c'.length:=by rw[<-hr.1];exact(zu.1 hk).1
 obtain⟨u,hu,hv⟩:=h5 k _ (z8 af);exact⟨u,hu,(hr.2 k v _ hk (z8 af)).rel hv⟩
structure PB where
 c:List Value
 esz:El
 tight:Bool
def PB.blk (wr:Bool) (b:PB):Blk:=.cells b.c b.esz wr b.tight
def XV (bl fr:List PB):Heap where
 get i:=if i<bl.length then (bl[i]?).map (PB.blk false) else (fr[i-bl.length]?).map (PB.blk true)
 n:=bl.length+fr.length
 wf i h:=by rw[z6 (by omega),zD (by omega)];rfl
def W3 (U:Heap) (fr:List PB):Heap where
 get i:=if i<U.n then U.get i else (fr[i-U.n]?).map (PB.blk true)
 n:=U.n+fr.length
 wf i h:=by rw[z6 (by omega),zD (by omega)];rfl
theorem VCalled.localize {P:Program}{f:FuncId}{iv args:List Value}{bl fr:List PB}{vm v:Value}{U:Heap}{π:Nat->Nat}{K:Value->Heap->Prop}
  (hm:VCalled P f iv (XV bl []) λu Z=>u=vm/\Z=XV bl fr)
  (cR:∀ b∈fr,b.c.all QM=true)
  (hπ:∀ i b,bl[i]?=some b->∃ wr c',U.get (π i)=some (.cells c' b.esz wr b.tight)/\LRen bl.length π b.c c')
  (au:LRen bl.length π iv args) (hv:Sh bl.length (bl.length+fr.length) U.n vm v) (hK:K v (W3 U fr)):VCalled P f args U K:=by
 intro ρ w aq hH hL;have bI:∀ B,¬ Wr (λi=>if i<bl.length then ρ (π i) else none) (XV bl []) B:=by
  rintro B ⟨i,p,b,_,hb,hw,_⟩;have hi:i<bl.length:=by have:=(XV bl []).lt hb;simpa [XV] using this
  simp only[XV,z7 hi] at hb;cases ef:bl[i]? with
  |none=>rw[ef] at hb;cases hb
  |some b0=>rw[ef] at hb;obtain rfl:=osj hb;cases hw
 have uO:HRel (λi=>if i<bl.length then ρ (π i) else none) (XV bl []) w:=by
  refine⟨⟨λi b hb=>?_,λi hi=>?_,λi p hp=>?_,λi j p q b _ hp _ hb hw _=>(bI _ ⟨i,p,b,hp,hb,hw,rfl⟩).elim⟩,λg cs hg=>⟨(hH.tab g cs hg).1,bI g⟩⟩
  .have hi:i<bl.length:=by have:=(XV bl []).lt hb;simpa [XV] using this
   simp only[XV,z7 hi] at hb;cases ef:bl[i]? with
   |none=>rw[ef] at hb;cases hb
   |some b0 =>rw[ef] at hb;obtain rfl:=osj hb;obtain⟨wr,c',hg,rC⟩:=hπ i b0 ef;obtain⟨p,hp,hB⟩:=hH.live _ _ hg;exact⟨p,by simp[hi,hp],BRel.renRo rC hB⟩
  .by_cases h:i<bl.length
   .simp only[XV,z7 h,z8 h] at hi;cases hi
   .simp[h]
  .skip
   split at hp
   .exact hH.lt _ p hp
   .cases hp
 have uP:LRel (λi=>if i<bl.length then ρ (π i) else none) (XV bl []).n iv aq.toList:=by have:=au.rel hL;simpa [XV] using this
 have lift:∀ c w',Got (λi=>if i<bl.length then ρ (π i) else none) (XV bl []) w (λu Z=>u=vm/\Z=XV bl fr) c w'->Got ρ U w K c w':=by
  rintro c w' ⟨_,ρm,_,⟨rfl,rfl⟩,dx,iw,hE⟩;have dp:∀ B,B<w.heap.size->w'.heap[B]?=w.heap[B]?:=λB hB=>hE.keep B hB (bI B);have fH:∀ i p,bl.length<=i->ρm i=some p->w.heap.size<=p.blk:=λi p hi hp=>by
   rcases zn p.blk w.heap.size with h|h
   .refine (bI _ (hE.wr p.blk h ?_)).elim;have fz:=iw.idlt hp;cases hb:(XV bl fr).get i with
    |none=>rw[iw.dead i hb] at hp;cases hp
    |some b =>
     refine⟨i,p,b,hp,hb,?_,rfl⟩;simp only[XV,z6 (wO.2 hi)] at hb;cases ef:fr[i-bl.length]? with
     |none=>rw[ef] at hb;cases hb
     |some b0=>rw[ef] at hb;obtain rfl:=osj hb;rfl
   .exact h
  have hρ:∀ i,U.n<=i->(if i<U.n then ρ i else if i<U.n+fr.length then ρm (bl.length+(i-U.n)) else none)=if i<U.n+fr.length then ρm (bl.length+(i-U.n)) else none:=λi hi=>z6 (by omega)
  have hX:Ext ρ U w (λi=>if i<U.n then ρ i else if i<U.n+fr.length then ρm (bl.length+(i-U.n)) else none) (W3 U fr) w':=by
   refine⟨hE.os,hE.tape,hE.output,hE.size,λB hB _=>dp B hB,?_,by simp[W3],λi hi p hp=>?_⟩
   .rintro B hB ⟨i,p,b,hp,hb,hw,rfl⟩
    replace hp:(if i<U.n then ρ i else if i<U.n+fr.length then ρm (bl.length+(i-U.n)) else none)=some p:=hp
    by_cases hi:i<U.n
    .rw[z7 hi] at hp;simp only[W3,z7 hi] at hb;exact⟨i,p,b,hp,hb,hw,rfl⟩
    .rw[z6 hi] at hp;split at hp
     .have:=fH _ p (by omega) hp;omega
     .cases hp
   .skip
    rwa [z7 hi] at hp
  refine⟨v,λi=>if i<U.n then ρ i else if i<U.n+fr.length then ρm (bl.length+(i-U.n)) else none,W3 U fr,hK,?_,hH.ext ⟨λi b hb=>?_,λi hi=>?_,λi p hp=>?_,λi j p q b cq hp hq hb hw hx=>?_⟩ hX,hX⟩
  .refine hv.rel (by simp[W3]) (λi h1 h2=>?_) dx;rw[z6 (by omega),z7 (by omega)];congr 1;omega
  .by_cases hi:i<U.n
   .simp only[W3,z7 hi] at hb;obtain⟨p,hp,hB⟩:=hH.live i b hb;exact⟨p,by simp[hi,hp],hB.mono (by simp[W3]) (λj hj q hq=>by simpa [hj] using hq) (dp _ (hH.lt i p hp))⟩
   .simp only[W3,z6 hi] at hb;cases ef:fr[i-U.n]? with
    |none=>rw[ef] at hb;cases hb
    |some b0 =>
     rw[ef] at hb;obtain rfl:=osj hb;have af:i-U.n<fr.length:=(zu.1 ef).1;obtain⟨p,hp,hB⟩:=iw.live (bl.length+(i-U.n)) (b0.blk true) (by
      show (if _ then _ else _)=_;rw[z6 (by omega),show bl.length+(i-U.n)-bl.length=i-U.n by omega,ef];rfl)
     exact⟨p,by rw[z6 hi,z7 (by omega)];exact hp,BRel.any (cR b0 (z_ ef)) hB⟩
  .by_cases h:i<U.n
   .simp only[W3,z7 h] at hi;rw[z7 h];exact hH.dead i hi
   .simp only[W3,z6 h] at hi;rw[z6 h];split
    .rename_i h2;have af:i-U.n<fr.length:=by omega
     rw[z8 af] at hi;cases hi
    .rfl
  .skip
   split at hp
   .exact xh (hH.lt i p hp) hE.size
   .split at hp
    .exact iw.lt _ p hp
    .cases hp
  .skip
   by_cases hi:i<U.n<;>by_cases hj:j<U.n
   .rw[z7 hi] at hp;rw[z7 hj] at hq;simp only[W3,z7 hi] at hb;exact hH.sep i j p q b cq hp hq hb hw hx
   .rw[z7 hi] at hp;rw[z6 hj] at hq;split at hq
    .have h1:=hH.lt i p hp;have h2:=fH _ q (by omega) hq;omega
    .cases hq
   .rw[z6 hi] at hp;rw[z7 hj] at hq;split at hp
    .have h1:=hH.lt j q hq;have h2:=fH _ p (by omega) hp;omega
    .cases hp
   .rw[z6 hi] at hp;rw[z6 hj] at hq;split at hp
    .split at hq
     .simp only[W3,z6 hi] at hb;refine iw.sep (bl.length+(i-U.n)) (bl.length+(j-U.n)) p q b (by omega) hp hq ?_ hw hx;show (if _ then _ else _)=_;rw[z6 (by omega),show bl.length+(i-U.n)-bl.length=i-U.n by omega];exact hb
     .cases hq
    .cases hp
 rcases hm _ w aq uO uP with⟨h1,h2⟩|⟨c,h1,h2⟩
 .refine .inl ⟨h1,?_⟩;exact h2.mono λe w' he=>by
   obtain⟨c,rfl,hc⟩:=he;exact⟨c,rfl,lift c w' hc⟩
 .refine .inr ⟨c,lift c w h1,λw' gi=>h2 w' ⟨gi.1,λi p hp=>?_,gi.tab⟩⟩
  replace hp:(if i<bl.length then ρ (π i) else none)=some p:=hp
  split at hp
  .exact gi.2 _ p hp
  .cases hp
def FV {α:Type}(p:α->α->Bool):List α->List α->Bool
 |[],[]=>true
 |a::l,b::m=>p a b&&FV p l m
 |_,_=>false
theorem Vi {α:Type}{p:α->α->Bool}(hp:∀ a b,p a b=true->a=b):∀ l m,FV p l m=true->l=m
 |[],[],_=>rfl
 |a::l,b::m,h=>by simp only[FV,z1] at h;rw[hp a b h.1,Vi hp l m h.2]
 |[],_::_,h=>by cases h
 |_::_,[],h=>by cases h
def AS:Nat->Value->Value->Bool
 |0,_,_=>false
 |f+1,a,b=>match a,b with
  |.bool x,.bool y=>x==y
  |.int k x,.int k' y=>decide (k=k')&&decide (x=y)
  |.string s,.string t=>decide (s.data.toList=t.data.toList)
  |.pointer none,.pointer none=>true
  |.pointer (some ⟨i,o,none⟩),.pointer (some ⟨j,q,none⟩)=>Nat.beq i j&&Nat.beq o q
  |.slice none l c,.slice none l' c'=>Nat.beq l l'&&Nat.beq c c'
  |.slice (some ⟨i,o,none⟩) l c,.slice (some ⟨j,q,none⟩) l' c'=>Nat.beq i j&&(Nat.beq o q&&(Nat.beq l l'&&Nat.beq c c'))
  |.slice (some ⟨i,o,some 0⟩) l c,.slice (some ⟨j,q,some 0⟩) l' c'=>Nat.beq i j&&(Nat.beq o q&&(Nat.beq l l'&&Nat.beq c c'))
  |.map x,.map y=>decide (x=y)
  |.chan none,.chan none=>true
  |.nilFunc,.nilFunc=>true
  |.nilIface,.nilIface=>true
  |.func (.func g) fs cs,.func (.func g') s5 cs'=>decide (g=g')&&(FV (AS f) fs.toList s5.toList&&FV (AS f) cs.toList cs'.toList)
  |.func (.yield i) ⟨[]⟩ ⟨[]⟩,.func (.yield j) ⟨[]⟩ ⟨[]⟩=>Nat.beq i j
  |.iface t v,.iface t' v'=>decide (t=t')&&AS f v v'
  |.agg cs,.agg ds=>FV (AS f) cs.toList ds.toList
  |.tuple cs,.tuple ds=>FV (AS f) cs.toList ds.toList
  |_,_=>false
theorem Te {α:Type}{a b:Array α}(h:a.toList=b.toList):a=b:=by cases a;cases b;simp at h;rw[h]
theorem Mg:∀ (f:Nat) (a b:Value),AS f a b=true->a=b:=by
 intro f;induction f with
 |zero=>intro a b h;cases h
 |succ f ih =>
  intro a b h;unfold AS at h
  split at h<;>first
   |(cases h;done)
   |rfl
   |(simp at h;subst h;rfl)
   |(simp at h;obtain⟨rfl,rfl⟩:=h;rfl)
   |(simp at h;obtain⟨rfl,rfl,rfl,rfl⟩:=h;rfl)
   |skip
  .rename_i s t;have h:=wR h;have:=Te h;cases s;cases t;simp at this;rw[this]
  .rename_i g fs cs g' s5 cs';simp only[z1,zg] at h;obtain⟨rfl,h1,h2⟩:=h;rw[Te (Vi ih _ _ h1),Te (Vi ih _ _ h2)]
  .rename_i t v t' v';simp only[z1,zg] at h;obtain⟨rfl,h1⟩:=h;rw[ih _ _ h1]
  .rw[Te (Vi ih _ _ h)]
  .rw[Te (Vi ih _ _ h)]
def EB.beq:EB->EB->Bool
 |.cells c e w t,.cells c' e' w' t'=>decide (e=e')&&(w==w'&&(t==t'&&FV (AS 20) c c'))
 |.map es cl w,.map bP uQ w'=>Nat.beq cl uQ&&(w==w'&&FV (λa b=>AS 20 a.1 b.1&&(AS 20 a.2.1 b.2.1&&Nat.beq a.2.2 b.2.2)) es bP)
 |.iter m s sn l,.iter m' s' uR l'=>Nat.beq m m'&&(Nat.beq s s'&&(Nat.beq l l'&&decide (sn=uR)))
 |.lp .ready none,.lp .ready none=>true
 |.lp .busy none,.lp .busy none=>true
 |_,_=>false
theorem EB.beq_eq {a b:EB}(h:a.beq b=true):a=b:=by
 unfold EB.beq at h
 split at h<;>first
  |(cases h;done)
  |rfl
  |skip
 .simp only[z1,zg,zr] at h;obtain⟨rfl,rfl,rfl,h⟩:=h;rw[Vi (Mg 20) _ _ h]
 .simp only[z1,zr,Nat.beq_eq] at h;obtain⟨rfl,rfl,h⟩:=h;rw[Vi (λa b h=>by
   simp only[z1,Nat.beq_eq] at h;obtain⟨a1,a2,a3⟩:=a;obtain⟨b1,b2,b3⟩:=b;obtain⟨h1,h2,h3⟩:=h;simp at h1 h2 h3;rw[Mg _ _ _ h1,Mg _ _ _ h2,h3]) _ _ h]
 .simp only[z1,zg,Nat.beq_eq] at h;obtain⟨rfl,rfl,rfl,rfl⟩:=h;rfl
def CH.newOk (h h':CH):Bool:=Nat.ble h.n h'.n&&(h'.room&&(List.range' h.n (h'.n-h.n)).all λi=>match h'.get i with
 |some (.lp _ _)=>false
 |_=>true)
structure AnsOps (A:Type) where
 fail:A
 both:A->A->A
structure Good {A:Type}(R:AnsOps A) (G:A->Prop):Prop where
 fail:¬ G R.fail
 both:∀ a b,G (R.both a b)->G a/\G b
def Uo:AnsOps Bool:=⟨false,and⟩
theorem Eb:Good Uo (·=true):=⟨by simp[Uo],λa b h=>by simpa [Uo] using h⟩
def E8:AnsOps (Option (Value×CH)):=⟨none,λ_ _=>none⟩
theorem Q2c (x:Value×CH):Good E8 (·=some x):=⟨by simp[E8],λa b h=>by simp[E8] at h⟩
def CH.same (h h':CH):Bool:=Nat.beq h.n h'.n&&(List.range h.n).all λi=>match h.get i,h'.get i with
 |none,none=>true
 |some a,some b=>a.beq b
 |_,_=>false
def EB.plainE:EB->Bool
 |.cells c _ _ _=>c.all QM
 |.map es _ _=>es.all λkv=>QM kv.2.1
 |_=>false
def CH.keepOk (h h':CH):Bool:=Nat.ble h.n h'.n&&(List.range h.n).all λi=>match h.get i,h'.get i with
 |none,none=>true
 |some a,some b=>b.plainE||a.beq b
 |_,_=>false
def gcI (n0:Nat) (refs:List Nat) (i:Nat):Nat×List Nat :=
 if i<n0 then (i,refs) else if refs.contains i=true then (n0+refs.idxOf i,refs) else (n0+refs.length,refs++[i])
def OA (g:List Nat->Value->Option (Value×List Nat)):List Value->List Nat->Option (List Value×List Nat)
 |[],refs=>some ([],refs)
 |v::vs,refs=>match g refs v with
  |none=>none
  |some p=>match OA g vs p.2 with
   |none=>none
   |some q=>some (p.1::q.1,q.2)
def gcX (n0:Nat):Nat->List Nat->Value->Option (Value×List Nat)
 |0,_,_=>none
 |f+1,refs,v=>match v with
  |.pointer (some ⟨i,o,none⟩)=>some (.pointer (some ⟨(gcI n0 refs i).1,o,none⟩),(gcI n0 refs i).2)
  |.slice (some ⟨i,o,none⟩) l c=>some (.slice (some ⟨(gcI n0 refs i).1,o,none⟩) l c,(gcI n0 refs i).2)
  |.slice (some ⟨i,o,some 0⟩) l c=>some (.slice (some ⟨(gcI n0 refs i).1,o,some 0⟩) l c,(gcI n0 refs i).2)
  |.map (some i)=>some (.map (some (gcI n0 refs i).1),(gcI n0 refs i).2)
  |.chan none=>some (.chan none,refs)
  |.iface t u=>match gcX n0 f refs u with
   |some p=>some (.iface t p.1,p.2)
   |none=>none
  |.agg cs=>match OA (gcX n0 f) cs.toList refs with
   |some p=>some (.agg p.1.toArray,p.2)
   |none=>none
  |.tuple cs=>match OA (gcX n0 f) cs.toList refs with
   |some p=>some (.tuple p.1.toArray,p.2)
   |none=>none
  |.func (.func g) fs cs=>match OA (gcX n0 f) fs.toList refs with
   |some p=>match OA (gcX n0 f) cs.toList p.2 with
    |some q=>some (.func (.func g) p.1.toArray q.1.toArray,q.2)
    |none=>none
   |none=>none
  |.func (.yield i) ⟨[]⟩ ⟨[]⟩=>if i<n0 then some (.func (.yield i) ⟨[]⟩ ⟨[]⟩,refs) else none
  |v=>if QM v=true then some (v,refs) else none
def Q63 (n0:Nat):List JH->List Nat->Option (List JH×List Nat)
 |[],refs=>some ([],refs)
 |e::es,refs=>match gcX n0 8 refs e.2.1 with
  |none=>none
  |some p=>match Q63 n0 es p.2 with
   |none=>none
   |some q=>some ((e.1,p.1,e.2.2)::q.1,q.2)
def gcB (n0:Nat) (refs:List Nat):EB->Option (EB×List Nat)
 |.cells c e w t=>match OA (gcX n0 8) c refs with
  |some p=>some (.cells p.1 e w t,p.2)
  |none=>none
 |.map es cl w=>match Q63 n0 es refs with
  |some p=>some (.map p.1 cl w,p.2)
  |none=>none
 |_=>none
def OF (h':CH) (n0:Nat):Nat->Nat->List Nat->CH->Option (CH×List Nat)
 |0,_,_,_=>none
 |f+1,k,refs,acc=>if refs.length<=k then (if k=refs.length then some (acc,refs) else none) else match h'.get (refs.getD k 0) with
  |none=>none
  |some b=>match gcB n0 refs b with
   |none=>none
   |some p=>if acc.room=true then OF h' n0 f (k+1) p.2 (acc.push p.1) else none
def Q1q (h h':CH) (refs:List Nat):Option (CH×List Nat) :=
 if h.keepOk h'=true then OF h' h.n 100000 0 refs ⟨h'.t,h.n⟩ else none
def Lt (h h':CH) (v:Value):Option (Value×CH):=match gcX h.n 8 [] v with
 |none=>none
 |some p=>match Q1q h h' p.2 with
  |none=>none
  |some q=>some (p.1,q.1)
def joinOps:AnsOps (Option (Value×CH)):=⟨none,λa b=>match a with
 |some x=>match b with
  |some y=>if AS 20 x.1 y.1=true/\x.2.same y.2=true then some x else none
  |none=>none
 |none=>none⟩
structure ET where
 t:GT Value
 m:Nat
def ET.get (e:ET) (i:Nat):Value:=Bool.rec (motive:=λ_=>Value) undef (e.t.get undef i) (Nat.blt i e.m)
def ET.set (e:ET) (i:Nat) (v:Value):ET:=Bool.rec (motive:=λ_=>ET) e ⟨e.t.set undef 32 i v,e.m⟩ (Nat.blt i e.m)
def ET.put (e:ET) (d:Option Nat) (v:Value):ET:=Option.rec (motive:=λ_=>ET) e (λd=>e.set d v) d
def etL (l:List Value):Nat->GT Value->GT Value:=List.rec (motive:=λ_=>Nat->GT Value->GT Value) (λ_ t=>t) (λv _ ih i t=>ih (i+1) (t.set undef 32 i v)) l
def ET.of (args:List Value) (nt:Nat):ET:=⟨etL args 0 .nil,args.length+(nt-args.length)⟩
def Mb (e:ET) (x:Operand):Value:=Operand.rec (motive:=λ_=>Value) (λt=>e.get t) (λv=>v) (λg=>.pointer (some ⟨g,0,some 0⟩)) (λf=>.func (.func f) #[] #[]) x
def Q14 (e:ET) (ps:List Nat):List Value->ET:=List.rec (motive:=λ_=>ET->List Value->ET) (λe _=>e) (λp _ ih e vs=>List.rec (motive:=λ_=>ET) e (λv vs _=>ih (e.set p v) vs) vs) ps e
def FK (e:ET) (g:Option (Nat×Bool)):Option Bool:=match g with
 |none=>some true
 |some (d,want)=>match e.get d with
  |.bool b=>some (b==want)
  |.tuple _=>some false
  |_=>none
def ET.list (e:ET):List Value:=(List.range e.m).map e.get
def Q42 (h h':CH) (e:ET):Option (Value×CH):=Lt h h' (.tuple e.list.toArray)
structure RCtx where
 ps:List Nat
 a:VCode
 b:VCode
 env:ET
abbrev Ys:=List (Nat×RCtx)
def Ys.find:Ys->Nat->Option RCtx
 |[],_=>none
 |(j,c)::l,i=>if Nat.beq i j=true then some c else Ys.find l i
structure Memo where
 args:List Value
 bl:List PB
 v:Value
 fr:List PB
def Q50 (g:Value->Option Value):List Value->Option (List Value)
 |[]=>some []
 |v::vs=>match g v with
  |none=>none
  |some u=>match Q50 g vs with
   |none=>none
   |some us=>some (u::us)
def shX (a m d:Nat):Nat->Value->Option Value
 |0,_=>none
 |f+1,v=>match v with
  |.pointer (some ⟨i,o,none⟩)=>if a<=i/\i<m then some (.pointer (some ⟨d+(i-a),o,none⟩)) else none
  |.slice (some ⟨i,o,none⟩) l c=>if a<=i/\i<m then some (.slice (some ⟨d+(i-a),o,none⟩) l c) else none
  |.agg cs=>match Q50 (shX a m d f) cs.toList with
   |some p=>some (.agg p.toArray)
   |none=>none
  |.tuple cs=>match Q50 (shX a m d f) cs.toList with
   |some p=>some (.tuple p.toArray)
   |none=>none
  |v=>if QM v=true then some v else none
def TI (h:CH):Nat->List Nat->List PB->Option (List Nat)
 |k,refs,[]=>if refs.length=k then some refs else none
 |k,refs,b::m=>if k<refs.length then
   match h.get (refs.getD k 0) with
   |some (.cells c e _ t)=>(match OA (gcX 0 8) c refs with
    |some p=>if (decide (e=b.esz)&&(t==b.tight&&FV (AS 20) p.1 b.c))=true then TI h (k+1) p.2 m else none
    |none=>none)
   |_=>none
  else none
def N6:List PB->CH->CH
 |[],h=>h
 |b::l,h=>N6 l (h.push (.cells b.c b.esz true b.tight))
def AJ (h:CH) (args:List Value) (refs:List Nat):List Memo->Option Memo
 |[]=>none
 |m::ms=>if (FV (AS 20) args m.args&&(TI h 0 refs m.bl).isSome)=true then some m else AJ h args refs ms
def RT (h:CH) (args:List Value) (ms:List Memo):Option (Value×CH) :=
 match OA (gcX 0 8) args [] with
 |none=>none
 |some p=>match AJ h p.1 p.2 ms with
  |none=>none
  |some m=>match Nat.ble (h.n+m.fr.length) 1000000000 with
   |false=>none
   |true=>match shX m.bl.length (m.bl.length+m.fr.length) h.n 8 m.v with
    |some v=>some (v,N6 m.fr h)
    |none=>none
inductive FEnt where
 |code (vc:VCode) (rs:List VResult) (nt:Nat)
 |codeJ (vc:VCode) (rs:List VResult) (nt:Nat)
 |codeM (vc:VCode) (rs:List VResult) (nt:Nat) (ms:List Memo)
 |same
abbrev Tab:=FuncId->Option FEnt
abbrev Q3c:=∀ {A:Type},AnsOps A->Ys->VCode->Option Nat->ET->CH->(Exit->ET->CH->A)->A
def Hh (env:ET) (U:CH):VResult->Option Value
 |.tmp t=>some (env.get t)
 |.cell a agg size=>match Q4e agg size (env.get a) U with|some p=>some p.1|none=>none
def Gp (env:ET) (U:CH):List VResult->Option (List Value)
 |[]=>some []
 |r::rs=>match Hh env U r with
  |none=>none
  |some v=>match Gp env U rs with
   |none=>none
   |some vs=>some (v::vs)
def UT (env:ET) (U:CH) (rs:List VResult):Option Value :=
 match rs with
 |[r]=>Hh env U r
 |rs=>match Gp env U rs with|some vs=>some (.tuple vs.toArray)|none=>none
section
variable (T:Tab) (ev:Q3c) {A:Type}(R:AnsOps A) (ys:Ys)
def Q25 (fail:A) (rs:List VResult) (k:Value->CH->A):Exit->ET->CH->A:=λe env h'=>match e with
  |.normal=>(match UT env h' rs with|some v=>k v h'|none=>fail)
  |.ret=>(match UT env h' rs with|some v=>k v h'|none=>fail)
  |_=>fail
def CC (f:FuncId) (args:List Value) (h:CH) (k:Value->CH->A):A :=
 match T f with
 |some (.code vc rs nt)=>match Nat.ble (ET.of args nt).m 1000000 with
  |true=>ev R ys vc none (ET.of args nt) h (Q25 R.fail rs k)
  |false=>R.fail
 |some (.codeJ vc rs nt)=>match Nat.ble (ET.of args nt).m 1000000 with
  |true=>(match ev joinOps ys vc none (ET.of args nt) h (Q25 none rs λv h'=>Lt h h' v) with
   |some x=>if x.2.room=true/\Nat.ble h.n x.2.n=true then k x.1 x.2 else R.fail
   |none=>R.fail)
  |false=>R.fail
 |some (.codeM vc rs nt ms)=>match RT h args ms with
  |some p=>k p.1 p.2
  |none=>match Nat.ble (ET.of args nt).m 1000000 with
   |true=>ev R ys vc none (ET.of args nt) h (Q25 R.fail rs k)
   |false=>R.fail
 |some .same=>match args with
  |[v]=>k v h
  |_=>R.fail
 |none=>R.fail
def Ot (i:Nat) (k:Value->CH->A):Exit->ET->CH->A:=λe _ h =>
 match h.get i with
 |some (.lp .busy none)=>match e with
  |.normal=>k (.bool true) (h.upd i (.lp .ready none))
  |.ret=>k (.bool false) (h.upd i (.lp .done (some .ret)))
  |.exit id=>k (.bool false) (h.upd i (.lp .done (some (.exit id))))
  |_=>R.fail
 |_=>R.fail
def Q1l (c:RCtx) (i:Nat) (k:Value->CH->A):Exit->ET->CH->A:=λe a7 h1=>match e with
 |.normal=>(match h1.get i with
  |some (.lp .ready none)=>ev R ys c.b (some i) a7 (h1.upd i (.lp .busy none)) (Ot R i k)
  |_=>R.fail)
 |_=>R.fail
def Oh (i:Nat) (args:List Value) (h:CH) (k:Value->CH->A):A :=
 match ys.find i with
 |some c=>match h.get i with
  |some (.lp .ready none)=>if args.length=c.ps.length then ev R ys c.a (some i) (Q14 c.env c.ps args) h (Q1l ev R ys c i k) else R.fail
  |_=>R.fail
 |none=>R.fail
def NK (i m since clock:Nat) (seen:List Nat) (h:CH) (k:Value->CH->A):List JH->Option A
 |[]=>none
 |e::es=>if seen.contains e.2.2=true then NK i m since clock seen h k es
  else match NK i m since clock seen h k es with
   |none=>some (k (.tuple #[.bool true,e.1,e.2.1]) (h.upd i (.iter m since (seen++[e.2.2]) clock)))
   |some a=>some (R.both (k (.tuple #[.bool true,e.1,e.2.1]) (h.upd i (.iter m since (seen++[e.2.2]) clock))) a)
def Q2t (x:Value) (h:CH) (k:Value->CH->A):A :=
 match x with
 |.pointer (some ⟨i,0,none⟩)=>match h.get i with
  |some (.iter m since seen last)=>match h.mapAt m with
   |some (es,clock,_) =>
    if (seen.isEmpty||es.isEmpty||es.any (λe=>decide (e.2.2<last)))=true/\es.all (λe=>Kt e.1)=true then
     (match NK R i m since clock seen h k es with
     |none=>if es.all (λe=>seen.contains e.2.2||decide (since<=e.2.2))=true then k (.tuple #[.bool false]) h else R.fail
     |some a=>if es.all (λe=>seen.contains e.2.2||decide (since<=e.2.2))=true then R.both (k (.tuple #[.bool false]) h) a else a)
    else R.fail
   |none=>R.fail
  |_=>R.fail
 |_=>R.fail
def Q1i (f:Value) (args:List Value) (h:CH) (k:Value->CH->A):A:=match f with
  |.func (.func g) first cap=>CC T ev R ys g (first.toList++args++cap.toList) h k
  |.func (.yield i) _ _=>Oh ev R ys i args h k
  |_=>R.fail
def IM (r:Option (Value×CH)) (k:Value->CH->A):A:=match r with
  |some p=>k p.1 p.2
  |none=>R.fail
def Q2h (o:VOp) (env:ET) (h:CH) (k:Value->CH->A):A :=
 match o with
 |.callF f args=>CC T ev R ys f (args.map (Mb env)) h k
 |.callV f args=>Q1i T ev R ys (Mb env f) (args.map (Mb env)) h k
 |.ext (.nextMap x)=>Q2t R (Mb env x) h k
 |o=>IM R (CD o (Mb env) h) k
def IW (l:List VOper):ET->CH->(ET->CH->A)->A :=
 List.rec (motive:=λ_=>ET->CH->(ET->CH->A)->A) (λenv h k=>k env h)
  (λo _ ih env h k=>match FK env o.guard with
   |none=>R.fail
   |some true=>Q2h T ev R ys o.op env h λv h'=>ih (env.put o.dst v) h' k
   |some false=>ih (env.put o.dst undef) h k) l
def Ea (op:VOp) (ev:Operand->Value) (v:Value) (h:CH):Bool:=match CD op ev h with
 |some q=>AS 20 q.1 v
 |none=>false
def Iy (r:Nat) (h:CH):List (Nat×(CH->Bool))->Bool
 |[]=>true
 |c::l=>(!(Nat.ble r c.1)||c.2 h)&&Iy r h l
def Nu:List DOper->ET->List CH->CH->List (Nat×(CH->Bool))->(ET->CH->A)->A
 |[],env,_,h,_,k=>k env h
 |o::rest,env,hs,h,pend,k=>match FK env o.guard with
  |none=>R.fail
  |some true=>if o.kind=2 then
    (match Q2h T ev E8 ys o.op env h (λv h'=>some (v,h')) with
    |some p=>if h.newOk p.2=true/\Iy hs.length p.2 pend=true then Nu rest (env.put o.dst p.1) (hs++[p.2]) p.2 pend k else R.fail
    |none=>R.fail)
   else if o.kind=1 then
    (match CD o.op (Mb env) h with
    |some p=>if (hs.drop o.kmin).all (Ea o.op (Mb env) p.1)=true then
      Nu rest (env.put o.dst p.1) hs h (if hs.length<=o.kmax then (o.kmax,Ea o.op (Mb env) p.1)::pend else pend) k else R.fail
    |none=>R.fail)
   else match CD o.op (Mb env) h with
    |some p=>Nu rest (env.put o.dst p.1) hs h pend k
    |none=>R.fail
  |some false=>if o.kind=2 then
    (if Iy hs.length h pend=true then Nu rest (env.put o.dst undef) (hs++[h]) h pend k else R.fail)
   else Nu rest (env.put o.dst undef) hs h pend k
def Q2f (env:ET) (h:CH) (a:List DOper):Option (Value×CH):=Nu T ev joinOps ys a env [h] h [] λenv h'=>Q42 h h' env
def E5 (env:ET) (h:CH):List (List DOper)->Option (Value×CH)
 |[]=>none
 |[a]=>Q2f T ev ys env h a
 |a::b::r=>joinOps.both (Q2f T ev ys env h a) (E5 env h (b::r))
def HS:List DSeg->ET->CH->(ET->CH->A)->A
 |[],env,h,k=>k env h
 |.one o::rest,env,h,k=>IW T ev R ys [o] env h λenv h=>HS rest env h k
 |.alts [a]::rest,env,h,k=>Nu T ev R ys a env [h] h [] λenv h=>HS rest env h k
 |.alts l::rest,env,h,k=>match E5 T ev ys env h l with
  |some x=>(match x.1 with
   |.tuple vs=>if x.2.room=true/\Nat.ble h.n x.2.n=true/\vs.toList.length=env.m then HS rest (ET.of vs.toList 0) x.2 k else R.fail
   |_=>R.fail)
  |none=>R.fail
def Q18 (h:CH):Option Nat->Bool
 |none=>true
 |some i=>match h.get i with
  |some (.lp _ _)=>true
  |_=>false
def Q2n:LoopState->Bool
 |.busy=>false
 |_=>true
def Q4g (env:ET) (i:Nat) (k:Exit->ET->CH->A):Value->CH->A:=λ_ h =>
 match h.get i with
 |some (.lp st pend)=>if Q2n st=true then (match pend with
   |none=>k .normal env (h.kill i)
   |some .ret=>k .ret env (h.kill i)
   |some (.exit id)=>k (.exit id) env (h.kill i)
   |some _=>R.fail) else R.fail
 |_=>R.fail
def Q4k (kb k:Exit->ET->CH->A):Exit->ET->CH->A:=λe env h=>match e with
 |.normal=>kb .normal env h
 |e=>k e env h
def Ih (id:Nat) (k:Exit->ET->CH->A):Exit->ET->CH->A:=λe env h=>match e with
 |.exit gR=>if gR=id then k .normal env h else k (.exit gR) env h
 |e=>k e env h
def Q2r (v:Value) (a b:A):A:=match v with
 |.bool true=>a
 |.bool false=>b
 |_=>R.fail
def I1 (g:Value) (ps:List Nat) (a b:VCode) (ro:Option Nat) (env:ET) (h:CH) (k:Exit->ET->CH->A):A:=match g with
 |.func (.func f) first cap=>match T f with
  |some (.code _ _ _)=>if Q18 h ro=true/\h.room=true then
    CC T ev R ((h.n,⟨ps,a,b,env⟩)::ys) f (first.toList++[.func (.yield h.n) #[] #[]]++cap.toList) (h.push (.lp .ready none)) (Q4g R env h.n k)
   else R.fail
  |_=>R.fail
 |_=>R.fail
def Lg (c:VCode):Option Nat->ET->CH->(Exit->ET->CH->A)->A :=
 VCode.rec (motive:=λ_=>Option Nat->ET->CH->(Exit->ET->CH->A)->A)
  (λ_ env h k=>k .normal env h)
  (λops _ env h k=>IW T ev R ys ops env h (k .normal))
  (λaO _ env h k=>HS T ev R ys aO env h (k .normal))
  (λg ps a b _ _ ro env h k=>I1 T ev R ys (Mb env g) ps a b ro env h k)
  (λ_ _ ff eI ro env h k=>ff ro env h (Q4k (λ_ ae h'=>eI ro ae h' k) k))
  (λc _ _ ff eI ro env h k=>Q2r R (Mb env c) (ff ro env h k) (eI ro env h k))
  (λid _ ih ro env h k=>ih ro env h (Ih id k))
  (λb ih ro env h k=>ih ro env h (Q4k (λ_ ae h'=>ev R ys (.loop b) ro ae h' k) k))
  (λid _ env h k=>k (.exit id) env h)
  (λ_ env h k=>k .ret env h)
  (λ_ _ _ _=>R.fail) c
end
def LW (T:Tab) (n:Nat):Q3c :=
 Nat.rec (motive:=λ_=>Q3c) (λR _ _ _ _ _ _=>R.fail) (λ_ ih {_} R ys c ro env h k=>Lg T ih R ys c ro env h k) n
end Go.V
namespace Go.V
open Go
structure FRel (e:ET) (env:Env):Prop where
 m:e.m=List.length env
 sm:e.m<=1000000
 get:∀ i,env.getD i undef=e.get i
theorem ET.q0v {e:ET}{i:Nat}(hi:i<e.m):e.get i=e.t.get undef i:=by unfold ET.get;rw[show Nat.blt i e.m=true from Nat.ble_eq_true_of_le hi]
theorem ET.q0r {e:ET}{i:Nat}(hi:e.m<=i):e.get i=undef:=by
 unfold ET.get;cases hb:Nat.blt i e.m with
 |false=>rfl
 |true=>have:=zA hb;omega
theorem ET.q2e {e:ET}{i:Nat}{v:Value}(hi:i<e.m):e.set i v=⟨e.t.set undef 32 i v,e.m⟩:=by unfold ET.set;rw[show Nat.blt i e.m=true from Nat.ble_eq_true_of_le hi]
theorem ET.q2g {e:ET}{i:Nat}{v:Value}(hi:e.m<=i):e.set i v=e:=by
 unfold ET.set;cases hb:Nat.blt i e.m with
 |false=>rfl
 |true=>have:=zA hb;omega
theorem ET.q2l (e:ET) (i:Nat) (v:Value):(e.set i v).m=e.m:=by
 rcases zn i e.m with h|h
 .rw[ET.q2e h]
 .rw[ET.q2g h]
theorem ET.q1d {e:ET}(hs:e.m<=1000000) (i:Nat) (v:Value) (j:Nat):(e.set i v).get j=if j=i/\i<e.m then v else e.get j:=by
 rcases zn i e.m with hi|hi
 .rw[ET.q2e hi];rcases zn j e.m with hj|hj
  .rw[ET.q0v (e:=⟨e.t.set undef 32 i v,e.m⟩) hj,ET.q0v hj];show (e.t.set undef 32 i v).get undef j=_;rw[GT.q1d undef 32 _ _ _ _ (by omega)];by_cases h:j=i
   .rw[z7 h,z7 ⟨h,hi⟩]
   .rw[z6 h,z6 (λe=>h e.1)]
  .rw[ET.q0r (e:=⟨e.t.set undef 32 i v,e.m⟩) hj,ET.q0r hj,z6 (by rintro⟨rfl,_⟩;omega)]
 .rw[ET.q2g hi,z6 (by rintro⟨_,h⟩;omega)]
theorem FRel.set {e:ET}{env:Env}(h:FRel e env) (i:Nat) (v:Value):FRel (e.set i v) (env.set i v):=by
 refine⟨by rw[ET.q2l,xX];exact h.m,by rw[ET.q2l];exact h.sm,λj=>?_⟩;rw[ET.q1d h.sm,<-h.get,ze,ze,xx,h.m];by_cases cq:i=j
 .subst cq;rcases zn i (List.length env) with hi|hi
  .rw[z7 rfl,z7 hi,z7 ⟨rfl,hi⟩];rfl
  .rw[z7 rfl,z6 (by omega),z6 (by rintro⟨_,h⟩;omega),zD hi]
 .rw[z6 cq,z6 (λe=>cq e.1.symm)]
theorem FRel.put {e:ET}{env:Env}(h:FRel e env) (d:Option Nat) (v:Value):FRel (e.put d v) (JK env d v):=by
 cases d with
 |none=>exact h
 |some d=>exact h.set d v
theorem BF {e:ET}{env:Env}(h:FRel e env):Mb e=Q5 env:=by
 funext x
 cases x with
 |tmp t=>exact(h.get t).symm
 |_=>rfl
theorem AN {e:ET}{env:Env}(h:FRel e env) (g:Option (Nat×Bool)):FK e g=ZY env g:=by
 cases g with
 |none=>rfl
 |some p =>obtain⟨d,w⟩:=p;simp only[FK,ZY,h.get];cases e.get d<;>rfl
theorem Tz:∀ (ps:List Nat) (vs:List Value) {e:ET}{env:Env},FRel e env->FRel (Q14 e ps vs) (H9 env ps vs)
 |[],vs,e,env,h=>by cases vs<;>exact h
 |p::ps,[],e,env,h=>h
 |p::ps,v::vs,e,env,h=>Tz ps vs (h.set p v)
theorem O8:∀ (l:List Value) (i:Nat) (t:GT Value) (j:Nat),i+l.length<=1000000->(etL l i t).get undef j=if i<=j/\j<i+l.length then l.getD (j-i) undef else t.get undef j
 |[],i,t,j,_=>by rw[z6 (by simp only[List.length_nil];omega)];rfl
 |v::l,i,t,j,h=>by
  have h:i+(l.length+1)<=1000000:=h;show (etL l (i+1) (t.set undef 32 i v)).get undef j=_;rw[O8 l (i+1) _ j (by omega),GT.q1d undef 32 _ _ _ _ (by omega)];by_cases aI:j=i
  .subst aI;rw[z6 (by omega),z7 rfl,z7 (by simp)];simp
  .by_cases hc:i+1<=j/\j<i+1+l.length
   .rw[z7 hc,z7 (by simp;omega),show j-i=j-(i+1)+1 by omega];rfl
   .rw[z6 hc,z6 aI,z6 (by simp;omega)]
theorem ET.q1o {args:List Value}{nt:Nat}(h:(ET.of args nt).m<=1000000):FRel (ET.of args nt) (args++List.replicate (nt-args.length) undef):=by
 refine⟨by simp[ET.of],h,λi=>?_⟩;have hm:(ET.of args nt).m=args.length+(nt-args.length):=rfl;rw[hm] at h;rcases zn i (ET.of args nt).m with hi|hi
 .rw[ET.q0v hi];show _=(etL args 0 .nil).get undef i;rw[O8 _ _ _ _ (by omega),ze,List.getElem?_append];rw[hm] at hi;by_cases hl:i<args.length
  .rw[z7 hl,z7 (by omega)];simp[ze]
  .rw[z6 hl,z6 (by omega),List.getElem?_replicate,z7 (by omega)];rfl
 .rw[ET.q0r hi];rw[hm] at hi;rw[ze,zD (by simp;omega)];rfl
def Oj (P:Program) (f:FuncId) (m:Memo):Prop :=
 VCalled P f m.args (XV m.bl []) (λu Z=>u=m.v/\Z=XV m.bl m.fr)/\∀ b∈m.fr,b.c.all QM=true
structure TabOk (P:Program) (T:Tab):Prop where
 code:∀ f vc rs nt,T f=some (.code vc rs nt)->Fun P f vc rs nt
 codeJ:∀ f vc rs nt,T f=some (.codeJ vc rs nt)->Fun P f vc rs nt
 codeM:∀ f vc rs nt ms,T f=some (.codeM vc rs nt ms)->Fun P f vc rs nt/\∀ m∈ms,Oj P f m
 same:∀ f,T f=some .same->∀ (v:Value) (U:Heap) (K:Value->Heap->Prop),K v U->VCalled P f [v] U K
section
variable {P:Program}{T:Tab}{ev:Q3c}
abbrev U2:=Nat->Env×Loop
def YOk (P:Program) (ys:Ys) (rs:U2) (n:Nat):Prop :=
 ∀ i c,ys.find i=some c->i<n/\FRel c.env (rs i).1/\Kr P i (Al (vwp (Q3 P) c.a (some i)) (vwp (Q3 P) c.b (some i)) c.ps (rs i).1 (rs i).2 i)
theorem YOk.mono {ys:Ys}{rs bc:U2}{n n':Nat}(h:YOk P ys rs n) (hn:n<=n') (hr:∀ i,i<n->bc i=rs i):YOk P ys bc n':=λi c hc=>by obtain⟨h1,h2,h3⟩:=h i c hc;rw[hr i h1];exact⟨by omega,h2,h3⟩
def Q38 {A:Type}(G:A->Prop) (rs:U2) (h:CH) (k:Value->CH->A) (K:Value->Heap->Prop):Prop :=
 ∀ v h' bc U',h.n<=h'.n->(∀ i,i<h.n->bc i=rs i)->CSim bc h' U'->G (k v h')->K v U'
def Q0a {A:Type}(G:A->Prop) (rs:U2) (h:CH) (m:Nat) (k:Exit->ET->CH->A) (Q:Exit->Env->Heap->Prop):Prop :=
 ∀ e df h' bc U' ae,h.n<=h'.n->(∀ i,i<h.n->bc i=rs i)->CSim bc h' U'->FRel df ae->List.length ae=m->G (k e df h')->Q e ae U'
def OO {A:Type}(G:A->Prop) (rs:U2) (h:CH) (m:Nat) (k:ET->CH->A) (K:Env->Heap->Prop):Prop :=
 ∀ df h' bc U' ae,h.n<=h'.n->(∀ i,i<h.n->bc i=rs i)->CSim bc h' U'->FRel df ae->List.length ae=m->G (k df h')->K ae U'
def Sd (P:Program) (ev:Q3c):Prop:=∀ {A:Type}(R:AnsOps A) (G:A->Prop),Good R G->∀ (ys:Ys) (c:VCode) (ro:Option Nat) (et:ET) (env:Env) (h:CH) (k:Exit->ET->CH->A) (rs:U2) (U:Heap) (Q:Exit->Env->Heap->Prop),
 YOk P ys rs h.n->CSim rs h U->FRel et env->G (ev R ys c ro et h k)->Q0a G rs h (List.length env) k Q->vwp (Q3 P) c ro Q env U
theorem MA {rs:U2}{h:CH}{U:Heap}(hs:CSim rs h U) {et:ET}{env:Env}(hE:FRel et env) {r:VResult}{v:Value}(hr:Hh et h r=some v):Jg env U r=some v:=by
 cases r with
 |tmp t=>simp only[Hh] at hr;simp only[Jg,hE.get];exact hr
 |cell a agg size =>
  simp only[Hh] at hr;split at hr
  .rename_i p hp;rw[<-hE.get] at hp;obtain⟨_,U',h1,_⟩:=Yy (o:=.load agg size (.tmp a)) (ev:=Q5 env) hs hp;simp only[Jg,h1,xQ];exact hr
  .cases hr
theorem Nz {rs:U2}{h:CH}{U:Heap}(hs:CSim rs h U) {et:ET}{env:Env}(hE:FRel et env):∀ (l:List VResult) (vs:List Value),Gp et h l=some vs->l.mapM (Jg env U)=some vs
 |[],vs,hr=>by simp[Gp] at hr;subst hr;rfl
 |r::l,vs,hr=>by
  simp only[Gp] at hr;split at hr
  .cases hr
  .rename_i v hv;split at hr
   .cases hr
   .rename_i ws hw;obtain rfl:=osj hr;rw[x6,MA hs hE hv];simp[Nz hs hE l ws hw]
theorem NH {rs:U2}{h:CH}{U:Heap}(hs:CSim rs h U) {et:ET}{env:Env}(hE:FRel et env) {l:List VResult}{v:Value}(hr:UT et h l=some v):JM env U l=some v:=by
 unfold UT at hr;split at hr
 .exact MA hs hE hr
 .rename_i aJ;split at hr
  .rename_i vs bY;unfold JM;split
   .rename_i r;exact absurd rfl (aJ r)
   .rw[Nz hs hE _ _ bY];exact hr
  .cases hr
variable {A:Type}{R:AnsOps A}{G:A->Prop}
theorem N2 (hG:Good R G) {rl:List VResult}{k:Value->CH->A}{rs:U2}{h:CH}{U:Heap}{K:Value->Heap->Prop}{m:Nat}(hk:Q38 G rs h k K):Q0a G rs h m (Q25 R.fail rl k) (Q60 U rl K):=by
 intro e df h' bc U' ae hn hr aS bG _ hg;have fin:G (match UT df h' rl with|some v=>k v h'|none=>R.fail)->Q_ (JM ae U' rl) λv=>∃ v' aH,DropTo U v U' v' aH/\K v' aH:=by
  intro hg;split at hg
  .rename_i v hv;rw[NH aS bG hv];exact⟨v,U',.refl _ _ _,hk v h' bc U' hn hr aS hg⟩
  .exact(hG.fail hg).elim
 cases e with
 |normal=>exact fin hg
 |ret=>exact fin hg
 |_=>exact(hG.fail hg).elim
def CH.toHeap (rs:U2) (h:CH):Heap:=⟨λi=>(h.get i).map (EB.to (rs i)),h.n,λi hi=>by rw[CH.q0r hi];rfl⟩
theorem GV {rs:U2}{h:CH}(hr:h.n<=1000000001):CSim rs h (h.toHeap rs):=⟨rfl,hr,λ_=>rfl⟩
theorem CSim.eq {rs:U2}{h:CH}{U:Heap}(hs:CSim rs h U):U=h.toHeap rs:=Heap.ext' (λj=>hs.get j) hs.n.symm
def Fs (x:Value×CH) (a:Option (Value×CH)):Prop:=∃ y,a=some y/\y.1=x.1/\y.2.n=x.2.n/\∀ i,y.2.get i=x.2.get i
theorem Q0e {h h':CH}(hs:h.same h'=true):h.n=h'.n/\∀ i,h.get i=h'.get i:=by
 simp only[CH.same,z1,zf,x5,Nat.beq_eq] at hs;refine⟨hs.1,λi=>?_⟩;rcases zn i h.n with hi|hi
 .have:=hs.2 i hi;split at this
  .rename_i h1 h2;rw[h1,h2]
  .rename_i a b h1 h2;rw[h1,h2,EB.beq_eq this]
  .cases this
 .rw[CH.q0r hi,CH.q0r (by rw[<-hs.1];exact hi)]
theorem TU (x:Value×CH):Good joinOps (Fs x):=by
 refine⟨λ⟨y,h,_⟩=>(by cases h),λa b h=>?_⟩;obtain⟨y,h1,h2,h3,h4⟩:=h;cases a with
 |none=>cases h1
 |some xa =>
  cases b with
  |none=>cases h1
  |some xb =>
   simp only[joinOps] at h1;split at h1
   .rename_i hc;obtain rfl:=osj h1;have e1:=Mg _ _ _ hc.1;obtain⟨e2,e3⟩:=Q0e hc.2;exact⟨⟨xa,rfl,h2,h3,h4⟩,xb,rfl,by rw[<-e1];exact h2,by rw[<-e2];exact h3,λi=>by rw[<-e3 i];exact h4 i⟩
   .cases h1
theorem On {b:EB}{q:Env×Loop}(h:b.plainE=true):(b.to q).plain=true/\∀ q',b.to q'=b.to q:=by cases b<;>first|exact⟨h,λ_=>rfl⟩|cases h
def gcP (n0:Nat) (refs:List Nat) (i:Nat):Nat:=if i<n0 then i else refs.getD (i-n0) 0
def RExt (n0:Nat) (a b:List Nat):Prop:=(∃ t,b=a++t/\∀ x∈t,n0<=x)/\(a.Nodup->b.Nodup)
theorem RExt.refl (n0:Nat) (a:List Nat):RExt n0 a a:=⟨⟨[],by simp,λx hx=>by cases hx⟩,id⟩
theorem RExt.trans {n0:Nat}{a b c:List Nat}(h:RExt n0 a b) (k:RExt n0 b c):RExt n0 a c:=by obtain⟨⟨t,rfl,ht⟩,h2⟩:=h;obtain⟨⟨u,rfl,hu⟩,k2⟩:=k;exact⟨⟨t++u,by simp,λx hx=>(x7.1 hx).elim (ht x) (hu x)⟩,λh=>k2 (h2 h)⟩
def Sub (a b:List Nat):Prop:=∃ t,b=a++t
theorem Sub.trans {a b c:List Nat}(h:Sub a b) (k:Sub b c):Sub a c:=by obtain⟨t,rfl⟩:=h;obtain⟨u,rfl⟩:=k;exact⟨t++u,by simp⟩
theorem RExt.sub {n0:Nat}{a b:List Nat}(h:RExt n0 a b):Sub a b:=by obtain⟨⟨t,h,_⟩,_⟩:=h;exact⟨t,h⟩
theorem BG (n0:Nat) (refs:List Nat) (i:Nat):RExt n0 refs (gcI n0 refs i).2/\∀ (all:List Nat),Sub (gcI n0 refs i).2 all->(gcI n0 refs i).1<n0+all.length/\gcP n0 all (gcI n0 refs i).1=i:=by
 unfold gcI;split
 .rename_i hi;exact⟨RExt.refl _ _,λall _=>⟨by simp only;omega,by simp[gcP,hi]⟩⟩
 .rename_i hi;split
  .rename_i hc;have hm:i∈refs:=by simpa using hc
   have af:=List.idxOf_lt_length_of_mem hm;refine⟨RExt.refl _ _,λall ⟨t,ht⟩=>?_⟩;simp only at ht;have cL:refs.idxOf i<all.length:=by rw[ht,zF];omega
   refine⟨by simp only;omega,?_⟩;simp only[gcP,z6 (show ¬ n0+refs.idxOf i<n0 by omega),show n0+refs.idxOf i-n0=refs.idxOf i by omega,ze];rw[ht,x8 af,z8 af];simp
  .rename_i hc;have hm:i∉refs:=by simpa using hc
   refine⟨⟨⟨[i],rfl,λx hx=>by simp at hx;omega⟩,λh1=>List.nodup_append.2 ⟨h1,by simp,λa ha b hb=>by simp at hb;subst hb;rintro rfl;exact hm ha⟩⟩,λall ⟨t,ht⟩=>?_⟩;simp only at ht;have af:refs.length<all.length:=by rw[ht];simp
   refine⟨by simp only;omega,?_⟩;simp only[gcP,z6 (show ¬ n0+refs.length<n0 by omega),show n0+refs.length-n0=refs.length by omega];simp[ht,ze]
def Q5q (n0:Nat) (refs eS:List Nat) (v' v:Value):Prop:=RExt n0 refs eS/\∀ (all:List Nat),Sub eS all->Ren (n0+all.length) (gcP n0 all) v' v
def Q6d (n0:Nat) (refs eS:List Nat) (v' v:List Value):Prop:=RExt n0 refs eS/\∀ (all:List Nat),Sub eS all->LRen (n0+all.length) (gcP n0 all) v' v
theorem WQ {n0:Nat}{g:List Nat->Value->Option (Value×List Nat)}(hg:∀ refs v p,g refs v=some p->Q5q n0 refs p.2 p.1 v):∀ (vs:List Value) (refs:List Nat) (p:List Value×List Nat),OA g vs refs=some p->Q6d n0 refs p.2 p.1 vs
 |[],refs,p,h=>by obtain rfl:=osj h;exact⟨RExt.refl _ _,λall _=>⟨rfl,λi a b ha=>by simp at ha⟩⟩
 |v::vs,refs,p,h=>by
  simp only[OA] at h;split at h
  .cases h
  .rename_i p1 h1;split at h
   .cases h
   .rename_i p2 h2;obtain rfl:=osj h;obtain⟨a1,a2⟩:=hg _ _ _ h1;obtain⟨b1,b2⟩:=WQ hg vs _ _ h2;refine⟨a1.trans b1,λall hall=>?_⟩;have c1:=a2 all (b1.sub.trans hall);have c2:=b2 all hall;refine⟨by simp[c2.1],λi a b ha hb=>?_⟩;cases i with
    |zero=>simp at ha hb;subst ha;subst hb;exact c1
    |succ i=>exact c2.2 i a b (by simpa using ha) (by simpa using hb)
theorem LRen.agg {n:Nat}{π:Nat->Nat}{cH:List Value}{cs:Array Value}(h:LRen n π cH cs.toList):Ren n π (.agg cH.toArray) (.agg cs) :=
 .agg _ _ (by simpa using h.1) λi h1 h2=>h.2 i _ _ (by simp) (by simp)
theorem LRen.tuple {n:Nat}{π:Nat->Nat}{cH:List Value}{cs:Array Value}(h:LRen n π cH cs.toList):Ren n π (.tuple cH.toArray) (.tuple cs) :=
 .tuple _ _ (by simpa using h.1) λi h1 h2=>h.2 i _ _ (by simp) (by simp)
theorem MT (n0:Nat):∀ (f:Nat) (refs:List Nat) (v:Value) (p:Value×List Nat),gcX n0 f refs v=some p->Q5q n0 refs p.2 p.1 v:=by
 intro f;induction f with
 |zero=>intro refs v p h;cases h
 |succ f ih =>
  intro refs v p h;unfold gcX at h;split at h
  .rename_i i o;obtain rfl:=osj h;obtain⟨h1,h2⟩:=BG n0 refs i;refine⟨h1,λall hall=>?_⟩;obtain⟨k1,k2⟩:=h2 all hall;have:=Ren.ptr (n:=n0+all.length) (π:=gcP n0 all) (gcI n0 refs i).1 o k1
   rwa [k2] at this
  .rename_i i o l c;obtain rfl:=osj h;obtain⟨h1,h2⟩:=BG n0 refs i;refine⟨h1,λall hall=>?_⟩;obtain⟨k1,k2⟩:=h2 all hall;have:=Ren.sl (n:=n0+all.length) (π:=gcP n0 all) (gcI n0 refs i).1 o l c k1
   rwa [k2] at this
  .rename_i i o l c;obtain rfl:=osj h;obtain⟨h1,h2⟩:=BG n0 refs i;refine⟨h1,λall hall=>?_⟩;obtain⟨k1,k2⟩:=h2 all hall;have:=Ren.slx (n:=n0+all.length) (π:=gcP n0 all) (gcI n0 refs i).1 o l c k1
   rwa [k2] at this
  .rename_i i;obtain rfl:=osj h;obtain⟨h1,h2⟩:=BG n0 refs i;refine⟨h1,λall hall=>?_⟩;obtain⟨k1,k2⟩:=h2 all hall;have:=Ren.map (n:=n0+all.length) (π:=gcP n0 all) (gcI n0 refs i).1 k1
   rwa [k2] at this
  .obtain rfl:=osj h;exact⟨RExt.refl _ _,λall _=>.poison _⟩
  .split at h
   .rename_i q hq;obtain rfl:=osj h;obtain⟨h1,h2⟩:=ih _ _ _ hq;exact⟨h1,λall hall=>.iface _ _ _ (h2 all hall)⟩
   .cases h
  .split at h
   .rename_i q hq;obtain rfl:=osj h;obtain⟨h1,h2⟩:=WQ ih _ _ _ hq;exact⟨h1,λall hall=>(h2 all hall).agg⟩
   .cases h
  .split at h
   .rename_i q hq;obtain rfl:=osj h;obtain⟨h1,h2⟩:=WQ ih _ _ _ hq;exact⟨h1,λall hall=>(h2 all hall).tuple⟩
   .cases h
  .split at h
   .rename_i q hq;split at h
    .rename_i q2 ql;obtain rfl:=osj h;obtain⟨h1,h2⟩:=WQ ih _ _ _ hq;obtain⟨h3,h4⟩:=WQ ih _ _ _ ql;refine⟨h1.trans h3,λall hall=>?_⟩;have c1:=h2 all (h3.sub.trans hall);have c2:=h4 all hall;exact .func _ _ _ _ _ (by simpa using c1.1) (by simpa using c2.1) (λi h1 h2=>c1.2 i _ _ (by simp) (by simp)) (λi h1 h2=>c2.2 i _ _ (by simp) (by simp))
    .cases h
   .cases h
  .rename_i i;split at h
   .rename_i hi;obtain rfl:=osj h;refine⟨RExt.refl _ _,λall _=>?_⟩;have:=Ren.yield (n:=n0+all.length) (π:=gcP n0 all) i (by omega)
    rwa [show gcP n0 all i=i by simp[gcP,hi]] at this
   .cases h
  .split at h
   .rename_i hp;obtain rfl:=osj h;exact⟨RExt.refl _ _,λall _=>.plain _ hp⟩
   .cases h
theorem LZ (n0:Nat):∀ (es:List JH) (refs:List Nat) (p:List JH×List Nat),Q63 n0 es refs=some p->RExt n0 refs p.2/\∀ (all:List Nat),Sub p.2 all ->
  p.1.length=es.length/\∀ (k:Nat) (a b:JH),p.1[k]?=some a->es[k]?=some b->a.1=b.1/\a.2.2=b.2.2/\Ren (n0+all.length) (gcP n0 all) a.2.1 b.2.1
 |[],refs,p,h=>by obtain rfl:=osj h;exact⟨RExt.refl _ _,λall _=>⟨rfl,λi a b ha=>by simp at ha⟩⟩
 |e::es,refs,p,h=>by
  simp only[Q63] at h;split at h
  .cases h
  .rename_i p1 h1;split at h
   .cases h
   .rename_i p2 h2;obtain rfl:=osj h;obtain⟨a1,a2⟩:=MT n0 _ _ _ _ h1;obtain⟨b1,b2⟩:=LZ n0 es _ _ h2;refine⟨a1.trans b1,λall hall=>?_⟩;have c1:=a2 all (b1.sub.trans hall);obtain⟨c2,c3⟩:=b2 all hall;refine⟨by simp[c2],λi a b ha hb=>?_⟩;cases i with
    |zero=>simp at ha hb;subst ha;subst hb;exact⟨rfl,rfl,c1⟩
    |succ i=>exact c3 i a b (by simpa using ha) (by simpa using hb)
theorem OV {n0:Nat}{refs:List Nat}{b:EB}{p:EB×List Nat}(h:gcB n0 refs b=some p):RExt n0 refs p.2/\∀ (all:List Nat),Sub p.2 all->∀ q q',BRen (n0+all.length) (gcP n0 all) (p.1.to q') (b.to q):=by
 unfold gcB at h;split at h
 .split at h
  .rename_i q hq;obtain rfl:=osj h;obtain⟨h1,h2⟩:=WQ (MT n0 8) _ _ _ hq;exact⟨h1,λall hall _ _=>⟨rfl,rfl,rfl,h2 all hall⟩⟩
  .cases h
 .split at h
  .rename_i q hq;obtain rfl:=osj h;obtain⟨h1,h2⟩:=LZ n0 _ _ _ hq;exact⟨h1,λall hall _ _=>⟨rfl,rfl,(h2 all hall).1,(h2 all hall).2⟩⟩
  .cases h
 .cases h
theorem Er {h':CH}{n0:Nat}:∀ (f k:Nat) (refs:List Nat) (acc:CH) (r:CH×List Nat),OF h' n0 f k refs acc=some r->acc.n=n0+k->acc.n<=1000000001 ->
  RExt n0 refs r.2/\r.1.n=n0+r.2.length/\r.1.n<=1000000001/\(∀ i,i<acc.n->r.1.get i=acc.get i) /\
  ∀ j,k<=j->j<r.2.length->∃ b b',h'.get (r.2.getD j 0)=some b/\r.1.get (n0+j)=some b'/\∀ q q',BRen (n0+r.2.length) (gcP n0 r.2) (b'.to q') (b.to q):=by
 intro f;induction f with
 |zero=>intro k refs acc r h;cases h
 |succ f ih =>
  intro k refs acc r h hn hs;simp only[OF] at h;split at h
  .split at h
   .rename_i hk;obtain rfl:=osj h;exact⟨RExt.refl _ _,by rw[hn,hk],hs,λ_ _=>rfl,λj h1 h2=>by simp only at h2;omega⟩
   .cases h
  .rename_i hk;split at h
   .cases h
   .rename_i b hb;split at h
    .cases h
    .rename_i p hp;split at h
     .rename_i aQ;have aQ:acc.n<=1000000000:=zA aQ;obtain⟨a1,a2⟩:=OV hp;have kP:(acc.push p.1).n=acc.n+1:=rfl;obtain⟨b1,b2,b3,b4,b5⟩:=ih (k+1) p.2 (acc.push p.1) r h (by rw[kP];omega) (by rw[kP];omega);refine⟨a1.trans b1,b2,b3,λi hi=>?_,λj rD iI=>?_⟩
      .rw[b4 i (by rw[kP];omega),CH.q1r hs,z6 (by omega)]
      .by_cases dO:j=k
       .subst dO;have cI:j<refs.length:=by omega
        obtain⟨t,ht⟩:=(a1.trans b1).sub;have hg:r.2.getD j 0=refs.getD j 0:=by rw[ht,ze,ze,x8 cI]
        refine⟨b,p.1,by rw[hg];exact hb,?_,a2 r.2 b1.sub⟩;rw[<-hn,b4 _ (by rw[kP];omega),CH.q1r hs,z7 rfl]
       .exact b5 j (by omega) iI
     .cases h
theorem Dx {rs bc:U2}{h h':CH}{U U':Heap}(hs:CSim rs h U) (aS:CSim bc h' U') (hr:∀ i,i<h.n->bc i=rs i) {v:Value}{y x:Value×CH}(hg:Lt h h' v=some y) (h1:y.1=x.1) (h2:y.2.n=x.2.n) (h3:∀ i,y.2.get i=x.2.get i) :
  DropTo U v U' x.1 (x.2.toHeap rs):=by
 unfold Lt at hg;split at hg
 .cases hg
 .rename_i p hp;split at hg
  .cases hg
  .rename_i q hq;obtain rfl:=osj hg;simp only at h1 h2 h3;obtain⟨f1,f2⟩:=MT h.n 8 [] v p hp;unfold Q1q at hq;split at hq
   .rename_i dp;simp only[CH.keepOk,z1,zf,x5] at dp;obtain⟨hle,dp⟩:=dp;have hle:h.n<=h'.n:=zA hle;have nL:=hs.sm;obtain⟨g0,g1,g2,g3,g4⟩:=Er _ 0 p.2 ⟨h'.t,h.n⟩ q hq rfl nL;have hall:=f1.trans g0;have gJ:q.2.Nodup:=hall.2 List.nodup_nil;have aZ:∀ x∈q.2,h.n<=x:=by
     obtain⟨⟨t,ht,hx⟩,_⟩:=hall;simpa [ht] using hx
    have hold:∀ i,i<h.n->q.1.get i=h'.get i:=λi hi=>by rw[g3 i hi,CH.q0v (h:=⟨h'.t,h.n⟩) hi,CH.q0v (by omega)]
    have kQ:(x.2.toHeap rs).n=h.n+q.2.length:=by show x.2.n=_;rw[<-h2,g1]
    have s6:∀ i,(x.2.toHeap rs).get i=(q.1.get i).map (EB.to (rs i)):=λi=>by show (x.2.get i).map _=_;rw[<-h3 i]
    rw[<-h1];refine DropTo.rename (gcP h.n q.2) (by rw[kQ,<-hs.n];omega) (λi hi=>?_) (λi jr fP=>?_) (λi j jr fP rD iI he=>?_) (by rw[kQ];exact f2 q.2 g0.sub)
    .rw[<-hs.n] at hi;refine⟨by simp[gcP,hi],by rw[s6,hold i hi,aS.get,hr i hi],?_⟩;have:=dp i hi;rw[aS.get,hs.get];split at this
     .rename_i e1 e2;rw[e1,e2];exact .inl rfl
     .rename_i a b e1 e2;rw[e1,e2];rw[zw] at this;rcases this with hb|hb
      .exact .inr ⟨_,rfl,(On hb).1⟩
      .rw[EB.beq_eq hb,hr i hi];exact .inl rfl
     .cases this
    .rw[<-hs.n] at jr;rw[kQ] at fP;obtain⟨b,b',e1,e2,e3⟩:=g4 (i-h.n) (by omega) (by omega);have jT:gcP h.n q.2 i=q.2.getD (i-h.n) 0:=by simp[gcP,wO.2 jr]
     have aL:q.2.getD (i-h.n) 0∈q.2:=by
      have:i-h.n<q.2.length:=by omega
      simp[ze,this]
     rw[show h.n+(i-h.n)=i by omega] at e2;rw[jT];refine⟨by rw[<-hs.n];exact aZ _ aL,b'.to (rs i),b.to (bc (q.2.getD (i-h.n) 0)),by rw[s6,e2];rfl,by rw[aS.get,e1];rfl,by rw[kQ];exact e3 _ _⟩
    .rw[<-hs.n] at jr rD;rw[kQ] at fP iI;simp only[gcP,wO.2 jr,wO.2 rD,if_false] at he;have jo:i-h.n<q.2.length:=by omega
     have gN:j-h.n<q.2.length:=by omega
     simp only[ze,z8 jo,z8 gN,Option.getD_some] at he;have:=(List.getElem_inj (h₀:=jo) (h₁:=gN) gJ).1 he;omega
   .cases hq
theorem Hb {a m d:Nat}{g:Value->Option Value}(hg:∀ v u,g v=some u->Sh a m d v u):∀ (vs us:List Value),Q50 g vs=some us->vs.length=us.length/\∀ (i:Nat) (v u:Value),vs[i]?=some v->us[i]?=some u->Sh a m d v u
 |[],us,h=>by obtain rfl:=osj h;exact⟨rfl,λi v u h=>by simp at h⟩
 |v::vs,us,h=>by
  simp only[Q50] at h;split at h
  .cases h
  .rename_i u hu;split at h
   .cases h
   .rename_i my eM;obtain rfl:=osj h;obtain⟨h1,h2⟩:=Hb hg vs my eM;refine⟨by simp[h1],λi v' u' jQ dz=>?_⟩;cases i with
    |zero=>simp at jQ dz;subst jQ;subst dz;exact hg _ _ hu
    |succ i=>exact h2 i v' u' (by simpa using jQ) (by simpa using dz)
theorem ON (a m d:Nat):∀ (f:Nat) (v u:Value),shX a m d f v=some u->Sh a m d v u:=by
 intro f;induction f with
 |zero=>intro v u h;cases h
 |succ f ih =>
  intro v u h;unfold shX at h;split at h
  .split at h
   .rename_i hc;obtain rfl:=osj h;exact .ptr _ _ hc.1 hc.2
   .cases h
  .split at h
   .rename_i hc;obtain rfl:=osj h;exact .sl _ _ _ _ hc.1 hc.2
   .cases h
  .split at h
   .rename_i p hp;obtain rfl:=osj h;obtain⟨h1,h2⟩:=Hb ih _ _ hp;exact .agg _ _ (by simpa using h1) λi k1 k2=>h2 i _ _ (by simp) (by simp)
   .cases h
  .split at h
   .rename_i p hp;obtain rfl:=osj h;obtain⟨h1,h2⟩:=Hb ih _ _ hp;exact .tuple _ _ (by simpa using h1) λi k1 k2=>h2 i _ _ (by simp) (by simp)
   .cases h
  .split at h
   .rename_i hc;obtain rfl:=osj h;exact .plain _ hc
   .cases h
theorem Hs {rs:U2}{h:CH}{U:Heap}(hs:CSim rs h U):∀ (m:List PB) (k:Nat) (refs r:List Nat),TI h k refs m=some r ->
  Sub refs r/\r.length=k+m.length/\∀ i b,m[i]?=some b->∃ wr c',U.get (r.getD (k+i) 0)=some (.cells c' b.esz wr b.tight)/\LRen r.length (gcP 0 r) b.c c'
 |[],k,refs,r,hb=>by
  simp only[TI] at hb;split at hb
  .rename_i hl;obtain rfl:=osj hb;exact⟨⟨[],by simp⟩,by simp[hl],λi b h=>by simp at h⟩
  .cases hb
 |b::m,k,refs,r,hb=>by
  simp only[TI] at hb;split at hb
  .rename_i hk;split at hb
   .rename_i c e w t hg;split at hb
    .rename_i p hp;split at hb
     .rename_i hc;simp only[z1,zg,zr] at hc;obtain⟨rfl,rfl,h3⟩:=hc;have h3:=Vi (Mg 20) _ _ h3;obtain⟨s1,s2⟩:=WQ (MT 0 8) _ _ _ hp;obtain⟨i1,i2,i3⟩:=Hs hs m (k+1) p.2 r hb;have ji:=s1.sub.trans i1;refine⟨ji,by rw[i2,xF];omega,λi b' bS=>?_⟩;cases i with
      |zero =>
       have bS:b=b':=by simpa using bS
       subst bS;obtain⟨u,hu⟩:=ji;have dq:r.getD (k+0) 0=refs.getD k 0:=by rw[hu,zN,ze,ze,x8 hk]
       have hl:=s2 r i1;rw[h3,x4] at hl;exact⟨w,c,by rw[dq];exact hs.cells hg,hl⟩
      |succ i =>
       have:=i3 i b' (by simpa using bS)
       rwa [show k+1+i=k+(i+1) by omega] at this
     .cases hb
    .cases hb
   .cases hb
  .cases hb
theorem D_ {rs:U2}:∀ (fr:List PB) {h:CH}{U:Heap},CSim rs h U->h.n+fr.length<=1000000000->CSim rs (N6 fr h) (W3 U fr)/\(N6 fr h).n=h.n+fr.length
 |[],h,U,hs,_=>by
  have:W3 U []=U:=Heap.ext' (λj=>by
   show (if j<U.n then U.get j else _)=_;split
   .rfl
   .rename_i hj;rw[U.wf j (by omega)];simp) rfl
  rw[this];exact⟨hs,rfl⟩
 |b::l,h,U,hs,hr=>by
  have hr:h.n+(l.length+1)<=1000000000:=hr;have hn:=hs.n;have h1:CSim rs (h.push (.cells b.c b.esz true b.tight)) (U.push (b.blk true)):=hs.push (Nat.ble_eq_true_of_le (by omega)) rfl;obtain⟨h2,h3⟩:=D_ l h1 (by show h.n+1+_<=_;omega);refine⟨?_,by rw[show N6 (b::l) h=N6 l (h.push (.cells b.c b.esz true b.tight)) from rfl,h3];show h.n+1+l.length=h.n+(l.length+1);omega⟩;have:W3 U (b::l)=W3 (U.push (b.blk true)) l:=Heap.ext' (λj=>by
   show (if j<U.n then U.get j else _)=(if j<U.n+1 then (U.push (b.blk true)).get j else _);rcases Nat.lt_trichotomy j U.n with hj|hj|hj
   .rw[z7 hj,z7 (by omega),Heap.q0j _ _ hj]
   .subst hj;rw[z6 (by omega),z7 (by omega),Heap.q0a];simp
   .rw[z6 (by omega),z6 (by omega)];rw[show j-U.n=(j-(U.push (b.blk true)).n)+1 by simp;omega];rfl) (by simp[W3];omega)
  rw[this];exact h2
theorem HK {h:CH}{args:List Value}{refs:List Nat}:∀ (ms:List Memo) (m:Memo),AJ h args refs ms=some m->m∈ms/\args=m.args/\(TI h 0 refs m.bl).isSome=true
 |[],m,h=>by cases h
 |m0::ms,m,h=>by
  simp only[AJ] at h;split at h
  .rename_i hc;obtain rfl:=osj h;rw[z1] at hc;exact⟨zQ,Vi (Mg 20) _ _ hc.1,hc.2⟩
  .obtain⟨h1,h2⟩:=HK ms m h;exact⟨zT _ h1,h2⟩
theorem PO {f:FuncId}{args:List Value}{ms:List Memo}(hm:∀ m∈ms,Oj P f m) {rs:U2}{h:CH}{U:Heap}(hs:CSim rs h U) {p:Value×CH}(hp:RT h args ms=some p)
  {K:Value->Heap->Prop}(hK:∀ U',h.n<=p.2.n->CSim rs p.2 U'->K p.1 U'):VCalled P f args U K:=by
 unfold RT at hp;split at hp
 .cases hp
 .rename_i q hq;split at hp
  .cases hp
  .rename_i m qH;obtain⟨h1,h2,h3⟩:=HK ms m qH;obtain⟨k1,k3⟩:=hm m h1;obtain⟨r,jG⟩:=Option.isSome_iff_exists.1 h3;obtain⟨l0,l1,l2⟩:=Hs hs _ _ _ _ jG;rw[x4] at l1;split at hp
   .cases hp
   .rename_i hr;have hr:=zA hr;split at hp
    .rename_i v hv;obtain rfl:=osj hp;obtain⟨s1,s2⟩:=D_ m.fr hs hr;have hx:=(WQ (MT 0 8) _ _ _ hq).2 r l0;rw[h2,l1] at hx;refine VCalled.localize (π:=gcP 0 r) k1 k3 (λi b hb=>?_) (by simpa using hx) ?_ (hK _ (by rw[s2];omega) s1)
     .obtain⟨wr,c',g1,g2⟩:=l2 i b hb;rw[l1] at g2;exact⟨wr,c',by simpa [gcP] using g1,g2⟩
     .have:=ON _ _ _ _ _ _ hv
      rwa [hs.n] at this
    .cases hp
theorem P4 (hm:P.follows .mixedOrders=true) (hT:TabOk P T) (cu:Sd P ev) (hG:Good R G) {ys:Ys}{f:FuncId}{args:List Value}{h:CH}{k:Value->CH->A}{rs:U2}{U:Heap}{K:Value->Heap->Prop}
  (hY:YOk P ys rs h.n) (hs:CSim rs h U) (he:G (CC T ev R ys f args h k)) (hk:Q38 G rs h k K):VCalled P f args U K:=by
 unfold CC at he;split at he
 .rename_i vc rl nt hf;have hF:=hT.code f vc rl nt hf;split at he
  .rename_i hb;exact hF.calls hm SN (cu R G hG ys vc none _ _ h _ rs U _ hY hs (ET.q1o (zA hb)) he (N2 hG hk))
  .exact(hG.fail he).elim
 .rename_i vc rl nt hf;have hF:=hT.codeJ f vc rl nt hf;split at he
  .rename_i hb;split at he
   .rename_i x hx;split at he
    .rename_i hc;have aQ:x.2.n<=1000000000:=zA hc.1;have hK:=hk x.1 x.2 rs _ (zA hc.2) (λ_ _=>rfl) (GV (by omega)) he;refine hF.calls hm SN (cu joinOps (Fs x) (TU x) ys vc none _ _ h _ rs U _ hY hs (ET.q1o (zA hb)) (show Fs x _ from ⟨x,hx,rfl,rfl,λ_=>rfl⟩) ?_);intro e df h' bc U' ae hn hr aS bG _ hg;have fin:Fs x (match UT df h' rl with|some v=>Lt h h' v|none=>none)->Q_ (JM ae U' rl) λv=>∃ v' aH,DropTo U v U' v' aH/\K v' aH:=by
      rintro⟨y,hy,h1,h2,h3⟩;split at hy
      .rename_i v hv;rw[NH aS bG hv];exact⟨_,_,Dx hs aS hr hy h1 h2 h3,hK⟩
      .cases hy
     cases e with
     |normal=>exact fin hg
     |ret=>exact fin hg
     |_=>obtain⟨y,hy,_⟩:=hg;cases hy
    .exact(hG.fail he).elim
   .exact(hG.fail he).elim
  .exact(hG.fail he).elim
 .rename_i vc rl nt ms hf;obtain⟨hF,hM⟩:=hT.codeM f vc rl nt ms hf;split at he
  .rename_i p hp;exact PO hM hs hp λU' hn aS=>hk _ _ rs U' hn (λ_ _=>rfl) aS he
  .split at he
   .rename_i hb;exact hF.calls hm SN (cu R G hG ys vc none _ _ h _ rs U _ hY hs (ET.q1o (zA hb)) he (N2 hG hk))
   .exact(hG.fail he).elim
 .rename_i hf;split at he
  .rename_i v;exact hT.same f hf v U K (hk v h rs U (zd _) (λ_ _=>rfl) hs he)
  .exact(hG.fail he).elim
 .exact(hG.fail he).elim
theorem Ri (hm:P.follows .mixedOrders=true) (cu:Sd P ev) (hG:Good R G) {ys:Ys}{f:FuncId}{vc:VCode}{rl:List VResult}{nt:Nat}(hf:T f=some (.code vc rl nt)) (hF:Fun P f vc rl nt) {args:List Value}{h:CH}{k:Value->CH->A}{rs:U2}{U:Heap}{K:Value->Heap->Prop}
  (hY:YOk P ys rs h.n) (hs:CSim rs h U) (he:G (CC T ev R ys f args h k)) (hk:Q38 G rs h k K):VCallsTo P f args U K:=by
 unfold CC at he;rw[hf] at he;simp only at he;split at he
 .rename_i hb;exact hF.callsTo hm SN (cu R G hG ys vc none _ _ h _ rs U _ hY hs (ET.q1o (zA hb)) he (N2 hG hk))
 .exact(hG.fail he).elim
theorem Li (cu:Sd P ev) (hG:Good R G) {ys:Ys}{i:Nat}{args:List Value}{h:CH}{k:Value->CH->A}{rs:U2}{U:Heap}{K:Value->Heap->Prop}
  (hY:YOk P ys rs h.n) (hs:CSim rs h U) (he:G (Oh ev R ys i args h k)) (hk:Q38 G rs h k K):He P i args U K:=by
 unfold Oh at he;split at he
 .rename_i c hc;obtain⟨aL,kN,aj⟩:=hY i c hc;split at he
  .rename_i hg;split at he
   .rename_i hlen;refine aj args U K ⟨hs.lp hg,hlen,?_⟩;refine cu R G hG ys c.a (some i) _ _ h _ rs U _ hY hs (Tz c.ps args kN) he ?_;intro e jX h1 eT σ1 a7 fm eF kW e9 _ gG;cases e with
    |normal =>
     simp only[Q1l] at gG;split at gG
     .rename_i iP;have e1:eT i=rs i:=eF i aL;have nM:=kW.lp iP;rw[e1] at nM;refine⟨nM,?_⟩;have jr:=kW.lt iP;refine cu R G hG ys c.b (some i) jX a7 _ _ eT _ _ (hY.mono (n':=(h1.upd i (.lp .busy none)).n) fm eF) (kW.upd jr (b:=.lp .busy none) (by rw[EB.to,e1])) e9 gG ?_;intro e2 fg h2 dJ σ2 aM dV dy cT fh _ cP;have kX:h1.n<=h2.n:=dV;have iQ:dJ i=rs i:=(dy i jr).trans e1;unfold Ot at cP;split at cP
      .rename_i nN;have fP:=cT.lt nN;have nO:=cT.lp nN;rw[iQ] at nO;refine⟨nO,?_⟩;have agree:∀ j,j<h.n->dJ j=rs j:=λj hj=>(dy j (xh hj fm)).trans (eF j hj);cases e2 with
       |normal=>exact hk _ (h2.upd i (.lp .ready none)) dJ _ (zJ fm kX) agree (cT.upd fP (b:=.lp .ready none) (by simp only[EB.to,iQ])) cP
       |ret=>exact hk _ (h2.upd i (.lp .done (some .ret))) dJ _ (zJ fm kX) agree (cT.upd fP (b:=.lp .done (some .ret)) (by simp only[EB.to,iQ])) cP
       |exit id=>exact hk _ (h2.upd i (.lp .done (some (.exit id)))) dJ _ (zJ fm kX) agree (cT.upd fP (b:=.lp .done (some (.exit id))) (by simp only[EB.to,iQ])) cP
       |_=>exact(hG.fail cP).elim
      .exact(hG.fail cP).elim
     .exact(hG.fail gG).elim
    |_=>exact(hG.fail gG).elim
   .exact(hG.fail he).elim
  .exact(hG.fail he).elim
 .exact(hG.fail he).elim
theorem DZ (hG:Good R G) {i m since clock:Nat}{seen:List Nat}{h:CH}{k:Value->CH->A}:∀ (es:List JH),
  (∀ e∈es,seen.contains e.2.2=true)/\NK R i m since clock seen h k es=none \/
  ∃ a,NK R i m since clock seen h k es=some a/\(G a->∀ e∈es,seen.contains e.2.2=false->G (k (.tuple #[.bool true,e.1,e.2.1]) (h.upd i (.iter m since (seen++[e.2.2]) clock))))
 |[]=>.inl ⟨λ_ h=>(by cases h),rfl⟩
 |e::es=>by
  have ih:=DZ hG (i:=i) (m:=m) (since:=since) (clock:=clock) (seen:=seen) (h:=h) (k:=k) es;by_cases hc:seen.contains e.2.2=true
  .have he:NK R i m since clock seen h k (e::es)=NK R i m since clock seen h k es:=by rw[NK,z7 hc]
   rw[he];rcases ih with⟨h1,h2⟩|⟨a,h1,h2⟩
   .exact .inl ⟨λx hx=>by rcases zG.1 hx with rfl|hx;exact hc;exact h1 x hx,h2⟩
   .refine .inr ⟨a,h1,λkY x hx aW=>?_⟩;rcases zG.1 hx with rfl|hx
    .rw[hc] at aW;cases aW
    .exact h2 kY x hx aW
  .rcases ih with⟨h1,h2⟩|⟨a,h1,h2⟩
   .refine .inr ⟨k (.tuple #[.bool true,e.1,e.2.1]) (h.upd i (.iter m since (seen++[e.2.2]) clock)),by rw[NK,z6 hc,h2],λkY x hx aW=>?_⟩;rcases zG.1 hx with rfl|hx
    .exact kY
    .rw[h1 x hx] at aW;cases aW
   .refine .inr ⟨R.both (k (.tuple #[.bool true,e.1,e.2.1]) (h.upd i (.iter m since (seen++[e.2.2]) clock))) a,by rw[NK,z6 hc,h1],λkY x hx aW=>?_⟩;obtain⟨g1,g2⟩:=hG.both _ _ kY;rcases zG.1 hx with rfl|hx
    .exact g1
    .exact h2 g2 x hx aW
theorem CI (hG:Good R G) {x:Value}{h:CH}{k:Value->CH->A}{rs:U2}{U:Heap}{K:Value->Heap->Prop}(hs:CSim rs h U) (he:G (Q2t R x h k)) (hk:Q38 G rs h k K):Cc x U K:=by
 unfold Q2t at he;unfold Cc;split at he
 .rename_i i;split at he
  .rename_i m since seen last hg;have hi:=hs.lt hg;simp only[hs.iter hg];split at he
   .rename_i es clock wr gk;obtain⟨k1,_⟩:=hs.mapAt gk;simp only[k1];split at he
    .rename_i hc;refine⟨hc.1,hc.2,?_⟩;rcases DZ hG (i:=i) (m:=m) (since:=since) (clock:=clock) (seen:=seen) (h:=h) (k:=k) es with⟨h1,h2⟩|⟨a,h1,h2⟩
     .rw[h2] at he;simp only at he;split at he
      .exact⟨λ_=>hk _ _ rs U (zd _) (λ_ _=>rfl) hs he,λe ij nP=>by rw[h1 e ij] at nP;cases nP⟩
      .exact(hG.fail he).elim
     .rw[h1] at he;simp only at he;have key:G a->∀ e∈es,seen.contains e.2.2=false->K (.tuple #[.bool true,e.1,e.2.1]) (U.upd i (.obj (.iter m since (seen++[e.2.2]) clock) true)):=λkY e ij nP =>
       hk _ (h.upd i (.iter m since (seen++[e.2.2]) clock)) rs _ (zd _) (λ_ _=>rfl) (hs.upd hi rfl) (h2 kY e ij nP)
      split at he
      .obtain⟨g1,g2⟩:=hG.both _ _ he;exact⟨λ_=>hk _ _ rs U (zd _) (λ_ _=>rfl) hs g1,key g2⟩
      .rename_i hn;exact⟨λhh=>absurd hh hn,key he⟩
    .exact(hG.fail he).elim
   .exact(hG.fail he).elim
  .exact(hG.fail he).elim
 .exact(hG.fail he).elim
theorem TE (hm:P.follows .mixedOrders=true) (hT:TabOk P T) (cu:Sd P ev) (hG:Good R G) {ys:Ys}{o:VOp}{et:ET}{env:Env}(hE:FRel et env) {h:CH}{k:Value->CH->A}{rs:U2}{U:Heap}{K:Value->Heap->Prop}
  (hY:YOk P ys rs h.n) (hs:CSim rs h U) (he:G (Q2h T ev R ys o et h k)) (hk:Q38 G rs h k K):vop (Q3 P) o env U K:=by
 have ai:=BF hE;have other:∀ o':VOp,G (IM R (CD o' (Mb et) h) k)->Q_ (Q6 o' (Q5 env) U) λp=>K p.1 p.2:=by
  intro o' hg;rw[ai] at hg;unfold IM at hg;split at hg
  .rename_i p hp;obtain⟨h1,U',h2,h3⟩:=Yy hs hp;rw[h2];exact hk _ _ rs U' h1 (λ_ _=>rfl) h3 hg
  .exact(hG.fail hg).elim
 cases o
 case callF f args =>
  simp only[Q2h,ai] at he;exact P4 hm hT cu hG hY hs he hk
 case callV f args =>
  simp only[Q2h,ai] at he;simp only[vop];unfold Q1i at he;split at he
  .rename_i g first cap hg
   simp only[hg];exact P4 hm hT cu hG hY hs he hk
  .rename_i i first cap hg
   simp only[hg];exact Li cu hG hY hs he hk
  .exact(hG.fail he).elim
 case ext x =>
  cases x
  case nextMap x =>
   simp only[Q2h,ai] at he;exact CI hG hs he hk
  case delete a b c=>exact other (.ext (.delete a b c)) he
  case mapEntry a z b c=>exact other (.ext (.mapEntry a z b c)) he
  case entryStore a b c=>exact other (.ext (.entryStore a b c)) he
  all_goals exact other _ he
 case move a=>exact other (.move a) he
 case makeFunc a b c=>exact other (.makeFunc a b c) he
 case bad=>exact other .bad he
 all_goals exact other _ he
theorem HD (hm:P.follows .mixedOrders=true) (hT:TabOk P T) (cu:Sd P ev) (hG:Good R G) {ys:Ys}{k:ET->CH->A}{K:Env->Heap->Prop}:∀ (ops:List VOper) (et:ET) (env:Env) (h:CH) (rs:U2) (U:Heap),
  YOk P ys rs h.n->CSim rs h U->FRel et env->G (IW T ev R ys ops et h k)->OO G rs h (List.length env) k K->T0 (Q3 P) ops env U K:=by
 intro ops;induction ops with
 |nil=>intro et env h rs U hY hs hE he hk;exact hk et h rs U env (zd _) (λ_ _=>rfl) hs hE rfl he
 |cons o rest ih =>
  intro et env h rs U hY hs hE he hk
  have he:G (match FK et o.guard with
   |none=>R.fail
   |some true=>Q2h T ev R ys o.op et h λv h'=>IW T ev R ys rest (et.put o.dst v) h' k
   |some false=>IW T ev R ys rest (et.put o.dst undef) h k):=he
  rw[AN hE] at he;simp only[T0];split at he
  .exact(hG.fail he).elim
  .rename_i hw;rw[hw];refine⟨λ_=>?_,λhh=>by cases hh⟩;refine TE hm hT cu hG hE hY hs he ?_;intro v h' bc U' hn hr aS hg;refine ih _ _ h' bc U' (hY.mono hn hr) aS (hE.put _ _) hg ?_;intro fg h2 dJ σ2 aM dV dy cT fh hl cP;exact hk fg h2 dJ σ2 aM (zJ hn dV) (λi hi=>(dy i (by omega)).trans (hr i hi)) cT fh (by rw[hl,Zt]) cP
  .rename_i hw;rw[hw];refine⟨λhh=>(by cases hh),λ_=>?_⟩;refine ih _ _ h rs U hY hs (hE.put _ _) he ?_;intro fg h2 dJ σ2 aM dV dy cT fh hl cP;exact hk fg h2 dJ σ2 aM dV dy cT fh (by rw[hl,Zt]) cP
def CSims (rs:U2) (n:Nat):List CH->List Heap->Prop
 |[],[]=>True
 |h::hs,U::σs=>(CSim rs h U/\h.n<=n)/\CSims rs n hs σs
 |_,_=>False
theorem CSims.mono {rs bc:U2}{n n':Nat}(hn:n<=n') (hr:∀ i,i<n->bc i=rs i):∀ {hs:List CH}{σs:List Heap},CSims rs n hs σs->CSims bc n' hs σs
 |[],[],_=>trivial
 |h::hs,U::σs,⟨⟨h1,h2⟩,h3⟩=>⟨⟨h1.rs λi hi=>hr i (by omega),by omega⟩,CSims.mono hn hr h3⟩
 |[],_::_,h=>h.elim
 |_::_,[],h=>h.elim
theorem CSims.snoc {rs:U2}{n:Nat}{h:CH}{U:Heap}(hs:CSim rs h U) (hn:h.n<=n):∀ {hl:List CH}{σl:List Heap},CSims rs n hl σl->CSims rs n (hl++[h]) (σl++[U])
 |[],[],_=>⟨⟨hs,hn⟩,trivial⟩
 |_::_,_::_,⟨h1,h2⟩=>⟨h1,CSims.snoc hs hn h2⟩
 |[],_::_,h=>h.elim
 |_::_,[],h=>h.elim
theorem DL {rs:U2}{h:CH}{U:Heap}(hs:CSim rs h U) {op:VOp}{ev:Operand->Value}{v:Value}(hr:Ea op ev v h=true):JC op ev v U:=by
 unfold Ea at hr;split at hr
 .rename_i q hq;obtain⟨_,U',h2,_⟩:=Yy hs hq;unfold JC;rw[h2];exact Mg _ _ _ hr
 .cases hr
def Q00:List (Nat×(CH->Bool))->List (Nat×(Heap->Prop))->Prop
 |[],[]=>True
 |c::l,d::m=>(c.1=d.1/\∀ rs h U,CSim rs h U->c.2 h=true->d.2 U)/\Q00 l m
 |_,_=>False
theorem NV {rs:U2}{h:CH}{U:Heap}(hs:CSim rs h U) {r:Nat}:∀ {l:List (Nat×(CH->Bool))}{m:List (Nat×(Heap->Prop))},Q00 l m->Iy r h l=true->Jz r U m
 |[],[],_,_=>trivial
 |c::l,d::m,⟨⟨h1,h2⟩,h3⟩,he=>by
  simp only[Iy,z1,zw,Bool.not_eq_true'] at he;refine⟨λhr=>h2 rs h U hs ?_,NV hs h3 he.2⟩;rcases he.1 with h|h
  .rw[h1,Nat.ble_eq_true_of_le hr] at h;cases h
  .exact h
 |[],_::_,h,_=>h.elim
 |_::_,[],h,_=>h.elim
theorem CSims.mem {rs:U2}{n:Nat}:∀ {hl:List CH}{σl:List Heap},CSims rs n hl σl->∀ (f:CH->Bool) (Q:Heap->Prop),(∀ rs h U,CSim rs h U->f h=true->Q U)->∀ j,(hl.drop j).all f=true->∀ Z∈σl.drop j,Q Z
 |[],[],_,_,_,_,_,_,Z,hτ=>by simp at hτ
 |h::hl,U::σl,⟨h1,h2⟩,f,Q,hQ,0,ha,Z,hτ=>by
  simp only[xk,zR,z1,zG] at ha hτ;rcases hτ with rfl|hτ
  .exact hQ rs h Z h1.1 ha.1
  .exact CSims.mem h2 f Q hQ 0 (by simpa using ha.2) Z (by simpa using hτ)
 |h::hl,U::σl,⟨h1,h2⟩,f,Q,hQ,j+1,ha,Z,hτ=>CSims.mem h2 f Q hQ j (by simpa using ha) Z (by simpa using hτ)
 |[],_::_,h,_,_,_,_,_,_,_=>h.elim
 |_::_,[],h,_,_,_,_,_,_,_=>h.elim
theorem CSims.length {rs:U2}{n:Nat}:∀ {hl:List CH}{σl:List Heap},CSims rs n hl σl->hl.length=σl.length
 |[],[],_=>rfl
 |_::_,_::_,⟨_,h⟩=>by simp[CSims.length h]
 |[],_::_,h=>h.elim
 |_::_,[],h=>h.elim
theorem Dy (hm:P.follows .mixedOrders=true) (hT:TabOk P T) (cu:Sd P ev) (hG:Good R G) {ys:Ys}{k:ET->CH->A}{K:Env->Heap->Prop}:∀ (ops:List DOper) (et:ET) (env:Env) (hl:List CH) (h:CH) (pe:List (Nat×(CH->Bool))) (rs:U2) (σl:List Heap) (U:Heap) (pv:List (Nat×(Heap->Prop))),
  YOk P ys rs h.n->CSim rs h U->FRel et env->CSims rs h.n hl σl->Q00 pe pv->G (Nu T ev R ys ops et hl h pe k)->OO G rs h (List.length env) k K->Zr (Q3 P) ops env σl U pv K:=by
 intro ops;induction ops with
 |nil=>intro et env hl h pe rs σl U pv hY hs hE kZ hp he hk;exact hk et h rs U env (zd _) (λ_ _=>rfl) hs hE rfl he
 |cons o rest ih =>
  intro et env hl h pe rs σl U pv hY hs hE kZ er he hk;have ai:=BF hE;simp only[Nu,AN hE,ai] at he;simp only[Zr];have hlen:=kZ.length;split at he
  .exact(hG.fail he).elim
  .rename_i hw;rw[hw];refine⟨λ_=>?_,λhh=>by cases hh⟩;split at he
   .rename_i ax;rw[z7 ax];split at he
    .rename_i p hp;split at he
     .rename_i k_;obtain⟨nQ,jY⟩:=k_;simp only[CH.newOk,z1,zf] at nQ;obtain⟨n1,n2,n3⟩:=nQ;have n1:h.n<=p.2.n:=zA n1;have n2:p.2.n<=1000000000:=zA n2;have lb:CSim rs p.2 (p.2.toHeap rs):=GV (by omega);refine .inl ⟨p.1,p.2.toHeap rs,?_,?_,?_⟩
      .refine TE hm hT cu (Q2c p) hE hY hs hp ?_;intro v h' bc U' hn hr aS hg;have hg:(v,h')=p:=osj hg;subst hg;refine⟨rfl,?_⟩;have:CSim rs h' U':=by
        refine⟨aS.n,aS.sm,λi=>?_⟩;rw[aS.get];cases iP:h'.get i with
        |none=>rfl
        |some b =>
         rcases zn i h.n with hi|hi
         .rw[hr i hi]
         .have aL:=aS.lt iP;have:=n3 i (List.mem_range'_1.2 ⟨hi,by simp at n1 |-;omega⟩);simp only[iP] at this;cases b<;>first|rfl|cases this
       exact this.eq
      .rw[<-hlen];exact NV lb er jY
      .refine ih _ _ _ p.2 pe rs _ _ pv (hY.mono n1 (λ_ _=>rfl)) lb (hE.put _ _) ((kZ.mono n1 (λ_ _=>rfl)).snoc lb (zd _)) er he ?_;intro fg h2 dJ σ2 aM dV dy cT fh bX cP;exact hk fg h2 dJ σ2 aM (zJ n1 dV) (λi hi=>dy i (by omega)) cT fh (by rw[bX,Zt]) cP
     .exact(hG.fail he).elim
    .exact(hG.fail he).elim
   .rename_i ax;rw[z6 ax];have done:∀ (u:Value) (qm:List (Nat×(CH->Bool))) (qn:List (Nat×(Heap->Prop))),Q00 qm qn->G (Nu T ev R ys rest (et.put o.dst u) hl h qm k)->Zr (Q3 P) rest (JK env o.dst u) σl U qn K:=by
     intro u qm qn bh hg;refine ih _ _ hl h qm rs σl U qn hY hs (hE.put _ _) kZ bh hg ?_;intro fg h2 dJ σ2 aM dV dy cT fh bX cP;exact hk fg h2 dJ σ2 aM dV dy cT fh (by rw[bX,Zt]) cP
    split at he
    .rename_i bu;rw[z7 bu];split at he
     .rename_i p hp;split at he
      .rename_i hall;obtain⟨_,U',h2,_⟩:=Yy hs hp;rw[h2];refine⟨kZ.mem _ _ (λrs h U hc hf=>DL hc hf) _ hall,?_⟩;refine done _ _ _ ?_ he;rw[<-hlen];split
       .exact⟨⟨rfl,λrs h U hc hf=>DL hc hf⟩,er⟩
       .exact er
      .exact(hG.fail he).elim
     .exact(hG.fail he).elim
    .rename_i bu;rw[z6 bu];split at he
     .rename_i p hp;obtain⟨_,U',h2,_⟩:=Yy hs hp;rw[h2];exact done _ _ _ er he
     .exact(hG.fail he).elim
  .rename_i hw;rw[hw];refine⟨λhh=>(by cases hh),λ_=>?_⟩;split at he
   .rename_i ax;rw[z7 ax];split at he
    .rename_i jY;refine⟨by rw[<-hlen];exact NV hs er jY,?_⟩;refine ih _ _ _ h pe rs _ U pv hY hs (hE.put _ _) (kZ.snoc hs (zd _)) er he ?_;intro fg h2 dJ σ2 aM dV dy cT fh bX cP;exact hk fg h2 dJ σ2 aM dV dy cT fh (by rw[bX,Zt]) cP
    .exact(hG.fail he).elim
   .rename_i ax;rw[z6 ax];refine ih _ _ _ h pe rs _ U pv hY hs (hE.put _ _) kZ er he ?_;intro fg h2 dJ σ2 aM dV dy cT fh bX cP;exact hk fg h2 dJ σ2 aM dV dy cT fh (by rw[bX,Zt]) cP
theorem ET.q2k {e:ET}{env:Env}(h:FRel e env):e.list=env:=by
 apply zK;intro i;unfold ET.list;rw[xp];rcases zn i e.m with hi|hi
 .rw[List.getElem?_range hi];have:=h.get i;rw[h.m] at hi;rw[ze,z8 hi] at this;rw[z8 hi,xQ,<-this];rfl
 .rw[zD (by simpa using hi),zD (by rw[<-h.m];exact hi)];rfl
theorem Rl {ρ:Plc}{n:Nat}{vs:Array Value}{cs:List Value}(h:VRel ρ n (.tuple vs) (.tuple cs.toArray)):LRel ρ n vs.toList cs:=by
 obtain⟨ds,he,hl⟩:=h.q1j;have:cs.toArray=ds:=by injection he
 subst this;simpa using hl
theorem Sn (hm:P.follows .mixedOrders=true) (hT:TabOk P T) (cu:Sd P ev) {ys:Ys}{x:Value×CH}{vs:Array Value}(jR:x.1=.tuple vs) {K:Env->Heap->Prop}{et:ET}{env:Env}{h:CH}{rs:U2}{U:Heap}(hY:YOk P ys rs h.n) (hs:CSim rs h U) (hE:FRel et env)
  (hk:K vs.toList (x.2.toHeap rs)):∀ (alts:List (List DOper)),Fs x (E5 T ev ys et h alts)->∀ ops∈alts,Zr (Q3 P) ops env [U] U [] λa7 σ1=>∃ aM σ2,DropE U a7 σ1 aM σ2/\K aM σ2:=by
 have one:∀ a:List DOper,Fs x (Q2f T ev ys et h a)->Zr (Q3 P) a env [U] U [] λa7 σ1=>∃ aM σ2,DropE U a7 σ1 aM σ2/\K aM σ2:=by intro a ha;refine Dy hm hT cu (TU x) a et env [h] h [] rs [U] U [] hY hs hE ⟨⟨hs,zd _⟩,trivial⟩ trivial ha ?_;intro df h' bc U' ae hn hr aS bG hl hg;obtain⟨y,hy,h1,h2,h3⟩:=hg;unfold Q42 at hy;have hd:=Dx hs aS hr hy h1 h2 h3;rw[ET.q2k bG,jR] at hd;refine⟨vs.toList,x.2.toHeap rs,?_,hk⟩;intro ρ0 w0 ρ w cs fA q9 hH hL;obtain⟨ρ',d1,d2,d3⟩:=hd ρ0 w0 ρ w (.tuple cs.toArray) fA q9 hH (VRel.q0i hL);exact⟨ρ',Rl d1,d2,d3⟩
 intro alts;induction alts with
 |nil=>rintro⟨y,hy,_⟩;cases hy
 |cons a l ih =>
  intro he ops ho;cases l with
  |nil =>obtain rfl:=zI.1 ho;exact one _ he
  |cons b r =>
   obtain⟨g1,g2⟩:=(TU x).both _ _ he;rcases zG.1 ho with rfl|ho
   .exact one _ g1
   .exact ih g2 ops ho
theorem SD (hm:P.follows .mixedOrders=true) (hT:TabOk P T) (cu:Sd P ev) (hG:Good R G) {ys:Ys}{k:ET->CH->A}{K:Env->Heap->Prop}:∀ (aO:List DSeg) (et:ET) (env:Env) (h:CH) (rs:U2) (U:Heap),
  YOk P ys rs h.n->CSim rs h U->FRel et env->G (HS T ev R ys aO et h k)->OO G rs h (List.length env) k K->N8 (Q3 P) aO env U K:=by
 intro aO;induction aO with
 |nil=>intro et env h rs U hY hs hE he hk;exact hk et h rs U env (zd _) (λ_ _=>rfl) hs hE rfl he
 |cons x rest ih =>
  intro et env h rs U hY hs hE he hk;have next:OO G rs h (List.length env) (λet h=>HS T ev R ys rest et h k) (λenv U=>N8 (Q3 P) rest env U K):=by intro jX h1 eT σ1 a7 fm eF kW e9 eu gG;refine ih jX a7 h1 eT σ1 (hY.mono fm eF) kW e9 gG ?_;intro fg h2 dJ σ2 aM dV dy cT fh bX cP;exact hk fg h2 dJ σ2 aM (zJ fm dV) (λi hi=>(dy i (by omega)).trans (eF i hi)) cT fh (bX.trans eu) cP
  cases x with
  |one o=>exact HD hm hT cu hG [o] et env h rs U hY hs hE he next
  |alts l =>
   have many:G (match E5 T ev ys et h l with
     |some x=>(match x.1 with
      |.tuple vs=>if x.2.room=true/\Nat.ble h.n x.2.n=true/\vs.toList.length=et.m then HS T ev R ys rest (ET.of vs.toList 0) x.2 k else R.fail
      |_=>R.fail)
     |none=>R.fail)->N8 (Q3 P) (.alts l::rest) env U K:=by
    intro he;split at he
    .rename_i x hx;split at he
     .rename_i vs jR;split at he
      .rename_i hc;obtain⟨c1,c2,c3⟩:=hc;have aQ:x.2.n<=1000000000:=zA c1;have uS:FRel (ET.of vs.toList 0) vs.toList:=by
        have:=ET.q1o (args:=vs.toList) (nt:=0) (by show vs.toList.length+(0-vs.toList.length)<=_;have:=hE.sm;omega);simpa using this
       exact Sn hm hT cu jR hY hs hE (next _ x.2 rs _ _ (zA c2) (λ_ _=>rfl) (GV (by omega)) uS (by rw[c3,hE.m]) he) l ⟨x,hx,rfl,rfl,λ_=>rfl⟩
      .exact(hG.fail he).elim
     .exact(hG.fail he).elim
    .exact(hG.fail he).elim
   match l,he with
   |[],he=>exact many he
   |[a],he =>intro ops ho;obtain rfl:=zI.1 ho;refine Dy hm hT cu hG ops et env [h] h [] rs [U] U [] hY hs hE ⟨⟨hs,zd _⟩,trivial⟩ trivial he ?_;intro df h' bc U' ae hn hr aS bG hl hg;exact⟨ae,U',.refl _ _ _,next df h' bc U' ae hn hr aS bG hl hg⟩
   |a::b::r,he=>exact many he
def Lc (P:Program) (T:Tab) (ev:Q3c) (c:VCode):Prop:=∀ {A:Type}(R:AnsOps A) (G:A->Prop),Good R G->∀ (ys:Ys) (ro:Option Nat) (et:ET) (env:Env) (h:CH) (k:Exit->ET->CH->A) (rs:U2) (U:Heap) (Q:Exit->Env->Heap->Prop),
 YOk P ys rs h.n->CSim rs h U->FRel et env->G (Lg T ev R ys c ro et h k)->Q0a G rs h (List.length env) k Q->vwp (Q3 P) c ro Q env U
theorem LV (hm:P.follows .mixedOrders=true) (hT:TabOk P T) (cu:Sd P ev) (hG:Good R G) {ys:Ys}{g:Operand}{ps:List Nat}{a b:VCode}{ro:Option Nat}{et:ET}{env:Env}{h:CH}{k:Exit->ET->CH->A}{rs:U2}{U:Heap}{Q:Exit->Env->Heap->Prop}
  (hY:YOk P ys rs h.n) (hs:CSim rs h U) (hE:FRel et env) (he:G (I1 T ev R ys (Mb et g) ps a b ro et h k)) (hk:Q0a G rs h (List.length env) k Q):vwp (Q3 P) (.rangeF g ps a b) ro Q env U:=by
 rw[BF hE] at he;unfold I1 at he;simp only[vwp,SP];split at he
 .rename_i f first cap hg
  simp only[hg];split at he
  .rename_i vc rl nt hf;have hF:=hT.code f vc rl nt hf;split at he
   .rename_i k_;obtain⟨aL,aQ⟩:=k_;have hit:(Q3 P).it f=some λi Y args U K=>Kr P i Y->VCallsTo P f args U K:=by
     simp only[Q3];rw[z7 hF.enterable]
    rw[hit];refine⟨?_,λr uT=>?_⟩
    .cases ro with
     |none=>trivial
     |some i =>
      simp only[Q18] at aL;split at aL
      .rename_i st pend iP;exact⟨_,_,_,_,hs.lp iP⟩
      .cases aL
    .let eT:U2:=λi=>if i=h.n then (env,r) else rs i
     have ep:∀ i,i<h.n->eT i=rs i:=λi hi=>by simp only[eT];rw[z6 (by omega)]
     have kW:CSim eT (h.push (.lp .ready none)) (U.push (.obj (.lp env r .ready none) true)) :=
      (hs.rs ep).push aQ (by simp[EB.to,eT])
     have uU:YOk P ((h.n,⟨ps,a,b,et⟩)::ys) eT (h.push (.lp .ready none)).n:=by
      intro i c hc;simp only[Ys.find] at hc;split at hc
      .rename_i ef;have ef:=zP ef;subst ef;obtain rfl:=osj hc;refine⟨Nat.lt_succ_self _,by simp only[eT,zB];exact hE,?_⟩;rw[hs.n] at *
       simpa [eT,hs.n] using uT
      .obtain⟨h1,h2,h3⟩:=hY i c hc;rw[ep i h1];exact⟨Nat.lt_succ_of_lt h1,h2,h3⟩
     rw[<-hs.n];refine Ri hm cu hG hf hF uU kW he ?_;intro v h' bc U' hn hr aS dg;have mw:h.n+1<=h'.n:=hn;unfold Q4g at dg;unfold Q0g;split at dg
     .rename_i st pend iP;have hi:=aS.lt iP;simp only[aS.lp iP];split at dg
      .rename_i cK;refine⟨(by rintro rfl;cases cK),?_⟩;have agree:∀ j,j<h.n->bc j=rs j:=λj hj=>(hr j (Nat.lt_succ_of_lt hj)).trans (ep j hj);have cI:=aS.kill hi;split at dg
       .exact hk _ _ _ bc _ _ (by show h.n<=h'.n;omega) agree cI hE rfl dg
       .exact hk _ _ _ bc _ _ (by show h.n<=h'.n;omega) agree cI hE rfl dg
       .exact hk _ _ _ bc _ _ (by show h.n<=h'.n;omega) agree cI hE rfl dg
       .exact(hG.fail dg).elim
      .exact(hG.fail dg).elim
     .exact(hG.fail dg).elim
   .exact(hG.fail he).elim
  .exact(hG.fail he).elim
 .exact(hG.fail he).elim
theorem LP (hm:P.follows .mixedOrders=true) (hT:TabOk P T) (cu:Sd P ev)
  (nR:∀ b,Lc P T ev b->Lc P T ev (.loop b)):∀ (c:VCode),Lc P T ev c:=by
 intro c;induction c with
 |skip=>intro A R G hG ys ro et env h k rs U Q hY hs hE he hk;exact hk _ _ _ rs U _ (zd _) (λ_ _=>rfl) hs hE rfl he
 |region ops =>intro A R G hG ys ro et env h k rs U Q hY hs hE he hk;exact HD hm hT cu hG ops et env h rs U hY hs hE he λdf h' bc U' ae h1 h2 h3 h4 h5 h6=>hk _ _ _ _ _ _ h1 h2 h3 h4 h5 h6
 |regionD aO =>intro A R G hG ys ro et env h k rs U Q hY hs hE he hk;exact SD hm hT cu hG aO et env h rs U hY hs hE he λdf h' bc U' ae h1 h2 h3 h4 h5 h6=>hk _ _ _ _ _ _ h1 h2 h3 h4 h5 h6
 |rangeF g ps a b ff eI =>intro A R G hG ys ro et env h k rs U Q hY hs hE he hk;exact LV hm hT cu hG hY hs hE he hk
 |seq a b ff eI =>
  intro A R G hG ys ro et env h k rs U Q hY hs hE he hk;simp only[vwp];refine ff R G hG ys ro et env h _ rs U _ hY hs hE he ?_;intro e df h' bc U' ae hn hr aS bG hl hg;cases e with
  |normal =>refine eI R G hG ys ro df ae h' k bc U' Q (hY.mono hn hr) aS bG hg ?_;intro e2 fg h2 dJ σ2 aM dV dy cT fh bX cP;exact hk e2 fg h2 dJ σ2 aM (zJ hn dV) (λi hi=>(dy i (by omega)).trans (hr i hi)) cT fh (bX.trans hl) cP
  |_=>exact hk _ df h' bc U' ae hn hr aS bG hl hg
 |cond c a b ff eI =>
  intro A R G hG ys ro et env h k rs U Q hY hs hE he hk;have he:G (Q2r R (Mb et c) (Lg T ev R ys a ro et h k) (Lg T ev R ys b ro et h k)):=he;rw[BF hE] at he;unfold Q2r at he;simp only[vwp];split at he
  .rename_i hc;rw[hc];exact⟨λ_=>ff R G hG ys ro et env h k rs U Q hY hs hE he hk,λhh=>by cases hh⟩
  .rename_i hc;rw[hc];exact⟨λhh=>(by cases hh),λ_=>eI R G hG ys ro et env h k rs U Q hY hs hE he hk⟩
  .exact(hG.fail he).elim
 |block id b ih =>
  intro A R G hG ys ro et env h k rs U Q hY hs hE he hk;simp only[vwp];refine ih R G hG ys ro et env h _ rs U _ hY hs hE he ?_;intro e df h' bc U' ae hn hr aS bG hl hg;cases e with
  |exit gR =>
   simp only[Ih] at hg;simp only[AH];split at hg
   .rename_i hid;rw[z7 hid];exact hk _ df h' bc U' ae hn hr aS bG hl hg
   .rename_i hid;rw[z6 hid];exact hk _ df h' bc U' ae hn hr aS bG hl hg
  |_=>exact hk _ df h' bc U' ae hn hr aS bG hl hg
 |loop b ih =>intro A R G hG ys ro et env h k rs U Q hY hs hE he hk;exact nR b ih R G hG ys ro et env h k rs U Q hY hs hE he hk
 |exit id=>intro A R G hG ys ro et env h k rs U Q hY hs hE he hk;exact hk _ _ _ rs U _ (zd _) (λ_ _=>rfl) hs hE rfl he
 |ret=>intro A R G hG ys ro et env h k rs U Q hY hs hE he hk;exact hk _ _ _ rs U _ (zd _) (λ_ _=>rfl) hs hE rfl he
 |bad=>intro A R G hG ys ro et env h k rs U Q hY hs hE he hk;exact(hG.fail he).elim
theorem Tp {v:Value}(h:EW v=true):QM v=true\/∃ vs,v=.tuple vs/\vs.toList.all QM=true:=by unfold EW at h;split at h<;>first|exact .inl rfl|exact .inr ⟨_,rfl,h⟩|cases h
theorem OI {ρ:Plc}{n:Nat}{v c:Value}(h:EW v=true) (hv:VRel ρ n v c):c=v:=by
 rcases Tp h with hp|⟨vs,rfl,hall⟩
 .exact Yg hp hv
 .obtain⟨ds,rfl,hl⟩:=hv.q1j;have hall:∀ x∈vs.toList,QM x=true:=zf.1 hall;have:ds.toList=vs.toList:=by
   apply zK;intro i;rcases zn i vs.toList.length with hi|hi
   .have cJ:i<ds.toList.length:=by rw[<-hl.1];exact hi
    rw[z8 hi,z8 cJ];rw[Yg (hall _ (zi hi)) (hl.2 i _ _ (z8 hi) (z8 cJ))]
   .rw[zD hi,zD (by rw[<-hl.1];exact hi)]
  rw[Te this]
theorem F_ {ρ:Plc}{n:Nat}{v:Value}(h:EW v=true):VRel ρ n v v:=by
 rcases Tp h with hp|⟨vs,rfl,hall⟩
 .exact X1 hp
 .exact .tuple _ _ rfl λi h1 _=>X1 (zf.1 hall _ (by simp))
theorem GH (m:Nat) (env:Env) (h:List.length env=m):Bp (List.range m) env=env:=by
 apply zK;intro i;simp only[Bp,xp];rcases zn i m with hi|hi
 .rw[List.getElem?_range hi];simp[ze,h,hi]
 .rw[zD (by simpa using hi),zD (by omega)];rfl
theorem Tc:∀ (l:List Nat) (vs base:List Value) (i:Nat),l.Nodup->vs.length=l.length->(∀ x∈l,x<base.length)->(Xn l vs base)[i]?=if i∈l then vs[l.idxOf i]? else base[i]?
 |[],[],base,i,_,_,_=>by simp[Xn]
 |[],_::_,_,_,_,h,_=>by simp at h
 |_::_,[],_,_,_,h,_=>by simp at h
 |x::l,v::vs,base,i,hn,h,hb=>by
  obtain⟨h1,h2⟩:=xC.1 hn;simp only[Xn];rw[Tc l vs _ i h2 (by simpa using h) (λy hy=>by rw[xX];exact hb y (by simp[hy]))];by_cases mz:i=x
  .subst mz;rw[z6 h1,z7 (by simp),List.getElem?_set_self (hb i (by simp))];simp
  .by_cases fz:i∈l
   .have e:(x::l).idxOf i=l.idxOf i+1:=by rw[List.idxOf_cons,show (x==i)=false from by simpa using Ne.symm mz];rfl
    rw[z7 fz,z7 (by simp[fz]),e];rfl
   .rw[z6 fz,z6 (by simp[mz,fz]),List.getElem?_set_ne (Ne.symm mz)]
theorem Lf (m:Nat) (vs:List Value) (h:vs.length=m):Xn (List.range m) vs (List.replicate m poison)=vs:=by
 apply zK;intro i;rw[Tc _ _ _ _ List.nodup_range (by simpa using h) (λx hx=>by simpa using hx)];split
 .rename_i hi;have hi:=x5.1 hi;have:(List.range m).idxOf i=i:=by
   have h1:(List.range m).idxOf i<(List.range m).length:=List.idxOf_lt_length_of_mem (x5.2 hi);have h2:=List.getElem_idxOf h1;rw[List.getElem_range] at h2;exact h2
  rw[this]
 .rename_i hi;have hi:m<=i:=by simpa using hi
  rw[zD (by simpa using hi),zD (by omega)]
theorem F7 (hm:P.follows .mixedOrders=true) (hT:TabOk P T):∀ (n:Nat) (c:VCode),Lc P T (LW T n) c:=by
 intro n;induction n using Nat.strongRecOn with
 |ind n qi =>
  have cu:Sd P (LW T n):=by
   cases n with
   |zero=>intro A R G hG ys c ro et env h k rs U Q hY hs hE he hk;exact(hG.fail he).elim
   |succ n=>intro A R G hG ys c ro et env h k rs U Q hY hs hE he hk;exact qi n (Nat.lt_succ_self _) c R G hG ys ro et env h k rs U Q hY hs hE he hk
  refine LP hm hT cu λb eI=>?_;intro A R G hG ys ro et env h k rs U Q hY hs hE he hk;have nS:∀ j,j<=n->Lc P T (LW T j) b:=λj hj=>by
   rcases zn j n with h'|h'
   .exact qi j h' b
   .obtain rfl:j=n:=by omega
    exact eI
  simp only[vwp];refine⟨List.range (List.length env),λj vs σ1=>j<=n/\∃ jX h1 eT,h.n<=h1.n/\(∀ i,i<h.n->eT i=rs i)/\CSim eT h1 σ1/\FRel jX vs/\List.length vs=List.length env/\G (Lg T (LW T j) R ys (.loop b) ro jX h1 k),n,?_,?_⟩
  .rw[GH _ _ rfl];exact⟨zd _,et,h,rs,zd _,λ_ _=>rfl,hs,hE,rfl,he⟩
  .rintro j vs σ1 ⟨hj,jX,h1,eT,g1,g2,g3,gE,g4,g5⟩;rw[Lf _ _ g4];refine nS j hj R G hG ys ro jX vs h1 _ eT σ1 _ (hY.mono g1 g2) g3 gE g5 ?_;intro e df h' bc U' ae hn hr aS bG hl hg;cases e with
   |normal =>
    cases j with
    |zero=>exact(hG.fail hg).elim
    |succ j =>
     refine⟨j,Nat.lt_succ_self _,by omega,df,h',bc,zJ g1 hn,λi hi=>(hr i (by omega)).trans (g2 i hi),aS,?_,?_,?_⟩
     .rw[GH _ _ (hl.trans g4)];exact bG
     .rw[GH _ _ (hl.trans g4)];exact hl.trans g4
     .exact hg
   |_=>exact hk _ df h' bc U' ae (zJ g1 hn) (λi hi=>(hr i (by omega)).trans (g2 i hi)) aS bG (hl.trans g4) hg
theorem Ci (hm:P.follows .mixedOrders=true) (hT:TabOk P T) (n:Nat):Sd P (LW T n):=by
 cases n with
 |zero=>intro A R G hG ys c ro et env h k rs U Q hY hs hE he hk;exact(hG.fail he).elim
 |succ n=>intro A R G hG ys c ro et env h k rs U Q hY hs hE he hk;exact F7 hm hT n c R G hG ys ro et env h k rs U Q hY hs hE he hk
theorem HRel.forget {ρ:Plc}{U:Heap}{w:World}(hH:HRel ρ U w):HRel (λ_=>none) Heap.empty w :=
 ⟨⟨λi b h=>(by cases h),λ_ _=>rfl,λi p h=>(by cases h),λi j p q b _ h=>(by cases h)⟩,λg cs hg=>⟨(hH.tab g cs hg).1,λ⟨_,_,_,h,_⟩=>by cases h⟩⟩
theorem Sm {f:FuncId}{args:List Value}(ha:args.all QM=true) {v:Value}(hv:EW v=true) (he:Jj P f) (h0:VCallsTo P f args Heap.empty (λu _=>u=v)) {U:Heap}{K:Value->Heap->Prop}(hK:K v U):VCalled P f args U K:=by
 refine VCallsTo.called he ?_;intro ρ w aq hH hL;refine (h0 (λ_=>none) w aq hH.forget ?_).mono ?_
 .refine⟨hL.1,λi a c jD hc=>?_⟩;have hp:=zf.1 ha a (z_ jD);have:=Yg hp (hL.2 i a c jD hc);subst this;exact X1 hp
 .rintro e w' ⟨c,rfl,u,ρ',U',rfl,dP,fQ,hE⟩;refine⟨c,rfl,u,ρ,U,hK,?_,?_,?_⟩
  .have:c=u:=OI hv dP;subst this;exact F_ hv
  .exact hH.world hE.size (λi p hp=>hE.keep _ (hH.lt i p hp) (λ⟨_,_,_,h,_⟩=>by cases h)) λg cs hg=>hE.keep _ (hH.tab.lt hg) (λ⟨_,_,_,h,_⟩=>by cases h)
  .exact⟨hE.os,hE.tape,hE.output,hE.size,λB hB _=>hE.keep B hB (λ⟨_,_,_,h,_⟩=>by cases h),λ_ _ h=>h,zd _,λ_ _ _ h=>h⟩
theorem Q0c (hm:P.follows .mixedOrders=true) (hT:TabOk P T) (n:Nat) {f:FuncId}{vc:VCode}{rl:List VResult}{nt:Nat}(hF:Fun P f vc rl nt) (args:List Value) (ha:args.all QM=true) (v:Value) (hv:EW v=true) (p:Value->Bool) (hp:∀ u,p u=true->u=v)
  (dK:Nat.ble (ET.of args nt).m 1000000=true) (he:LW T n Uo [] vc none (ET.of args nt) CH.empty (Q25 false rl λv _=>p v)=true) {U:Heap}{K:Value->Heap->Prop}(hK:K v U):VCalled P f args U K:=by
 refine Sm ha hv hF.enterable ?_ hK;refine hF.callsTo hm SN ?_
 exact Ci hm hT n Uo (·=true) Eb [] vc none _ _ CH.empty _ (λ_=>([],default)) Heap.empty _ (λi c h=>by cases h) ⟨rfl,by decide,λi=>rfl⟩ (ET.q1o (zA dK)) he
  (N2 (R:=Uo) Eb λv' h' bc U' _ _ _ hg=>hp v' hg)
end
end Go.V
namespace Go.V
open Go
def Q01 (P:Program) (f:FuncId):Option FEnt->Prop
 |none=>True
 |some (.code vc rs nt)=>Fun P f vc rs nt
 |some (.codeJ vc rs nt)=>Fun P f vc rs nt
 |some (.codeM vc rs nt ms)=>Fun P f vc rs nt/\∀ m∈ms,Oj P f m
 |some .same=>∀ (v:Value) (U:Heap) (K:Value->Heap->Prop),K v U->VCalled P f [v] U K
def EntsOk (P:Program):Nat->List (Option FEnt)->Prop
 |_,[]=>True
 |i,e::l=>Q01 P i e/\EntsOk P (i+1) l
theorem EntsOk.get {P:Program}:∀ {l:List (Option FEnt)}{i j:Nat}{e:FEnt},EntsOk P i l->l[j]?=some (some e)->Q01 P (i+j) (some e)
 |[],_,_,_,_,h=>by simp at h
 |x::l,i,0,e,h,hj=>by simp at hj;subst hj;exact h.1
 |x::l,i,j+1,e,h,hj=>by have:=EntsOk.get (l:=l) (i:=i+1) (j:=j) h.2 (by simpa using hj);rw[zz,xL 1 j] at this;exact this
theorem Q0i {P:Program}{l:List (Option FEnt)}(h:EntsOk P 0 l):TabOk P (λf=>(l[f]?).join):=by
 have key:∀ f e,(l[f]?).join=some e->Q01 P f (some e):=λf e he=>by
  have:=EntsOk.get (j:=f) (e:=e) h (by
   cases hl:l[f]? with
   |none=>rw[hl] at he;cases he
   |some x=>rw[hl] at he;simp at he;rw[he])
  simpa using this
 exact⟨λf vc rs nt he=>key f _ he,λf vc rs nt he=>key f _ he,λf vc rs nt ms he=>key f _ he,λf he=>key f _ he⟩
theorem Q08 {P:Program}{f:FuncId}{fn:Func}{e:Array Value->Sem Value}(hf:P.funcs[f]?=some fn) (h1:(fn.name=="runtime.NumGoroutine")=false) (h2:fn.body.isNone=true) (h3:Extern.findNext fn=none) (h4:Extern.find fn=some e) (h5:∀ (c:Value) w,(e #[c]).run P w=.ok c w)
  (v:Value) (U:Heap) (K:Value->Heap->Prop) (hK:K v U):VCalled P f [v] U K:=by
 intro ρ w aq hH hL;obtain⟨c,hc⟩:∃ c,aq=#[c]:=by
  have hl:=hL.1
  match aq,hl with
  |⟨[c]⟩,_=>exact⟨c,rfl⟩
 subst hc;refine .inr ⟨c,⟨v,ρ,U,hK,hL.2 0 v c rfl rfl,hH,Ext.refl _ _ _⟩,λw' _=>?_⟩;have gN:fn.body=none:=by simpa using h2
 have jo:¬ fn.name="runtime.NumGoroutine":=by simpa using h1
 simp[callFunc,hf,jo,gN,h3,h4,h5]
def isTrue:Value->Bool
 |.bool true=>true
 |_=>false
theorem FX {v:Value}(h:isTrue v=true):v=.bool true:=by
 unfold isTrue at h;split at h
 .rfl
 .cases h
theorem OQ {P:Program}(hm:P.follows .mixedOrders=true) {T:Tab}(hT:TabOk P T) (n:Nat) {f:FuncId}{vc:VCode}{rl:List VResult}{nt:Nat}(hF:Fun P f vc rl nt) (dK:Nat.ble (ET.of [] nt).m 1000000=true)
  (he:LW T n Uo [] vc none (ET.of [] nt) CH.empty (Q25 false rl λv _=>isTrue v)=true) {U:Heap}{K:Value->Heap->Prop}(hK:K (.bool true) U):VCalled P f [] U K :=
 Q0c hm hT n hF [] rfl (.bool true) rfl isTrue (λ_ h=>FX h) dK he hK
end Go.V