
import Derived.RangeFuncLeaves
import Derived.RangeFuncCalls
import Derived.OrdersIn
import Derived.TacticsIn
import Derived.Sort.LoopGhostIn
import Derived.Deep.LoopGhost
import Derived.Test.YtmcfcleofjngmaaGreatDoorL1
noncomputable section
namespace Go.V
open Go
section
variable {P:Program}{S:VSpecs}{B:Nat}
def FF:Option Nat->Fence
 |none=>Fence.wide
 |some l=>Fence.wide.inRound l
theorem Q3f (ro:Option Nat) (f:FuncId):(FF ro).fn f:=by cases ro<;>trivial
theorem ES (ro:Option Nat):(FF ro).depth=none:=by cases ro<;>rfl
theorem Q7t (ro:Option Nat):(FF ro).round=ro:=by cases ro<;>rfl
theorem Q1t {ro:Option Nat}{n:Nat}{f:FuncId}{args:Array Value}{w:World}{R:Ending->World->Prop}(h:Calls P f args w R):CallsIn (FF ro) n P f args w R:=by
 cases ro with
 |none=>exact callsIn_wide.2 h
 |some l=>exact CallsIn.inRound l (callsIn_wide.2 h)
theorem OQ {ro:Option Nat}{n m:Nat}{l:Nat}{f:FuncId}{tmps:Array Value}{eU body:Code}{w:World}{R:Ending->World->Prop}(h:RoundIn Fence.wide m P l f tmps eU body w R):RoundIn (FF ro) n P l f tmps eU body w R:=by refine⟨Q3f _ _,λc cs _=>?_⟩;obtain⟨e,w',r,s⟩:=h.2 c cs (room_wide _);refine⟨e,w',r,?_⟩;cases ro<;>exact s
def Got (ρ:Plc) (U:Heap) (w:World) (R:Value->Heap->Prop) (c:Value) (w':World):Prop :=
 ∃ v ρ' U',R v U'/\VRel ρ' U'.n v c/\HRel ρ' U' w'/\Ext ρ U w ρ' U' w'
def VCallsTo (P:Program) (f:FuncId) (args:List Value) (U:Heap) (R:Value->Heap->Prop):Prop :=
 ∀ ρ w (ax:Array Value),HRel ρ U w->LRel ρ U.n args ax.toList->Calls P f ax w λe w'=>∃ c,e=.returned c/\Got ρ U w R c w'
def VCalled (P:Program) (f:FuncId) (args:List Value) (U:Heap) (R:Value->Heap->Prop):Prop :=
 ∀ ρ w (ax:Array Value),HRel ρ U w->LRel ρ U.n args ax.toList ->
  ((∀ w,(callFunc f ax).run P w=.ok (.enter f ax) w)/\Calls P f ax w λe w'=>∃ c,e=.returned c/\Got ρ U w R c w') \/
  (∃ c,Got ρ U w R c w/\∀ w',Like ρ w w'->(callFunc f ax).run P w'=.ok (.value c) w')
def Lp (P:Program) (i:Nat) (args:List Value) (U:Heap) (R:Value->Heap->Prop):Prop :=
 ∀ ρ w (ax:Array Value),HRel ρ U w->LRel ρ U.n args ax.toList ->
  ∃ p,ρ i=some p/\∃ fn tmps eU body,(Instr.yield p.blk ax).run P w=.ok (.round p.blk fn tmps eU body) w /\
   RoundIn Fence.wide 0 P p.blk fn tmps eU body w λe w'=>∃ c,e=.returned c/\Got ρ U w R c w'
def Y9 (P:Program) (f:FuncId):Prop:=∃ fn,P.funcs[f]?=some fn/\fn.body.isSome=true/\(fn.name=="runtime.NumGoroutine")=false
def Z56 (P:Program) (f:FuncId) (s:Co):Prop:=∀ args U K,s args U K->VCalled P f args U K
def UQ (P:Program) (i:Nat) (s:Co):Prop:=∀ args U K,s args U K->Lp P i args U K
def Z47 (P:Program) (f:FuncId) (T:Nat->Co->Co):Prop:=Y9 P f/\∀ i Y,UQ P i Y->∀ args U K,T i Y args U K->VCallsTo P f args U K
structure OkSpecs (P:Program) (S:VSpecs):Prop where
 fn:∀ f s,S.fn f=some s->Z56 P f s
 yl:∀ i s,S.yl i=some s->UQ P i s
 it:∀ f T,S.it f=some T->Z47 P f T
theorem G0 {f:FuncId}(h:Y9 P f) (args:Array Value) (w:World):(callFunc f args).run P w=.ok (.enter f args) w:=by
 obtain⟨fn,h1,h2,h3⟩:=h;have h4:¬ fn.body=none:=λe=>by rw[e] at h2;cases h2
 have h5:¬ fn.name="runtime.NumGoroutine":=λe=>by rw[e] at h3;simp at h3
 simp[callFunc,h1,h4,h5]
theorem VCallsTo.called {f:FuncId}{args:List Value}{U:Heap}{R:Value->Heap->Prop}(he:Y9 P f) (h:VCallsTo P f args U R):VCalled P f args U R :=
 fun ρ w ax hH hL=>.inl ⟨λw=>G0 he ax w,h ρ w ax hH hL⟩
theorem Got.mono {ρ:Plc}{U:Heap}{w:World}{R R':Value->Heap->Prop}{c:Value}{w':World}(h:Got ρ U w R c w') (hr:∀ v U',R v U'->R' v U'):Got ρ U w R' c w' :=
 let ⟨v,ρ',U',h1,h2⟩:=h;⟨v,ρ',U',hr _ _ h1,h2⟩
theorem VCallsTo.mono {f:FuncId}{args:List Value}{U:Heap}{R R':Value->Heap->Prop}(h:VCallsTo P f args U R) (hr:∀ v U',R v U'->R' v U'):VCallsTo P f args U R' :=
 fun ρ w ax hH hL=>(h ρ w ax hH hL).mono λ_ _ ⟨c,he,hg⟩=>⟨c,he,hg.mono hr⟩
theorem Vj {ρ:Plc}{n:Nat}{env:Env}{a:Act}(h:LRel ρ n env a.tmps.toList) {v c:Value}(hv:VRel ρ n v c) (d:Option Nat):LRel ρ n (Ww env d v) (a.put d c).tmps.toList:=by
 cases d with
 |none=>exact h
 |some d=>simp only[Ww,Act.put,Array.toList_setIfInBounds];exact h.set d hv
theorem JK (env:Env) (d:Option Nat) (v:Value):List.length (Ww env d v)=List.length env:=by cases d<;>simp[Ww]
theorem WW (a:Act) (d:Option Nat) (c:Value):(a.put d c).defers=a.defers:=by cases d<;>rfl
theorem Hj {ρ:Plc}{n:Nat}{env:Env}{a:Act}{ops:Array Oper}{o:Oper}{vo:VOper}(hc:Xx P ops o=some vo) (hL:LRel ρ n env a.tmps.toList) {b:Bool}(h:Xu env vo.guard=some b) :
  Region.wanted o (yielded ops a.tmps)=b/\vo.dst=o.dst/\VN P o.op=vo.op:=by
 unfold Xx at hc;simp only[zz] at hc;cases hg:o.guard with
 |none =>simp[hg] at hc;subst hc;simp[Xu] at h;subst h;simp[Region.wanted,hg]
 |some jw =>
  obtain⟨j,want⟩:=jw;simp[hg] at hc;cases hj:ops[j]? with
  |none=>simp[hj] at hc
  |some oj =>
   cases hd:oj.dst with
   |none=>simp[hj,hd] at hc
   |some d =>
    simp[hj,hd] at hc;subst hc;refine⟨?_,rfl,rfl⟩;simp only[Xu] at h;simp only[Region.wanted,hg,yielded,hj,xg,hd];have hlen:List.length env=a.tmps.size:=by have:=hL.1;omega
    rcases zm d (List.length env) with ao|bZ
    .have cM:d<a.tmps.size:=by rw[<-hlen];exact ao
     have hr:=hL.2 d env[d] a.tmps[d] (z8 ao) (by simp[cM]);have he:env.getD d undef=env[d]:=by simp[List.getD,ao]
     rw[he] at h;simp only[xG cM];split at h
     .rename_i b' heq;rw[heq] at hr;rw[hr.q1d];simp at h;simp[<-h]
     .rename_i vs heq;rw[heq] at hr;obtain⟨ds,hds,_⟩:=hr.q1k;simp_all
     .cases h
    .have he:env.getD d undef=undef:=by simp_all
     rw[he] at h;have:a.tmps[d]?=none:=(by simp_all);simp only[this];simp[undef] at h;subst h;simp
theorem Q8c {o:Oper}{vo:VOp}(hc:Nb P o.op=some vo) {ρ:Plc}{U:Heap}{env:Env}{a:Act}(hL:LRel ρ U.n env a.tmps.toList) {K:Value->Heap->Prop}
  (aF:(∃ f bR,vo=.callF f bR)\/(∃ f bR,vo=.callV f bR)) {σ0:Heap}(h:vop S vo env σ0 K) :
  (∃ f args ax,vcall S f args σ0 K/\LRel ρ U.n args ax.toList/\∀ w,(execOp a.eval o).run P w=(callFunc f ax).run P w) \/
  (∃ i r args ax,Q1q S i args σ0 K/\VRel ρ U.n (.func (.yield i) #[] #[]) (.func (.yield r) #[] #[])/\LRel ρ U.n args ax.toList/\∀ w,(execOp a.eval o).run P w=(Instr.yield r ax).run P w):=by
 have bq:=hc;cases eP:Nb P o.op with
 |none=>rw[eP] at hc;cases hc
 |some tO =>
  clear eP hc tO;obtain⟨dst,op,ty,pos,after,guard⟩:=o;simp only at bq;unfold Nb at bq;split at bq
  .cases bq
  rename_i aq;simp only[xN,xq] at aq;cases op
  case call c =>
   simp only[Op.operands] at aq bq;split at bq
   .rename_i f aI;simp at bq;subst bq;simp only[vop] at h;have aA:(c.args.toList).all WZ=true:=by
     simp only[Call.operands,aI,Array.toList_append,List.all_append,z0] at aq;exact aq.2
    refine .inl ⟨f,_,c.args.map a.eval,h,by have:=E6 (λx hx=>YT hL hx) aA;simpa using this,λw=>?_⟩;simp[execOp,resolve,aI,Act.eval,Deferred.ofValue,invoke]
   .rename_i fo aK aI;simp at bq;subst bq;simp only[vop] at h;simp only[Call.operands,aI,Array.toList_append,List.all_append,z0] at aq;have hf:=YT hL (x:=fo) (by simpa using aq.1);have has:=E6 (λx hx=>YT hL hx) aq.2;split at h
    .rename_i g first cap heq
     rw[heq] at hf;cases jC:a.eval fo with
     |func fn gs ds =>
      rw[jC] at hf;cases hf with
      |func _ _ _ _ _ h1 h2 h3 h4 =>
       refine .inl ⟨g,_,gs++c.args.map a.eval++ds,h,?_,λw=>?_⟩
       .have dL:=LRel.of_array h1 h3;have b_:=LRel.of_array h2 h4;have:=(dL.append has).append b_;simpa using this
       .simp[execOp,resolve,aI,jC,Deferred.ofValue,invoke]
     |_=>rw[jC] at hf;cases hf
    .rename_i i first cap heq
     rw[heq] at hf;have hinv:∀ c,VRel ρ U.n (.func (.yield i) first cap) c->∃ r,c=.func (.yield r) #[] #[]/\VRel ρ U.n (.func (.yield i) #[] #[]) (.func (.yield r) #[] #[]):=by
      intro c h;cases h with
      |yield _ r hi hr=>exact⟨r,rfl,.yield i r hi hr⟩
     obtain⟨r,jC,hv⟩:=hinv _ hf;refine .inr ⟨i,r,_,c.args.map a.eval,h,hv,by simpa using has,λw=>?_⟩;simp[execOp,resolve,aI,jC,Deferred.ofValue,invoke]
    .cases h
   all_goals
    repeat' first
     |(cases bq;done)
     |(simp at bq;subst bq;rcases aF with⟨f,bR,h⟩|⟨f,bR,h⟩<;>cases h;done)
     |split at bq
   grind [Option.bind_eq_bind,Option.bind_eq_some_iff]
  all_goals simp only[Op.operands] at aq bq
  all_goals
   repeat' first
    |(cases bq;done)
    |(simp at bq;subst bq;rcases aF with⟨f,bR,h⟩|⟨f,bR,h⟩<;>cases h;done)
    |split at bq
  all_goals simp only[zz,zX,reduceCtorEq,and_false,exists_false] at bq
  all_goals first
   |(obtain⟨_,_,bq⟩:=bq;simp at bq;subst bq;rcases aF with⟨f,bR,h⟩|⟨f,bR,h⟩<;>cases h;done)
   |(obtain⟨_,_,_,_,bq⟩:=bq;simp at bq;subst bq;rcases aF with⟨f,bR,h⟩|⟨f,bR,h⟩<;>cases h;done)
   |(obtain⟨_,_,_,_,_,_,bq⟩:=bq;simp at bq;subst bq;rcases aF with⟨f,bR,h⟩|⟨f,bR,h⟩<;>cases h;done)
   |(obtain⟨d,_,bq⟩:=bq;cases d<;>simp at bq<;>subst bq<;>rcases aF with⟨f,bR,h⟩|⟨f,bR,h⟩<;>cases h;done)
   |(obtain⟨_,_,_,_,bq⟩:=bq;split at bq<;>simp at bq;subst bq;rcases aF with⟨f,bR,h⟩|⟨f,bR,h⟩<;>cases h;done)
   |(obtain⟨_,_,bq⟩:=bq;split at bq<;>simp at bq;subst bq;rcases aF with⟨f,bR,h⟩|⟨f,bR,h⟩<;>cases h;done)
theorem Gi {o:Op}{vo:VOp}(h:VN P o=vo) (hv:vo≠.bad):Nb P o=some vo\/∃ x,LQ P o=some x/\vo=.ext x:=by
 unfold VN at h
 grind
theorem Q2n {o:Op}{x:XOp}(h:Nb P o=some (.ext x)):False:=by
 unfold Nb at h
 repeat' first
  |contradiction
  |(cases h;done)
  |(simp at h;done)
  |(rw[zz,zX] at h;obtain⟨_,_,h⟩:=h)
  |split at h
theorem E1 {o:Op}{vo:VOp}(h:VN P o=vo) (hv:vo≠.bad) (c:Call):o≠.defer c:=by
 rintro rfl;rcases Gi h hv with h|⟨x,h,_⟩
 .unfold Nb at h;split at h<;>simp at h
 .unfold LQ at h;split at h<;>simp at h
theorem Q37 {o:Oper}{x:Operand}(hc:LQ P o.op=some (.nextMap x)) {ρ:Plc}{U:Heap}{w:World}{env:Env}{ev:Operand->Value}(hH:HRel ρ U w) (hE:∀ x,WZ x=true->VRel ρ U.n (Q5 env x) (ev x))
  {K:Value->Heap->Prop}(h:Q08 (Q5 env x) U K):∃ c w',(execOp ev o).run P w=.ok (.value c) w'/\Got ρ U w K c w':=by
 obtain⟨dst,op,ty,pos,after,guard⟩:=o;simp only at hc;unfold LQ at hc;split at hc
 .cases hc
 rename_i aq;simp only[xN,xq] at aq;have bD:op=.next x false:=by
  cases op
  case next y b=>cases b<;>simp at hc;subst hc;rfl
  all_goals
   simp only at hc
   repeat' first
    |contradiction
    |(obtain⟨_,h⟩:=Q2y hc;cases h;done)
    |(cases hc;done)
    |(simp at hc;done)
    |(rw[zz,zX] at hc;obtain⟨_,_,hc⟩:=hc)
    |split at hc
 subst bD;clear hc;simp[Op.operands] at aq;have hx:=hE x aq;unfold Q08 at h;split at h
 .rename_i i bg;rw[bg] at hx;split at h
  .rename_i m since seen last hb;split at h
   .rename_i es clock wr aH;obtain⟨h1,hall,h2,h3⟩:=h;obtain⟨p,hp,⟨_,cY⟩,O,hO,rm,rfl,oE⟩:=hH.live i _ hb;obtain⟨q,entries,g9,dB,aE,aG⟩:=Yi hH aH oE;simp at g9;subst g9;obtain⟨_,_,bU⟩:=hx.q0u hp;rw[cY,zQ] at bU;have gO:(getObj p.blk).run P w=.ok (.mapIter (some q.blk) since seen.toArray last) w:=(by grind [QK]);have cR:(getObj q.blk).run P w=.ok (.map entries clock) w:=(by grind [QK]);let left:=entries.filter λe=>!seen.toArray.contains e.born;let bF:=left.filter (·.born<since);let new:=left.filter (·.born>=since);let b6:Array (Option MapEntry):=(if bF.isEmpty then #[none] else #[])++(bF++new).map some;have dx:0<b6.size:=by
     by_cases ho:bF.isEmpty=true
     .grind
     .have:bF.size≠0:=(by simp_all)
      grind
    obtain⟨k,w1,hk,eF,gG⟩:∃ k w1,k<b6.size/\(choose (.mapNext b6.size)).run P w=.ok k w1/\(w1=w\/w1=w.drew):=by
     rw[run_choose_drew];by_cases hf:(Question.mapNext b6.size).forced=true
     .exact⟨0,w,dx,by rw[z7 hf],.inl rfl⟩
     .refine⟨_,w.drew,?_,by rw[z6 hf],.inr rfl⟩;exact xJ _ dx
    have iN:HRel ρ U w1:=by rcases gG with rfl|rfl;exact hH;exact hH.drew
    have ft:Ext ρ U w ρ U w1:=by grind [Ext.refl,Ext.drew]
    have tP:w1.heap[p.blk]?=some (.mapIter (some q.blk) since seen.toArray last):=by rcases gG with rfl|rfl<;>exact hO
    have al:¬ ((!seen.toArray.isEmpty&&!entries.isEmpty&&entries.all (λe=>decide (e.born>=last)))=true):=by
     intro hh;simp only[z0] at hh;obtain⟨⟨h4,h5⟩,h6⟩:=hh;simp only[zt] at h1;rcases h1 with (h1|h1)|h1
     .simp_all
     .rw[List.isEmpty_iff] at h1;subst h1;have:entries=#[]:=by have:=aG.1;simpa using this
      subst this;simp at h5
     .obtain⟨kv,dQ,ao⟩:=xS.1 h1;obtain⟨j,hj⟩:=x5.1 dQ;have cP:j<entries.toList.length:=by rw[aG.1];grind
      have he:=aG.2 j entries.toList[j] kv (z8 cP) hj;have:=Array.all_eq_true'.1 h6 entries.toList[j] (by rw[<-Array.mem_toList_iff];exact zl cP);have h7:=he.2.1
      grind
    have aV:∀ r,(match b6[k]? with
      |some (some e)=>(do setObj p.blk (.mapIter (some q.blk) since (seen.toArray.push e.born) clock);pure (Value.tuple #[.bool true,e.key,e.val]):Sem Value)
      |some none=>pure (.tuple #[.bool false])
      |none=>stuck "Next: no such candidate").run P w1=r->(Instr.next (ev x) false ty).run P w=r:=by
     intro r hr;rw[<-hr];simp only[Instr.next,bU,zo,gO,cR,zi];rw[z6 al];simp only[zo];change ((choose (Question.mapNext b6.size)).run P w).andThen _=_;rw[eF];rfl
    have hval:∀ c w',(Instr.next (ev x) false ty).run P w=.ok c w'->(execOp ev ⟨dst,.next x false,ty,pos,after,guard⟩).run P w=.ok (.value c) w':=λc w' h=>by simp[execOp,h]
    have eR:b6[k]?=some b6[k]:=xG hk;cases hx:b6[k] with
    |none =>
     rw[hx] at eR;have a8:none∈b6:=hx▸Array.getElem_mem hk;have hold:bF.isEmpty=true:=by
      grind
     refine⟨_,w1,hval _ _ (aV _ (by rw[eR];rfl)),_,ρ,U,h2 ?_,VRel.q0j (LRel.cons (.bool _) (LRel.nil _ _)),iN,ft⟩;refine zg.2 λkv dQ=>?_;obtain⟨j,hj⟩:=x5.1 dQ;have cP:j<entries.toList.length:=by rw[aG.1];grind
     have he:=aG.2 j entries.toList[j] kv (z8 cP) hj;cases tQ:seen.contains kv.2.2 with
     |true=>rfl
     |false =>
      simp only[Bool.false_or,zf];rcases zm kv.2.2 since with ao|bZ
      .exfalso;have:entries.toList[j]∈bF:=by
        simp only[bF,left,Array.mem_filter,zf];refine⟨⟨by simp_all,?_⟩,by rw[he.2.1];exact ao⟩;rw[he.2.1];simpa using tQ
       simp_all
      .exact bZ
    |some e =>
     rw[hx] at eR;have a8:some e∈b6:=hx▸Array.getElem_mem hk;have mF:e∈left:=by
      have h4:e∈bF++new:=by simp only[b6,Array.mem_append,Array.mem_map] at a8;simp_all
      grind
     obtain⟨hel,lR⟩:=Array.mem_filter.1 mF;rw[<-Array.mem_toList_iff] at hel;obtain⟨j,hj⟩:=x5.1 hel;have cP:j<es.length:=by rw[<-aG.1];grind
     have he:=aG.2 j e es[j] hj (z8 cP);have gy:=h3 es[j] (zl cP) (by rw[<-he.2.1];simpa using lR);obtain⟨k1,k2⟩:=iN.setObj (o':=.iter m since (seen++[es[j].2.2]) clock) (O':=.mapIter (some q.blk) since (seen.toArray.push e.born) clock) hp hb ⟨q.blk,by rw[he.2.1];simp,oE⟩;have aZ:VRel ρ U.n es[j].1 e.key:=by rw[he.1];exact Nx (by grind)
     refine⟨_,_,hval _ _ (aV _ (by
      rw[eR];simp only[zo,Zg tP (λ_ _ _ e=>by cases e),zi,xi])),_,ρ,_,gy,VRel.q0j (LRel.cons (.bool _) (LRel.cons aZ (LRel.cons he.2.2 (LRel.nil _ _)))),k1,ft.trans k2⟩
   .exact h.elim
  .exact h.elim
 .exact h.elim
theorem Q5t (hS:OkSpecs P S) {f:FuncId}{args:List Value}{U:Heap}{K:Value->Heap->Prop}(h:vcall S f args U K):VCalled P f args U K:=by
 unfold vcall at h;split at h
 .rename_i s hs;exact hS.fn f s hs _ _ _ h
 .exact h.elim
theorem Q39 (hS:OkSpecs P S) {i:Nat}{args:List Value}{U:Heap}{K:Value->Heap->Prop}(h:Q1q S i args U K):Lp P i args U K:=by
 unfold Q1q at h;split at h
 .rename_i s hs;exact hS.yl i s hs _ _ _ h
 .exact h.elim
theorem Q4p {o:Oper}{vo:VOp}(hc:VN P o.op=vo) {ρ:Plc}{U:Heap}{w:World}{env:Env}{a:Act}(hH:HRel ρ U w) (hL:LRel ρ U.n env a.tmps.toList) {v:Value}{U':Heap}
  (h:Q7 vo (Q5 env) U=some (v,U')):F2 P ρ U w v U' (execOp a.eval o):=by
 cases hq:vo.quiet with
 |false=>exact(by grind [Q8z,YT])
 |true =>obtain⟨rfl,c,dZ,hr⟩:=Q5g hc hq hH (λx hx=>YT hL hx) h;exact⟨c,w,ρ,.inl (hr w (Like.refl ρ w)),dZ,hH,Ext.refl _ _ _⟩
theorem UY (hS:OkSpecs P S) {ro:Option Nat}{n:Nat}{o:Oper}{vo:VOp}(bD:VN P o.op=vo) {ρ:Plc}{U:Heap}{w:World}{env:Env}{a:Act}(hH:HRel ρ U w) (hL:LRel ρ U.n env a.tmps.toList)
  {K:Value->Heap->Prop}(h:vop S vo env U K) {next:Act->World->Prop}{Q':Exit->Act->World->Prop}(hn:∀ c w',Got ρ U w K c w'->next (a.put o.dst c) w'):o.wpIn (FF ro) n P a w next Q':=by
 refine⟨λf _=>Q3f _ _,?_⟩;have cK:vo≠.bad:=by rintro rfl;exact h.elim
 rw[Oper.semAt_eq _ _ _ (E1 bD cK)];by_cases aF:(∃ f bR,vo=.callF f bR)\/(∃ f bR,vo=.callV f bR)
 .have hc:Nb P o.op=some vo:=by
   grind [Gi]
  rcases Q8c (S:=S) hc hL aF h with⟨f,args,ax,hv,mw,hr⟩|⟨i,r,args,ax,hv,dC,mw,hr⟩
  .rcases Q5t hS hv ρ w ax hH mw with⟨h1,h2⟩|⟨c,hg,h2⟩
   .rw[hr,h1];exact⟨(by grind [ES]),(Q1t h2).mono (by simp_all)⟩
   .rw[hr,h2 w (Like.refl ρ w)];exact hn c w hg
  .obtain⟨p,hp,fn,tmps,eU,body,h1,h2⟩:=Q39 hS hv ρ w ax hH mw;have pL:r=p.blk:=by
    cases dC with
    |yield _ _ _ hh=>exact hh p hp
   rw[hr,pL,h1];exact⟨(by grind [ES]),(OQ h2).mono (by simp_all)⟩
 .by_cases hU:∃ x,vo=.ext (.nextMap x)
  .obtain⟨x,rfl⟩:=hU;have hc:LQ P o.op=some (.nextMap x):=by
    rcases Gi bD cK with hc|⟨y,hy,hx⟩
    .have:=Q2n hc;exact this.elim
    .cases hx;exact hy
   obtain⟨c,w',hr,hg⟩:=Q37 hc hH (λx hx=>YT hL hx) h;rw[hr];exact hn c w' hg
  .have kG:∃ v U',Q7 vo (Q5 env) U=some (v,U')/\K v U':=by
    unfold vop at h;split at h
    .simp_all
    .simp_all
    .exact absurd ⟨_,rfl⟩ hU
    .cases dD:Q7 vo (Q5 env) U with
     |none=>rw[dD] at h;exact h.elim
     |some p=>rw[dD] at h;exact⟨p.1,p.2,rfl,h⟩
   obtain⟨v,U',dD,hK⟩:=kG;obtain⟨c,w',ρ',aV,dZ,gg,hE⟩:=Q4p bD hH hL dD;have hg:Got ρ U w K c w':=⟨v,ρ',U',hK,dZ,gg,hE⟩;rcases aV with aV|⟨aV,rfl⟩
   .rw[aV];exact hn c w' hg
   .rw[aV];exact hn undef w' hg
def Mks (B:Nat) (ds:List Deferred) (w:World):Prop:=B<=w.heap.size/\∃ Ds:List Nat,ds=Ds.map (λD=>⟨.collected D,#[]⟩)/\Ds.Nodup/\∀ D∈Ds,B<=D/\w.heap[D]?=some (.deferred (some []))
theorem Mks.nil {w:World}(h:B<=w.heap.size):Mks B [] w:=⟨h,[],rfl,List.nodup_nil,λ_ h=>by cases h⟩
theorem Mks.ext {ds:List Deferred}{ρ ρ':Plc}{U U':Heap}{w w':World}(h:Mks B ds w) (hH:HRel ρ U w) (hE:Ext ρ U w ρ' U' w'):Mks B ds w':=by
 obtain⟨h0,Ds,h1,h2,h3⟩:=h;refine⟨zO h0 hE.size,Ds,h1,h2,λD hD=>⟨(h3 D hD).1,?_⟩⟩;have hb:=(h3 D hD).2;have ao:D<w.heap.size:=by
  grind
 rw[hE.keep D ao (λ⟨i,p,b,hp,_,_,tR⟩=>hH.q0n hb i p hp tR)];exact hb
def Rh (B m:Nat) (ρ:Plc) (U:Heap) (w:World) (K:Env->Heap->Prop) (a':Act) (w':World):Prop :=
 ∃ ah ρ' U',K ah U'/\List.length ah=m/\HRel ρ' U' w'/\LRel ρ' U'.n ah a'.tmps.toList/\Mks B a'.defers w'/\Ext ρ U w ρ' U' w'
theorem Q41 (hS:OkSpecs P S) {ro:Option Nat}{n:Nat}(ops:Array Oper) (Q:Exit->Act->World->Prop):∀ (l:List Oper) (lv:List VOper),l.mapM (Xx P ops)=some lv ->
  ∀ (env:Env) (U:Heap) (K:Env->Heap->Prop) (ρ:Plc) (w:World) (a:Act),SQ S lv env U K->HRel ρ U w->LRel ρ U.n env a.tmps.toList->Mks B a.defers w ->
  (∀ a' w',Rh B (List.length env) ρ U w K a' w'->Q .normal a' w')->wpListIn (FF ro) n P ops Q l a w:=by
 intro l;induction l with
 |nil =>intro lv cf env U K ρ w a h hH hL hd hQ;simp at cf;subst cf;exact hQ a w ⟨env,ρ,U,h,rfl,hH,hL,hd,Ext.refl _ _ _⟩
 |cons o l ih =>
  intro lv cf env U K ρ w a h hH hL hd hQ;rw[x6] at cf;cases bq:Xx P ops o with
  |none=>simp[bq] at cf
  |some vo =>
   cases fF:l.mapM (Xx P ops) with
   |none=>simp[bq,fF] at cf
   |some rA =>
    simp[bq,fF] at cf;subst cf;simp only[SQ] at h;cases hw:Xu env vo.guard with
    |none=>rw[hw] at h;exact h.elim
    |some b =>
     rw[hw] at h;obtain⟨cU,bL,bD⟩:=Hj bq hL hw;obtain⟨ht,hf⟩:=h;simp only[wpListIn];rw[cU];cases b with
     |false =>rw[z6 (by simp)];exact⟨λf _=>Q3f _ _,ih rA fF (Ww env vo.dst undef) U K ρ w _ (hf rfl) hH (by rw[bL];exact Vj hL Wa o.dst) (by rw[WW];exact hd) (by grind [JK])⟩
     |true =>
      rw[z7 rfl];refine UY hS bD hH hL (ht rfl) λc w' ⟨v,ρ',U',hK,dZ,gg,hE⟩=>?_
      exact ih rA fF (Ww env vo.dst v) U' K ρ' w' _ hK gg (by rw[bL];exact Vj (hE.lrel hL) dZ o.dst) (by rw[WW];exact hd.ext hH hE)
       (λa' oo ⟨mG,eC,aL,k1,k0,k2,k3,k4,k5⟩=>hQ a' oo ⟨mG,eC,aL,k1,by rw[k0,JK],k2,k3,k4,hE.trans k5⟩)
theorem EH:∀ (l:List Nat) (vs:List Value) (env:Env),(Yt l vs env).length=env.length:=by
 intro l;induction l with
 |nil=>intro vs env;cases vs<;>rfl
 |cons i l ih =>
  intro vs env;cases vs with
  |nil=>rfl
  |cons v vs=>simp only[Yt];rw[ih];simp
theorem Q44 {ρ:Plc}{n:Nat}:∀ (l:List Nat) (env base:Env) (cs:List Value),LRel ρ n env cs->LRel ρ n base cs->LRel ρ n (Yt l (TN l env) base) cs:=by
 intro l;induction l with
 |nil=>intro env base cs _ hb;exact hb
 |cons i l ih =>
  intro env base cs he hb;simp only[TN,xm,Yt];refine ih env _ cs he ?_;refine⟨by simp[hb.1],λj v c hv hc=>?_⟩;by_cases cy:i=j
  .subst cy;rcases zm i (List.length base) with ao|bZ
   .rw[List.getElem?_set_self ao] at hv;obtain rfl:=osj hv;have cM:i<List.length env:=by rw[he.1,<-hb.1];exact ao
    have:env.getD i poison=env[i]:=by simp[List.getD,cM]
    rw[this];exact he.2 i _ c (z8 cM) hc
   simp_all
  .rw[List.getElem?_set_ne cy] at hv;exact hb.2 j v c hv hc
theorem Q3h {ρ:Plc}{n:Nat}(cs:List Value) {m:Nat}(h:m=cs.length):LRel ρ n (List.replicate m poison) cs :=
 ⟨by simp[h],λi v c hv _=>by
  have:=xh hv;rw[List.mem_replicate] at this;rw[this.2];exact .poison c⟩
def RoRel (cG ro:Option Nat) (ρ:Plc) (n:Nat):Prop:=(cG=none/\ro=none)\/∃ i l,cG=some i/\ro=some l/\i<n/\∀ p,ρ i=some p->p.blk=l
theorem RoRel.ext {cG ro:Option Nat}{ρ ρ':Plc}{U U':Heap}{w w':World}(h:RoRel cG ro ρ U.n) (hE:Ext ρ U w ρ' U' w'):RoRel cG ro ρ' U'.n:=by
 rcases h with h|⟨i,l,h1,h2,h3,h4⟩
 .exact .inl h
 .exact .inr ⟨i,l,h1,h2,x3 h3 hE.n,λp hp=>h4 p (hE.pl i h3 p hp)⟩
def Sound (P:Program) (S:VSpecs) (c:Code) (vc:VCode):Prop :=
 ∀ ⦃B:Nat⦄ (cG ro:Option Nat) (n:Nat) (Q:Exit->Env->Heap->Prop) (env:Env) (U:Heap) (ρ:Plc) (w:World) (a:Act),vwp S vc cG Q env U->HRel ρ U w->LRel ρ U.n env a.tmps.toList->Mks B a.defers w->RoRel cG ro ρ U.n ->
  ∀ (Q':Exit->Act->World->Prop),(∀ e a' w',Rh B (List.length env) ρ U w (Q e) a' w'->Q' e a' w')->c.wpIn (FF ro) n P Q' a w
theorem Q61 {ρ:Plc}{n:Nat}:∀ (ps:List Nat) (vs cs:List Value) (env:Env) (tmps:Array Value),LRel ρ n env tmps.toList->LRel ρ n vs cs ->
  LRel ρ n (Ly env ps vs) ((ps.zip cs).foldl (λ(tmps:Array Value) (q:Nat×Value)=>tmps.setIfInBounds q.1 q.2) tmps).toList:=by
 intro ps;induction ps with
 |nil=>intro vs cs env tmps h _;cases vs<;>exact h
 |cons p ps ih =>
  intro vs cs env tmps h hv;cases vs with
  |nil =>
   cases cs with
   |nil=>exact h
   |cons _ _=>have:=hv.1;simp at this
  |cons v vs =>
   cases cs with
   |nil=>have:=hv.1;simp at this
   |cons c cs =>simp only[Ly,List.zip_cons_cons,wo];refine ih vs cs _ _ ?_ ⟨by have:=hv.1;simpa using this,λi a b ha hb=>hv.2 (i+1) a b (by simpa using ha) (by simpa using hb)⟩;rw[Array.toList_setIfInBounds];exact h.set p (hv.2 0 v c rfl rfl)
theorem Yr {w:World}{l:Nat}{r:Loop}(h:w.heap[l]?=some (.loop r)):(Instr.getLoop l).run P w=.ok r w:=by simp[Instr.getLoop,QK h (λ_ _ _ e=>by cases e)]
theorem D6 {ρ:Plc}{U:Heap}{w:World}(hH:HRel ρ U w) {i:Nat}{env:Env}{r:Loop}{st:LoopState}{pend:Option Code}{wr:Bool}(h:U.get i=some (.obj (.lp env r st pend) wr)) :
  ∃ p,ρ i=some p/\w.heap[p.blk]?=some (.loop {r with state:=st,pending:=pend})/\LRel ρ U.n env r.tmps.toList:=by
 obtain⟨p,hp,_,O,h1,rfl,h2⟩:=hH.live i _ h;exact⟨p,hp,h1,h2⟩
theorem IL {ρ:Plc}{U:Heap}{w:World}(hH:HRel ρ U w) {i:Nat}{env:Env}{r:Loop}{st:LoopState}{pend:Option Code}{p:Pl}(hp:ρ i=some p) (h:U.get i=some (.obj (.lp env r st pend) true)) (jD:LoopState) (bP:Option Code) :
  HRel ρ (U.upd i (.obj (.lp env r jD bP) true)) (Rq w p.blk (.loop {r with state:=jD,pending:=bP})) /\
  Ext ρ U w ρ (U.upd i (.obj (.lp env r jD bP) true)) (Rq w p.blk (.loop {r with state:=jD,pending:=bP})):=by
 obtain⟨p',bz,h1,h2⟩:=D6 hH h;exact hH.setObj hp h ⟨rfl,h2⟩
theorem OO {eU body:Code}{va vb:VCode}(ha:Sound P S eU va) (hb:Sound P S body vb) (ps:List Nat) (env:Env) (r:Loop) (ff:r.assign=eU) (dE:r.body=body) (kH:r.params.toList=ps) (i:Nat) :
  UQ P i (Q0y (vwp S va (some i)) (vwp S vb (some i)) ps env r i):=by
 intro args U K h ρ w ax hH hL;obtain⟨h1,h2,h3⟩:=h;obtain⟨p,hp,aE,kI⟩:=D6 hH h1;refine⟨p,hp,r.fn,(r.params.zip ax).foldl (λtmps (t,a)=>tmps.setIfInBounds t a) r.tmps,r.assign,r.body,?_,?_⟩
 .have aD:ax.size=r.params.size:=by
   have h4:=hL.1
   grind
  simp[Instr.yield,Yr aE,aD]
 .refine roundIn_of_wpIn (F:=Fence.wide) trivial ?_;rw[ff,dE];refine ha (some i) (some p.blk) 0 _ _ U ρ w _ h3 hH ?_ (Mks.nil (z9 _)) (.inr ⟨i,p.blk,rfl,rfl,U.lt h1,(by simp_all)⟩) _ ?_
  .have:=Q61 ps args ax.toList env r.tmps kI hL;rw[<-kH,<-Array.toList_zip,Array.foldl_toList] at this;rw[kH] at this;exact this
  .intro e a1 w1 ⟨bn,ρ1,σ1,k1,k0,k2,k3,k4,k5⟩;cases e with
   |normal =>
    obtain⟨k6,k7⟩:=k1;obtain⟨p1,kJ,jE,rB⟩:=D6 k2 k6;have pM:p1=p:=by have:=k5.pl i (U.lt h1) p1 kJ;simp_all
    subst pM;obtain⟨j1,j2⟩:=IL k2 kJ k6 .busy none;refine⟨_,by simp[Instr.beginRound,Yr jE,Zg jE (λ_ _ _ e=>by cases e)];rfl,?_⟩;refine hb (some i) (some p1.blk) 0 _ _ _ ρ1 _ a1 k7 j1 k3 (k4.ext k2 j2) (.inr ⟨i,p1.blk,rfl,rfl,σ1.lt k6,(by simp_all)⟩) _ ?_;intro e2 a2 w2 ⟨aT,ρ2,σ2,m1,m0,m2,m3,m4,m5⟩;obtain⟨m6,m7⟩:=m1;obtain⟨p2,dS,ez,rC⟩:=D6 m2 m6;have pM:p2=p1:=by have h8:=m5.pl i (by rw[Heap.q2i];exact σ1.lt k6) p2 dS;simp_all
    subst pM;cases e2 with
    |normal =>obtain⟨q1,q2⟩:=IL m2 dS m6 .ready none;refine⟨.bool true,_,?_,_,rfl,.bool true,ρ2,_,m7,.bool _,q1,k5.trans (j2.trans (m5.trans q2))⟩;simp[Instr.endRound,Yr ez,Zg ez (λ_ _ _ e=>by cases e)]
    |ret =>obtain⟨q1,q2⟩:=IL m2 dS m6 .done (some .ret);refine⟨.bool false,_,?_,_,rfl,.bool false,ρ2,_,m7,.bool _,q1,k5.trans (j2.trans (m5.trans q2))⟩;simp[Instr.endRound,Yr ez,Zg ez (λ_ _ _ e=>by cases e)]
    |exit id =>obtain⟨q1,q2⟩:=IL m2 dS m6 .done (some (.exit id));refine⟨.bool false,_,?_,_,rfl,.bool false,ρ2,_,m7,.bool _,q1,k5.trans (j2.trans (m5.trans q2))⟩;simp[Instr.endRound,Yr ez,Zg ez (λ_ _ _ e=>by cases e)]
    |goto l=>exact m7.elim
    |panic ch=>exact m7.elim
    |outgrown=>exact m7.elim
   |exit id=>exact k1.elim
   |goto l=>exact k1.elim
   |ret=>exact k1.elim
   |panic ch=>exact k1.elim
   |outgrown=>exact k1.elim
theorem Heap.ext' {U U':Heap}(h:∀ j,U.get j=U'.get j) (hn:U.n=U'.n):U=U':=by obtain⟨g,n,wf⟩:=U;obtain⟨g',n',vM⟩:=U';have hg:g=g':=funext h;simp_all
theorem Mks.push {ds:List Deferred}{w:World}(h:Mks B ds w):Mks B ({target:=.collected w.heap.size,args:=#[]}::ds) (w.alloc (.deferred (some []))):=by
 obtain⟨h0,Ds,h1,h2,h3⟩:=h;have ao:∀ D∈Ds,D<w.heap.size:=(by grind);refine⟨by rw[World.size_alloc];omega,w.heap.size::Ds,by rw[h1];rfl,(by grind),λD hD=>?_⟩;rcases zH.1 hD with rfl|hD
 .refine⟨h0,?_⟩;show (w.heap.push _)[w.heap.size]?=_;simp
 .refine⟨(h3 D hD).1,?_⟩;show (w.heap.push _)[D]?=_
  grind
theorem Ext.q1h {ρ:Plc}{U:Heap}(w:World) (O:Obj):Ext ρ U w ρ U (w.alloc O) :=
 ⟨rfl,rfl,rfl,by have:=World.size_alloc w O;omega,λB hB _=>by show (w.heap.push _)[B]?=_;grind,λ_ _ h=>h,z9 _,λ_ _ _ h=>h⟩
theorem HRel.q1h {ρ:Plc}{U:Heap}{w:World}(h:HRel ρ U w) (O:Obj):HRel ρ U (w.alloc O) :=
 h.world (by have:=World.size_alloc w O;omega) (λi p hp=>by show (w.heap.push _)[p.blk]?=_;rw[Array.getElem?_push,z6 (by have:=h.lt i p hp;omega)]) λg cs hg=>by show (w.heap.push _)[g]?=_;rw[Array.getElem?_push,z6 (by have:=h.tab.lt hg;omega)]
theorem OS {cG ro:Option Nat}{ρ:Plc}{U:Heap}{w:World}{a:Act}{env:Env}(hH:HRel ρ U w) (hL:LRel ρ U.n env a.tmps.toList) (hd:Mks B a.defers w) (hR:RoRel cG ro ρ U.n) (aR:J1j U cG) (fn:FuncId) (ps:Array Nat) (eU body:Code) :
  ∃ (r:Loop) (mark:List Deferred) (w1:World) (ρ1:Plc),(Instr.enterLoop fn a.tmps ps eU body ro).run P w=.ok (w1.heap.size-1,mark) w1/\r.assign=eU/\r.body=body/\r.params=ps /\
   HRel ρ1 (U.push (.obj (.lp env r .ready none) true)) w1/\Ext ρ U w ρ1 (U.push (.obj (.lp env r .ready none) true)) w1/\Mks B (mark++a.defers) w1 /\
   (∀ p,ρ1 U.n=some p->p.blk=w1.heap.size-1):=by
 rcases hR with⟨rfl,rfl⟩|⟨i,l,rfl,rfl,hi,hZ⟩
 .let w0:=w.alloc (.deferred (some []));have fI:HRel ρ U w0:=hH.q1h _;have pN:Ext ρ U w ρ U w0:=Ext.q1h _ _;let r:Loop:={state:=.ready,pending:=none,fn,tmps:=a.tmps,params:=ps,assign:=eU,body:=body,defers:=w.heap.size};obtain⟨ρ1,h1,h2,h3⟩:=fI.newObj (.lp env r .ready none) (.loop r) ⟨rfl,hL⟩;have aD:(w0.alloc (.loop r)).heap.size-1=w0.heap.size:=by simp_all
  refine⟨r,[{target:=.collected w.heap.size,args:=#[]}],w0.alloc (.loop r),ρ1,?_,rfl,rfl,rfl,h2,pN.trans h3,?_,λp hp=>?_⟩
  .rw[aD];simp[Instr.enterLoop];exact⟨(World.size_alloc w _).symm,rfl⟩
  .exact(hd.push).ext fI h3
  simp_all
 .obtain⟨tS,r0,st,pend,hb⟩:=aR;obtain⟨p,hp,aE,_⟩:=D6 hH hb;have aY:=hZ p hp;subst aY;let r:Loop:={state:=.ready,pending:=none,fn,tmps:=a.tmps,params:=ps,assign:=eU,body:=body,defers:=r0.defers};obtain⟨ρ1,h1,h2,h3⟩:=hH.newObj (.lp env r .ready none) (.loop r) ⟨rfl,hL⟩;have aD:(w.alloc (.loop r)).heap.size-1=w.heap.size:=by simp_all
  refine⟨r,[],w.alloc (.loop r),ρ1,?_,rfl,rfl,rfl,h2,h3,?_,λp hp=>?_⟩
  .rw[aD];simp[Instr.enterLoop,Yr aE];rfl
  .exact hd.ext hH h3
  simp_all
theorem OT (hS:OkSpecs P S) {eU body:Code}{va vb:VCode}(ha:Sound P S eU va) (hb:Sound P S body vb) (g:Operand) (hg:WZ g=true) (ps:Array Nat):Sound P S (.rangeFunc g ps eU body) (.rangeF g ps.toList va vb):=by
 intro B cG ro n Q env U ρ w a h hH hL hd hR Q' hQ;simp only[vwp,O9] at h;have gH:=YT hL hg;split at h
 .rename_i f first cap bZ
  rw[bZ] at gH;split at h
  .rename_i T hT;obtain⟨aR,h⟩:=h;refine wpIn_rangeFunc λfn _=>?_;obtain⟨r,mark,w1,ρ1,he,ff,dE,kH,iN,ft,aP,dL⟩:=OS (P:=P) hH hL hd hR aR fn ps eU body;obtain⟨h_,mH⟩:=hS.it f T hT;obtain⟨gs,ds,oI,lK,jv⟩:∃ gs ds,a.eval g=.func (.func f) gs ds/\LRel ρ U.n first.toList gs.toList/\LRel ρ U.n cap.toList ds.toList:=by
    cases oI:a.eval g with
    |func vN gs ds =>
     rw[oI] at gH;cases gH with
     |func _ _ _ _ _ k1 k2 k3 k4=>exact⟨gs,ds,rfl,LRel.of_array k1 k3,LRel.of_array k2 k4⟩
    |_=>rw[oI] at gH;cases gH
   have hY:UQ P U.n (Q0y (vwp S va (some U.n)) (vwp S vb (some U.n)) ps.toList env r U.n):=(by grind [OO]);have kK:=mH U.n _ hY _ _ _ (h r) ρ1 w1 (gs++#[.func (.yield (w1.heap.size-1)) #[] #[]]++ds) iN (by
    have k1:=ft.lrel lK;have k2:=ft.lrel jv;have k3:LRel ρ1 (U.push (.obj (.lp env r .ready none) true)).n [.func (.yield U.n) #[] #[]] [.func (.yield (w1.heap.size-1)) #[] #[]] :=
     LRel.cons (.yield _ _ (by simp) (λp hp=>(dL p hp).symm)) (LRel.nil _ _)
    have:=(k1.append k3).append k2;simpa using this)
   refine⟨w1.heap.size-1,mark,w1,{target:=.fn (.func f) ds,args:=gs++#[.func (.yield (w1.heap.size-1)) #[] #[]]},w1,f,gs++#[.func (.yield (w1.heap.size-1)) #[] #[]]++ds,w1,?_,?_,λ_ _=>Q3f _ _,?_,(by grind [ES]),?_⟩
   .rw[Q7t];exact he
   .simp[resolve,oI,Deferred.ofValue];rfl
   .simp only[invoke];exact G0 h_ _ _
   .refine (Q1t kK).mono λe w3 ⟨c,tT,v,ρ3,σ3,k1,k2,k3,k4⟩=>?_;subst tT;unfold Q93 at k1;split at k1
    .rename_i ah r' st pend mn;obtain⟨bu,k1⟩:=k1;obtain⟨p3,rD,ia,rE⟩:=D6 k3 mn;have aY:p3.blk=w1.heap.size-1:=dL p3 (k4.pl U.n (by simp) p3 rD);obtain⟨q1,q2⟩:=IL k3 rD mn .exhausted pend;rw[aY] at ia q1 q2;obtain⟨q3,q4⟩:=q1.kill U.n;have fG:(σ3.upd U.n (.obj (.lp ah r' .exhausted pend) true)).kill U.n=σ3.kill U.n:=by
      apply Heap.ext'
      .grind [Heap.q0g,Heap.q0c,Heap.q0b]
      .rfl
     rw[fG] at q3 q4;have jF:=ft.trans (k4.trans (q2.trans q4));have c_:=aP.ext iN (k4.trans (q2.trans q4));refine⟨pend,_,by simp[Instr.endLoop,Yr ia,Zg ia (λ_ _ _ e=>by cases e),bu];rfl,?_⟩;have hU:∀ K:Env->Heap->Prop,K env (σ3.kill U.n)->Rh B (List.length env) ρ U w K {a with defers:=mark++a.defers} (Rq w3 (w1.heap.size-1) (.loop {r' with state:=.exhausted,pending:=pend})):=λK hK =>
      ⟨env,_,_,hK,rfl,q3,jF.lrel hL,c_,jF⟩
     grind [wpIn_ret,wpIn_exit]
    .exact k1.elim
  .exact h.elim
 .exact h.elim
end
end Go.V
namespace Go.V
open Go
theorem KG {ev fv:Operand->Value}(x:Option Operand) (d:Nat) (h:∀ y∈x.toList,ev y=fv y):Xs ev x d=Xs fv x d:=by
 cases x with
 |none=>rfl
 |some y=>simp only[Xs];rw[h y (by simp)]
theorem Q3a {o:XOp}{ev fv:Operand->Value}{U:Heap}(h:∀ x∈o.opds,ev x=fv x):ZT o ev U=ZT o fv U:=by cases o<;>simp only[XOp.opds,zH,List.not_mem_nil,or_false,forall_eq_or_imp,forall_eq] at h<;>simp only[ZT]<;>(try simp only[h])
theorem PM {o:VOp}{ev fv:Operand->Value}{U:Heap}(h:∀ x∈o.opds,ev x=fv x):Q7 o ev U=Q7 o fv U:=by
 cases o
 case build z ps =>
  have:(ps.map λp=>(p.1,p.2.1,ev p.2.2))=ps.map λp=>(p.1,p.2.1,fv p.2.2):=xk λp hp=>by rw[h p.2.2 (zC.2 ⟨p,hp,rfl⟩)]
  simp only[Q7,this]
 case buildSlice e z n ps =>
  have:(ps.map λp=>(p.1*e.sz,e.sz,ev p.2))=ps.map λp=>(p.1*e.sz,e.sz,fv p.2):=xk λp hp=>by rw[h p.2 (zC.2 ⟨p,hp,rfl⟩)]
  simp only[Q7,this]
 case makeFunc fn a b =>
  have h1:a.map ev=a.map fv:=xk λx hx=>h x (xW _ hx);have h2:b.map ev=b.map fv:=xk λx hx=>h x (wu _ hx);simp only[Q7,h1,h2]
 case slice size x lo hi mx =>
  have h1:=KG lo 0 (λy hy=>h y (by simp[VOp.opds] at *;exact .inr (.inl hy)));have h2:∀ n,Xs ev hi n=Xs fv hi n:=λn=>KG hi n (λy hy=>h y (by simp[VOp.opds] at *;exact .inr (.inr (.inl hy))));have h3:=KG mx 0 (λy hy=>h y (by simp[VOp.opds] at *;exact .inr (.inr (.inr hy))));have h4:=h x (by simp[VOp.opds]);simp only[Q7,h4];cases fv x<;>simp only[h1,h2,h3]
 case sliceStr x lo hi =>
  have h1:=KG lo 0 (λy hy=>h y (by simp[VOp.opds] at *;exact .inr (.inl hy)));have h2:∀ n,Xs ev hi n=Xs fv hi n:=λn=>KG hi n (λy hy=>h y (by simp[VOp.opds] at *;exact .inr (.inr hy)));have h4:=h x (by simp[VOp.opds]);simp only[Q7,h4];cases fv x<;>simp only[h1,h2]
 case ext o=>exact Q3a h
 all_goals
  simp only[VOp.opds,zH,List.not_mem_nil,or_false,forall_eq_or_imp,forall_eq] at h;simp only[Q7];try simp only[h]
theorem Iw {S:VSpecs}{o:VOp}{env ah:Env}{U:Heap}{K:Value->Heap->Prop}(h:∀ x∈o.opds,Q5 env x=Q5 ah x):vop S o env U K=vop S o ah U K:=by
 cases o
 case callF f bR =>
  have:bR.map (Q5 env)=bR.map (Q5 ah):=xk h;simp only[vop,this]
 case callV f bR =>
  have h1:Q5 env f=Q5 ah f:=h f (by simp[VOp.opds]);have h2:bR.map (Q5 env)=bR.map (Q5 ah):=xk λx hx=>h x (by simp[VOp.opds,hx]);simp only[vop,h1,h2]
 case ext o =>
  by_cases hx:∃ x,o=.nextMap x
  .obtain⟨x,rfl⟩:=hx;have h1:Q5 env x=Q5 ah x:=h x (by simp[VOp.opds,XOp.opds]);simp only[vop,h1]
  .have e1:=PM (U:=U) h;cases o<;>first|exact absurd ⟨_,rfl⟩ hx|(simp only[vop];rw[e1])
 all_goals
  have e1:=PM (U:=U) h;simp only[vop];rw[e1]
theorem Heap.Le.refl (U:Heap):U.Le U:=⟨z9 _,λ_ _ h=>h⟩
theorem Heap.Le.trans {U U' aL:Heap}(h:U.Le U') (k:U'.Le aL):U.Le aL:=⟨zO h.1 k.1,λi b hb=>k.2 i b (h.2 i b hb)⟩
theorem Z9j {U U':Heap}(h:U.Le U') {esz:Nat}{v:Value}{xs:List Value}(hx:U.sl esz v=some xs):U'.sl esz v=some xs:=by
 unfold Heap.sl at hx |-;split at hx
 .exact hx
 .rename_i i o n c;split at hx
  .rename_i cs e wr t hb;simp only[h.2 i _ hb];exact hx
  .cases hx
 .cases hx
theorem Fc {U U':Heap}(h:U.Le U') {m:Nat}{x:List Wl×Nat×Bool}(hx:U.mapAt m=some x):U'.mapAt m=some x:=by
 unfold Heap.mapAt at hx |-;split at hx
 .rename_i es clock wr hb;simp only[h.2 m _ hb];exact hx
 .cases hx
theorem Q32 {U U':Heap}(h:U.Le U') {kd:Nat}{a b:Value}{r:Bool}(hx:Xy kd a b U=some r):Xy kd a b U'=some r:=by
 unfold Xy at hx |-
 split at hx<;>first
  |exact hx
  |(cases hx;done)
  |skip
 rename_i i o j q;split at hx
 .rename_i hc;obtain⟨h1,h2,h3⟩:=hc;obtain⟨b,hb⟩:=Option.isSome_iff_exists.1 h3;rw[z7 ⟨h1,h2,by rw[h.2 _ _ hb];rfl⟩];exact hx
 .cases hx
theorem FQ {neg:Bool}{s:List MK}{x y:Operand}{ev:Operand->Value}{U U' σ1:Heap}{v:Value}(h:ZT (.eqAgg neg s x y) ev U=some (v,σ1)):ZT (.eqAgg neg s x y) ev U'=some (v,U'):=by
 simp only[ZT] at h |-;split at h
 .simp_all
 .cases h
theorem Q6i {o:XOp}{ev:Operand->Value}{U U' σ1:Heap}{v:Value}(hk:(VOp.ext o).kind≠2) (h:ZT o ev U=some (v,σ1)) (hl:U.Le U'):ZT o ev U'=some (v,U'):=by
 cases o<;>simp only[VOp.kind,VOp.quiet,XOp.quiet] at hk<;>try (exact absurd rfl hk)
 case eqAgg neg s x y=>exact FQ h
 case eqNil kd neg x y =>
  simp only[ZT] at h |-
  grind [Q32]
 case lookup mk z ok x i =>
  simp only[ZT] at h |-;split at h
  .rename_i bH;rw[z7 bH];split at h
   .simp_all
   .rename_i m pO;split at h
    .rename_i es clock wr hm;simp only[Fc hl hm]
     grind
    .cases h
   .cases h
  .cases h
 case lenMap x =>
  simp only[ZT] at h |-
  grind [Fc]
 case entry x =>
  simp only[ZT] at h |-;split at h
  .rename_i i hx;split at h
   .rename_i m since seen last wr hb;simp only[hl.2 i _ hb];split at h
    .rename_i es clock kD b hm dA;simp only[Fc hl hm,dA]
     grind
    .cases h
   .cases h
  .cases h
 case toUnsafe x =>
  simp only[ZT] at h |-;split at h
  .simp_all
  .rename_i i o hx;split at h
   .rename_i c e wr t hb;simp only[hl.2 i _ hb];simp_all
   .cases h
  .cases h
 case fromUnsafe u sz x =>
  simp only[ZT] at h |-;split at h
  .simp_all
  .rename_i i o hx;split at h
   .rename_i c e hb;simp only[hl.2 i _ hb];simp_all
   .cases h
  .cases h
 case sliceData x =>
  simp only[ZT] at h |-;split at h
  .simp_all
  .rename_i i o n cap hx;split at h
   .rename_i hc;obtain⟨h1,h2⟩:=hc;obtain⟨b,hb⟩:=Option.isSome_iff_exists.1 h2;rw[z7 ⟨h1,by rw[hl.2 _ _ hb];rfl⟩];simp_all
   .cases h
  .cases h
 case bytesStr x =>
  simp only[ZT] at h |-;split at h
  .grind [Z9j]
  .cases h
theorem Lw {o:VOp}{ev:Operand -> Value}{U U' σ1:Heap}{v:Value}(hk:o.kind = 0) (h:Q7 o ev U = some (v, σ1)):Q7 o ev U' = some (v, U'):=by
  cases o
  case ext o =>
    cases o <;> first | (simp [VOp.kind, VOp.quiet, XOp.quiet] at hk; done) | skip
    case eqAgg neg s x y => exact FQ h
  case slice size x lo hi mx => cases mx <;> simp [VOp.kind, VOp.quiet] at hk
  case build z ps =>
    simp only [Q7] at h |-;split at h
    . simp_all
    . cases h
  all_goals first
    | (simp [VOp.kind, VOp.quiet] at hk; done)
    | skip
  all_goals
    simp only [Q7] at h |-
    (repeat' split at h) <;> first
      | (cases h; done)
      | (rename_i pP; obtain ⟨rfl, rfl, rfl⟩:=pP; simp_all; done)
      | (simp_all; done)
      | (simp_all
         obtain ⟨rfl, _⟩:=h
         first
          | rw [z6 (by omega)]
          | rw [z7 (by omega)])
theorem Lq {o:VOp}{ev:Operand->Value}{U U' σ1:Heap}{v:Value}(hk:o.kind≠2) (h:Q7 o ev U=some (v,σ1)) (hl:U.Le U'):Q7 o ev U'=some (v,U'):=by
 cases o
 case ext o=>exact Q6i hk h hl
 case load agg size a =>
  simp only[Q7] at h |-;split at h
  .split at h
   .split at h
    .rename_i hall;rw[z7 hall];split at h
     .simp_all
     .cases h
    .cases h
   .cases h
  .rename_i i o hx;split at h
   .rename_i c e wr t hb;simp only[hl.2 i _ hb];split at h
    .simp_all
    .cases h
   .cases h
  .cases h
 case slice size x lo hi mx =>
  cases mx with
  |some m=>simp[VOp.kind,VOp.quiet] at hk
  |none =>
   simp only[Q7] at h |-;split at h
   .rename_i a n cap hx;split at h
    .rename_i l k dL b_;unfold K7 at h |-;split at h
     .simp_all
     .rename_i i o n' av heq;split at h
      .rename_i c e wr t hb;simp only[hl.2 i _ hb];simp_all
      .cases h
     .cases h
    .rename_i hm;cases hm
    .cases h
   .cases h
 all_goals first
  |(exact absurd rfl hk)
  |(exact Lw rfl h)
section
variable {P:Program}{S:VSpecs}{B:Nat}
def EL (lv:List VOper) (env:Env) (tr:Nat->Value) (A:Nat->Bool):Nat->Env
 |0=>env
 |i+1=>if A i then Ww (EL lv env tr A i) ((lv[i]?).bind (·.dst)) (tr i) else EL lv env tr A i
theorem U3 (lv:List VOper) (env:Env) (tr:Nat->Value) (A:Nat->Bool):∀ i,List.length (EL lv env tr A i)=List.length env
 |0=>rfl
 |i+1=>by
  simp only[EL];split
  .rw[JK];exact U3 lv env tr A i
  .exact U3 lv env tr A i
theorem Us (lv:List VOper) (env:Env) {tr tr':Nat->Value}{A B:Nat->Bool}:∀ i,(∀ l,l<i->tr l=tr' l)->(∀ l,l<i->A l=B l)->EL lv env tr A i=EL lv env tr' B i
 |0,_,_=>rfl
 |i+1,h,h'=>by simp only[EL];rw[Us lv env i (λl hl=>h l (by omega)) (λl hl=>h' l (by omega)),h i (by omega),h' i (by omega)]
theorem Bp (env:Env) (d:Option Nat) (v:Value) {x:Nat}(h:d≠some x):(Ww env d v)[x]?=env[x]?:=by
 cases d with
 |none=>rfl
 |some d=>simp only[Ww];rw[List.getElem?_set_ne (by rintro rfl;exact h rfl)]
theorem Z5l (lv:List VOper) (env:Env) {tr tr':Nat->Value}{A:Nat->Bool}:∀ i,(∀ l,l<i->A l=true->tr l=tr' l)->EL lv env tr A i=EL lv env tr' A i
 |0,_=>rfl
 |i+1,h=>by simp only[EL];rw[Z5l lv env i λl hl hA=>h l (by omega) hA];simp_all
theorem BA (lv:List VOper) (env:Env) (tr:Nat->Value) {A B:Nat->Bool}(x:Nat):∀ i,(∀ l,l<i->(lv[l]?).bind (·.dst)=some x->A l=B l)->(EL lv env tr A i)[x]?=(EL lv env tr B i)[x]?
 |0,_=>rfl
 |i+1,h=>by
  have ih:=BA lv env tr x i (λl hl hd=>h l (by omega) hd);by_cases hd:(lv[i]?).bind (·.dst)=some x
  .have lT:=h i (by omega) hd;simp only[EL];rw[lT];split
   .rw[hd];simp only[Ww,xF];rw[U3,U3];rfl
   .exact ih
  .simp only[EL]
   grind [Bp]
theorem Ho (lv:List VOper) (env:Env) (tr:Nat->Value) (j:Nat):∀ i,j<=i->EL lv env tr (λl=>decide (l<j)) i=EL lv env tr (λ_=>true) j
 |0,h=>by
  obtain rfl:j=0:=by omega
  rfl
 |i+1,h=>by
  by_cases hj:j=i+1
  .subst hj;exact Us lv env _ (λ_ _=>rfl) (λl hl=>by simp[hl])
  .simp only[EL];rw[z6 (by simp;omega)];exact Ho lv env tr j i (by omega)
def DFact (S:VSpecs) (d:DInfo) (lv:List VOper) (env:Env) (tr:Nat->Value) (hp:Nat->Heap) (u:Nat) (i:Nat):Prop :=
 ∀ v,lv[i]?=some v->∃ b,Xu (EL lv env tr (λ_=>true) i) v.guard=some b /\
  (b=true->v.op.kind=2->vop S v.op (EL lv env tr (λ_=>true) i) (hp (d.rank i)) (λv' U'=>v'=tr i/\U'=hp (d.rank i+1))) /\
  (b=true->v.op.kind=1->∀ r,d.kmin i<=r->r<=d.kmax i->r<=u->∃ U',Q7 v.op (Q5 (EL lv env tr (λ_=>true) i)) (hp r)=some (tr i,U')) /\
  (b=true->v.op.kind≠1->v.op.kind≠2->∃ U',Q7 v.op (Q5 (EL lv env tr (λ_=>true) i)) (hp (d.rank i))=some (tr i,U')) /\
  (b=false->tr i=undef/\(v.op.kind=2->hp (d.rank i+1)=hp (d.rank i)))
def Z6d (d:DInfo) (lv:List VOper) (env:Env) (tr:Nat->Value) (i:Nat) (pend:List (Nat×(Heap->Prop))):Prop :=
 ∀ l,l<i->∀ v,lv[l]?=some v->Xu (EL lv env tr (λ_=>true) l) v.guard=some true->v.op.kind=1->d.rank i+1<=d.kmax l->(d.kmax l,Wy v.op (Q5 (EL lv env tr (λ_=>true) l)) (tr l))∈pend
inductive Know (S:VSpecs) (d:DInfo) (lv:List VOper) (env:Env) (K:Env->Heap->Prop):List Nat->Nat->(Nat->Value)->(Nat->Heap)->Prop
 |full {nd:List Nat}{tr:Nat->Value}{hp:Nat->Heap}(hF:∀ l,l<lv.length->l∉nd->DFact S d lv env tr hp (d.rank lv.length) l) (hK:K (EL lv env tr (λ_=>true) lv.length) (hp (d.rank lv.length))):Know S d lv env K nd lv.length tr hp
 |part {nd:List Nat}{i:Nat}{tr:Nat->Value}{hp:Nat->Heap}{v:VOper}(hv:lv[i]?=some v) (hk:v.op.kind=2) (hw:Xu (EL lv env tr (λ_=>true) i) v.guard=some true)
   (hF:∀ l,l<i->l∉nd->DFact S d lv env tr hp (d.rank i) l) (jG:∀ j,i<j->j<lv.length->∃ e u,i<=e/\e<j/\lv[e]?=some u/\((∃ x,u.dst=some x/\∀ v,lv[j]?=some v->x∈Uj v)\/(u.op.kind=2/\∀ v,lv[j]?=some v->v.op.kind=2)))
   (R:Value->Heap->Prop) (fJ:vop S v.op (EL lv env tr (λ_=>true) i) (hp (d.rank i)) R)
   (I:∀ u U',R u U'->Nat) (T:∀ u U',R u U'->Nat->Value) (H:∀ u U',R u U'->Nat->Heap)
   (hT:∀ u U' h,i<I u U' h/\(∀ l,l<i->T u U' h l=tr l)/\T u U' h i=u/\(∀ r,r<=d.rank i->H u U' h r=hp r)/\H u U' h (d.rank i+1)=U')
   (next:∀ u U' h,Know S d lv env K (i::nd) (I u U' h) (T u U' h) (H u U' h)):Know S d lv env K nd i tr hp
theorem I0 {r:Nat}{U:Heap}:∀ {l:List (Nat×(Heap->Prop))},WQ r U l->∀ c∈l,r<=c.1->c.2 U
 |[],_,_,h=>by cases h
 |x::l,h,c,hc=>by
  rcases zH.1 hc with rfl|hc
  .exact h.1
  .exact I0 h.2 c hc
theorem RZ {op:VOp}{ev:Operand->Value}{v:Value}{Z:Heap}(h:Wy op ev v Z):∃ U',Q7 op ev Z=some (v,U'):=by
 unfold Wy at h;cases hv:Q7 op ev Z with
 |none=>rw[hv] at h;exact h.elim
 |some q =>rw[hv] at h;have h:q.1=v:=h;exact⟨q.2,by rw[<-h]⟩
theorem DFact.congr {d:DInfo}{lv:List VOper}{env:Env}{tr tr':Nat->Value}{hp bz:Nat->Heap}{u u' l:Nat}(h:DFact S d lv env tr hp u l) (ht:∀ k,k<=l->tr' k=tr k) (hh:∀ r,r<=u->bz r=hp r) (hr:d.rank l<=u) (h2:∀ v,lv[l]?=some v->v.op.kind=2->d.rank l+1<=u)
  (hu:∀ v,lv[l]?=some v->Xu (EL lv env tr (λ_=>true) l) v.guard=some true->v.op.kind=1->∀ r,u<r->r<=u'->r<=d.kmax l->∃ U',Q7 v.op (Q5 (EL lv env tr (λ_=>true) l)) (bz r)=some (tr l,U')):DFact S d lv env tr' bz u' l:=by
 intro v hv;obtain⟨b,f1,f2,f3,f4,f5⟩:=h v hv;have e:=Us lv env (tr:=tr') (tr':=tr) (A:=λ_=>true) (B:=λ_=>true) l (λk hk=>ht k (by omega)) (λ_ _=>rfl);rw[e,ht l (z9 _),hh _ hr]
 grind
theorem Ax:∀ (d:DInfo) (rest:List VOper) (i:Nat) (xs:List Nat),waits xs (d.opers rest i)=true->∀ (k:Nat) (v:VOper),rest[k]?=some v->v.op.kind=2\/(∃ x∈xs,x∈Uj v)\/∃ (e:Nat) (u:VOper) (x:Nat),e<k/\rest[e]?=some u/\u.dst=some x/\x∈Uj v
 |d,[],i,xs,_,k,v,hv=>by simp at hv
 |d,o::rest,i,xs,h,k,v,hv=>by
  simp only[DInfo.opers,waits,z0,zt,xS,zU] at h;obtain⟨h1,h2⟩:=h;cases k with
  |zero =>
   obtain rfl:o=v:=by simpa using hv
   rcases h1 with h1|⟨x,hx,bm⟩
   .exact .inl h1
   refine .inr (.inl ⟨x,by simpa using bm,?_⟩);simp only[Uj,xj] at hx |-;rcases hx with hx|hx
   .exact .inl (.inr hx)
   .exact .inr hx
  |succ k =>
   rcases Ax d rest (i+1) _ h2 k v (by simpa using hv) with h3|⟨y,hy,rF⟩|⟨e,u,y,he,hu,hd,hn⟩
   .exact .inl h3
   .rcases xj.1 hy with hy|hy
    .exact .inr (.inr ⟨0,o,y,by omega,rfl,by simpa using hy,rF⟩)
    .exact .inr (.inl ⟨y,hy,rF⟩)
   .exact .inr (.inr ⟨e+1,u,y,by omega,by simpa using hu,hd,hn⟩)
theorem O8 (d:DInfo) {i j:Nat}(h:i<=j):d.rank i<=d.rank j:=by
 induction j with
 |zero =>
  obtain rfl:i=0:=by omega
  exact z9 _
 |succ j ih =>
  by_cases cy:i=j+1
  .subst cy;exact z9 _
  .have:=ih (by omega);simp only[DInfo.rank];split<;>omega
theorem Z48 (d:DInfo) (lv:List VOper) (lU:∀ i v,lv[i]?=some v->d.k i=v.op.kind) (env:Env) (K:Env->Heap->Prop):∀ (rest:List VOper) (i:Nat),i<=lv.length->lv.drop i=rest->∀ (nd:List Nat) (tp:Nat->Value) (hq:Nat->Heap) (pend:List (Nat×(Heap->Prop))),
  (∀ l,l<i->l∉nd->DFact S d lv env tp hq (d.rank i) l)->Z6d d lv env tp i pend ->
  J_ S (d.opers rest i) (EL lv env tp (λ_=>true) i) ((List.range (d.rank i+1)).map hq) (hq (d.rank i)) pend K ->
  ∃ k tr hp,i<=k/\(∀ l,l<i->tr l=tp l)/\(∀ r,r<=d.rank i->hp r=hq r)/\Know S d lv env K nd k tr hp:=by
 intro rest;induction rest with
 |nil =>
  intro i hZ hi nd tp hq pend hF hP h;have hl:lv.length<=i:=by simpa using hi
  obtain rfl:i=lv.length:=by omega
  simp only[DInfo.opers,J_] at h;exact⟨_,tp,hq,z9 _,λ_ _=>rfl,λ_ _=>rfl,.full hF h⟩
 |cons v rest ih =>
  intro i hZ hi nd tp hq pend hF hP h;have ao:i<lv.length:=by
   grind
  have hv:lv[i]?=some v:=by
   have:=congrArg List.head? hi
   grind [List.head?_drop]
  have gh:lv.drop (i+1)=rest:=by have:=congrArg List.tail hi;simpa using this
  have hk:=lU i v hv;have ff:v.op.kind=2->d.rank (i+1)=d.rank i+1:=λe=>by simp only[DInfo.rank,hk,e,zq]
  have jA:v.op.kind≠2->d.rank (i+1)=d.rank i:=λe=>by simp only[DInfo.rank,hk,e,if_false]
  have eo:∀ l,l<i->d.rank l<=d.rank i/\∀ w,lv[l]?=some w->w.op.kind=2->d.rank l+1<=d.rank i:=λl hl=>by have h1:=O8 d (show l+1<=i by omega);refine⟨by simp only[DInfo.rank] at h1;split at h1<;>omega,λw hw h2=>?_⟩;simp only[DInfo.rank,lU l w hw,h2,zq] at h1;exact h1
  simp only[DInfo.opers,J_] at h;have hlen:((List.range (d.rank i+1)).map hq).length=d.rank i+1:=by simp
  cases hw:Xu (EL lv env tp (λ_=>true) i) v.guard with
  |none=>rw[hw] at h;exact h.elim
  |some b =>
   rw[hw] at h;obtain⟨ht,hf⟩:=h
   have go:∀ (jg:List Nat) (u:Value) (U':Heap) (bP:List (Nat×(Heap->Prop))),(∀ l,l∈nd->l∈jg) ->
     J_ S (d.opers rest (i+1)) (Ww (EL lv env tp (λ_=>true) i) v.dst u) (if v.op.kind=2 then (List.range (d.rank i+1)).map hq++[U'] else (List.range (d.rank i+1)).map hq) (if v.op.kind=2 then U' else hq (d.rank i)) bP K ->
     (v.op.kind=2->WQ (d.rank i+1) U' pend)->(∀ c∈pend,c∈bP) ->
     (b=true->v.op.kind=1->d.rank i+1<=d.kmax i->(d.kmax i,Wy v.op (Q5 (EL lv env tp (λ_=>true) i)) u)∈bP) ->
     (i∉jg->∀ tr hp,(∀ l,l<i->tr l=tp l)->tr i=u->(∀ r,r<=d.rank i->hp r=hq r)->(v.op.kind=2->hp (d.rank i+1)=U')->DFact S d lv env tr hp (d.rank (i+1)) i) ->
     ∃ k tr hp,i<k/\(∀ l,l<i->tr l=tp l)/\tr i=u/\(∀ r,r<=d.rank i->hp r=hq r)/\(v.op.kind=2->hp (d.rank i+1)=U')/\Know S d lv env K jg k tr hp:=by
    intro jg u U' bP gi h jH jh kL mI;let ib:Nat->Value:=λl=>if l=i then u else tp l
    let dB:Nat->Heap:=λr=>if v.op.kind=2/\r=d.rank i+1 then U' else hq r
    have et:∀ l,l<i->ib l=tp l:=(by grind);have ei:ib i=u:=by simp[ib]
    have eh:∀ r,r<=d.rank i->dB r=hq r:=(by grind);have rG:v.op.kind=2->dB (d.rank i+1)=U':=λaB=>by simp[dB,aB]
    have e1:EL lv env ib (λ_=>true) (i+1)=Ww (EL lv env tp (λ_=>true) i) v.dst u:=by simp only[EL,zq];rw[Us lv env (tr:=ib) (tr':=tp) i et (λ_ _=>rfl),hv,ei];rfl
    have e2:(List.range (d.rank (i+1)+1)).map dB=if v.op.kind=2 then (List.range (d.rank i+1)).map hq++[U'] else (List.range (d.rank i+1)).map hq:=by
     grind [List.range_succ,List.map_congr_left]
    have e3:dB (d.rank (i+1))=if v.op.kind=2 then U' else hq (d.rank i):=by simp only[DInfo.rank,hk];split<;>rename_i aB<;>simp[dB,aB]
    have tU:∀ l,l<i+1->l∉jg->DFact S d lv env ib dB (d.rank (i+1)) l:=λl hl fg=>by
     by_cases ic:l=i
     .subst ic;exact mI fg ib dB et ei eh rG
     .have ic:l<i:=by omega
      refine (hF l ic λh=>fg (gi l h)).congr (λk hk=>et k (by omega)) eh (eo l ic).1 (eo l ic).2 λw gI oJ bG r r1 r2 r3=>?_;by_cases aB:v.op.kind=2
      .rw[ff aB] at r2;obtain rfl:r=d.rank i+1:=by omega
       rw[rG aB];exact RZ (I0 (jH aB) _ (hP l ic w gI oJ bG (by omega)) (by simpa using r3))
      .rw[jA aB] at r2;omega
    have tV:Z6d d lv env ib (i+1) bP:=λl hl w gI oJ bG pK=>by
     by_cases ic:l=i
     .subst ic;rw[hv] at gI;obtain rfl:=osj gI;have e:=Us lv env (tr:=ib) (tr':=tp) (A:=λ_=>true) (B:=λ_=>true) l et (λ_ _=>rfl);simp_all
     .have ic:l<i:=by omega
      have e:=Us lv env (tr:=ib) (tr':=tp) (A:=λ_=>true) (B:=λ_=>true) l (λk hk=>et k (by omega)) (λ_ _=>rfl);rw[e] at oJ |-;rw[et l ic];have hle:d.rank i<=d.rank (i+1):=by simp only[DInfo.rank];split<;>omega
      exact jh _ (hP l ic w gI oJ bG (by omega))
    obtain⟨k,tr,hp,k0,k1,k2,k3⟩:=ih (i+1) (by omega) gh jg ib dB bP tU tV (by rw[e1,e2,e3];exact h)
    grind
   have weak:∀ {jg:List Nat}{u:Value}{U':Heap},(∃ k tr hp,i<k/\(∀ l,l<i->tr l=tp l)/\tr i=u/\(∀ r,r<=d.rank i->hp r=hq r)/\(v.op.kind=2->hp (d.rank i+1)=U')/\Know S d lv env K jg k tr hp)->∃ k tr hp,i<=k/\(∀ l,l<i->tr l=tp l)/\(∀ r,r<=d.rank i->hp r=hq r)/\Know S d lv env K jg k tr hp:=by
    grind
   have fact:∀ {u:Value}{U':Heap},(b=true->v.op.kind=1->∀ r,d.kmin i<=r->r<=d.rank i->Wy v.op (Q5 (EL lv env tp (λ_=>true) i)) u (hq r))->(b=true->v.op.kind≠1->v.op.kind≠2->∃ aL,Q7 v.op (Q5 (EL lv env tp (λ_=>true) i)) (hq (d.rank i))=some (u,aL))->(b=false->u=undef/\(v.op.kind=2->U'=hq (d.rank i)))->(b=true->v.op.kind=2->vop S v.op (EL lv env tp (λ_=>true) i) (hq (d.rank i)) (λv' aL=>v'=u/\aL=U')) ->
     ∀ tr hp,(∀ l,l<i->tr l=tp l)->tr i=u->(∀ r,r<=d.rank i->hp r=hq r)->(v.op.kind=2->hp (d.rank i+1)=U')->DFact S d lv env tr hp (d.rank (i+1)) i:=by
    intro u U' g1 g2 g3 k5 tr hp k1 k2 k3 k4 v' jI;rw[hv] at jI;obtain rfl:=osj jI;have e:=Us lv env (tr:=tr) (tr':=tp) (A:=λ_=>true) (B:=λ_=>true) i k1 (λ_ _=>rfl);rw[e,k2,k3 _ (z9 _)]
    grind [RZ]
   cases b with
   |false =>
    have hf:=hf rfl;by_cases aB:v.op.kind=2
    .rw[z7 aB] at hf;obtain⟨kJ,hf⟩:=hf;exact weak (go nd undef (hq (d.rank i)) pend (λ_ h=>h) (by rw[z7 aB,ite_self];exact hf) (by grind) (λ_ h=>h) (λh=>by cases h) (λ_=>fact (λh=>by cases h) (λh=>by cases h) (λ_=>⟨rfl,λ_=>rfl⟩) (λh=>by cases h)))
    .rw[z6 aB] at hf;exact weak (go nd undef (hq (d.rank i)) pend (λ_ h=>h) (by rw[z6 aB,ite_self];exact hf) (λh=>absurd h aB) (λ_ h=>h) (λh=>by cases h) (λ_=>fact (λh=>by cases h) (λh=>by cases h) (λ_=>⟨rfl,λ_=>rfl⟩) (λh=>by cases h)))
   |true =>
    have ht:=ht rfl;by_cases aB:v.op.kind=2
    .rw[z7 aB] at ht;rw[hlen] at ht;rcases ht with⟨u,U',h1,h2,h3⟩|⟨gR,fJ⟩
     .exact weak (go nd u U' pend (λ_ h=>h) (by rw[z7 aB,z7 aB];exact h3) (λ_=>h2) (λ_ h=>h) (λ_ hk=>by omega) (λ_=>fact (λ_ hk=>by omega) (λ_ _ hk=>absurd aB hk) (λh=>by cases h) (λ_ _=>h1)))
     .have nx:∀ u U',(WQ (d.rank i+1) U' pend/\J_ S (d.opers rest (i+1)) (Ww (EL lv env tp (λ_=>true) i) v.dst u) ((List.range (d.rank i+1)).map hq++[U']) U' pend K) ->
        ∃ k tr hp,i<k/\(∀ l,l<i->tr l=tp l)/\tr i=u/\(∀ r,r<=d.rank i->hp r=hq r)/\(v.op.kind=2->hp (d.rank i+1)=U')/\Know S d lv env K (i::nd) k tr hp:=λu U' ⟨h2,h3⟩ =>
       go (i::nd) u U' pend (λ_ h=>x4 _ h) (by rw[z7 aB,z7 aB];exact h3) (λ_=>h2) (λ_ h=>h) (λ_ hk=>by omega) (λh=>absurd zF h)
      refine⟨i,tp,hq,z9 _,λ_ _=>rfl,λ_ _=>rfl,.part hv aB hw hF (λj hj aQ=>?_) _ fJ (λu U' h=>(nx u U' h).choose) (λu U' h=>(nx u U' h).choose_spec.choose) (λu U' h=>(nx u U' h).choose_spec.choose_spec.choose) (λu U' h=>?_) (λu U' h=>?_)⟩
      .obtain⟨n,hn⟩:∃ n,j=i+1+n:=⟨j-(i+1),by omega⟩;subst hn;have tW:∀ k w,lv[i+1+k]?=some w->rest[k]?=some w:=(by grind);have pQ:∀ k w,rest[k]?=some w->lv[i+1+k]?=some w:=(by grind);have tX:=z8 aQ;rcases Ax d rest (i+1) _ gR n _ (tW n _ tX) with pR|⟨x,hx,kM⟩|⟨e,u,x,he,hu,hd,kM⟩
       .exact⟨i,v,z9 _,by omega,hv,(by grind)⟩
       .exact⟨i,v,z9 _,by omega,hv,(by grind)⟩
       .exact⟨i+1+e,u,by omega,by omega,pQ e u hu,(by grind)⟩
      .grind
      grind
    .rw[z6 aB] at ht;by_cases bG:v.op.kind=1
     .rw[z7 bG] at ht;cases dD:Q7 v.op (Q5 (EL lv env tp (λ_=>true) i)) (hq (d.rank i)) with
      |none=>rw[dD] at ht;exact ht.elim
      |some p =>
       rw[dD] at ht;obtain⟨g1,g2⟩:=ht;refine weak (go nd p.1 (hq (d.rank i)) _ (λ_ h=>h) (by rw[z6 aB,ite_self];exact g2) (λh=>absurd h aB) (λc hc=>?_) (λ_ _ hr=>?_) (λ_=>fact (λ_ _ r tY tZ=>?_) (λ_ hk=>absurd bG hk) (λh=>by cases h) (λ_ hk=>absurd hk aB)))
       .grind
       .grind
       .refine g1 _ ?_;rw[x5];refine⟨r-d.kmin i,?_⟩
        grind
     .rw[z6 bG] at ht;cases dD:Q7 v.op (Q5 (EL lv env tp (λ_=>true) i)) (hq (d.rank i)) with
      |none=>rw[dD] at ht;exact ht.elim
      |some p =>rw[dD] at ht;exact weak (go nd p.1 (hq (d.rank i)) pend (λ_ h=>h) (by rw[z6 aB,ite_self];exact ht) (λh=>absurd h aB) (λ_ h=>h) (λ_ hk=>absurd hk bG) (λ_=>fact (λ_ hk=>absurd hk bG) (λ_ _ _=>⟨p.2,dD⟩) (λh=>by cases h) (λ_ hk=>absurd hk aB)))
structure DOk (d:DInfo) (n:Nat):Prop where
 edge:∀ j,j<n->∀ e∈d.ed.getD j [],e<j
 path:∀ j,j<n->∀ i,i<j->d.lt i j=true->∃ e∈d.ed.getD j [],e=i\/(i<e/\d.lt i e=true)
 free:∀ j,j<n->∀ i,i<j->d.lt i j=false->d.touch i j=false/\¬(d.k i=2/\d.k j=2)
 kmin:∀ j,j<n->d.k j=1->(d.kmin j<=d.rank j/\d.rank j<=d.kmax j)/\d.kmax j<=d.rank n/\∀ l,l<n->d.k l=2->((d.lt l j=true<->d.rank l<d.kmin j)/\(d.lt j l=true<->d.kmax j<=d.rank l))
theorem DOk.of {d:DInfo}(h:d.ok=true):DOk d d.ks.length:=by
 have h0:∀ j,j<d.ks.length->d.okE j=true/\d.okP j=true/\d.okK j=true:=λj hj=>by have:=zg.1 h j (zG.2 hj);simpa [z0] using this
 refine⟨λj hj e he=>?_,λj hj i hi ao=>?_,λj hj i hi ao=>?_,λj hj hk=>?_⟩
 .have:=zg.1 (h0 j hj).1 e he;simpa using this
 .have:=zg.1 (h0 j hj).2.1 i (zG.2 hi);simp_all
 .have:=zg.1 (h0 j hj).2.1 i (zG.2 hi)
  grind
 .have:=(h0 j hj).2.2;simp only[DInfo.okK,hk,BEq.rfl,x_,Bool.false_or,z0,zf] at this
  grind
theorem S4 (d:DInfo) {i j:Nat}(h:i<j) (hk:d.k i=2):d.rank i<d.rank j:=by have:=O8 d (show i+1<=j from h);simp only[DInfo.rank,hk,zq] at this;omega
theorem NX (d:DInfo):∀ j r,r<d.rank j->∃ l,l<j/\d.k l=2/\d.rank l=r
 |0,r,h=>by simp[DInfo.rank] at h
 |j+1,r,h=>by
  simp only[DInfo.rank] at h;split at h
  .rename_i hk;rcases zm r (d.rank j) with h'|h'
   .obtain⟨l,h1,h2⟩:=NX d j r h';exact⟨l,by omega,h2⟩
   grind
  .obtain⟨l,h1,h2⟩:=NX d j r h;exact⟨l,by omega,h2⟩
theorem HZ {d:DInfo}{n:Nat}(hd:DOk d n) {A:Nat->Bool}(hc:∀ j,j<n->A j=true->∀ e∈d.ed.getD j [],A e=true):∀ j,j<n->A j=true->∀ i,i<j->d.lt i j=true->A i=true:=by
 intro j;induction j using Nat.strongRecOn with
 |ind j ih =>
  intro hj hA i hi ao;obtain⟨e,he,h⟩:=hd.path j hj i hi ao;have mJ:=hd.edge j hj e he;have gS:=hc j hj hA e he;rcases h with rfl|⟨h1,h2⟩
  .exact gS
  .exact ih e mJ (by omega) gS i h1 h2
def cnt (A:Nat->Bool):Nat->Nat
 |0=>0
 |i+1=>cnt A i+if A i then 0 else 1
theorem Q0v {A:Nat->Bool}:∀ {n},cnt A n=0->∀ i,i<n->A i=true
 |0,_,i,h=>by omega
 |n+1,hc,i,h=>by
  simp only[cnt] at hc;by_cases hi:i=n
  .simp_all
  .exact Q0v (n:=n) (by omega) i (by omega)
theorem Q5a {A B:Nat->Bool}{j:Nat}(hA:A j=false) (hB:B j=true) (h:∀ i,i≠j->A i=B i):∀ n,j<n->cnt A n=cnt B n+1
 |0,hj=>by omega
 |n+1,hj=>by
  simp only[cnt];by_cases aQ:j=n
  .subst aQ;have:cnt A j=cnt B j:=by
    have key:∀ m,m<=j->cnt A m=cnt B m:=by
     intro m;induction m with
     |zero=>intro _;rfl
     |succ m ih=>intro hm;simp only[cnt];rw[ih (by omega),h m (by omega)]
    exact key j (z9 _)
   simp[hA,hB,this]
  .have:=Q5a hA hB h n (by omega);rw[h n (by omega)];omega
theorem Z20 (o:VOp):o.kind<=2:=by
 unfold VOp.kind;split<;>try omega
 split<;>omega
theorem Z12 {o:VOp}{env:Env}{U:Heap}{p:Value×Heap}{K:Value->Heap->Prop}(hk:o.kind≠2) (h:Q7 o (Q5 env) U=some p) (hK:K p.1 p.2):vop S o env U K:=by
 cases o
 case callF=>exact absurd rfl hk
 case callV=>exact absurd rfl hk
 case ext x =>
  cases x
  case nextMap=>exact absurd rfl hk
  all_goals (simp only[vop];rw[h];exact hK)
 all_goals (simp only[vop];rw[h];exact hK)
theorem H7 {o:VOp}{ev:Operand->Value}{U U':Heap}{v:Value}(hk:o.kind≠2) (h:Q7 o ev U=some (v,U')):U'=U:=by have:=Lq hk h (Heap.Le.refl U);simp_all
theorem AN {env ah:Env}{g:Option (Nat×Bool)}(h:∀ x b,g=some (x,b)->env[x]?=ah[x]?):Xu env g=Xu ah g:=by
 cases g with
 |none=>rfl
 |some p =>obtain⟨x,b⟩:=p;simp only[Xu,zd];rw[h x b rfl]
theorem Am {env ah:Env}{x:Operand}(h:∀ t,x=.tmp t->env[t]?=ah[t]?):Q5 env x=Q5 ah x:=by
 cases x<;>try rfl
 rename_i t;simp only[Q5,zd];rw[h t rfl]
structure DInv (B:Nat) (d:DInfo) (lv:List VOper) (env:Env) (tr:Nat->Value) (hp:Nat->Heap) (ρ0:Plc) (σ0:Heap) (w0:World) (A:Nat->Bool) (a:Act) (w:World):Prop where
 closed:∀ j,j<lv.length->A j=true->∀ e∈d.ed.getD j [],A e=true
 run:∃ m ρ,(∀ l,l<lv.length->d.k l=2->(A l=true<->d.rank l<m))/\m<=d.rank lv.length/\HRel ρ (hp m) w/\LRel ρ (hp m).n (EL lv env tr A lv.length) a.tmps.toList/\Mks B a.defers w/\Ext ρ0 σ0 w0 ρ (hp m) w
structure DLink (P:Program) (ops:Array Oper) (pm:List Nat) (d:DInfo) (lv:List VOper):Prop where
 comp:∀ (p:Nat) (v:VOper),lv[p]?=some v->∃ o,ops[pm.getD p 0]?=some o/\Xx P ops o=some v/\d.k p=v.op.kind
 touch:∀ (i j:Nat) (u v:VOper),lv[i]?=some u->lv[j]?=some v->d.touch i j=false->(∀ x,u.dst=some x->x∉Uj v)/\(∀ x,v.dst=some x->x∉Uj u)
 size:pm.length=lv.length
theorem DLink.of {ops:Array Oper}{vs:List VOper}(h:ops.toList.mapM (Xx P ops)=some vs) {d0:DInfo}{pm:List Nat}(ju:∀ i∈pm,i<vs.length):DLink P ops pm (OW d0 vs pm) (Nt vs pm):=by
 obtain⟨h1,h2⟩:=YZ _ _ _ h;refine⟨λp v hv=>?_,λi j u v hu hv ht=>?_,by simp[Nt]⟩
 .simp only[Nt,xu,zj] at hv;obtain⟨i,hi,rfl⟩:=hv;have aR:=ju i (xh hi);have mK:i<ops.toList.length:=by omega
  obtain⟨v,hv,hc⟩:=h2 i _ (z8 mK);have hg:vs.getD i default=v:=by simp[zd,hv]
  have hp:pm.getD p 0=i:=by simp[zd,hi]
  refine⟨ops.toList[i],?_,by rw[hg];exact hc,?_⟩
  .rw[hp];simp
  .simp[DInfo.k,OW,Nt,zd,hi]
 .simp only[DInfo.touch,OW,Z0f,zd,xu,hu,hv,wm,Option.getD_some,Bool.or_eq_false_iff] at ht
  grind
theorem Q12 {v:VOper}{x:Nat}(h:v.dst=some x):x∈Uj v:=by simp[Uj,h]
theorem Q21 {v:VOper}{x:Nat}(h:Operand.tmp x∈v.op.opds):x∈Uj v:=by refine xW _ (wu _ ?_);exact List.mem_filterMap.2 ⟨_,h,rfl⟩
theorem AJ {v:VOper}{x:Nat}{b:Bool}(h:v.guard=some (x,b)):x∈Uj v:=by refine wu _ ?_;simp[h]
theorem S7 (hS:OkSpecs P S) {ro:Option Nat}{n:Nat}{ops:Array Oper}{pm:List Nat}{d:DInfo}{lv:List VOper}(hl:DLink P ops pm d lv) (hd:DOk d lv.length) {env:Env}{tr:Nat->Value}{hp:Nat->Heap}
  {bd j:Nat}(hF:DFact S d lv env tr hp bd j)
  {Q:Exit->Act->World->Prop}{ρ0:Plc}{σ0:Heap}{w0:World}{A:Nat->Bool}{a:Act}{w:World}(t_:∀ m,(∀ l,l<lv.length->d.k l=2->(A l=true<->d.rank l<m))->m<=d.rank lv.length->m<=bd) (hI:DInv B d lv env tr hp ρ0 σ0 w0 A a w)
  (aQ:j<lv.length) (kN:A j=false) (fK:∀ e∈d.ed.getD j [],A e=true) {A':Nat->Bool}(aW:∀ i,A' i=if i=j then true else A i) {K:Act->World->Prop}(hK:∀ a' w',DInv B d lv env tr hp ρ0 σ0 w0 A' a' w'->K a' w'):wpOpIn (FF ro) n P ops Q (pm.getD j 0) K a w:=by
 obtain⟨v,hv⟩:∃ v,lv[j]?=some v:=⟨_,z8 aQ⟩;obtain⟨o,ho,hc,hk⟩:=hl.comp j v hv;obtain⟨cH,m,ρ,hm,oK,hH,hL,dT,hE⟩:=hI;have mL:∀ i,i<j->d.lt i j=true->A i=true:=by
  intro i hi ao;obtain⟨e,he,h⟩:=hd.path j aQ i hi ao;have mJ:=hd.edge j aQ e he;have gS:A e=true:=fK e he;rcases h with rfl|⟨h1,h2⟩
  .exact gS
  .exact HZ hd cH e (by omega) gS i h1 h2
 have mM:∀ i,i<lv.length->j<i->d.lt j i=true->A i=false:=by
  intro i hi aN ao;cases hA:A i with
  |false=>rfl
  |true=>rw[HZ hd cH i hi hA j aN ao] at kN;cases kN
 have mN:∀ x,x∈Uj v->(EL lv env tr A lv.length)[x]?=(EL lv env tr (λ_=>true) j)[x]?:=by
  intro x hx;rw[<-Ho lv env tr j lv.length (by omega)];refine BA lv env tr x lv.length λl bp bL=>?_;cases cf:lv[l]? with
  |none=>rw[cf] at bL;cases bL
  |some u =>
   rw[cf] at bL;rcases Nat.lt_trichotomy l j with h|h|h
   .have ao:d.lt l j=true:=by
     cases ao:d.lt l j with
     |true=>rfl
     |false=>exact absurd hx ((hl.touch l j u v cf hv (hd.free j aQ l h ao).1).1 x bL)
    simp_all
   .simp_all
   .have ao:d.lt j l=true:=by
     cases ao:d.lt j l with
     |true=>rfl
     |false=>exact absurd hx ((hl.touch j l v u hv cf (hd.free l bp j h ao).1).2 x bL)
    grind
 obtain⟨b,f1,f2,f3,ua,f4⟩:=hF v hv;have hw:Xu (EL lv env tr A lv.length) v.guard=some b:=by
  grind [AN,AJ]
 have ji:∀ x∈v.op.opds,Q5 (EL lv env tr A lv.length) x=Q5 (EL lv env tr (λ_=>true) j) x:=(by grind [Am,Q21]);obtain⟨cU,bL,bD⟩:=Hj hc hL hw;have eG:EL lv env tr A' lv.length=Ww (EL lv env tr A lv.length) v.dst (tr j):=by
  apply zT;intro x;by_cases hx:v.dst=some x
  .have h1:(EL lv env tr A' lv.length)[x]?=(EL lv env tr (λl=>decide (l<j+1)) lv.length)[x]?:=by
    refine BA lv env tr x lv.length λl bp cu=>?_;rw[aW];by_cases jj:l=j
    .subst jj;simp
    .rw[z6 jj];cases cf:lv[l]? with
     |none=>rw[cf] at cu;cases cu
     |some u =>
      rw[cf] at cu;have jJ:=Q12 hx;rcases zm l j with h|h
      .have ao:d.lt l j=true:=by
        cases ao:d.lt l j with
        |true=>rfl
        |false=>exact absurd jJ ((hl.touch l j u v cf hv (hd.free j aQ l h ao).1).1 x cu)
       grind
      .have h':j<l:=by omega
       have ao:d.lt j l=true:=by
        cases ao:d.lt j l with
        |true=>rfl
        |false=>exact absurd jJ ((hl.touch j l v u hv cf (hd.free l bp j h' ao).1).2 x cu)
       grind
   rw[h1,Ho lv env tr (j+1) lv.length (by omega)];simp only[EL,zq,hv,xg,hx,Ww];rw[xF,xF];simp only[zq,U3]
  grind [Bp,BA]
 have cg:∀ i,i<lv.length->A' i=true->∀ e∈d.ed.getD i [],A' e=true:=by
  grind
 have pS:d.k j=2->d.rank j=m:=by
  intro aB;have h1:¬ d.rank j<m:=(by grind);by_cases h2:d.rank j=m
  .exact h2
  .obtain⟨l,jj,cr,eo⟩:=NX d j m (by omega);have ao:d.lt l j=true:=by
    cases ao:d.lt l j with
    |true=>rfl
    |false=>exact absurd ⟨cr,aB⟩ (hd.free j aQ l jj ao).2
   grind
 have ie:d.k j=2->∀ l,l<lv.length->d.k l=2->(A' l=true<->d.rank l<m+1):=by
  grind [Nat.lt_or_ge,S4]
 have lW:d.k j≠2->∀ l,l<lv.length->d.k l=2->(A' l=true<->d.rank l<m):=by
  grind
 have kO:d.k j=2->m+1<=d.rank lv.length:=(by grind [S4]);unfold wpOpIn;simp only[ho];cases b with
 |false =>
  rw[cU,z6 (by simp)];obtain⟨g1,g2⟩:=f4 rfl;refine⟨λf _=>Q3f _ _,hK _ _ ⟨cg,?_⟩⟩;by_cases aB:d.k j=2
  .grind [WW,Vj,Wa]
  .grind [WW,Vj,Wa]
 |true =>
  rw[cU,z7 rfl];by_cases aB:d.k j=2
  .have fL:=pS aB;have g1:=f2 rfl (hk▸aB);rw[fL] at g1;rw[<-Iw ji] at g1;refine UY hS bD hH hL g1 λc w' ⟨u,ρ',U',⟨hu,hσ⟩,dZ,gg,bS⟩=>hK _ _ ⟨cg,?_⟩;subst hu;subst hσ;refine⟨m+1,ρ',ie aB,kO aB,gg,?_,by rw[WW];exact dT.ext hH bS,hE.trans bS⟩;rw[eG,bL];exact Vj (bS.lrel hL) dZ o.dst
  .have g2:∃ σ1,Q7 v.op (Q5 (EL lv env tr A lv.length)) (hp m)=some (tr j,σ1):=by
    rw[PM ji];by_cases bG:d.k j=1
    .obtain⟨⟨k1,k4⟩,k3,k2⟩:=hd.kmin j aQ bG;refine f3 rfl (hk▸bG) m ?_ ?_ (t_ m hm oK)
     .rcases zm m (d.kmin j) with h|h
      .obtain⟨l,bp,cr,eo⟩:=NX d j m (by omega)
       grind
      .exact h
     .rcases zm (d.kmax j) m with h|h
      .obtain⟨l,bp,cr,eo⟩:=NX d lv.length (d.kmax j) (by omega);have ao:=(k2 l bp cr).2.2 (by omega);have rH:=(hm l bp cr).2 (by omega);rcases Nat.lt_trichotomy j l with h'|h'|h'
       .simp_all
       .subst h';omega
       .exfalso;have ff:d.rank l<d.rank j:=S4 d h' cr;omega
      .exact h
    .have kF:v.op.kind=0:=by
      grind [Z20]
     obtain⟨σ1,g1⟩:=ua rfl (by omega) (by omega);exact⟨hp m,Lw kF g1⟩
   obtain⟨σ1,g2⟩:=g2;have hq:=H7 (hk▸aB) g2;subst hq;refine UY hS (K:=λv' U'=>v'=tr j/\U'=hp m) bD hH hL (by grind [Z12]) λc w' ⟨u,ρ',U',⟨hu,hσ⟩,dZ,gg,bS⟩=>hK _ _ ⟨cg,?_⟩;subst hu;subst hσ;refine⟨m,ρ',lW aB,oK,gg,?_,by rw[WW];exact dT.ext hH bS,hE.trans bS⟩;rw[eG,bL];exact Vj (bS.lrel hL) dZ o.dst
theorem Q0b (hS:OkSpecs P S) {ro:Option Nat}{n:Nat}{ops:Array Oper}{pm:List Nat}{d:DInfo}{lv:List VOper}(hl:DLink P ops pm d lv) (hd:DOk d lv.length) {env:Env}{tr:Nat->Value}{hp:Nat->Heap}
  {j:Nat}{v:VOper}(hv:lv[j]?=some v) (pT:v.op.kind=2) (vO:Xu (EL lv env tr (λ_=>true) j) v.guard=some true) {R:Value->Heap->Prop}(fJ:vop S v.op (EL lv env tr (λ_=>true) j) (hp (d.rank j)) R)
  {Q:Exit->Act->World->Prop}{ρ0:Plc}{σ0:Heap}{w0:World}{A:Nat->Bool}{a:Act}{w:World}(hI:DInv B d lv env tr hp ρ0 σ0 w0 A a w) (rI:∀ l,j<=l->l<lv.length->A l=false)
  (aQ:j<lv.length) (kN:A j=false) (fK:∀ e∈d.ed.getD j [],A e=true) {A':Nat->Bool}(aW:∀ i,A' i=if i=j then true else A i) {K:Act->World->Prop}
  (hK:∀ u U' a' w',R u U'->(∀ tr' bz,(∀ l,l<j->tr' l=tr l)->tr' j=u->(∀ r,r<=d.rank j->bz r=hp r)->bz (d.rank j+1)=U'->DInv B d lv env tr' bz ρ0 σ0 w0 A' a' w')->K a' w'):wpOpIn (FF ro) n P ops Q (pm.getD j 0) K a w:=by
 obtain⟨o,ho,hc,hk⟩:=hl.comp j v hv;obtain⟨cH,m,ρ,hm,oK,hH,hL,dT,hE⟩:=hI;have mL:∀ i,i<j->d.lt i j=true->A i=true:=by
  intro i hi ao;obtain⟨e,he,h⟩:=hd.path j aQ i hi ao;have mJ:=hd.edge j aQ e he;have gS:A e=true:=fK e he;rcases h with rfl|⟨h1,h2⟩
  .exact gS
  .exact HZ hd cH e (by omega) gS i h1 h2
 have mM:∀ i,i<lv.length->j<i->d.lt j i=true->A i=false:=by
  grind
 have mN:∀ x,x∈Uj v->(EL lv env tr A lv.length)[x]?=(EL lv env tr (λ_=>true) j)[x]?:=by
  intro x hx;rw[<-Ho lv env tr j lv.length (by omega)];refine BA lv env tr x lv.length λl bp bL=>?_;cases cf:lv[l]? with
  |none=>rw[cf] at bL;cases bL
  |some u =>
   rw[cf] at bL;rcases Nat.lt_trichotomy l j with h|h|h
   .have ao:d.lt l j=true:=by
     cases ao:d.lt l j with
     |true=>rfl
     |false=>exact absurd hx ((hl.touch l j u v cf hv (hd.free j aQ l h ao).1).1 x bL)
    simp_all
   .simp_all
   .grind
 have hw:Xu (EL lv env tr A lv.length) v.guard=some true:=by
  grind [AN,AJ]
 have ji:∀ x∈v.op.opds,Q5 (EL lv env tr A lv.length) x=Q5 (EL lv env tr (λ_=>true) j) x:=(by grind [Am,Q21]);obtain⟨cU,bL,bD⟩:=Hj hc hL hw;have eG:∀ tr:Nat->Value,EL lv env tr A' lv.length=Ww (EL lv env tr A lv.length) v.dst (tr j):=λtr=>by
  apply zT;intro x;by_cases hx:v.dst=some x
  .have h1:(EL lv env tr A' lv.length)[x]?=(EL lv env tr (λl=>decide (l<j+1)) lv.length)[x]?:=by
    refine BA lv env tr x lv.length λl bp cu=>?_;rw[aW];by_cases jj:l=j
    .subst jj;simp
    .rw[z6 jj];cases cf:lv[l]? with
     |none=>rw[cf] at cu;cases cu
     |some u =>
      rw[cf] at cu;have jJ:=Q12 hx;rcases zm l j with h|h
      .have ao:d.lt l j=true:=by
        cases ao:d.lt l j with
        |true=>rfl
        |false=>exact absurd jJ ((hl.touch l j u v cf hv (hd.free j aQ l h ao).1).1 x cu)
       grind
      .grind
   rw[h1,Ho lv env tr (j+1) lv.length (by omega)];simp only[EL,zq,hv,xg,hx,Ww];rw[xF,xF];simp only[zq,U3]
  grind [Bp,BA]
 have cg:∀ i,i<lv.length->A' i=true->∀ e∈d.ed.getD i [],A' e=true:=by
  grind
 have pS:d.k j=2->d.rank j=m:=by
  intro aB;have h1:¬ d.rank j<m:=(by grind);by_cases h2:d.rank j=m
  .exact h2
  .obtain⟨l,jj,cr,eo⟩:=NX d j m (by omega);have ao:d.lt l j=true:=by
    cases ao:d.lt l j with
    |true=>rfl
    |false=>exact absurd ⟨cr,aB⟩ (hd.free j aQ l jj ao).2
   grind
 have ie:d.k j=2->∀ l,l<lv.length->d.k l=2->(A' l=true<->d.rank l<m+1):=by
  grind [Nat.lt_or_ge,S4]
 have lW:d.k j≠2->∀ l,l<lv.length->d.k l=2->(A' l=true<->d.rank l<m):=by omega
 have kO:d.k j=2->m+1<=d.rank lv.length:=(by grind [S4]);unfold wpOpIn;simp only[ho];rw[cU,z7 rfl];have aB:d.k j=2:=hk.trans pT;have fL:=pS aB;rw[fL,<-Iw ji] at fJ;refine UY hS bD hH hL fJ λc w' ⟨u,ρ',U',hR,dZ,gg,bS⟩=>hK u U' _ _ hR λtr' bz t1 t2 t3 t4=>⟨cg,m+1,ρ',ie aB,kO aB,?_,?_,?_,?_⟩
 .rw[<-fL,t4];exact gg
 .have e0:EL lv env tr' A lv.length=EL lv env tr A lv.length:=(by grind [Z5l,Nat.lt_or_ge]);rw[<-fL,t4,eG tr',e0,bL,t2];exact Vj (bS.lrel hL) dZ o.dst
 .rw[WW];exact dT.ext hH bS
 .rw[<-fL,t4];exact hE.trans bS
theorem J2i {ops:Array Oper}{pm:List Nat}{d:DInfo}{lv:List VOper}(_hl:DLink P ops pm d lv) {env:Env}{tr:Nat->Value}{hp:Nat->Heap}{ρ0:Plc}{σ0:Heap}{w0:World}{A:Nat->Bool}{a:Act}{w:World}
  (hI:DInv B d lv env tr hp ρ0 σ0 w0 A a w) (hall:∀ j,j<lv.length->A j=true):Rh B (List.length env) ρ0 σ0 w0 (λah U'=>ah=EL lv env tr (λ_=>true) lv.length/\U'=hp (d.rank lv.length)) a w:=by
 obtain⟨cH,m,ρ,hm,oK,hH,hL,dT,hE⟩:=hI;have fM:m=d.rank lv.length:=by
  rcases zm m (d.rank lv.length) with h|h
  .grind [NX]
  .omega
 subst fM;have e:=Us lv env (tr:=tr) (tr':=tr) (A:=A) (B:=λ_=>true) lv.length (λ_ _=>rfl) (λl hl=>hall l hl);exact⟨_,ρ,_,⟨rfl,rfl⟩,U3 _ _ _ _ _,hH,by rw[<-e];exact hL,dT,hE⟩
def Q76 (pm:List Nat) (d:DInfo) (n:Nat):(Nat->Bool)->List Nat->Prop
 |A,[]=>∀ p,p<n->A p=true
 |A,j::rest=>∃ p,p<n/\pm.getD p 0=j/\A p=false/\(∀ e∈d.ed.getD p [],A e=true)/\Q76 pm d n (λq=>if q=p then true else A q) rest
theorem Q2w (hS:OkSpecs P S) {ro:Option Nat}{n:Nat}{ops:Array Oper}{pm:List Nat}{d:DInfo}{lv:List VOper}(hl:DLink P ops pm d lv) (hd:DOk d lv.length) {env:Env}{K:Env->Heap->Prop}
  {Q:Exit->Act->World->Prop}{ρ0:Plc}{σ0:Heap}{w0:World}{l2:List Nat}(hQ:∀ a w,Rh B (List.length env) ρ0 σ0 w0 K a w->wpOpsIn (FF ro) n P ops Q l2 a w) {nd:List Nat}{i:Nat}{tr:Nat->Value}{hp:Nat->Heap}(ub:Know S d lv env K nd i tr hp) :
  ∀ (l:List Nat) (A:Nat->Bool) (a:Act) (w:World),Q76 pm d lv.length A l->DInv B d lv env tr hp ρ0 σ0 w0 A a w->(∀ j,i<=j->j<lv.length->A j=false)->(∀ j,j∈nd->j<lv.length->A j=true)->wpOpsIn (FF ro) n P ops Q (l++l2) a w:=by
 induction ub with
 |full hF hK =>
  intro l;induction l with
  |nil =>intro A a w hs hI _ _;obtain⟨ah,ρ',U',⟨e1,e2⟩,n1⟩:=J2i hl hI hs;exact hQ a w ⟨ah,ρ',U',by rw[e1,e2];exact hK,n1⟩
  |cons j rest ih =>
   intro A a w hs hI hA hN;obtain⟨p,bz,rfl,jK,he,bh⟩:=hs;rw[xI,wpOpsIn_cons];refine S7 hS hl hd (hF p bz λh=>?_) (λm _ h=>h) hI bz jK he (λ_=>rfl) λa' w' mO=>ih _ a' w' bh mO (λj h1 h2=>by omega) (λj hj iK=>?_)
   .rw[hN p h bz] at jK;cases jK
   .simp_all
 |part hv hk hw hF jG R fJ I T H hT next oL =>
  rename_i nd i tr hp v;have aR:i<lv.length:=by
   grind
  intro l;induction l with
  |nil =>intro A a w hs hI hA _;have:=hs i aR;rw[hA i (z9 _) aR] at this;cases this
  |cons j rest ih =>
   intro A a w hs hI hA hN;obtain⟨p,bz,rfl,jK,he,bh⟩:=hs;rw[xI,wpOpsIn_cons];have kg:d.k i=2:=by obtain⟨_,_,_,h⟩:=hl.comp i v hv;exact h.trans hk
   rcases Nat.lt_trichotomy p i with jL|rfl|jL
   .refine S7 hS hl hd (hF p jL λh=>?_) (λm hm _=>?_) hI bz jK he (λ_=>rfl) λa' w' mO=>ih _ a' w' bh mO (λj h1 h2=>?_) (λj hj iK=>?_)
    .rw[hN p h bz] at jK;cases jK
    .grind
    .grind
    simp_all
   .refine Q0b hS hl hd hv hk hw fJ hI hA bz jK he (λ_=>rfl) λu U' a' w' hR mO=>?_;obtain⟨q1,q2,q3,q4,q5⟩:=hT u U' hR;refine oL u U' hR _ _ a' w' bh (mO _ _ q2 q3 q4 q5) (λj h1 h2=>?_) (λj hj iK=>?_)
    .grind
    grind
   .exfalso;obtain⟨e,u,h1,h2,hu,hn⟩:=jG p jL bz;have jH:=z8 bz;have ao:d.lt e p=true:=by
     cases h:d.lt e p with
     |true=>rfl
     |false =>
      rcases hn with⟨x,hx,hn⟩|⟨e_,dM⟩
      .exact absurd (hn _ jH) ((hl.touch e p u _ hu jH (hd.free p bz e h2 h).1).1 x hx)
      .obtain⟨_,_,_,q1⟩:=hl.comp e u hu;obtain⟨_,_,_,q2⟩:=hl.comp p _ jH;exact absurd ⟨q1.trans e_,q2.trans (dM _ jH)⟩ (hd.free p bz e h2 h).2
    have gS:A e=true:=by
     obtain⟨e',rJ,h3⟩:=hd.path p bz e h2 ao;have mP:=he e' rJ;rcases h3 with rfl|⟨h3,h4⟩
     .exact mP
     .exact HZ hd hI.closed e' (by have:=hd.edge p bz e' rJ;omega) mP e h3 h4
    grind
def Uz (ops:Array Oper):Array Bool->List Nat->Prop
 |L,[]=>∀ j,j<ops.size->L.getD j false=true
 |L,j::rest=>j∈Region.ready .any ops L/\Uz ops (L.setIfInBounds j true) rest
theorem NZ (L:Array Bool) (j i:Nat) (hj:j<L.size):(L.setIfInBounds j true).getD i false=if i=j then true else L.getD i false:=by
 by_cases h:i=j
 .subst h;simp[hj]
 .simp[h,Array.getElem?_setIfInBounds_ne (Ne.symm h)]
theorem Q6o {ops:Array Oper}(ig:∀ (j:Nat) (o:Oper),ops[j]?=some o->∀ e∈TJ o,e<j) {L:Array Bool}(hs:L.size=ops.size) (h:Region.ready .any ops L=[]):∀ j,j<ops.size->L.getD j false=true:=by
 intro j;induction j using Nat.strongRecOn with
 |ind j ih =>
  intro hj;cases hA:L.getD j false with
  |true=>rfl
  |false =>
   exfalso;have:j∈Region.ready .any ops L:=by
    refine mem_ready.2 ⟨?_,ops[j],xG hj,λe he hb=>?_⟩
    .simp_all
    .have:=ig j ops[j] (xG hj) e.on (zC.2 (by grind));exact ih _ this (by omega)
   rw[h] at this;cases this
theorem Rp {ops:Array Oper}{L:Array Bool}(hs:L.size=ops.size) {j:Nat}(h:j∈Region.ready .any ops L):j<ops.size/\L.getD j false=false/\∃ o,ops[j]?=some o/\∀ e∈TJ o,L.getD e false=true:=by obtain⟨h1,o,ho,h2⟩:=mem_ready.1 h;have aQ:j<ops.size:=(xL.1 ho).1;refine⟨aQ,by simp[hs,aQ] at h1 |-;exact h1,o,ho,λe he=>?_⟩;obtain⟨x,hx,rfl⟩:=zC.1 he;simp_all
theorem Z0j {ops:Array Oper}(ig:∀ (j:Nat) (o:Oper),ops[j]?=some o->∀ e∈TJ o,e<j):∀ (fuel t:Nat) (L:Array Bool),L.size=ops.size->cnt (λi=>L.getD i false) ops.size<=fuel ->
  Uz ops L (Region.linearise.go .any ops fuel t L []):=by
 intro fuel;induction fuel with
 |zero =>intro t L hs hc;simp only[Region.linearise.go,List.reverse_nil,Uz];exact Q0v (by omega)
 |succ fuel ih =>
  intro t L hs hc;simp only[Region.linearise.go]
  change Uz ops L (match (Region.ready .any ops L)[t % (Region.ready .any ops L).length]? with
   |some i=>Region.linearise.go .any ops fuel (t / (Region.ready .any ops L).length) (L.setIfInBounds i true) [i]
   |none=>[].reverse)
  cases hi:(Region.ready .any ops L)[t % (Region.ready .any ops L).length]? with
  |none =>
   have jk:Region.ready .any ops L=[]:=by
    cases hr:Region.ready .any ops L with
    |nil=>rfl
    |cons x xs =>rw[hr] at hi;have ao:t % (x::xs).length<(x::xs).length:=xJ _ (by simp);simp at hi;simp at ao;omega
   simp only[List.reverse_nil,Uz];exact Q6o ig hs jk
  |some i =>
   simp only[];rw[linearise_go_acc,List.reverse_singleton,List.singleton_append];have jM:=xh hi;obtain⟨aR,oM,_⟩:=Rp hs jM;refine⟨jM,ih _ _ (by simp[hs]) ?_⟩;have jN:i<L.size:=by rw[hs];exact aR
   have:=Q5a (A:=λi=>L.getD i false) (B:=λk=>(L.setIfInBounds i true).getD k false) (j:=i) oM (by simp only[NZ L i i jN,zq]) (λk hk=>by simp only[NZ L i k jN,z6 hk]) ops.size aR;omega
theorem Q0c {ops:Array Oper}:∀ (l:List Nat) (L:Array Bool),L.size=ops.size->Uz ops L l->l.Nodup/\∀ j,j∈l<->(j<ops.size/\L.getD j false=false):=by
 intro l;induction l with
 |nil=>intro L hs h;exact⟨List.nodup_nil,λj=>⟨λh=>(by cases h),λ⟨h1,h2⟩=>by rw[h j h1] at h2;cases h2⟩⟩
 |cons i l ih =>
  intro L hs h;obtain⟨jM,h'⟩:=h;obtain⟨aR,oM,_⟩:=Rp hs jM;have jN:i<L.size:=by rw[hs];exact aR
  obtain⟨k1,k2⟩:=ih _ (by simp[hs]) h';refine⟨xA.2 ⟨λhm=>?_,k1⟩,λj=>?_⟩
  .simp_all
  .grind [NZ]
structure DBase (ops:Array Oper) (d:DInfo):Prop where
 ed:∀ (j:Nat) (o:Oper),ops[j]?=some o->d.ed.getD j []=TJ o
 edge:∀ j,j<ops.size->∀ e∈d.ed.getD j [],e<j
 path:∀ j,j<ops.size->∀ i,i<j->d.lt i j=true->∃ e∈d.ed.getD j [],e=i\/(i<e/\d.lt i e=true)
 up:∀ i j,d.lt i j=true->i<j
 size:d.ks.length=ops.size
theorem Ow {ops:Array Oper}{d:DInfo}(hb:DBase ops d) {A:Nat->Bool}(hc:∀ j,j<ops.size->A j=true->∀ e∈d.ed.getD j [],A e=true):∀ j,j<ops.size->A j=true->∀ i,i<j->d.lt i j=true->A i=true:=by
 intro j;induction j using Nat.strongRecOn with
 |ind j ih =>
  intro hj hA i hi ao;obtain⟨e,he,h⟩:=hb.path j hj i hi ao;have mJ:=hb.edge j hj e he;have gS:=hc j hj hA e he;rcases h with rfl|⟨h1,h2⟩
  .exact gS
  .exact ih e mJ (by omega) gS i h1 h2
theorem Z3b {ops:Array Oper}{d:DInfo}(hb:DBase ops d):∀ (l:List Nat) (L:Array Bool),L.size=ops.size->(∀ j,j<ops.size->L.getD j false=true->∀ e∈d.ed.getD j [],L.getD e false=true)->Uz ops L l ->
  l.Pairwise λj i=>d.lt i j=false:=by
 intro l;induction l with
 |nil=>intro L _ _ _;exact List.Pairwise.nil
 |cons j l ih =>
  intro L hs hc h;obtain⟨jM,h'⟩:=h;obtain⟨aR,oM,o,ho,ig⟩:=Rp hs jM;have jN:j<L.size:=by rw[hs];exact aR
  have cX:∀ k,k<ops.size->(L.setIfInBounds j true).getD k false=true->∀ e∈d.ed.getD k [],(L.setIfInBounds j true).getD e false=true:=by
   intro k hk hA e he;rw[NZ L j e jN];split
   .rfl
   .rw[NZ L j k jN] at hA;split at hA
    .rename_i uc;subst uc;rw[hb.ed _ o ho] at he;exact ig e he
    .exact hc k hk hA e he
  obtain⟨k1,k2⟩:=Q0c l _ (by simp[hs]) h';refine List.Pairwise.cons (λi hi=>?_) (ih _ (by simp[hs]) cX h');cases ao:d.lt i j with
  |false=>rfl
  |true =>
   exfalso;have cy:=hb.up i j ao;have hA:(L.setIfInBounds j true).getD j false=true:=by rw[NZ L j j jN,z7 rfl]
   have:=Ow hb cX j aR hA i cy ao;rw[((k2 i).1 hi).2] at this;cases this
theorem F6 (lt:Nat->Nat->Bool):∀ (s l:List Nat) (n:Nat),s.Perm l->l.length<=n->s.Pairwise (λj i=>lt i j=false)->s∈exts lt n l:=by
 intro s;induction s with
 |nil =>intro l n hp hn _;have:l=[]:=hp.symm.eq_nil;subst this;cases n<;>simp[exts]
 |cons k s ih =>
  intro l n hp hn hs;have hk:k∈l:=hp.mem_iff.1 (by simp);cases l with
  |nil=>cases hk
  |cons x xs =>
   cases n with
   |zero=>simp at hn
   |succ n =>
    simp only[exts];refine List.mem_flatMap.2 ⟨k,hk,?_⟩;obtain⟨h1,h2⟩:=List.pairwise_cons.1 hs;have hall:((x::xs).all λi=>i==k||!lt i k)=true:=by
     grind
    rw[z7 hall];refine zC.2 ⟨s,ih _ n ?_ ?_ h2,rfl⟩
    .grind
    .simp_all
theorem Q7p {j:Nat}:∀ (a a' b b':List Nat),j∉a->j∉a'->a++j::b=a'++j::b'->a=a':=by
 intro a;induction a with
 |nil =>
  intro a' b b' _ h' h;cases a' with
  |nil=>rfl
  |cons x a'=>simp at h;exact(by simp_all)
 |cons x a ih =>
  intro a' b b' h1 h2 h;cases a' with
  |nil=>simp at h;exact(by simp_all)
  |cons y a' =>simp at h;obtain⟨rfl,h⟩:=h;rw[ih a' b b' (λhm=>h1 (by simp[hm])) (λhm=>h2 (by simp[hm])) h]
theorem Q13 {ops:Array Oper}{d:DInfo}(hb:DBase ops d):∀ (l:List Nat) (L:Array Bool),L.size=ops.size->Uz ops L l->∀ pre j post,l=pre++j::post->∀ e∈d.ed.getD j [],L.getD e false=true\/e∈pre:=by
 intro l;induction l with
 |nil=>intro L _ _ pre j post h;simp at h
 |cons i l ih =>
  intro L hs h pre j post he e ij;obtain⟨jM,h'⟩:=h;obtain⟨aR,oM,o,ho,ig⟩:=Rp hs jM;have jN:i<L.size:=by rw[hs];exact aR
  cases pre with
  |nil =>simp at he;obtain⟨rfl,_⟩:=he;rw[hb.ed _ o ho] at ij;exact .inl (ig e ij)
  |cons x pre =>
   simp at he;obtain⟨rfl,he⟩:=he;rcases ih _ (by simp[hs]) h' pre j post he e ij with h1|h1
   .grind [NZ]
   .exact .inr (by simp[h1])
theorem FT {d0 d:DInfo}{pm l:List Nat}(N:Nat) (hN:∀ i∈l,i<N) (kL:pm.Nodup) (fg:l.Nodup) (a8:∀ i,i∈pm<->i∈l) (cI:∀ pre j post,l=pre++j::post->∀ e∈d0.ed.getD j [],e∈l->e∈pre)
  (ig:∀ p,p<pm.length->d.ed.getD p []=Z2b d0 pm p) (hf:pm.filter (λi=>d0.k i==2)=l.filter (λi=>d0.k i==2)) :
  ∀ (post pre:List Nat),l=pre++post->Q76 pm d pm.length (λq=>pre.contains (pm.getD q N)) post:=by
 intro post;induction post with
 |nil =>
  intro pre hl p hp;have hm:pm.getD p N∈pm:=by simp[zd,hp]
  have:=(a8 _).1 hm;rw[hl,x7] at this;simpa using this
 |cons j post ih =>
  intro pre hl;have cP:j∈l:=by rw[hl];simp
  have fL:=(a8 j).2 cP;have hp:pm.idxOf j<pm.length:=List.idxOf_lt_length_of_mem fL;have vP:pm[pm.idxOf j]'hp=j:=List.getElem_idxOf hp;have hg:∀ z,pm.getD (pm.idxOf j) z=j:=(by simp_all);have mQ:j∉pre:=(by grind);refine⟨pm.idxOf j,hp,hg 0,by simp only[hg];simpa using mQ,λe he=>?_,?_⟩
  .rw[ig _ hp] at he;rcases xj.1 he with he|he
   .obtain⟨e0,ry,rfl⟩:=zC.1 he
    grind
   .split at he
    .rename_i aB;rw[hg] at aB;obtain⟨hq,hk⟩:=xR.1 (List.mem_of_getLast? (Option.mem_toList.1 he));have dB:e<pm.idxOf j:=zG.1 hq;have hel:e<pm.length:=by omega
     have heq:pm.getD e N=pm[e]'hel:=by simp[zd,hel]
     have pU:pm.getD e 0=pm[e]'hel:=by simp[zd,hel]
     rw[pU] at hk;simp only[heq];have fN:pm=pm.take (pm.idxOf j)++j::pm.drop (pm.idxOf j+1):=by
      grind [List.take_append_drop,List.drop_eq_getElem_cons]
     have rK:j∉pm.take (pm.idxOf j):=by
      grind
     have ud:(pm.take (pm.idxOf j)).filter (λi=>d0.k i==2)++j::(pm.drop (pm.idxOf j+1)).filter (λi=>d0.k i==2)=pre.filter (λi=>d0.k i==2)++j::post.filter (λi=>d0.k i==2):=by
      grind
     have:=Q7p _ _ _ _ (by grind) (by grind) ud;have aR:pm[e]∈(pm.take (pm.idxOf j)).filter (λi=>d0.k i==2):=(by grind)
     grind
    .cases he
  .have pV:(λq=>if q=pm.idxOf j then true else pre.contains (pm.getD q N))=λq=>(pre++[j]).contains (pm.getD q N):=by
    grind
   rw[pV];exact ih (pre++[j]) (by rw[hl];simp)
theorem Q6x {ops:Array Oper}{vs:List VOper}(h:ops.toList.mapM (Xx P ops)=some vs) (aq:(UI ops.toList vs).okB=true):DBase ops (UI ops.toList vs):=by
 have hlen:vs.length=ops.size:=by have:=(YZ _ _ _ h).1;simpa using this
 have lU:(UI ops.toList vs).ks.length=ops.size:=by simp[UI,hlen]
 have cF:=aq;unfold DInfo.okB at cF;rw[z0,zf] at cF;obtain⟨vQ,mu⟩:=cF;have h0:∀ j,j<ops.size->(UI ops.toList vs).okE j=true/\(UI ops.toList vs).an.getD j 0<2 ^ j/\((List.range j).all λi=>!((UI ops.toList vs).lt i j)||((UI ops.toList vs).ed.getD j []).any (λe=>e==i||decide (i<e)&&(UI ops.toList vs).lt i e))=true:=(by simp_all);have mR:∀ j,j<ops.size->∀ e∈(UI ops.toList vs).ed.getD j [],e<j:=λj hj e he=>by have:=zg.1 (h0 j hj).1 e he;simpa using this
 refine⟨λj o ho=>by simp[UI,zd,ho],mR,λj hj i hi ao=>?_,λi j ao=>?_,lU⟩
 .grind
 .rcases zm i j with h|h
  .exact h
  .exfalso;unfold DInfo.lt at ao
   grind [Nat.lt_or_ge,Nat.lt_of_lt_of_le,Nat.pow_le_pow_right,Nat.testBit_lt_two_pow,List.getElem?_eq_none]
theorem Q0n {t:Nat}:∀ (l:List Nat),l.Pairwise (λj i=>¬ (i<t/\t<=j))->l=l.filter (λi=>decide (i<t))++l.filter (λi=>decide (t<=i))
 |[],_=>rfl
 |x::l,h=>by
  obtain⟨h1,h2⟩:=List.pairwise_cons.1 h;have ih:=Q0n l h2;by_cases hx:x<t
  .grind
  .have rp:t<=x:=by omega
   have jk:l.filter (λi=>decide (i<t))=[]:=(by grind [List.filter_eq_nil_iff])
   grind
theorem So (hS:OkSpecs P S) {ro:Option Nat}{n:Nat}{ops:Array Oper}{vs:List VOper}(cn:ops.toList.mapM (Xx P ops)=some vs) {d0:DInfo}(_hb:DBase ops d0) {l l2 idx pm:List Nat}(fg:l.Nodup) (ao:∀ i∈l,i<ops.size) (uf:∀ i,i∈l<->i∈idx)
  (cI:∀ pre j post,l=pre++j::post->∀ e∈d0.ed.getD j [],e∈l->e∈pre) (fM:Z7k d0 vs idx (l.filter λi=>d0.k i==2) pm=true)
  {env:Env}{U:Heap}{K:Env->Heap->Prop}{ρ:Plc}{w:World}{a:Act}(pW:J_ S ((OW d0 vs pm).opers (Nt vs pm) 0) env [U] U [] K) (hH:HRel ρ U w) (hL:LRel ρ U.n env a.tmps.toList) (dT:Mks B a.defers w)
  {Q:Exit->Act->World->Prop}(hQ:∀ a' w',Rh B (List.length env) ρ U w K a' w'->wpOpsIn (FF ro) n P ops Q l2 a' w'):wpOpsIn (FF ro) n P ops Q (l++l2) a w:=by
 have mi:vs.length=ops.size:=by have:=(YZ _ _ _ cn).1;simpa using this
 simp only[Z7k,z0,zf,zg,List.contains_iff_mem] at fM;obtain⟨m1,m2,m3,m4,m5⟩:=fM;have mS:∀ i,i∈pm<->i∈l:=(by grind);have jL:∀ i∈pm,i<vs.length:=(by simp_all);have hl:DLink P ops pm (OW d0 vs pm) (Nt vs pm):=DLink.of cn jL;have pX:(Nt vs pm).length=pm.length:=by simp[Nt]
 have lU:(OW d0 vs pm).ks.length=(Nt vs pm).length:=by simp[OW]
 have hd:=DOk.of m5;rw[lU] at hd;have ig:∀ p,p<pm.length->(OW d0 vs pm).ed.getD p []=Z2b d0 pm p:=λp hp=>by simp[OW,zd,hp]
 have il:=FT (d:=OW d0 vs pm) ops.size ao m3 fg mS cI ig m4 l [] (by simp);have fG:∀ i v,(Nt vs pm)[i]?=some v->(OW d0 vs pm).k i=v.op.kind:=λi v hv=>(hl.comp i v hv).choose_spec.2.2;obtain⟨k,tr,hp,_,_,k2,k3⟩:=Z48 (OW d0 vs pm) (Nt vs pm) fG env K (Nt vs pm) 0 (by omega) rfl [] (λ_=>undef) (λ_=>U) [] (λl hl=>by omega) (λl hl=>by omega) (by simpa [DInfo.rank,EL] using pW);have pY:hp 0=U:=k2 0 (by omega);have mT:(λq=>([]:List Nat).contains (pm.getD q ops.size))=λ_=>false:=by funext q;rfl
 rw[mT] at il;refine Q2w (B:=B) (pm:=pm) hS hl hd hQ k3 l (λ_=>false) a w (by rw[pX];exact il) ?_ (λ_ _ _=>rfl) (λj hj=>by cases hj) (ρ0:=ρ) (σ0:=U) (w0:=w)
 .refine⟨λj hj hA=>(by cases hA),0,ρ,λl bp hk=>by simp,by omega,by rw[pY];exact hH,?_,dT,by rw[pY];exact Ext.refl _ _ _⟩;have e:EL (Nt vs pm) env tr (λ_=>false) (Nt vs pm).length=env:=by
   have:∀ m,EL (Nt vs pm) env tr (λ_=>false) m=env:=by
    intro m;induction m with
    |zero=>rfl
    |succ m ih=>simp only[EL,zr,if_false];exact ih
   exact this _
  rw[e,pY];exact hL
theorem Ex (d:DInfo):∀ (lv:List VOper) (i:Nat),(∀ v∈lv,v.op.kind≠2)->∀ (env:Env) (U:Heap) (pend:List (Nat×(Heap->Prop))) (K:Env->Heap->Prop),SQ S lv env U K->J_ S (d.opers lv i) env [U] U pend K:=by
 intro lv;induction lv with
 |nil=>intro i _ env U pend K h;exact h
 |cons v rest ih =>
  intro i hk env U pend K h;have aB:v.op.kind≠2:=hk v (by simp);have gh:∀ u∈rest,u.op.kind≠2:=λu hu=>hk u (by simp[hu]);simp only[SQ] at h;simp only[DInfo.opers,J_];cases hw:Xu env v.guard with
  |none=>rw[hw] at h;exact h.elim
  |some b =>
   rw[hw] at h;obtain⟨ht,hf⟩:=h;refine⟨λe=>?_,λe=>?_⟩
   .have ht:=ht e;have kG:∃ p,Q7 v.op (Q5 env) U=some p/\SQ S rest (Ww env v.dst p.1) p.2 K:=by
     have cK:∀ x:XOp,v.op=.ext x->(∀ y,x≠.nextMap y):=λx hx y hy=>by rw[hx,hy] at aB;exact aB rfl
     have:=ht;unfold vop at this;split at this
     .rename_i f bR heq;rw[heq] at aB;exact absurd rfl aB
     .rename_i f bR heq;rw[heq] at aB;exact absurd rfl aB
     .simp_all
     .cases dD:Q7 v.op (Q5 env) U with
      |none=>rw[dD] at this;exact this.elim
      |some p=>rw[dD] at this;exact⟨p,rfl,this⟩
    obtain⟨p,hp,hr⟩:=kG;have hq:p.2=U:=(by grind [H7]);rw[hq] at hr;rw[z6 aB];split
    .rw[hp];refine⟨λZ hτ=>?_,ih (i+1) gh _ _ _ _ hr⟩;have:Z=U:=by
      grind
     subst this;show Zt (Q7 v.op (Q5 env) Z) _;rw[hp];rfl
    .rw[hp];exact ih (i+1) gh _ _ _ _ hr
   .simp_all
theorem Q57 (hS:OkSpecs P S) {ro:Option Nat}{n:Nat}{ops:Array Oper}{vs:List VOper}(cn:ops.toList.mapM (Xx P ops)=some vs) {d0:DInfo}(hb:DBase ops d0) (_hk0:∀ i v,vs[i]?=some v->d0.k i=v.op.kind) {s len:Nat}(hlen:0<len) (gb:s+len<=ops.size) {x:DSeg}(hx:Z86 d0 vs s len=some x)
  {l l2:List Nat}(fg:l.Nodup) (a8:∀ i,i∈l<->(s<=i/\i<s+len)) (cI:∀ pre j post,l=pre++j::post->∀ e∈d0.ed.getD j [],e∈l->e∈pre) (gj:l.Pairwise λj i=>d0.lt i j=false)
  {rest:List DSeg}{env:Env}{U:Heap}{K:Env->Heap->Prop}{ρ:Plc}{w:World}{a:Act}(h:Dd S (x::rest) env U K) (hH:HRel ρ U w) (hL:LRel ρ U.n env a.tmps.toList) (dT:Mks B a.defers w)
  {Q:Exit->Act->World->Prop}(hQ:∀ a' w',Rh B (List.length env) ρ U w (λenv U=>Dd S rest env U K) a' w'->wpOpsIn (FF ro) n P ops Q l2 a' w'):wpOpsIn (FF ro) n P ops Q (l++l2) a w:=by
 have mi:vs.length=ops.size:=by have:=(YZ _ _ _ cn).1;simpa using this
 unfold Z86 at hx;split at hx
 .rename_i h1;subst h1;obtain rfl:=osj hx;have hs:s<ops.size:=by omega
  have dL:l=[s]:=by
   have hm:∀ i,i∈l<->i=s:=λi=>by rw[a8 i];omega
   have hp:l.Perm [s]:=(by grind);exact List.perm_singleton.1 hp
  subst dL;obtain⟨v,hv,hc⟩:=(YZ _ _ _ cn).2 s ops[s] (by simp[hs]);have hg:vs.getD s default=v:=by simp[zd,hv]
  simp only[Dd,hg] at h;simp only[SQ] at h;rw[List.singleton_append,wpOpsIn_cons];unfold wpOpIn;rw[xG hs];simp only;cases hw:Xu env v.guard with
  |none=>rw[hw] at h;exact h.elim
  |some b =>
   rw[hw] at h;obtain⟨ht,hf⟩:=h;obtain⟨cU,bL,bD⟩:=Hj hc hL hw;rw[cU];cases b with
   |false =>rw[z6 (by simp)];refine⟨λf _=>Q3f _ _,hQ _ _ ⟨_,ρ,U,hf rfl,JK _ _ _,hH,by rw[bL];exact Vj hL Wa _,by rw[WW];exact dT,Ext.refl _ _ _⟩⟩
   |true =>rw[z7 rfl];refine UY hS bD hH hL (ht rfl) λc w' ⟨u,ρ',U',hK,dZ,gg,hE⟩=>?_;exact hQ _ _ ⟨_,ρ',U',hK,JK _ _ _,gg,by rw[bL];exact Vj (hE.lrel hL) dZ _,by rw[WW];exact dT.ext hH hE,hE⟩
 .rename_i e_;simp only at hx;split at hx
  .rename_i hP;obtain rfl:=osj hx;simp only[Dd] at h;have mU:(l.filter λi=>d0.k i==2).Perm ((List.range' s len).filter λi=>d0.k i==2):=by
    grind [List.Perm.filter,List.perm_ext_iff_of_nodup,List.nodup_range']
   have hs:=F6 d0.lt _ _ len mU (by
    refine zO (List.length_filter_le _ _) (by simp)) (gj.filter _)
   have fM:=zg.1 hP _ (zC.2 ⟨_,hs,rfl⟩);have pW:=h _ (zC.2 ⟨_,zC.2 ⟨_,hs,rfl⟩,rfl⟩);exact So hS cn hb fg (by grind) (by simp_all) cI fM pW hH hL dT (λa' w' hn=>by
    obtain⟨ah,ρ',U',⟨aT,σ2,hD,hR⟩,n1,n2,n3,n4,n5⟩:=hn;obtain⟨ρ2,d1,d2,d3⟩:=hD ρ w ρ' w' a'.tmps.toList hH n5 n2 n3;exact hQ a' w' ⟨aT,ρ2,σ2,hR,(d1.1.trans n3.1.symm).trans n1,d2,d1,n4,d3⟩)
  .cases hx
theorem Q3t (hS:OkSpecs P S) {ro:Option Nat}{n:Nat}{ops:Array Oper}{vs:List VOper}(cn:ops.toList.mapM (Xx P ops)=some vs) {d0:DInfo}(hb:DBase ops d0) (kF:∀ i v,vs[i]?=some v->d0.k i=v.op.kind)
  {Q:Exit->Act->World->Prop}{K:Env->Heap->Prop}:∀ (f s:Nat) (aU:List DSeg),Q5q d0 vs f s=some aU->s<=ops.size->∀ (l:List Nat),l.Nodup->(∀ i,i∈l<->(s<=i/\i<ops.size)) ->
   (∀ pre j post,l=pre++j::post->∀ e∈d0.ed.getD j [],e∈l->e∈pre)->(l.Pairwise λj i=>d0.lt i j=false) ->
   ∀ (env:Env) (U:Heap) (ρ:Plc) (w:World) (a:Act),Dd S aU env U K->HRel ρ U w->LRel ρ U.n env a.tmps.toList->Mks B a.defers w->(∀ a' w',Rh B (List.length env) ρ U w K a' w'->Q .normal a' w') ->
   wpOpsIn (FF ro) n P ops Q l a w:=by
 intro f
 have fin:∀ (s:Nat) (aU:List DSeg),s=d0.ks.length->[]=aU->∀ (l:List Nat),(∀ i,i∈l<->(s<=i/\i<ops.size))->∀ (env:Env) (U:Heap) (ρ:Plc) (w:World) (a:Act),Dd S aU env U K->HRel ρ U w->LRel ρ U.n env a.tmps.toList->Mks B a.defers w->(∀ a' w',Rh B (List.length env) ρ U w K a' w'->Q .normal a' w') ->
   wpOpsIn (FF ro) n P ops Q l a w:=by
  intro s aU hs eH l a8 env U ρ w a h hH hL dT hQ;subst eH;have:l=[]:=by
   cases l with
   |nil=>rfl
   |cons x l =>have:=(a8 x).1 (by simp);rw[hs,hb.size] at this;omega
  subst this;exact hQ a w ⟨env,ρ,U,h,rfl,hH,hL,dT,Ext.refl _ _ _⟩
 induction f with
 |zero =>
  intro s aU eH hs l fg a8 cI gj env U ρ w a h hH hL dT hQ;simp only[Q5q] at eH;split at eH
  .grind
  .cases eH
 |succ f ih =>
  intro s aU eH hs l fg a8 cI gj env U ρ w a h hH hL dT hQ;simp only[Q5q] at eH;split at eH
  .grind
  .rename_i aK;split at eH
   .cases eH
   .rename_i t ht;have pZ:=List.find?_some ht;have mV:=List.mem_range'_1.1 (List.mem_of_find?_eq_some ht);rw[hb.size] at mV;split at eH
    .rename_i x r hx hr;obtain rfl:=osj eH;have ao:∀ i p,i<t->t<=p->p<ops.size->d0.lt i p=true:=λi p hi hp kL=>by
      have h1:=zg.1 pZ p (List.mem_range'_1.2 ⟨hp,by rw[hb.size];omega⟩);simp_all
     have p6:l.Pairwise (λj i=>¬ (i<t/\t<=j)):=by
      grind [List.pairwise_iff_forall_sublist]
     have fN:=Q0n l p6;have lW:∀ i,i∈l.filter (λi=>decide (i<t))<->(s<=i/\i<s+(t-s)):=λi=>by rw[xR,a8 i,zf];omega
     have ie:∀ i,i∈l.filter (λi=>decide (t<=i))<->(t<=i/\i<ops.size):=λi=>by rw[xR,a8 i,zf];omega
     rw[fN];refine Q57 hS cn hb kF (by omega) (by omega) hx (fg.filter _) lW ?_ (gj.filter _) h hH hL dT ?_
     .grind
     .intro a' w' ⟨ah,ρ',U',k1,k0,k2,k3,k4,k5⟩;refine ih t r hr (by omega) _ (fg.filter _) ie ?_ (gj.filter _) ah U' ρ' w' a' k1 k2 k3 k4 ?_
      .intro pre j post he e ij hel;have:=cI (l.filter (λi=>decide (i<t))++pre) j post (fN.trans (by rw[he,zJ])) e ij (xR.1 hel).1
       grind
      .intro a2 w2 ⟨aT,ρ2,σ2,m1,m0,m2,m3,m4,m5⟩;exact hQ a2 w2 ⟨aT,ρ2,σ2,m1,m0.trans k0,m2,m3,m4,k5.trans m5⟩
    .cases eH
theorem Q2j (hm:P.follows .mixedOrders=true) (hS:OkSpecs P S) {ro:Option Nat}{n:Nat}{id:Nat}{ops:Array Oper}{vs:List VOper}(cn:ops.toList.mapM (Xx P ops)=some vs) {aU:List DSeg}(aq:Z2k (UI ops.toList vs) vs=some aU)
  {env:Env}{U:Heap}{K:Env->Heap->Prop}{ρ:Plc}{w:World}{a:Act}(h:Dd S aU env U K) (hH:HRel ρ U w) (hL:LRel ρ U.n env a.tmps.toList) (dT:Mks B a.defers w)
  {Q:Exit->Act->World->Prop}(hQ:∀ a' w',Rh B (List.length env) ρ U w K a' w'->Q .normal a' w'):(Code.region id ops true).wpIn (FF ro) n P Q a w:=by
 unfold Z2k at aq;split at aq
 .rename_i hB;have hb:=Q6x cn hB;have fG:∀ i v,vs[i]?=some v->(UI ops.toList vs).k i=v.op.kind:=λi v hv=>by
   simp[DInfo.k,UI,zd,hv]
  generalize pH:UI ops.toList vs=d0 at *
  refine wpIn_region_draw λt=>?_;simp only[Region.schedule,hm,Bool.true_or,zq];have fO:∀ (j:Nat) (o:Oper),ops[j]?=some o->∀ e∈TJ o,e<j:=λj o ho e he=>hb.edge j (xL.1 ho).1 e (by rw[hb.ed j o ho];exact he);have hall:∀ i,(Array.replicate ops.size false).getD i false=false:=λi=>by rw[Array.getD_eq_getD_getElem?,Array.getElem?_replicate];split<;>rfl
  have gJ:=Z0j fO ops.size t (Array.replicate ops.size false) (by simp) (by
   have:∀ m,cnt (λi=>(Array.replicate ops.size false).getD i false) m<=m:=by
    intro m;induction m with
    |zero=>exact z9 _
    |succ m ih=>simp only[cnt];split<;>omega
   exact this _)
  change wpOpsIn _ _ _ _ _ (Region.linearise.go .any ops ops.size t (Array.replicate ops.size false) []) _ _;generalize Region.linearise.go .any ops ops.size t (Array.replicate ops.size false) []=l at *
  obtain⟨gi,a8⟩:=Q0c l _ (by simp) gJ;have gj:=Z3b hb l _ (by simp) (λj _ hA=>by rw[hall] at hA;cases hA) gJ;have cI:=Q13 hb l _ (by simp) gJ;refine Q3t hS cn hb fG _ 0 aU aq (by omega) l gi (λi=>by rw[a8 i,hall];simp) (λpre j post he e ij _=>?_) gj env U ρ _ a h hH.drew hL (dT.ext hH (Ext.drew _ _ _)) (λa' w' hn=>?_)
  .grind
  .obtain⟨ah,ρ',U',n0,n1,n2,n3,n4,n5⟩:=hn;exact hQ a' w' ⟨ah,ρ',U',n0,n1,n2,n3,n4,(Ext.drew _ _ _).trans n5⟩
 .cases aq
theorem IH (hm:P.follows .mixedOrders=true) (hS:OkSpecs P S) {ro:Option Nat}{n:Nat}{id:Nat}{ops:Array Oper}{vs:List VOper}(cn:ops.toList.mapM (Xx P ops)=some vs) (aq:BI (UI ops.toList vs) vs=true)
  {env:Env}{U:Heap}{K:Env->Heap->Prop}{ρ:Plc}{w:World}{a:Act}(h:SQ S vs env U K) (hH:HRel ρ U w) (hL:LRel ρ U.n env a.tmps.toList) (dT:Mks B a.defers w)
  {Q:Exit->Act->World->Prop}(hQ:∀ a' w',Rh B (List.length env) ρ U w K a' w'->Q .normal a' w'):(Code.region id ops true).wpIn (FF ro) n P Q a w:=by
 simp only[BI,z0] at aq;obtain⟨hB,p7,ju⟩:=aq;have hb:=Q6x cn hB;have mi:vs.length=ops.size:=by have:=(YZ _ _ _ cn).1;simpa using this
 have aB:∀ v∈vs,v.op.kind≠2:=(by simp_all);have fG:∀ i v,vs[i]?=some v->(UI ops.toList vs).k i=v.op.kind:=λi v hv=>by simp[DInfo.k,UI,zd,hv]
 generalize pH:UI ops.toList vs=d0 at *
 refine wpIn_region_draw λt=>?_;simp only[Region.schedule,hm,Bool.true_or,zq];have fO:∀ (j:Nat) (o:Oper),ops[j]?=some o->∀ e∈TJ o,e<j:=λj o ho e he=>hb.edge j (xL.1 ho).1 e (by rw[hb.ed j o ho];exact he);have hall:∀ i,(Array.replicate ops.size false).getD i false=false:=λi=>by rw[Array.getD_eq_getD_getElem?,Array.getElem?_replicate];split<;>rfl
 have gJ:=Z0j fO ops.size t (Array.replicate ops.size false) (by simp) (by
  have:∀ m,cnt (λi=>(Array.replicate ops.size false).getD i false) m<=m:=by
   intro m;induction m with
   |zero=>exact z9 _
   |succ m ih=>simp only[cnt];split<;>omega
  exact this _)
 change wpOpsIn _ _ _ _ _ (Region.linearise.go .any ops ops.size t (Array.replicate ops.size false) []) _ _;generalize Region.linearise.go .any ops ops.size t (Array.replicate ops.size false) []=l at *
 obtain⟨gi,a8⟩:=Q0c l _ (by simp) gJ;have cI:=Q13 hb l _ (by simp) gJ;have ao:∀ i∈l,i<ops.size:=λi hi=>((a8 i).1 hi).1;have jk:l.filter (λi=>d0.k i==2)=[]:=(by simp_all);have ug:Nt vs (List.range' 0 d0.ks.length)=vs:=by
  apply zT;intro i;unfold Nt;rw[xu];rcases zm i vs.length with hi|hi
  .rw[List.getElem?_range' (by rw[hb.size];omega),z8 hi];simp[zd,hi]
  .rw[zE (by simp[hb.size];omega),zE hi];rfl
 have hd:=Ex (S:=S) (OW d0 vs (List.range' 0 d0.ks.length)) vs 0 aB env U [] K h;rw[<-x7 l];refine So hS cn hb gi ao (λi=>by rw[a8 i,hall,List.mem_range'_1,hb.size];simp) (λpre j post he e ij _=>?_) (idx:=List.range' 0 d0.ks.length) (pm:=List.range' 0 d0.ks.length) (by rw[jk];exact ju) (by rw[ug];exact hd) hH.drew hL (dT.ext hH (Ext.drew _ _ _)) (λa' w' hn=>?_)
 .grind
 .obtain⟨ah,ρ',U',n0,n1,n2,n3,n4,n5⟩:=hn;exact hQ a' w' ⟨ah,ρ',U',n0,n1,n2,n3,n4,(Ext.drew _ _ _).trans n5⟩
theorem IP (hS:OkSpecs P S) {id:Nat}{ops:Array Oper}{lv:List VOper}(cf:ops.toList.mapM (Xx P ops)=some lv):Sound P S (.region id ops false) (.region lv):=by
 intro B cG ro n Q env U ρ w a h hH hL hd hR Q' hQ;simp only[vwp] at h;refine wpIn_region ?_;rw[List.range_eq_range',<-Array.length_toList,wpOpsIn_eq_wpListIn ops.toList 0 (by simp)]
 grind [Q41]
theorem cond_true {v:Value}{A B:Prop}(h:Q6w v A B):∃ t,v=.bool t/\(t=true->A)/\(t=false->B):=by
 unfold Q6w at h;split at h
 .exact⟨_,rfl,h⟩
 .exact h.elim
theorem Q2h {c:Code}{vc:VCode}(ih:Sound P S c vc):Sound P S (.loop c) (.loop vc):=by
 intro B cG ro n Q env U ρ w a h hH hL hd hR Q' hQ;simp only[vwp] at h;obtain⟨live,I,n0,h0,kP⟩:=h;refine wpIn_loop_ghost (λk a' w'=>Rh B (List.length env) ρ U w (λah U'=>I k (TN live ah) U') a' w') n0 ⟨env,ρ,U,h0,rfl,hH,hL,hd,Ext.refl _ _ _⟩ ?_;rintro k a1 w1 ⟨bn,ρ1,σ1,k1,k0,k2,k3,k4,k5⟩;have hlen:List.length (Yt live (TN live bn) (List.replicate env.length poison))=List.length env:=by rw[EH];simp
 refine ih cG ro n _ _ σ1 ρ1 w1 a1 (kP k (TN live bn) σ1 k1) k2 (Q44 live bn _ _ k3 (Q3h _ (by rw[<-k3.1,k0]))) k4 (hR.ext k5) _ ?_;rintro e a2 w2 ⟨aT,ρ2,σ2,m1,m0,m2,m3,m4,m5⟩;rw[hlen] at m0;cases e with
 |normal =>obtain⟨n',oN,hI⟩:=m1;exact⟨n',oN,aT,ρ2,σ2,hI,m0,m2,m3,m4,k5.trans m5⟩
 |_=>exact hQ _ a2 w2 ⟨aT,ρ2,σ2,m1,m0,m2,m3,m4,k5.trans m5⟩
theorem HC (c:Code):Sound P S c .bad:=by intro B cG ro n Q env U ρ w a h;exact h.elim
theorem Q2b (hm:P.follows .mixedOrders=true) (hS:OkSpecs P S):∀ (c:Code) (vc:VCode),comp P c=some vc->Sound P S c vc:=by
 intro c;induction c with
 |skip =>intro vc hc;simp[comp] at hc;subst hc;intro B cG ro n Q env U ρ w a h hH hL hd hR Q' hQ;exact wpIn_skip (hQ _ _ _ ⟨env,ρ,U,h,rfl,hH,hL,hd,Ext.refl _ _ _⟩)
 |region id ops dr =>
  intro vc hc;cases dr with
  |false =>simp only[comp,zz,zX] at hc;obtain⟨lv,cf,hc⟩:=hc;simp at hc;subst hc;exact IP hS cf
  |true =>
   simp only[comp,zz,zX] at hc;obtain⟨lv,cf,hc⟩:=hc;split at hc
   .rename_i aq;simp at hc;subst hc;intro B cG ro n Q env U ρ w a h hH hL hd hR Q' hQ;exact IH hm hS cf aq h hH hL hd (λa' w' hn=>hQ .normal a' w' hn)
   split at hc
   .rename_i aU aq;simp at hc;subst hc;intro B cG ro n Q env U ρ w a h hH hL hd hR Q' hQ;exact Q2j hm hS cf aq h hH hL hd (λa' w' hn=>hQ .normal a' w' hn)
   .simp at hc;subst hc;exact HC _
 |seq x y jO oO =>
  intro vc hc;simp only[comp,zz,zX] at hc;obtain⟨vx,hx,vy,hy,hc⟩:=hc;simp at hc;subst hc;intro B cG ro n Q env U ρ w a h hH hL hd hR Q' hQ;simp only[vwp] at h;refine wpIn_seq (jO vx hx cG ro n _ env U ρ w a h hH hL hd hR _ ?_);rintro e a1 w1 ⟨bn,ρ1,σ1,k1,k0,k2,k3,k4,k5⟩;cases e with
  |normal =>refine oO vy hy cG ro n _ bn σ1 ρ1 w1 a1 k1 k2 k3 k4 (hR.ext k5) _ ?_;rintro e2 a2 w2 ⟨aT,ρ2,σ2,m1,m0,m2,m3,m4,m5⟩;exact hQ e2 a2 w2 ⟨aT,ρ2,σ2,m1,m0.trans k0,m2,m3,m4,k5.trans m5⟩
  |_=>exact hQ _ a1 w1 ⟨bn,ρ1,σ1,k1,k0,k2,k3,k4,k5⟩
 |cond c x y jO oO =>
  intro vc hc;simp only[comp] at hc;split at hc
  .rename_i aq;simp only[zz,zX] at hc;obtain⟨vx,hx,vy,hy,hc⟩:=hc;simp at hc;subst hc;intro B cG ro n Q env U ρ w a h hH hL hd hR Q' hQ;simp only[vwp] at h;obtain⟨t,ht,h1,h2⟩:=cond_true h;have hv:=YT hL aq;rw[ht] at hv;refine wpIn_cond_split hv.q1d (λe=>?_) (λe=>?_)
   .exact jO vx hx cG ro n Q env U ρ w a (h1 e) hH hL hd hR Q' hQ
   .exact oO vy hy cG ro n Q env U ρ w a (h2 e) hH hL hd hR Q' hQ
  .simp at hc;subst hc;exact HC _
 |block id x jO =>
  intro vc hc;simp only[comp,zz,zX] at hc;obtain⟨vx,hx,hc⟩:=hc;simp at hc;subst hc;intro B cG ro n Q env U ρ w a h hH hL hd hR Q' hQ;simp only[vwp] at h;refine wpIn_block (jO vx hx cG ro n _ env U ρ w a h hH hL hd hR _ ?_);rintro e a1 w1 ⟨bn,ρ1,σ1,k1,k0,k2,k3,k4,k5⟩;cases e with
  |exit gV =>
   simp only[Q1z] at k1;simp only[Exit.inBlock];split at k1
   .rename_i he;rw[z7 he];exact hQ _ a1 w1 ⟨bn,ρ1,σ1,k1,k0,k2,k3,k4,k5⟩
   .rename_i he;rw[z6 he];exact hQ _ a1 w1 ⟨bn,ρ1,σ1,k1,k0,k2,k3,k4,k5⟩
  |_=>exact hQ _ a1 w1 ⟨bn,ρ1,σ1,k1,k0,k2,k3,k4,k5⟩
 |loop x jO =>intro vc hc;simp only[comp,zz,zX] at hc;obtain⟨vx,hx,hc⟩:=hc;simp at hc;subst hc;exact Q2h (jO vx hx)
 |rangeFunc g ps x y jO oO =>
  intro vc hc;simp only[comp] at hc;split at hc
  .rename_i aq;simp only[zz,zX] at hc
   grind [OT]
  .simp at hc;subst hc;exact HC _
 |exit id =>intro vc hc;simp[comp] at hc;subst hc;intro B cG ro n Q env U ρ w a h hH hL hd hR Q' hQ;exact wpIn_exit (hQ _ _ _ ⟨env,ρ,U,h,rfl,hH,hL,hd,Ext.refl _ _ _⟩)
 |ret =>intro vc hc;simp[comp] at hc;subst hc;intro B cG ro n Q env U ρ w a h hH hL hd hR Q' hQ;exact wpIn_ret (hQ _ _ _ ⟨env,ρ,U,h,rfl,hH,hL,hd,Ext.refl _ _ _⟩)
 |_ =>intro vc hc;simp[comp] at hc;subst hc;exact HC _
end
end Go.V
namespace Go.V
open Go
inductive Ren (n:Nat) (π:Nat->Nat):Value->Value->Prop
 |plain (v:Value) (h:Zy v=true):Ren n π v v
 |poison (c:Value):Ren n π poison c
 |glob (g o s:Nat):Ren n π (.pointer (some ⟨g,o,some s⟩)) (.pointer (some ⟨g,o,some s⟩))
 |ptr (i o:Nat) (hi:i<n):Ren n π (.pointer (some ⟨i,o,none⟩)) (.pointer (some ⟨π i,o,none⟩))
 |sl (i o len cap:Nat) (hi:i<n):Ren n π (.slice (some ⟨i,o,none⟩) len cap) (.slice (some ⟨π i,o,none⟩) len cap)
 |slx (i o len cap:Nat) (hi:i<n):Ren n π (.slice (some ⟨i,o,some 0⟩) len cap) (.slice (some ⟨π i,o,some 0⟩) len cap)
 |map (i:Nat) (hi:i<n):Ren n π (.map (some i)) (.map (some (π i)))
 |iface (t:TypeId) (v c:Value) (h:Ren n π v c):Ren n π (.iface t v) (.iface t c)
 |yield (i:Nat) (hi:i<n):Ren n π (.func (.yield i) #[] #[]) (.func (.yield (π i)) #[] #[])
 |func (fn:FuncId) (fs gs cs ds:Array Value) (hf:fs.size=gs.size) (hc:cs.size=ds.size)
   (h1:∀ i (h1:i<fs.size) (h2:i<gs.size),Ren n π fs[i] gs[i]) (h2:∀ i (h1:i<cs.size) (h2:i<ds.size),Ren n π cs[i] ds[i]):Ren n π (.func (.func fn) fs cs) (.func (.func fn) gs ds)
 |agg (cs ds:Array Value) (hc:cs.size=ds.size) (h:∀ i (h1:i<cs.size) (h2:i<ds.size),Ren n π cs[i] ds[i]):Ren n π (.agg cs) (.agg ds)
 |tuple (cs ds:Array Value) (hc:cs.size=ds.size) (h:∀ i (h1:i<cs.size) (h2:i<ds.size),Ren n π cs[i] ds[i]):Ren n π (.tuple cs) (.tuple ds)
def LRen (n:Nat) (π:Nat->Nat) (vs cs:List Value):Prop:=vs.length=cs.length/\∀ (i:Nat) (v c:Value),vs[i]?=some v->cs[i]?=some c->Ren n π v c
theorem Ren.rel {ρ:Plc}{nf n':Nat}{π:Nat->Nat}{v' v:Value}(h:Ren n' π v' v):∀ {c:Value},VRel ρ nf v c->VRel (λi=>if i<n' then ρ (π i) else none) n' v' c:=by
 induction h with
 |plain v h =>intro c hv;have:c=v:=Ve h hv;subst this;exact YP h
 |poison c=>intro c _;exact .poison _
 |glob g o s=>intro c hv;cases hv;exact .glob _ _ _
 |ptr i o hi =>intro c hv;obtain⟨a,rfl,_,h⟩:=hv.q1f;exact .ptr _ _ _ hi (by simp_all)
 |sl i o len cap hi =>intro c hv;obtain⟨a,av,rfl,_,h⟩:=hv.q1c;exact .sl _ _ _ _ _ _ hi (by simp_all)
 |slx i o len cap hi =>
  intro c hv;cases hv with
  |slx _ _ _ _ a _ h=>exact .slx _ _ _ _ _ hi (by simp_all)
 |map i hi =>
  intro c hv;cases hv with
  |map _ r _ h=>exact .map _ _ hi (by simp_all)
 |yield i hi =>
  intro c hv;cases hv with
  |yield _ r _ h=>exact .yield _ _ hi (by simp_all)
 |iface t v c h ih =>
  intro c hv;cases hv with
  |iface _ _ _ h=>exact .iface _ _ _ (ih h)
 |func fn fs gs cs ds hf hc h1 h2 lH lJ =>
  intro c hv;cases hv with
  |func _ _ vR _ ds' p8 cX jl gK =>exact .func _ _ _ _ _ (hf.trans p8) (hc.trans cX) (by simp_all) (by simp_all)
 |agg cs ds hc h ih =>
  intro c hv;cases hv with
  |agg _ ds' cX h'=>exact .agg _ _ (hc.trans cX) (by simp_all)
 |tuple cs ds hc h ih =>
  intro c hv;cases hv with
  |tuple _ ds' cX h'=>exact .tuple _ _ (hc.trans cX) (by simp_all)
theorem VRel.ren {ρ:Plc}{n n':Nat}{π:Nat->Nat}(hn:n<=n') (hπ:∀ i,i<n->π i=i) {v c:Value}(h:VRel ρ n v c):Ren n' π v v:=by
 induction h with
 |poison c=>exact .poison _
 |bool b=>exact .plain _ rfl
 |int k x=>exact .plain _ rfl
 |string s=>exact .plain _ rfl
 |nilPtr=>exact .plain _ rfl
 |nilSl=>exact .plain _ rfl
 |nilMap=>exact .plain _ rfl
 |nilFunc=>exact .plain _ rfl
 |nilIface=>exact .plain _ rfl
 |glob g o s=>exact .glob _ _ _
 |ptr i o a hi h=>have:=Ren.ptr (n:=n') (π:=π) i o (by omega);rwa [hπ i hi] at this
 |sl i o len cap a av hi h=>have:=Ren.sl (n:=n') (π:=π) i o len cap (by omega);rwa [hπ i hi] at this
 |slx i o len cap a hi h=>have:=Ren.slx (n:=n') (π:=π) i o len cap (by omega);rwa [hπ i hi] at this
 |map i r hi h=>have:=Ren.map (n:=n') (π:=π) i (by omega);rwa [hπ i hi] at this
 |yield i r hi h=>have:=Ren.yield (n:=n') (π:=π) i (by omega);rwa [hπ i hi] at this
 |iface t v c _ ih=>exact .iface _ _ _ ih
 |func fn fs gs cs ds hf hc _ _ lH lJ=>exact .func _ _ _ _ _ rfl rfl (λi k1 _=>lH i k1 (by omega)) (λi k1 _=>lJ i k1 (by omega))
 |agg cs ds hc _ ih=>exact .agg _ _ rfl λi k1 _=>ih i k1 (by omega)
 |tuple cs ds hc _ ih=>exact .tuple _ _ rfl λi k1 _=>ih i k1 (by omega)
theorem LRen.rel {ρ:Plc}{nf n':Nat}{π:Nat->Nat}{cE vs:List Value}(h:LRen n' π cE vs) {cs:List Value}(hL:LRel ρ nf vs cs):LRel (λi=>if i<n' then ρ (π i) else none) n' cE cs:=by
 refine⟨h.1.trans hL.1,λi v c hv hc=>?_⟩;have ao:i<vs.length:=by rw[<-h.1];grind
 exact(h.2 i v _ hv (z8 ao)).rel (hL.2 i _ c (z8 ao) hc)
theorem LRel.ren {ρ:Plc}{n n':Nat}{π:Nat->Nat}(hn:n<=n') (hπ:∀ i,i<n->π i=i) {vs cs:List Value}(h:LRel ρ n vs cs):LRen n' π vs vs :=
 ⟨rfl,λi v u hv hu=>by
  obtain rfl:v=u:=osj (hv.symm.trans hu);obtain⟨c,_,hc⟩:=h.get hv;exact hc.ren hn hπ⟩
def ORen (n:Nat) (π:Nat->Nat):VObj->VObj->Prop
 |.map es clock,.map fs kQ=>clock=kQ/\es.length=fs.length/\∀ (k:Nat) (a b:Wl),es[k]?=some a->fs[k]?=some b->a.1=b.1/\a.2.2=b.2.2/\Ren n π a.2.1 b.2.1
 |.iter m since seen last,.iter m' kR mW mX=>m'=π m/\m<n/\since=kR/\seen=mW/\last=mX
 |.lp env r st pend,.lp ah r' jD bP=>LRen n π env ah/\r=r'/\st=jD/\pend=bP
 |.siter s pos,.siter s' pos'=>s=s'/\pos=pos'
 |_,_=>False
theorem ORen.rel {ρ:Plc}{nf n':Nat}{π:Nat->Nat}{o' o:VObj}(h:ORen n' π o' o) {O:Obj}(hO:ORel ρ nf o O):ORel (λi=>if i<n' then ρ (π i) else none) n' o' O:=by
 cases o'<;>cases o<;>try exact h.elim
 .obtain⟨rfl,hl,hk⟩:=h;obtain⟨entries,h1,h2,h3⟩:=hO;refine⟨entries,h1,by rw[hl];exact h2,λk a ha=>?_⟩;have cr:=(zp.1 ha).1;rw[hl] at cr;obtain⟨e,he,h4,h5,h6⟩:=h3 k _ (z8 cr);obtain⟨k1,k2,k3⟩:=hk k a _ ha (z8 cr);exact⟨e,he,h4.trans k1.symm,h5.trans k2.symm,k3.rel h6⟩
 .obtain⟨rfl,hm,rfl,rfl,rfl⟩:=h;obtain⟨rm,h1,h2⟩:=hO;exact⟨rm,h1,(Ren.map _ hm).rel h2⟩
 .obtain⟨hl,rfl,rfl,rfl⟩:=h;exact⟨hO.1,hl.rel hO.2⟩
 .obtain⟨rfl,rfl⟩:=h;exact hO
theorem ORel.ren {ρ:Plc}{n n':Nat}{π:Nat->Nat}(hn:n<=n') (hπ:∀ i,i<n->π i=i) {o:VObj}{O:Obj}(h:ORel ρ n o O):ORen n' π o o:=by
 cases o with
 |map es clock =>obtain⟨entries,h1,h2,h3⟩:=h;refine⟨rfl,rfl,λk a b ha hb=>?_⟩;obtain rfl:a=b:=osj (ha.symm.trans hb);obtain⟨e,_,_,_,hv⟩:=h3 k a ha;exact⟨rfl,rfl,hv.ren hn hπ⟩
 |iter m since seen last =>
  obtain⟨rm,h1,h2⟩:=h;cases h2 with
  |map _ _ hi _=>exact⟨(hπ m hi).symm,by omega,rfl,rfl,rfl⟩
 |siter s pos=>exact⟨rfl,rfl⟩
 |lp env r st pend=>exact⟨h.2.ren hn hπ,rfl,rfl,rfl⟩
def BRen (n:Nat) (π:Nat->Nat):Blk->Blk->Prop
 |.cells c esz wr tight,.cells d mY kD iq=>esz=mY/\wr=kD/\tight=iq/\LRen n π c d
 |.obj o wr,.obj o' kD=>wr=kD/\ORen n π o o'
 |_,_=>False
theorem BRen.wr {n:Nat}{π:Nat->Nat}{b c:Blk}(h:BRen n π b c):b.wr=c.wr:=by cases b<;>cases c<;>first|(exact h.elim)|exact h.2.1|exact h.1
theorem BRen.rel {ρ:Plc}{nf n':Nat}{π:Nat->Nat}{p:Pl}{w:World}{b' b:Blk}(h:BRen n' π b' b) (hB:BRel ρ nf p w b):BRel (λi=>if i<n' then ρ (π i) else none) n' p w b':=by
 cases b' with
 |cells c esz wr tight =>
  cases b with
  |cells d mY kD iq =>
   obtain⟨rfl,rfl,rfl,hl⟩:=h;obtain⟨h1,h2,h3,h4,h5,h6⟩:=hB;refine⟨h1,h2,by rw[hl.1];exact h3,h4,λk v hk=>?_,h6⟩;have cr:k<d.length:=by rw[<-hl.1];grind
   obtain⟨u,hu,hv⟩:=h5 k _ (z8 cr);exact⟨u,hu,(hl.2 k v _ hk (z8 cr)).rel hv⟩
  |obj _ _=>exact h.elim
 |obj o wr =>
  cases b with
  |cells _ _ _ _=>exact h.elim
  |obj o' kD =>obtain⟨rfl,ho⟩:=h;obtain⟨h0,O,h1,h2⟩:=hB;exact⟨h0,O,h1,ho.rel h2⟩
def VObj.plain:VObj->Bool
 |.map es _=>es.all λkv=>Zy kv.2.1
 |_=>false
def Blk.plain:Blk->Bool
 |.cells c _ _ _=>c.all Zy
 |.obj o _=>o.plain
theorem LRen.plain {n:Nat}{π:Nat->Nat}{c:List Value}(h:c.all Zy=true):LRen n π c c :=
 ⟨rfl,λi v u hv hu=>by
  obtain rfl:v=u:=osj (hv.symm.trans hu);exact .plain _ (by grind)⟩
theorem BRen.plain {n:Nat}{π:Nat->Nat}{b:Blk}(h:b.plain=true):BRen n π b b:=by
 cases b with
 |cells c esz wr tight=>exact⟨rfl,rfl,rfl,LRen.plain h⟩
 |obj o wr =>
  cases o with
  |map es clock =>refine⟨rfl,rfl,rfl,λk a b ha hb=>?_⟩;obtain rfl:a=b:=osj (ha.symm.trans hb);exact⟨rfl,rfl,.plain _ (zg.1 h a (xh ha))⟩
  |_=>cases h
theorem BRel.ren {ρ:Plc}{n n':Nat}{π:Nat->Nat}(hn:n<=n') (hπ:∀ i,i<n->π i=i) {p:Pl}{w:World}{b:Blk}(h:BRel ρ n p w b):BRen n' π b b:=by
 cases b with
 |cells c esz wr tight =>refine⟨rfl,rfl,rfl,rfl,λi v u hv hu=>?_⟩;obtain rfl:v=u:=osj (hv.symm.trans hu);obtain⟨_,_,uh⟩:=h.2.2.2.2.1 i v hv;exact uh.ren hn hπ
 |obj o wr =>obtain⟨_,O,_,ho⟩:=h;exact⟨rfl,ho.ren hn hπ⟩
def DropTo (σ0:Heap) (v:Value) (σf:Heap) (v':Value) (U':Heap):Prop :=
 ∀ ρ0 w0 ρ w c,HRel ρ0 σ0 w0->Ext ρ0 σ0 w0 ρ σf w->HRel ρ σf w->VRel ρ σf.n v c->∃ ρ',VRel ρ' U'.n v' c/\HRel ρ' U' w/\Ext ρ0 σ0 w0 ρ' U' w
theorem DropTo.refl (σ0:Heap) (v:Value) (σf:Heap):DropTo σ0 v σf v σf:=λ_ _ ρ _ _ _ hE hH hv=>⟨ρ,hv,hH,hE⟩
theorem DropTo.rename {σ0 σf U':Heap}{v v':Value}(π:Nat->Nat) (h1:σ0.n<=U'.n)
  (h2:∀ i,i<σ0.n->π i=i/\U'.get i=σf.get i/\(σf.get i=σ0.get i\/(∃ b,σf.get i=some b/\b.plain=true)\/σf.get i=none))
  (h3:∀ i,σ0.n<=i->i<U'.n->σ0.n<=π i/\∃ b' b,U'.get i=some b'/\σf.get (π i)=some b/\BRen U'.n π b' b)
  (h4:∀ i j,σ0.n<=i->i<U'.n->σ0.n<=j->j<U'.n->π i=π j->i=j) (h5:Ren U'.n π v' v):DropTo σ0 v σf v' U':=by
 intro ρ0 w0 ρ w c fI hE hH hv;have hπ:∀ i,i<σ0.n->π i=i:=λi hi=>(h2 i hi).1;have aE:∀ i b',U'.get i=some b'->∃ b,σf.get (π i)=some b/\BRen U'.n π b' b:=λi b' hb=>by
  have hi:=U'.lt hb;rcases zm i σ0.n with ao|bZ
  .obtain⟨k1,k2,k3⟩:=h2 i ao;rw[k1];rw[k2] at hb;refine⟨b',hb,?_⟩;rcases k3 with k3|⟨b,k3,k4⟩|k3
   .rw[k3] at hb;obtain⟨p,_,hB⟩:=fI.live i b' hb;exact hB.ren h1 hπ
   .grind [osj,BRen.plain]
   .rw[k3] at hb;cases hb
  grind
 have eI:∀ i j,i<U'.n->j<U'.n->π i=π j->i=j:=(by grind);have hX:Ext ρ0 σ0 w0 (λi=>if i<U'.n then ρ (π i) else none) U' w:=by
  refine⟨hE.os,hE.tape,hE.output,hE.size,hE.keep,?_,h1,λi hi p hp=>?_⟩
  .rintro B hB ⟨i,p,b,hp,hb,hw,rfl⟩;change (if i<U'.n then ρ (π i) else none)=some p at hp;split at hp
   .obtain⟨b0,bQ,b9⟩:=aE i b hb;exact hE.wr _ hB ⟨π i,p,b0,hp,bQ,by rw[<-b9.wr];exact hw,rfl⟩
   .cases hp
  .change (if i<U'.n then ρ (π i) else none)=some p at hp;split at hp
   .rw[hπ i hi] at hp;exact hE.pl i hi p hp
   .cases hp
 refine⟨λi=>if i<U'.n then ρ (π i) else none,h5.rel hv,fI.ext ⟨λi b' hb=>?_,λi hi=>?_,λi p hp=>?_,λi j p q b cy hp hq hb hw hx=>?_⟩ hX,hX⟩
 .obtain⟨b,bQ,b9⟩:=aE i b' hb;obtain⟨p,hp,hB⟩:=hH.live _ b bQ;exact⟨p,by simp[U'.lt hb,hp],b9.rel hB⟩
 .show (if i<U'.n then ρ (π i) else none)=none;split
  .rename_i ao;rcases zm i σ0.n with cM|bZ
   .obtain⟨k1,k2,_⟩:=h2 i cM;rw[k1];exact hH.dead i (by rw[<-k2];exact hi)
   grind
  .rfl
 .change (if i<U'.n then ρ (π i) else none)=some p at hp;split at hp
  .exact hH.lt _ p hp
  .cases hp
 .change (if i<U'.n then ρ (π i) else none)=some p at hp;change (if j<U'.n then ρ (π j) else none)=some q at hq;split at hp
  .rename_i hi;split at hq
   .rename_i hj;obtain⟨b0,bQ,b9⟩:=aE i b hb;exact hH.sep (π i) (π j) p q b0 (λe=>cy (eI i j hi hj e)) hp hq bQ (by rw[<-b9.wr];exact hw) hx
   .cases hq
  .cases hp
def Agree (σ0 σf:Heap):Prop:=∀ i,i<σ0.n->σf.get i=σ0.get i
theorem Agree.refl (U:Heap):Agree U U:=λ_ _=>rfl
theorem Agree.push {σ0 U:Heap}(h:Agree σ0 U) (hn:σ0.n<=U.n) (b:Blk):Agree σ0 (U.push b):=λi hi=>(Heap.q0h U b (by omega)).trans (h i hi)
theorem Agree.trans {σ0 σ1 σ2:Heap}(h:Agree σ0 σ1) (k:Agree σ1 σ2) (hn:σ0.n<=σ1.n):Agree σ0 σ2:=λi hi=>(k i (by omega)).trans (h i hi)
section
variable {P:Program}{S:VSpecs}
def Nw (tmps:Array Value):ResultVar->Sem Value
 |.tmp t=>pure (tmps.getD t undef)
 |.cell a t=>do loadVar t (<-asAddr (tmps.getD a undef))
theorem Ad (fn:Func) (tmps:Array Value):results fn tmps=(do
  let vs <-fn.results.mapM (Nw tmps)
  pure (if h:vs.size=1 then vs[0] else .tuple vs)):=by
 unfold results;congr 1
theorem Ft {ρ:Plc}{U:Heap}{w:World}{env:Env}{tmps:Array Value}(hH:HRel ρ U w) (hL:LRel ρ U.n env tmps.toList) {r:ResultVar}{vr:VResult}
  (hc:Wc P r=some vr) {v:Value}(h:W2 env U vr=some v):∃ c,VRel ρ U.n v c/\(Nw tmps r).run P w=.ok c w:=by
 have aj:∀ t,VRel ρ U.n (env.getD t undef) (tmps.getD t undef):=λt=>YT (a:=⟨tmps,[]⟩) hL (x:=.tmp t) rfl;cases r with
 |tmp t =>simp[Wc] at hc;subst hc;simp only[W2,x8] at h;subst h;exact⟨_,aj t,rfl⟩
 |cell a t =>
  simp only[Wc] at hc;split at hc
  .rename_i i d hi hu;simp at hc;subst hc;simp only[W2,zj] at h;obtain⟨p,hp,rfl⟩:=h;simp only[Q7,Q5] at hp;have ha:=aj a;split at hp
   .rename_i g o s h1;rw[h1] at ha;split at hp
    .rename_i c hb;split at hp
     .rename_i hall;split at hp
      .rename_i v0 hv;simp at hp;subst hp;obtain⟨u,cA,hr⟩:=Iq hH hi hu hb hall hv ha;refine⟨u,cA,?_⟩;have:=hr w (Like.refl ρ w);have mZ:tmps.getD a undef=.pointer (some ⟨g,o,none⟩):=by
        generalize tmps.getD a undef=c at ha;cases ha;rfl
       rw[mZ] at this;simp only[Instr.loadAt,Instr.sureAddr,zo,xi,zi] at this;simp only[Nw,mZ,asAddr,zo,xi,zi];exact this
      .cases hp
     .cases hp
    .cases hp
   .rename_i i' o h1;rw[h1] at ha;split at hp
    .rename_i c esz wr tight hb;split at hp
     .rename_i v0 hv;simp at hp;subst hp;obtain⟨u,cA,hr⟩:=Q1s hH hi hu hb hv ha;refine⟨u,cA,?_⟩;have:=hr w (Like.refl ρ w);obtain⟨ad,mZ,_⟩:=ha.q1f;rw[mZ] at this;simp only[Instr.loadAt,Instr.sureAddr,zo,xi,zi] at this;simp only[Nw,mZ,asAddr,zo,xi,zi];exact this
     .cases hp
    .cases hp
   .cases hp
  .cases hc
theorem OD {α:Type}{ρ:Plc}{n:Nat}(g:α->Sem Value) (w:World) (f:α->Option Value):∀ (l:List α) (vs:List Value),l.mapM f=some vs ->
  (∀ a∈l,∀ v,f a=some v->∃ c,VRel ρ n v c/\(g a).run P w=.ok c w)->∃ cs,LRel ρ n vs cs/\(l.mapM g).run P w=.ok cs w:=by
 intro l;induction l with
 |nil=>intro vs h _;simp at h;subst h;exact⟨[],LRel.nil _ _,rfl⟩
 |cons a l ih =>
  intro vs h hg;rw[x6] at h;cases hf:f a with
  |none=>simp[hf] at h
  |some v =>
   cases hm:l.mapM f with
   |none=>simp[hf,hm] at h
   |some cE =>simp[hf,hm] at h;subst h;obtain⟨c,iO,iP⟩:=hg a (by simp) v hf;obtain⟨cs,p9,gL⟩:=ih cE hm (λb hb=>hg b (by simp[hb]));refine⟨c::cs,LRel.cons iO p9,?_⟩;rw[x6];simp[iP,gL]
theorem CI {ρ:Plc}{U:Heap}{w:World}{env:Env}{tmps:Array Value}(hH:HRel ρ U w) (hL:LRel ρ U.n env tmps.toList) {fn:Func}{rs:List VResult}
  (hc:NC P fn.results.toList=some rs) {v:Value}(h:Wq env U rs=some v):∃ c,VRel ρ U.n v c/\(results fn tmps).run P w=.ok c w:=by
 unfold NC at hc;have hall:∀ vs,rs.mapM (W2 env U)=some vs->∃ cs,LRel ρ U.n vs cs/\(fn.results.mapM (Nw tmps)).run P w=.ok cs.toArray w:=by
  intro vs cn;have m8:fn.results.toList.mapM (λr=>(Wc P r).bind (W2 env U))=some vs:=by
   have:∀ (l:List ResultVar) (rs:List VResult) (vs:List Value),l.mapM (Wc P)=some rs->rs.mapM (W2 env U)=some vs->l.mapM (λr=>(Wc P r).bind (W2 env U))=some vs:=by
    intro l;induction l with
    |nil=>intro rs vs h1 h2;simp at h1;subst h1;simpa using h2
    |cons r l ih =>
     intro rs vs h1 h2;rw[x6] at h1;cases hg:Wc P r with
     |none=>simp[hg] at h1
     |some x =>
      cases hm:l.mapM (Wc P) with
      |none=>simp[hg,hm] at h1
      |some br =>
       simp[hg,hm] at h1;subst h1;rw[x6] at h2;cases hx:W2 env U x with
       |none=>simp[hx] at h2
       |some y =>
        cases ie:br.mapM (W2 env U) with
        |none=>simp[hx,ie] at h2
        |some cE =>simp[hx,ie] at h2;subst h2;rw[x6];simp[hg,hx,ih br cE hm ie]
   exact this _ _ _ hc cn
  obtain⟨cs,k1,k2⟩:=OD (P:=P) (ρ:=ρ) (n:=U.n) (Nw tmps) w _ _ _ m8 (λr _ v hv=>by
   cases hr:Wc P r with
   |none=>rw[hr] at hv;cases hv
   |some vr=>rw[hr] at hv;exact Ft hH hL hr hv)
  refine⟨cs,k1,?_⟩;rw[Array.mapM_eq_mapM_toList];simp[k2]
 unfold Wq at h;split at h
 .rename_i r;obtain⟨cs,k1,k2⟩:=hall [v] (by simp[h]);have cz:cs.length=1:=by rw[<-k1.1];rfl
  obtain⟨c,rfl⟩:=zR.1 cz;refine⟨c,k1.2 0 v c rfl rfl,?_⟩;rw[Ad];simp_all
 .rename_i aK;simp only[zj] at h;obtain⟨vs,cn,rfl⟩:=h;obtain⟨cs,k1,k2⟩:=hall vs cn;refine⟨.tuple cs.toArray,VRel.q0j k1,?_⟩;have hl:cs.length≠1:=by
   rw[<-k1.1,(YZ _ _ _ cn).1]
   grind [List.length_eq_one_iff]
  rw[Ad];simp_all
theorem Oi {ρ:Plc}{n:Nat}(k:Nat):LRel ρ n (List.replicate k undef) (List.replicate k undef) :=
 ⟨rfl,(by grind [osj,List.mem_of_getElem?,Wa])⟩
theorem R7 {w:World}{D:Nat}{ds:List Deferred}(h:w.heap[D]?=some (.deferred (some ds))):(Instr.takeDeferred D).run P w=.ok ds (Rq w D (.deferred none)):=by simp[Instr.takeDeferred,QK h (λ_ _ _ e=>by cases e),Zg h (λ_ _ _ e=>by cases e)]
theorem Ext.mark {ρ0 ρ:Plc}{σ0 U:Heap}{w0 w:World}(hE:Ext ρ0 σ0 w0 ρ U w) {D:Nat}(hD:w0.heap.size<=D) (O:Obj):Ext ρ0 σ0 w0 ρ U (Rq w D O) :=
 ⟨hE.os,hE.tape,hE.output,by rw[HX];exact hE.size,λB hB hW=>(Vw w D O B (by omega)).trans (hE.keep B hB hW),hE.wr,hE.n,hE.pl⟩
theorem HRel.mark {ρ:Plc}{U:Heap}{w:World}(hH:HRel ρ U w) {D:Nat}{d:Option (List Deferred)}(hD:w.heap[D]?=some (.deferred d)) (O:Obj):HRel ρ U (Rq w D O) :=
 hH.world (by rw[HX];exact z9 _) (λi p hp=>Vw w D O p.blk (hH.q0n hD i p hp)) λg cs hg=>Vw w D O g λe=>by obtain⟨⟨e',f,h1⟩,_⟩:=hH.tab g cs hg;rw[e,hD] at h1;cases h1
theorem Ir {fn:Func}{tmps:Array Value}{R:Ending->World->Prop}{ρ0:Plc}{σ0:Heap}{w0:World}{ρ:Plc}{U:Heap}
  (p_:∀ w,HRel ρ U w->Ext ρ0 σ0 w0 ρ U w->∃ v,(results fn tmps).run P w=.ok v w/\R (.returned v) w) :
  ∀ (Ds:List Nat) (w:World),Ds.Nodup->(∀ D∈Ds,w0.heap.size<=D/\w.heap[D]?=some (.deferred (some [])))->HRel ρ U w->Ext ρ0 σ0 w0 ρ U w ->
   LeavesInM Fence.wide 0 P fn tmps R (Ds.map λD=>⟨.collected D,#[]⟩) .returning w:=by
 intro Ds;induction Ds with
 |nil=>intro w _ _ hH hE;exact p_ w hH hE
 |cons D Ds ih =>intro w gi hall hH hE;obtain⟨h1,h2⟩:=xA.1 gi;obtain⟨h3,h4⟩:=hall D (by simp);refine⟨by simp,.inl ⟨D,_,rfl,R7 h4,ih _ h2 (λE bS=>?_) (hH.mark h4 _) (hE.mark h3 _)⟩⟩;obtain⟨k1,k2⟩:=hall E (by simp[bS]);exact⟨k1,by grind [Vw]⟩
theorem Tw (hm:P.follows .mixedOrders=true) (hS:OkSpecs P S) {f:FuncId}{fn:Func}{c:Code}{vc:VCode}{rs:List VResult}(hf:P.funcs[f]?=some fn) (hb:fn.body=some c) (hc:comp P c=some vc) (hr:NC P fn.results.toList=some rs)
  {args:List Value}{U:Heap}{R:Value->Heap->Prop}(h:vwp S vc none (Z5r rs λv σf=>∃ v' U',DropTo U v σf v' U'/\R v' U') (args++List.replicate (fn.ntmps-args.length) undef) U):VCallsTo P f args U R:=by
 intro ρ w ax hH hL;refine callsIn_wide.1 (callsIn_of_wp_marks (n:=0) hf hb trivial (Q2b hm hS c vc hc (B:=w.heap.size) none none 0 _ _ U ρ w _ h hH ?_ (Mks.nil (z9 _)) (.inl ⟨rfl,rfl⟩) _ ?_) rfl)
 .have hl:args.length=ax.size:=by have:=hL.1;simpa using this
  have:=hL.append (Oi (ρ:=ρ) (n:=U.n) (fn.ntmps-args.length));simpa [hl] using this
 .intro e a' w' ⟨ah,ρ',U',k1,_,k2,k3,⟨_,Ds,k4,k6,k7⟩,k5⟩;have fin:(Zt (Wq ah U' rs) λv=>∃ v' aL,DropTo U v U' v' aL/\R v' aL)->LeavesInM Fence.wide 0 P fn a'.tmps (λe w'=>∃ c,e=.returned c/\Got ρ U w R c w') a'.defers .returning w':=by
   intro hk;rw[k4];refine Ir (λw1 iN ft=>?_) Ds w' k6 k7 k2 k5;cases hv:Wq ah U' rs with
   |none=>rw[hv] at hk;exact hk.elim
   |some v =>rw[hv] at hk;obtain⟨v',aL,hd,hR⟩:=hk;obtain⟨c,iO,iP⟩:=CI iN k3 hr hv;obtain⟨eC,j1,j2,j3⟩:=hd ρ w ρ' w1 c hH ft iN iO;exact⟨c,iP,c,rfl,v',eC,aL,hR,j1,j2,j3⟩
  cases e with
  |normal=>exact fin k1
  |ret=>exact fin k1
  |_=>exact k1.elim
end
end Go.V
namespace Go.V
open Go
def Fun (P:Program) (f:FuncId) (vc:VCode) (rs:List VResult) (nt:Nat):Prop :=
 ∃ fn,P.funcs[f]?=some fn/\fn.body.bind (comp P)=some vc/\NC P fn.results.toList=some rs/\fn.ntmps=nt/\(fn.name=="runtime.NumGoroutine")=false
def Z7s (U:Heap) (rs:List VResult) (R:Value->Heap->Prop):Exit->Env->Heap->Prop:=Z5r rs λv σf=>∃ v' U',DropTo U v σf v' U'/\R v' U'
section
variable {P:Program}{S:VSpecs}{f:FuncId}{vc:VCode}{rs:List VResult}{nt:Nat}
theorem Fun.calls (h:Fun P f vc rs nt) (hm:P.follows .mixedOrders=true) (hS:OkSpecs P S) {args:List Value}{U:Heap}{R:Value->Heap->Prop}
  (hw:vwp S vc none (Z7s U rs R) (args++List.replicate (nt-args.length) undef) U):VCalled P f args U R:=by
 obtain⟨fn,h1,h2,h3,h4,h5⟩:=h;cases hb:fn.body with
 |none=>rw[hb] at h2;cases h2
 |some c =>rw[hb] at h2;exact VCallsTo.called ⟨fn,h1,by rw[hb];rfl,h5⟩ (Tw hm hS h1 hb h2 h3 (by rw[h4];exact hw))
theorem Fun.enterable (h:Fun P f vc rs nt):Y9 P f:=by
 obtain⟨fn,h1,h2,h3,h4,h5⟩:=h;refine⟨fn,h1,?_,h5⟩;cases hb:fn.body with
 |none=>rw[hb] at h2;cases h2
 |some c=>rfl
theorem Fun.callsTo (h:Fun P f vc rs nt) (hm:P.follows .mixedOrders=true) (hS:OkSpecs P S) {args:List Value}{U:Heap}{R:Value->Heap->Prop}
  (hw:vwp S vc none (Z7s U rs R) (args++List.replicate (nt-args.length) undef) U):VCallsTo P f args U R:=by
 obtain⟨fn,h1,h2,h3,h4,h5⟩:=h;cases hb:fn.body with
 |none=>rw[hb] at h2;cases h2
 |some c =>rw[hb] at h2;exact Tw hm hS h1 hb h2 h3 (by rw[h4];exact hw)
def Q3 (P:Program):VSpecs where
 fn f:=some λargs U K=>VCalled P f args U K
 yl i:=some λargs U K=>Lp P i args U K
 it f:=@ite _ (Y9 P f) (Classical.propDecidable _) (some λi Y args U K=>UQ P i Y->VCallsTo P f args U K) none
theorem LU:OkSpecs P (Q3 P) :=
  ⟨λf s h => by obtain rfl:=osj h; exactλargs U K h => h,
   λf s h => by obtain rfl:=osj h; exactλargs U K h => h,
   λf T h => by
    simp only [Q3] at h;split at h
    . rename_i he; obtain rfl:=osj h; exact ⟨he, λi Y hY args U K h => h hY⟩
    . cases h⟩
end
end Go.V
namespace Go.V
open Go
inductive EB where
 |cells (c:List Value) (esz:El) (wr tight:Bool)
 |map (es:List Wl) (clock:Nat) (wr:Bool)
 |iter (m since:Nat) (seen:List Nat) (last:Nat)
 |lp (st:LoopState) (pend:Option Code)
 |siter (s:ByteArray) (pos:Nat)
inductive GT (α:Type) where
 |nil
 |node (v:α) (l r:GT α)
def GT.get {α:Type}(d:α) (t:GT α):Nat->α :=
 GT.rec (motive:=λ_=>Nat->α) (λ_=>d)
  (λv _ _ gl gr i=>Bool.rec (motive:=λ_=>α) (Bool.rec (motive:=λ_=>α) (gr (i / 2-1)) (gl (i / 2)) (Nat.beq (i % 2) 1)) v (Nat.beq i 0)) t
def GT.set {α:Type}(d:α) (f:Nat):GT α->Nat->α->GT α :=
 Nat.rec (motive:=λ_=>GT α->Nat->α->GT α) (λt _ _=>t)
  (λ_ ih t i b=>GT.rec (motive:=λ_=>GT α)
   (Bool.rec (motive:=λ_=>GT α) (Bool.rec (motive:=λ_=>GT α) (.node d .nil (ih .nil (i / 2-1) b)) (.node d (ih .nil (i / 2) b) .nil) (Nat.beq (i % 2) 1)) (.node b .nil .nil) (Nat.beq i 0))
   (λv l r _ _=>Bool.rec (motive:=λ_=>GT α) (Bool.rec (motive:=λ_=>GT α) (.node v l (ih r (i / 2-1) b)) (.node v (ih l (i / 2) b) r) (Nat.beq (i % 2) 1)) (.node b l r) (Nat.beq i 0)) t) f
theorem GT.q0x {α:Type}(d v:α) (l r:GT α) (k:Nat):(GT.node v l r).get d k=if k=0 then v else if k % 2=1 then l.get d (k / 2) else r.get d (k / 2-1):=by
 show (Bool.rec (motive:=λ_=>α) (Bool.rec (motive:=λ_=>α) (r.get d (k / 2-1)) (l.get d (k / 2)) (Nat.beq (k % 2) 1)) v (Nat.beq k 0))=_;by_cases h0:k=0
 .subst h0;rfl
 .have:Nat.beq k 0=false:=by
   cases h:Nat.beq k 0 with
   |false=>rfl
   |true=>exact absurd (zK h) h0
  rw[this,z6 h0];by_cases h1:k % 2=1
  .rw[z7 h1,h1];rfl
  .have:Nat.beq (k % 2) 1=false:=by
    cases h:Nat.beq (k % 2) 1 with
    |false=>rfl
    |true=>exact absurd (zK h) h1
   rw[this,z6 h1]
theorem GT.q2a {α:Type}(d v:α) (f:Nat) (l r:GT α) (i:Nat) (b:α):(GT.node v l r).set d (f+1) i b=if i=0 then .node b l r else if i % 2=1 then .node v (l.set d f (i / 2) b) r else .node v l (r.set d f (i / 2-1) b):=by
 show (Bool.rec (motive:=λ_=>GT α) (Bool.rec (motive:=λ_=>GT α) (.node v l (r.set d f (i / 2-1) b)) (.node v (l.set d f (i / 2) b) r) (Nat.beq (i % 2) 1)) (.node b l r) (Nat.beq i 0))=_;by_cases h0:i=0
 .subst h0;rfl
 .have:Nat.beq i 0=false:=by
   cases h:Nat.beq i 0 with
   |false=>rfl
   |true=>exact absurd (zK h) h0
  rw[this,z6 h0];by_cases h1:i % 2=1
  .rw[z7 h1,h1];rfl
  .have:Nat.beq (i % 2) 1=false:=by
    cases h:Nat.beq (i % 2) 1 with
    |false=>rfl
    |true=>exact absurd (zK h) h1
   rw[this,z6 h1]
theorem GT.set_nil {α:Type}(d:α) (f i:Nat) (b:α):(GT.nil:GT α).set d (f+1) i b=(GT.node d .nil .nil).set d (f+1) i b:=rfl
theorem GT.q1e {α:Type}(d:α):∀ (f:Nat) (t:GT α) (i:Nat) (b:α) (j:Nat),i+1<2 ^ f->(t.set d f i b).get d j=if j=i then b else t.get d j:=by
 intro f;induction f with
 |zero=>intro t i b j h;simp at h
 |succ f ih =>
  intro t i b j h;have hp:2 ^ (f+1)=2*2 ^ f:=by rw[Nat.pow_succ];omega
  have gk:∀ v l r,((GT.node v l r).set d (f+1) i b).get d j=if j=i then b else (GT.node v l r).get d j:=by
   intro v l r;rw[GT.q2a];by_cases hi:i=0
   .subst hi;rw[z7 rfl,GT.q0x,GT.q0x];split<;>rfl
   .rw[z6 hi];by_cases ho:i % 2=1
    .rw[z7 ho,GT.q0x,GT.q0x,ih _ _ _ _ (by omega)];by_cases gA:j=0
     .subst gA;rw[z7 rfl,z6 (Ne.symm hi),z7 rfl]
     .rw[z6 gA,z6 gA];by_cases iu:j % 2=1
      .rw[z7 iu,z7 iu];by_cases aN:j=i
       .subst aN;simp
       .rw[z6 aN,z6 (by omega)]
      .rw[z6 iu,z6 iu,z6 (by rintro rfl;exact iu ho)]
    .rw[z6 ho,GT.q0x,GT.q0x,ih _ _ _ _ (by omega)];by_cases gA:j=0
     .subst gA;rw[z7 rfl,z6 (Ne.symm hi),z7 rfl]
     .rw[z6 gA,z6 gA];by_cases iu:j % 2=1
      .rw[z7 iu,z7 iu,z6 (by rintro rfl;exact ho iu)]
      .rw[z6 iu,z6 iu];by_cases aN:j=i
       .subst aN;simp
       .rw[z6 aN,z6 (by omega)]
  cases t with
  |node v l r=>exact gk v l r
  |nil =>
   rw[GT.set_nil,gk d .nil .nil,GT.q0x];split
   .rfl
   .split
    .rfl
    .split<;>rfl
structure CH where
 t:GT (Option EB)
 n:Nat
def CH.get (h:CH) (i:Nat):Option EB:=Bool.rec (motive:=λ_=>Option EB) none (h.t.get none i) (Nat.blt i h.n)
def CH.upd (h:CH) (i:Nat) (b:EB):CH:=⟨h.t.set none 32 i (some b),h.n⟩
def CH.kill (h:CH) (i:Nat):CH:=⟨h.t.set none 32 i none,h.n⟩
def CH.push (h:CH) (b:EB):CH:=⟨h.t.set none 32 h.n (some b),h.n+1⟩
def CH.room (h:CH):Bool:=Nat.ble h.n 1000000000
def CH.empty:CH:=⟨.nil,0⟩
theorem CH.q0w {h:CH}{i:Nat}(hi:i<h.n):h.get i=h.t.get none i:=by unfold CH.get;rw[show Nat.blt i h.n=true from Nat.ble_eq_true_of_le hi]
theorem CH.q0r {h:CH}{i:Nat}(hi:h.n<=i):h.get i=none:=by
 unfold CH.get;cases hb:Nat.blt i h.n with
 |false=>rfl
 |true=>have:=zx hb;omega
theorem CH.q2f {h:CH}{i:Nat}{b:EB}(hi:i<h.n) (hs:h.n<=1000000001) (j:Nat):(h.upd i b).get j=if j=i then some b else h.get j:=by
 rcases zm j h.n with hj|hj
 .rw[CH.q0w (h:=h.upd i b) hj,CH.q0w hj];exact GT.q1e none 32 _ _ _ _ (by omega)
 .rw[CH.q0r (h:=h.upd i b) hj,CH.q0r hj,z6 (by omega)]
theorem CH.q2b {h:CH}{i:Nat}(hi:i<h.n) (hs:h.n<=1000000001) (j:Nat):(h.kill i).get j=if j=i then none else h.get j:=by
 rcases zm j h.n with hj|hj
 .rw[CH.q0w (h:=h.kill i) hj,CH.q0w hj];exact GT.q1e none 32 _ _ _ _ (by omega)
 .rw[CH.q0r (h:=h.kill i) hj,CH.q0r hj];simp
theorem CH.q1p {h:CH}{b:EB}(hs:h.n<=1000000001) (j:Nat):(h.push b).get j=if j=h.n then some b else h.get j:=by
 rcases zm j (h.n+1) with hj|hj
 .rw[CH.q0w (h:=h.push b) hj];show (h.t.set none 32 h.n (some b)).get none j=_;rw[GT.q1e none 32 _ _ _ _ (by omega)];split
  .rfl
  .rw[CH.q0w (by omega)]
 .rw[CH.q0r (h:=h.push b) hj,CH.q0r (by omega),z6 (by omega)]
def EB.to (q:Env×Loop):EB->Blk
 |.cells c e w t=>.cells c e w t
 |.map es cl w=>.obj (.map es cl) w
 |.iter m s sn l=>.obj (.iter m s sn l) true
 |.lp st pend=>.obj (.lp q.1 q.2 st pend) true
 |.siter s pos=>.obj (.siter s pos) true
structure CSim (rs:Nat->Env×Loop) (h:CH) (U:Heap):Prop where
 n:h.n=U.n
 sm:h.n<=1000000001
 get:∀ i,U.get i=(h.get i).map (EB.to (rs i))
theorem CSim.cells {rs:Nat->Env×Loop}{h:CH}{U:Heap}(hs:CSim rs h U) {i:Nat}{c:List Value}{e:El}{w t:Bool}(hg:h.get i=some (.cells c e w t)):U.get i=some (.cells c e w t):=by rw[hs.get,hg];rfl
theorem CSim.map {rs:Nat->Env×Loop}{h:CH}{U:Heap}(hs:CSim rs h U) {i:Nat}{es:List Wl}{cl:Nat}{w:Bool}(hg:h.get i=some (.map es cl w)):U.get i=some (.obj (.map es cl) w):=by rw[hs.get,hg];rfl
theorem CSim.iter {rs:Nat->Env×Loop}{h:CH}{U:Heap}(hs:CSim rs h U) {i m s:Nat}{sn:List Nat}{l:Nat}(hg:h.get i=some (.iter m s sn l)):U.get i=some (.obj (.iter m s sn l) true):=by rw[hs.get,hg];rfl
theorem CSim.lp {rs:Nat->Env×Loop}{h:CH}{U:Heap}(hs:CSim rs h U) {i:Nat}{st:LoopState}{pend:Option Code}(hg:h.get i=some (.lp st pend)):U.get i=some (.obj (.lp (rs i).1 (rs i).2 st pend) true):=by rw[hs.get,hg];rfl
theorem CSim.lt {rs:Nat->Env×Loop}{h:CH}{U:Heap}(hs:CSim rs h U) {i:Nat}{b:EB}(hg:h.get i=some b):i<h.n:=by
 have:U.get i=some (b.to (rs i)):=by rw[hs.get,hg];rfl
 rw[hs.n];exact U.lt this
theorem CSim.upd {rs:Nat->Env×Loop}{h:CH}{U:Heap}(hs:CSim rs h U) {i:Nat}(hi:i<h.n) {b:EB}{b':Blk}(hb:b.to (rs i)=b'):CSim rs (h.upd i b) (U.upd i b'):=by
 refine⟨hs.n,hs.sm,λj=>?_⟩;rw[CH.q2f hi hs.sm];show (if j=i/\i<U.n then some b' else U.get j)=_;by_cases hj:j=i
 .subst hj;rw[z7 ⟨rfl,by rw[<-hs.n];exact hi⟩,z7 rfl,<-hb];rfl
 .rw[z6 (λe=>hj e.1),z6 hj];exact hs.get j
theorem CSim.kill {rs:Nat->Env×Loop}{h:CH}{U:Heap}(hs:CSim rs h U) {i:Nat}(hi:i<h.n):CSim rs (h.kill i) (U.kill i):=by
 refine⟨hs.n,hs.sm,λj=>?_⟩;rw[CH.q2b hi hs.sm];show (if j=i then none else U.get j)=_;by_cases hj:j=i
 .rw[z7 hj,z7 hj];rfl
 .rw[z6 hj,z6 hj];exact hs.get j
theorem CSim.push {rs:Nat->Env×Loop}{h:CH}{U:Heap}(hs:CSim rs h U) (hr:h.room=true) {b:EB}{b':Blk}(hb:b.to (rs h.n)=b'):CSim rs (h.push b) (U.push b'):=by
 have hr:h.n<=1000000000:=zx hr;refine⟨by show h.n+1=U.n+1;rw[hs.n],by show h.n+1<=_;omega,λj=>?_⟩;rw[CH.q1p hs.sm];show (if j=U.n then some b' else U.get j)=_;rw[<-hs.n];by_cases hj:j=h.n
 .subst hj;rw[z7 rfl,z7 rfl,<-hb];rfl
 .rw[z6 hj,z6 hj];exact hs.get j
theorem CSim.rs {rs br:Nat->Env×Loop}{h:CH}{U:Heap}(hs:CSim rs h U) (hr:∀ i,i<h.n->br i=rs i):CSim br h U :=
 ⟨hs.n,hs.sm,λi=>by
  rw[hs.get];cases hg:h.get i with
  |none=>rfl
  |some b=>rw[hr i (hs.lt hg)]⟩
def CH.sl (U:CH) (esz:Nat):Value->Option (List Value)
 |.slice none 0 0=>some []
 |.slice (some ⟨i,o,none⟩) n _ =>
  match U.get i with
  |some (.cells c e _ _)=>if e.sz=esz/\o+n*esz<=c.length then some ((c.drop o).take (n*esz)) else none
  |_=>none
 |_=>none
def CH.mapAt (U:CH) (m:Nat):Option (List Wl×Nat×Bool):=match U.get m with
 |some (.map es clock wr)=>some (es,clock,wr)
 |_=>none
def NA (U:CH) (b:EB) (v:Value):Option (Value×CH):=if U.room=true then some (v,U.push b) else none
def Fu (esz:El) (bytes:Nat) (U:CH) (s:Value) (m:Nat) (xs:List Value):Option (Value×CH) :=
 match s with
 |.slice none 0 0 =>
  if m=0 then some (s,U) else
  if m*bytes<=2 ^ 46 then NA U (.cells xs esz true false) (.slice (some ⟨U.n,0,none⟩) m m) else none
 |.slice (some ⟨i,o,none⟩) n cap =>
  match U.get i with
  |some (.cells c e wr tight) =>
   if e=esz/\n<=cap/\o+n*esz.sz<=c.length then
    if m=0 then some (s,U) else
    if n+m<=cap then
     (if wr=true/\o+(n+m)*esz.sz<=c.length then some (.slice (some ⟨i,o,none⟩) (n+m) cap,U.upd i (.cells (WR c (o+n*esz.sz) xs) e wr tight)) else none)
    else if (n+m)*bytes<=2 ^ 46 then
     (if tight then NA U (.cells ((c.drop o).take (n*esz.sz)++xs) esz true false) (.slice (some ⟨U.n,0,none⟩) (n+m) (n+m))
     else if wr then NA (U.kill i) (.cells ((c.drop o).take (n*esz.sz)++xs) esz true false) (.slice (some ⟨U.n,0,none⟩) (n+m) (n+m))
     else none)
    else none
   else none
  |_=>none
 |.slice (some ⟨i,o,some 0⟩) n cap =>
  match U.get i with
  |some (.cells c e _ _) =>
   if e=esz/\n=cap/\o+n*esz.sz<=c.length/\m≠0/\(n+m)*bytes<=2 ^ 46 then
    NA U (.cells ((c.drop o).take (n*esz.sz)++xs) esz true false) (.slice (some ⟨U.n,0,none⟩) (n+m) (n+m))
   else none
  |_=>none
 |_=>none
def Q0o (size:Nat) (U:CH) (s:Value) (l h:Nat) (m:Option Nat):Option (Value×CH) :=
 match s with
 |.slice none 0 0=>if l=0/\h=0/\(m.getD 0)=0 then some (.slice none 0 0,U) else none
 |.slice (some ⟨i,o,none⟩) _ cap =>
  match U.get i with
  |some (.cells _ e _ t) =>
   match m with
   |none=>if e.sz=size/\l<=h/\h<=cap then some (.slice (some ⟨i,o+l*size,none⟩) (h-l) (cap-l),U) else none
   |some m =>
    if e.sz=size/\l<=h/\h<=m/\m<=cap then
     if m=l then NA U (.cells [] e false true) (.slice (some ⟨U.n,0,none⟩) 0 0)
     else if t=false/\h=m then some (.slice (some ⟨i,o+l*size,some 0⟩) (h-l) (m-l),U)
     else some (.slice (some ⟨i,o+l*size,none⟩) (h-l) (m-l),U)
    else none
  |_=>none
 |_=>none
def Z2d:Nat->Value->Value->CH->Option Bool
 |0,.pointer none,.pointer none,_=>some true
 |0,.pointer none,.pointer (some _),_=>some false
 |0,.pointer (some _),.pointer none,_=>some false
 |0,.pointer (some ⟨i,o,none⟩),.pointer (some ⟨j,q,none⟩),U=>if i=j/\o=q/\(U.get i).isSome=true then some true else none
 |1,.slice none _ _,.slice none _ _,_=>some true
 |1,.slice none _ _,.slice (some _) _ _,_=>some false
 |1,.slice (some _) _ _,.slice none _ _,_=>some false
 |2,.map none,.map none,_=>some true
 |2,.map none,.map (some _),_=>some false
 |2,.map (some _),.map none,_=>some false
 |3,.nilFunc,.nilFunc,_=>some true
 |3,.nilFunc,.func _ _ _,_=>some false
 |3,.func _ _ _,.nilFunc,_=>some false
 |_,_,_,_=>none
def Y0 (o:XOp) (ev:Operand->Value) (U:CH):Option (Value×CH) :=
 match o with
 |.eqAgg neg s x y=>match ev x,ev y with
  |.agg a,.agg b=>if fits s a.toList=true/\fits s b.toList=true then some (.bool (if neg then !(QD a.toList b.toList) else QD a.toList b.toList),U) else none
  |_,_=>none
 |.eqNil kd neg x y=>match Z2d kd (ev x) (ev y) U with|some b=>some (.bool (if neg then !b else b),U)|none=>none
 |.makeMap=>NA U (.map [] 0 true) (.map (some U.n))
 |.lookup mk z ok x i =>
  let k:=ev i
  if JY mk k then
   match ev x with
   |.map none=>some (if ok then .tuple #[z,.bool false] else z,U)
   |.map (some m)=>match U.mapAt m with
    |some (es,_,_)=>if es.all (λe=>JY mk e.1) then
      (match Z7 k es with
      |some e=>some (if ok then .tuple #[e.2.1,.bool true] else e.2.1,U)
      |none=>some (if ok then .tuple #[z,.bool false] else z,U)) else none
    |none=>none
   |_=>none
  else none
 |.mapUpdate mk m k v=>match ev m with
  |.map (some i)=>match U.mapAt i with
   |some (es,clock,true)=>if JY mk (ev k)&&es.all (λe=>JY mk e.1) then some (undef,U.upd i (.map (ZB (ev k) (ev v) clock es).1 (ZB (ev k) (ev v) clock es).2 true)) else none
   |_=>none
  |_=>none
 |.delete mk m k=>match ev m with
  |.map (some i)=>match U.mapAt i with
   |some (es,clock,true)=>if JY mk (ev k)&&es.all (λe=>JY mk e.1) then some (.tuple #[],U.upd i (.map (Td (ev k) es) clock true)) else none
   |_=>none
  |_=>none
 |.lenMap x=>match ev x with
  |.map none=>some (.int .i64 0,U)
  |.map (some m)=>match U.mapAt m with
   |some (es,_,_)=>some (.int .i64 es.length,U)
   |none=>none
  |_=>none
 |.rangeMap x=>match ev x with
  |.map (some m)=>match U.mapAt m with
   |some (_,clock,_)=>NA U (.iter m clock [] clock) (.pointer (some ⟨U.n,0,none⟩))
   |none=>none
  |_=>none
 |.rangeStr x=>match ev x with
  |.string s=>NA U (.siter s 0) (.pointer (some ⟨U.n,0,none⟩))
  |_=>none
 |.nextStr x=>match ev x with
  |.pointer (some ⟨i,0,none⟩)=>match U.get i with
   |some (.siter s pos)=>match s.data.toList[pos]? with
    |some b=>if b.toNat<128 then some (.tuple #[.bool true,.int .i64 pos,.int .i32 b.toNat],U.upd i (.siter s (pos+1))) else none
    |none=>some (.tuple #[.bool false],U)
   |_=>none
  |_=>none
 |.entry x=>match ev x with
  |.pointer (some ⟨i,0,none⟩)=>match U.get i with
   |some (.iter m _ seen last)=>match U.mapAt m,seen.getLast? with
    |some (es,clock,_),some b=>if clock=last then (match es.find? (λe=>e.2.2==b) with|some e=>if UL e.1 then some (.tuple #[e.1,e.2.1],U) else none|none=>none) else none
    |_,_=>none
   |_=>none
  |_=>none
 |.copy size d s=>match ev d,ev s with
  |.slice db dn _,.slice sb sn sc =>
   if min sn dn=0 then some (.int .i64 0,U) else
   match db,U.sl size (.slice sb (min sn dn) sc) with
   |some ⟨i,o,none⟩,some xs=>match U.get i with
    |some (.cells c e wr tight)=>if wr=true/\e.sz=size/\o+xs.length<=c.length/\xs.all cellOk=true then some (.int .i64 (min sn dn:Nat),U.upd i (.cells (WR c o xs) e wr tight)) else none
    |_=>none
   |_,_=>none
  |_,_=>none
 |.clear z x=>match ev x with
  |.slice b n _ =>
   if n=0 then some (.tuple #[],U) else
   match b with
   |some ⟨i,o,none⟩=>match U.get i with
    |some (.cells c e wr tight)=>if wr=true/\o+n*z.length<=c.length/\z.all cellOk=true then some (.tuple #[],U.upd i (.cells (WR c o (Rx n z)) e wr tight)) else none
    |_=>none
   |_=>none
  |_=>none
 |.toUnsafe x=>match ev x with
  |.pointer none=>some (.pointer none,U)
  |.pointer (some ⟨i,o,none⟩)=>match U.get i with
   |some (.cells c _ _ _)=>if o<c.length then some (.pointer (some ⟨i,o,none⟩),U) else none
   |_=>none
  |_=>none
 |.fromUnsafe u size x=>match ev x with
  |.pointer none=>some (.pointer none,U)
  |.pointer (some ⟨i,o,none⟩)=>match U.get i with
   |some (.cells c e true true)=>if o=0/\e.ty=u/\size<=c.length then some (.pointer (some ⟨i,o,none⟩),U) else none
   |_=>none
  |_=>none
 |.sliceData x=>match ev x with
  |.slice none _ _=>some (.pointer none,U)
  |.slice (some ⟨i,o,none⟩) _ cap=>if cap≠0/\(U.get i).isSome=true then some (.pointer (some ⟨i,o,none⟩),U) else none
  |_=>none
 |.unsafeStr e x n=>match ev x,ev n with
  |.pointer p,.int .i64 k =>
   if k=0 then some (.string ⟨#[]⟩,U) else
   match p with
   |some ⟨i,o,none⟩=>match U.get i with
    |some (.cells c el true tight) =>
     if 0<k/\k<=2 ^ 62/\el.ty=e/\o+k.toNat<=c.length then
      (match Tf ((c.drop o).take k.toNat) with
      |some s=>some (.string s,U.upd i (.cells c el false tight))
      |none=>none) else none
    |_=>none
   |_=>none
  |_,_=>none
 |.bytesStr x=>match ev x with
  |.slice a n c=>match U.sl 1 (.slice a n c) with
   |some xs=>match Tf xs with|some s=>some (.string s,U)|none=>none
   |none=>none
  |_=>none
 |.strBytes e x=>match ev x with
  |.string s=>if s.size<=2 ^ 62 then NA U (.cells (s.data.toList.map λb=>.int .u8 b.toNat) ⟨1,e⟩ true false) (.slice (some ⟨U.n,0,none⟩) s.size s.size) else none
  |_=>none
 |_=>none
def Heap.empty:Heap:=⟨λ_=>none,0,λ_ _=>rfl⟩
def Q7l (o:VOp) (ev:Operand->Value) (U:CH):Option (Value×CH) :=
 match o with
 |.alloc t z=>NA U (.cells z ⟨z.length,t⟩ true true) (.pointer (some ⟨U.n,0,none⟩))
 |.box t x=>match VL (ev x) with
  |some vs=>NA U (.cells vs ⟨vs.length,t⟩ true true) (.pointer (some ⟨U.n,0,none⟩))
  |none=>none
 |.buildSlice esz z len parts=>match My (Rx len z) (parts.map λp=>(p.1*esz.sz,esz.sz,ev p.2)) with
  |some cs=>NA U (.cells cs esz true true) (.slice (some ⟨U.n,0,none⟩) len len)
  |none=>none
 |.load agg size a=>match ev a with
  |.pointer (some ⟨g,o,some _⟩)=>(match Q7e g with
   |some c=>if c.all Zy then (match YK agg size c o with|some v=>some (v,U)|none=>none) else none
   |none=>none)
  |.pointer (some ⟨i,o,none⟩)=>match U.get i with
   |some (.cells c _ _ _)=>match YK agg size c o with|some v=>some (v,U)|none=>none
   |_=>none
  |_=>none
 |.store size a v=>match ev a,VL (ev v) with
  |.pointer (some ⟨i,o,none⟩),some vs=>match U.get i with
   |some (.cells c e wr tight)=>if wr=true/\vs.length=size/\o+size<=c.length/\vs.all cellOk=true then some (undef,U.upd i (.cells (WR c o vs) e wr tight)) else none
   |_=>none
  |_,_=>none
 |.slice size x lo hi mx =>
  match ev x with
  |.slice a n cap =>
   match Xs ev lo 0,Xs ev hi n,mx with
   |some l,some h,none=>Q0o size U (.slice a n cap) l h none
   |some l,some h,some _=>match Xs ev mx 0,hi with
    |some m,some _=>Q0o size U (.slice a n cap) l h (some m)
    |_,_=>none
   |_,_,_=>none
  |_=>none
 |.makeSlice esz bytes z l c =>
  match ev l,ev c with
  |.int _ a,.int _ b=>if 0<=a/\a<=b/\b*bytes<=2 ^ 46/\b<=2 ^ 46 then NA U (.cells (Rx b.toNat z) esz true true) (.slice (some ⟨U.n,0,none⟩) a.toNat b.toNat) else none
  |_,_=>none
 |.append esz bytes s x =>
  match U.sl esz.sz (ev x),ev x with
  |some xs,.slice _ m _=>if xs.all cellOk then Fu esz bytes U (ev s) m xs else none
  |_,_=>none
 |.ext o=>Y0 o ev U
 |o=>if o.kind=0 then (match Q7 o ev Heap.empty with|some p=>some (p.1,U)|none=>none) else none
def ESnd (rs:Nat->Env×Loop) (h:CH) (_σ:Heap) (r:Option (Value×Heap)) (p:Value×CH):Prop:=h.n<=p.2.n/\∃ U',r=some (p.1,U')/\CSim rs p.2 U'
theorem ESnd.same {rs:Nat->Env×Loop}{h:CH}{U:Heap}(hs:CSim rs h U) {r:Option (Value×Heap)}{v:Value}(hr:r=some (v,U)):ESnd rs h U r (v,h):=⟨z9 _,U,hr,hs⟩
theorem ESnd.upd {rs:Nat->Env×Loop}{h:CH}{U:Heap}(hs:CSim rs h U) {r:Option (Value×Heap)}{v:Value}{i:Nat}{b:EB}{b0:EB}(hg:h.get i=some b0) {b':Blk}(hb:b.to (rs i)=b') (hr:r=some (v,U.upd i b')):ESnd rs h U r (v,h.upd i b):=by have hi:=hs.lt hg;have oP:=hs.sm;exact⟨z9 _,_,hr,hs.upd hi hb⟩
theorem ESnd.push {rs:Nat->Env×Loop}{h:CH}{U:Heap}(hs:CSim rs h U) {r:Option (Value×Heap)}{v:Value}{p:Value×CH}{b:EB}(hp:NA h b v=some p) {b':Blk}(hb:b.to (rs h.n)=b') (hr:r=some (v,U.push b')):ESnd rs h U r p:=by
 unfold NA at hp;split at hp
 .rename_i aM;obtain rfl:=osj hp;have oP:=hs.sm;exact⟨Nat.le_succ _,_,hr,hs.push aM hb⟩
 .cases hp
theorem CSim.sl {rs:Nat->Env×Loop}{h:CH}{U:Heap}(hs:CSim rs h U) {esz:Nat}{v:Value}{xs:List Value}(hx:h.sl esz v=some xs):U.sl esz v=some xs:=by
 unfold CH.sl at hx;unfold Heap.sl;split at hx
 .exact hx
 .rename_i i o n c;split at hx
  .rename_i cs e wr t hb;simp only[hs.cells hb];exact hx
  .cases hx
 .cases hx
theorem CSim.mapAt {rs:Nat->Env×Loop}{h:CH}{U:Heap}(hs:CSim rs h U) {m:Nat}{x:List Wl×Nat×Bool}(hx:h.mapAt m=some x):U.mapAt m=some x/\h.get m=some (.map x.1 x.2.1 x.2.2):=by
 unfold CH.mapAt at hx;unfold Heap.mapAt;split at hx
 .rename_i es clock wr hb;obtain rfl:=osj hx;exact⟨by simp only[hs.map hb],hb⟩
 .cases hx
theorem Q0d {rs:Nat->Env×Loop}{h:CH}{U:Heap}(hs:CSim rs h U) {kd:Nat}{a b:Value}{r:Bool}(hx:Z2d kd a b h=some r):Xy kd a b U=some r:=by
 unfold Z2d at hx;unfold Xy
 split at hx<;>first
  |exact hx
  |(cases hx;done)
  |skip
 rename_i i o j q;split at hx
 .rename_i hc;obtain⟨h1,h2,h3⟩:=hc;have cX:i=j/\o=q/\(U.get i).isSome=true:=⟨h1,h2,by rw[hs.get];simpa using h3⟩;simp only[z7 cX];exact hx
 .cases hx
theorem Es {rs:Nat->Env×Loop}{h:CH}{U:Heap}(hs:CSim rs h U) {esz:El}{bytes:Nat}{s:Value}{m:Nat}{xs:List Value}{p:Value×CH}(hx:Fu esz bytes h s m xs=some p):ESnd rs h U (Y2 esz bytes U s m xs) p:=by
 unfold Fu at hx;unfold Y2;split at hx
 .split at hx
  .rename_i hm;simp only[z7 hm];obtain rfl:=osj hx;exact .same hs rfl
  .rename_i hm;simp only[z6 hm];split at hx
   .rename_i hb;simp only[z7 hb];rw[hs.n] at hx;exact .push hs hx rfl rfl
   .cases hx
 .rename_i i o n cap;split at hx
  .rename_i c e wr tight hg;have oP:=hs.sm;have hi:=hs.lt hg;simp only[hs.cells hg];split at hx
   .rename_i h1;simp only[z7 h1];split at hx
    .rename_i h2;simp only[z7 h2];obtain rfl:=osj hx;exact .same hs rfl
    .rename_i h2;simp only[z6 h2];split at hx
     .rename_i h3;simp only[z7 h3];split at hx
      .rename_i h4;simp only[z7 h4];obtain rfl:=osj hx;exact .upd hs hg rfl rfl
      .cases hx
     .rename_i h3;simp only[z6 h3];split at hx
      .rename_i h4;simp only[z7 h4];split at hx
       .rename_i h5;simp only[z7 h5];rw[hs.n] at hx;exact .push hs hx rfl rfl
       .rename_i h5;simp only[z6 h5];split at hx
        .rename_i h6;simp only[z7 h6];rw[hs.n] at hx;have hk:=hs.kill hi;obtain⟨k1,U',k2,k3⟩:=ESnd.push (r:=some (.slice (some ⟨U.n,0,none⟩) (n+m) (n+m),(U.kill i).push (.cells ((c.drop o).take (n*esz.sz)++xs) esz true false))) hk hx rfl rfl;exact⟨k1,U',k2,k3⟩
        .cases hx
      .cases hx
   .cases hx
  .cases hx
 .rename_i i o n cap;split at hx
  .rename_i c e wr tight hg;simp only[hs.cells hg];split at hx
   .rename_i h1;simp only[z7 h1];rw[hs.n] at hx;exact .push hs hx rfl rfl
   .cases hx
  .cases hx
 .cases hx
theorem T4 {rs:Nat->Env×Loop}{h:CH}{U:Heap}(hs:CSim rs h U) {size:Nat}{s:Value}{l k:Nat}{m:Option Nat}{p:Value×CH}(hx:Q0o size h s l k m=some p):ESnd rs h U (K7 size U s l k m) p:=by
 unfold Q0o at hx;unfold K7;split at hx
 .split at hx
  .rename_i hm;simp only[z7 hm];obtain rfl:=osj hx;exact .same hs rfl
  .cases hx
 .rename_i i o n cap;split at hx
  .rename_i c e wr tight hg;simp only[hs.cells hg];split at hx
   .split at hx
    .rename_i h1;simp only[z7 h1];obtain rfl:=osj hx;exact .same hs rfl
    .cases hx
   .split at hx
    .rename_i h1;simp only[z7 h1];split at hx
     .rename_i h2;simp only[z7 h2];rw[hs.n] at hx;exact .push hs hx rfl rfl
     .rename_i h2;simp only[z6 h2];split at hx
      .rename_i h3;simp only[z7 h3];obtain rfl:=osj hx;exact .same hs rfl
      .rename_i h3;simp only[z6 h3];obtain rfl:=osj hx;exact .same hs rfl
    .cases hx
  .cases hx
 .cases hx
theorem S1 {rs:Nat->Env×Loop}{h:CH}{U:Heap}(hs:CSim rs h U) {o:XOp}{ev:Operand->Value}{p:Value×CH}(hx:Y0 o ev h=some p):ESnd rs h U (ZT o ev U) p:=by
 cases o
 case eqAgg neg s x y =>
  simp only[Y0] at hx;simp only[ZT];split at hx
  .rename_i a b ha hb;split at hx
   .rename_i hc;rw[ha,hb];simp only;rw[z7 hc];obtain rfl:=osj hx;exact .same hs rfl
   .cases hx
  .cases hx
 case eqNil kd neg x y =>
  simp only[Y0] at hx;simp only[ZT];split at hx
  .rename_i b hb;rw[Q0d hs hb];obtain rfl:=osj hx;exact .same hs rfl
  .cases hx
 case makeMap =>
  simp only[Y0] at hx;simp only[ZT];rw[hs.n] at hx;exact .push hs hx rfl rfl
 case lookup mk z ok x i =>
  simp only[Y0] at hx;simp only[ZT];generalize ev x=q0 at hx |-;generalize ev i=q1 at hx |-;split at hx
  .rename_i hk;simp only[z7 hk];split at hx
   .obtain rfl:=osj hx;exact .same hs rfl
   .rename_i m hm;split at hx
    .rename_i es cl wr gM;obtain⟨k1,k2⟩:=hs.mapAt gM;simp only[k1];split at hx
     .rename_i hall;simp only[z7 hall];split at hx
      .rename_i e hf;simp only[hf];obtain rfl:=osj hx;exact .same hs rfl
      .rename_i hf;simp only[hf];obtain rfl:=osj hx;exact .same hs rfl
     .cases hx
    .cases hx
   .cases hx
  .cases hx
 case mapUpdate mk m k v =>
  simp only[Y0] at hx;simp only[ZT];generalize ev m=q0 at hx |-;split at hx
  .rename_i i hi;split at hx
   .rename_i es cl gM;obtain⟨k1,k2⟩:=hs.mapAt gM;simp only[k1];split at hx
    .rename_i hc;simp only[z7 hc];obtain rfl:=osj hx;exact .upd hs k2 rfl rfl
    .cases hx
   .cases hx
  .cases hx
 case delete mk m k =>
  simp only[Y0] at hx;simp only[ZT];generalize ev m=q0 at hx |-;split at hx
  .rename_i i hi;split at hx
   .rename_i es cl gM;obtain⟨k1,k2⟩:=hs.mapAt gM;simp only[k1];split at hx
    .rename_i hc;simp only[z7 hc];obtain rfl:=osj hx;exact .upd hs k2 rfl rfl
    .cases hx
   .cases hx
  .cases hx
 case mapEntry=>cases hx
 case entryStore=>cases hx
 case lenMap x =>
  simp only[Y0] at hx;simp only[ZT];generalize ev x=q0 at hx |-;split at hx
  .obtain rfl:=osj hx;exact .same hs rfl
  .split at hx
   .rename_i es cl wr gM;obtain⟨k1,k2⟩:=hs.mapAt gM;simp only[k1];obtain rfl:=osj hx;exact .same hs rfl
   .cases hx
  .cases hx
 case rangeMap x =>
  simp only[Y0] at hx;simp only[ZT];generalize ev x=q0 at hx |-;split at hx
  .split at hx
   .rename_i es cl wr gM;obtain⟨k1,k2⟩:=hs.mapAt gM;simp only[k1];rw[hs.n] at hx;exact .push hs hx rfl rfl
   .cases hx
  .cases hx
 case nextMap=>cases hx
 case rangeStr x =>
  simp only[Y0] at hx;simp only[ZT];generalize ev x=q0 at hx |-;split at hx
  .rw[hs.n] at hx;exact .push hs hx rfl rfl
  .cases hx
 case nextStr x =>
  simp only[Y0] at hx;simp only[ZT];generalize ev x=q0 at hx |-;split at hx
  .rename_i i;split at hx
   .rename_i s pos hg;have cW:U.get i=some (.obj (.siter s pos) true):=by rw[hs.get,hg];rfl
    simp only[cW];split at hx
    .rename_i b hb;split at hx
     .rename_i ao;simp only[hb,z7 ao];obtain rfl:=osj hx;exact .upd hs hg rfl rfl
     .cases hx
    .rename_i hb;simp only[hb];obtain rfl:=osj hx;exact .same hs rfl
   .cases hx
  .cases hx
 case entry x =>
  simp only[Y0] at hx;simp only[ZT];generalize ev x=q0 at hx |-;split at hx
  .split at hx
   .rename_i m since seen last hg;simp only[hs.iter hg];split at hx
    .rename_i es clock wr b gM dA;obtain⟨k1,_⟩:=hs.mapAt gM;simp only[k1,dA];split at hx
     .rename_i hc;rw[z7 hc];split at hx
      .rename_i e hf;split at hx
       .rename_i hp;rw[hf];simp only[hp,zq];obtain rfl:=osj hx;exact .same hs rfl
       .cases hx
      .cases hx
     .cases hx
    .cases hx
   .cases hx
  .cases hx
 case copy size d s =>
  simp only[Y0] at hx;simp only[ZT];generalize ev d=q0 at hx |-;generalize ev s=q1 at hx |-;split at hx
  .rename_i db dn dc sb sn sc h1 h2;split at hx
   .rename_i hm;simp only[z7 hm];obtain rfl:=osj hx;exact .same hs rfl
   .rename_i hm;simp only[z6 hm];split at hx
    .rename_i i o xs bm;simp only[hs.sl bm];split at hx
     .rename_i c e wr tight hg;simp only[hs.cells hg];split at hx
      .rename_i hc;simp only[z7 hc];obtain rfl:=osj hx;exact .upd hs hg rfl rfl
      .cases hx
     .cases hx
    .cases hx
  .cases hx
 case clear z x =>
  simp only[Y0] at hx;simp only[ZT];generalize ev x=q0 at hx |-;split at hx
  .rename_i b n cap;split at hx
   .rename_i hm;simp only[z7 hm];obtain rfl:=osj hx;exact .same hs rfl
   .rename_i hm;simp only[z6 hm];split at hx
    .rename_i i o;split at hx
     .rename_i c e wr tight hg;simp only[hs.cells hg];split at hx
      .rename_i hc;simp only[z7 hc];obtain rfl:=osj hx;exact .upd hs hg rfl rfl
      .cases hx
     .cases hx
    .cases hx
  .cases hx
 case toUnsafe x =>
  simp only[Y0] at hx;simp only[ZT];generalize ev x=q0 at hx |-;split at hx
  .obtain rfl:=osj hx;exact .same hs rfl
  .split at hx
   .rename_i c e wr tight hg;simp only[hs.cells hg];split at hx
    .rename_i hc;simp only[z7 hc];obtain rfl:=osj hx;exact .same hs rfl
    .cases hx
   .cases hx
  .cases hx
 case fromUnsafe u size x =>
  simp only[Y0] at hx;simp only[ZT];generalize ev x=q0 at hx |-;split at hx
  .obtain rfl:=osj hx;exact .same hs rfl
  .split at hx
   .rename_i c e hg;simp only[hs.cells hg];split at hx
    .rename_i hc;simp only[z7 hc];obtain rfl:=osj hx;exact .same hs rfl
    .cases hx
   .cases hx
  .cases hx
 case sliceData x =>
  simp only[Y0] at hx;simp only[ZT];generalize ev x=q0 at hx |-;split at hx
  .obtain rfl:=osj hx;exact .same hs rfl
  .rename_i i o n cap;split at hx
   .rename_i hc;simp only[z7 (show cap≠0/\(U.get i).isSome=true from ⟨hc.1,by rw[hs.get];simpa using hc.2⟩)];obtain rfl:=osj hx;exact .same hs rfl
   .cases hx
  .cases hx
 case unsafeStr e x n =>
  simp only[Y0] at hx;simp only[ZT];generalize ev x=q0 at hx |-;generalize ev n=q1 at hx |-;split at hx
  .rename_i q k h1 h2;split at hx
   .rename_i hk;simp only[z7 hk];obtain rfl:=osj hx;exact .same hs rfl
   .rename_i hk;simp only[z6 hk];split at hx
    .rename_i i o;split at hx
     .rename_i c el tight hg;simp only[hs.cells hg];split at hx
      .rename_i hc;simp only[z7 hc];split at hx
       .rename_i u hu;simp only[hu];obtain rfl:=osj hx;exact .upd hs hg rfl rfl
       .cases hx
      .cases hx
     .cases hx
    .cases hx
  .cases hx
 case bytesStr x =>
  simp only[Y0] at hx;simp only[ZT];generalize ev x=q0 at hx |-;split at hx
  .split at hx
   .rename_i xs bm;simp only[hs.sl bm];split at hx
    .rename_i u hu;simp only[hu];obtain rfl:=osj hx;exact .same hs rfl
    .cases hx
   .cases hx
  .cases hx
 case strBytes e x =>
  simp only[Y0] at hx;simp only[ZT];generalize ev x=q0 at hx |-;split at hx
  .split at hx
   .rename_i h1;simp only[z7 h1];rw[hs.n] at hx;exact .push hs hx rfl rfl
   .cases hx
  .cases hx
theorem Q6a {rs:Nat->Env×Loop}{h:CH}{U:Heap}(hs:CSim rs h U) {o:VOp}{ev:Operand->Value}{p:Value×CH}
  (hx:(if o.kind=0 then (match Q7 o ev Heap.empty with|some p=>some (p.1,h)|none=>none) else none)=some p):ESnd rs h U (Q7 o ev U) p:=by
 split at hx
 .rename_i hk;split at hx
  .rename_i q hq;obtain rfl:=osj hx;exact .same hs (Lw hk (v:=q.1) (σ1:=q.2) hq)
  .cases hx
 .cases hx
theorem Kg {rs:Nat->Env×Loop}{h:CH}{U:Heap}(hs:CSim rs h U) {o:VOp}{ev:Operand->Value}{p:Value×CH}(hx:Q7l o ev h=some p):ESnd rs h U (Q7 o ev U) p:=by
 cases o
 case alloc t z =>
  simp only[Q7l] at hx;simp only[Q7];rw[hs.n] at hx;exact .push hs hx rfl rfl
 case box t x =>
  simp only[Q7l] at hx;simp only[Q7];generalize VL (ev x)=q0 at hx |-;split at hx
  .rw[hs.n] at hx;exact .push hs hx rfl rfl
  .cases hx
 case buildSlice esz z len parts =>
  simp only[Q7l] at hx;simp only[Q7];generalize My (Rx len z) (parts.map λp=>(p.1*esz.sz,esz.sz,ev p.2))=q0 at hx |-;split at hx
  .rw[hs.n] at hx;exact .push hs hx rfl rfl
  .cases hx
 case load agg size a =>
  simp only[Q7l] at hx;simp only[Q7];generalize ev a=q0 at hx |-;split at hx
  .split at hx
   .rename_i c hg;split at hx
    .rename_i hall;simp only[hg,z7 hall];split at hx
     .rename_i u hu;simp only[hu];obtain rfl:=osj hx;exact .same hs rfl
     .cases hx
    .cases hx
   .cases hx
  .split at hx
   .rename_i c e wr tight hg;simp only[hs.cells hg];split at hx
    .rename_i u hu;simp only[hu];obtain rfl:=osj hx;exact .same hs rfl
    .cases hx
   .cases hx
  .cases hx
 case store size a v =>
  simp only[Q7l] at hx;simp only[Q7];generalize VL (ev v)=q0 at hx |-;generalize ev a=q1 at hx |-;split at hx
  .rename_i i o vs h1 h2;split at hx
   .rename_i c e wr tight hg;simp only[hs.cells hg];split at hx
    .rename_i hc;simp only[z7 hc];obtain rfl:=osj hx;exact .upd hs hg rfl rfl
    .cases hx
   .cases hx
  .cases hx
 case slice size x lo hi mx =>
  simp only[Q7l] at hx;simp only[Q7];generalize ev x=q0 at hx |-;split at hx
  .rename_i a n cap;dsimp only;generalize Xs ev lo 0=q1 at hx |-;generalize Xs ev hi n=q2 at hx |-;split at hx
   .exact T4 hs hx
   .rename_i l k m;dsimp only;generalize Xs ev (some m) 0=q3 at hx |-;split at hx
    .exact T4 hs hx
    .cases hx
   .cases hx
  .cases hx
 case makeSlice esz bytes z l c =>
  simp only[Q7l] at hx;simp only[Q7];generalize ev l=q0 at hx |-;generalize ev c=q1 at hx |-;split at hx
  .split at hx
   .rename_i hc;simp only[z7 hc];rw[hs.n] at hx;exact .push hs hx rfl rfl
   .cases hx
  .cases hx
 case append esz bytes s x =>
  simp only[Q7l] at hx;simp only[Q7];generalize ev x=q0 at hx |-;split at hx
  .rename_i bm;simp only[hs.sl bm];split at hx
   .rename_i hc;simp only[z7 hc];exact Es hs hx
   .cases hx
  .cases hx
 case ext o=>exact S1 hs hx
 all_goals exact Q6a hs hx
def Q3u (k:IntKind) (n:Int):Int:=match n with
 |.ofNat x=>match Nat.ble x 127 with
  |true=>.ofNat x
  |false=>k.wrap (.ofNat x)
 |.negSucc x=>k.wrap (.negSucc x)
theorem Q1c (k:IntKind) (n:Int):Q3u k n=k.wrap n:=by
 cases n with
 |negSucc x=>rfl
 |ofNat x =>
  simp only[Q3u];split
  .rename_i h;have hx:x<=127:=zx h;show (x:Int)=k.wrap (x:Int);cases k<;>simp[IntKind.wrap,IntKind.bits,IntKind.signed]<;>omega
  .rfl
def Z49 (c a b:Value):Option Value:=match c with|.bool t=>some (if t then a else b)|_=>none
def Q9x (op:BinOp) (x y:Value):Option Value:=match x,y with|.int k a,.int k' b=>if k=k' then some (.int k (match op with|.add=>Q3u k (a+b)|.sub=>Q3u k (a-b)|_=>Q3u k (a*b))) else none|_,_=>none
def J1z (op:BinOp) (x y:Value):Option Value:=match x,y with|.int k a,.int k' b=>if k=k'/\b≠0 then some (.int k (Z33 op k a b)) else none|_,_=>none
def Z37 (op:BinOp) (x y:Value):Option Value:=match x,y with|.int k a,.int k' b=>if k=k' then some (.int k (QB op k a b)) else none|_,_=>none
def Z0u (op:BinOp) (x y:Value):Option Value:=match x,y with|.int k a,.int _ b=>if 0<=b then some (.int k (T8 op k a b)) else none|_,_=>none
def J1t (op:BinOp) (x y:Value):Option Value:=match x,y with|.int k a,.int k' b=>if k=k' then some (.bool (Z3h op a b)) else none|_,_=>none
def J0j (op:BinOp) (x y:Value):Option Value:=match x,y with
  |.string a,.string b=>match op with
   |.add=>if a.size+b.size<=2 ^ 62 then some (.string (a++b)) else none
   |.eql=>some (.bool (a.data.toList==b.data.toList))
   |.neq=>some (.bool (!(a.data.toList==b.data.toList)))
   |.lss=>some (.bool (Op.bytesLess a.data.toList b.data.toList))
   |_=>none
  |_,_=>none
def J15 (neg:Bool) (x y:Value):Option Value:=match x,y with|.bool a,.bool b=>some (.bool (if neg then !(a==b) else (a==b)))|_,_=>none
def pUn (op:UnOp) (x:Value):Option Value:=match op,x with
  |.not,.bool b=>some (.bool (!b))
  |.neg,.int k n=>some (.int k (k.wrap (0-n)))
  |.xor,.int k n=>some (.int k (QB .xor k (if k.signed then -1 else k.max) n))
  |_,_=>none
def Q9r (k:IntKind) (x:Value):Option Value:=match x with|.int _ n=>some (.int k (Q3u k n))|_=>none
def Q9o (x:Value):Option Value:=match x with|.string s=>some (.string s)|_=>none
def Z0w (z:List Value) (l:List (Nat×Nat×Value)):Option Value:=match My z l with|some cs=>some (.agg cs.toArray)|none=>none
def Ag (off:Nat) (a:Value):Option Value:=match a with
  |.pointer (some ⟨i,o,none⟩)=>some (.pointer (some ⟨i,o+off,none⟩))
  |_=>none
def Z09 (agg:Bool) (off size:Nat) (x:Value):Option Value:=match x with
  |.agg cs=>YK agg size cs.toList off
  |_=>none
def AG (size:Nat) (x i:Value):Option Value:=match x,i with
  |.slice (some ⟨b,o,none⟩) n _,.int _ k=>if 0<=k/\k<n then some (.pointer (some ⟨b,o+k.toNat*size,none⟩)) else none
  |_,_=>none
def H5 (len size:Nat) (x i:Value):Option Value:=match x,i with
  |.pointer (some ⟨g,o,some s⟩),.int _ k=>if 0<=k/\k<len then some (.pointer (some ⟨g,o+k.toNat*size,some s⟩)) else none
  |.pointer (some ⟨b,o,none⟩),.int _ k=>if 0<=k/\k<len then some (.pointer (some ⟨b,o+k.toNat*size,none⟩)) else none
  |_,_=>none
def IJ (x i:Value):Option Value:=match x,i with
  |.string s,.int _ k=>if 0<=k then (match s.data.toList[k.toNat]? with|some b=>some (.int .u8 b.toNat)|none=>none) else none
  |_,_=>none
def I5 (len:Nat) (agg:Bool) (size:Nat) (x i:Value):Option Value:=match x,i with
  |.agg cs,.int _ k=>if 0<=k/\k<len then YK agg size cs.toList (k.toNat*size) else none
  |_,_=>none
def IT (ev:Operand->Value) (x:Value) (lo hi:Option Operand):Option Value:=match x with
  |.string s =>
   match Xs ev lo 0,Xs ev hi s.size with
   |some l,some h=>if l<=h/\h<=s.size then some (.string (s.extract l h)) else none
   |_,_=>none
  |_=>none
def J1d (x:Value):Option Value:=match x with|.slice _ n _=>some (.int .i64 n)|_=>none
def Q6d (x:Value):Option Value:=match x with|.string s=>some (.int .i64 s.size)|_=>none
def Z7j (x y z w:Value):Option Value:=match x,y,z,w with|.int k a,.int k2 b,.int k3 c,.int k4 d=>if k=k2/\k=k3/\k=k4 then some (.int k (Q4c (Q4c (Q4c a b) c) d)) else none|_,_,_,_=>none
def J0b (x y:Value):Option Value:=match x,y with|.int k a,.int k' b=>if k=k' then some (.int k (if b > a then b else a)) else none|_,_=>none
def J0h (x y:Value):Option Value:=match x,y with|.int k a,.int k' b=>if k=k' then some (.int k (if b<a then b else a)) else none|_,_=>none
def Z07 (t:TypeId) (x:Value):Option Value:=match x with|.chan _=>none|v=>some (.iface t v)
def Q22 (i:Nat) (x:Value):Option Value:=match x with
  |.tuple vs=>vs.toList[i]?
  |_=>none
def IQ (x:Value):Option Value:=match x with
  |.pointer (some a)=>some (.pointer (some a))
  |.func (.func f) first cap=>some (.func (.func f) first cap)
  |_=>none
def ppp (r:Option Value) (U:CH):Option (Value×CH):=match r with|some v=>some (v,U)|none=>none
def J2r (t:Nat) (x:Value) (U:CH):Option (Value×CH):=match VL x with
  |some vs=>NA U (.cells vs ⟨vs.length,t⟩ true true) (.pointer (some ⟨U.n,0,none⟩))
  |none=>none
def OE (esz:El) (z:List Value) (len:Nat) (l:List (Nat×Nat×Value)) (U:CH):Option (Value×CH):=match My (Rx len z) l with
  |some cs=>NA U (.cells cs esz true true) (.slice (some ⟨U.n,0,none⟩) len len)
  |none=>none
def Z4x (agg:Bool) (size:Nat) (a:Value) (U:CH):Option (Value×CH):=match a with
  |.pointer (some ⟨g,o,some _⟩)=>(match Q7e g with
   |some c=>if c.all Zy then (match YK agg size c o with|some v=>some (v,U)|none=>none) else none
   |none=>none)
  |.pointer (some ⟨i,o,none⟩)=>match U.get i with
   |some (.cells c _ _ _)=>match YK agg size c o with|some v=>some (v,U)|none=>none
   |_=>none
  |_=>none
def stL (c:List Value) (o:Nat) (vs:List Value):List Value:=match vs with
 |[v]=>c.set o v
 |vs=>c.take o++(vs++c.drop (o+vs.length))
theorem Q26:∀ (vs a b c:List Value),vs.length=b.length->WR (a++(b++c)) a.length vs=a++(vs++c)
 |[],a,b,c,h=>by have:b=[]:=List.eq_nil_of_length_eq_zero (by simpa using h.symm);subst this;rfl
 |v::vs,a,[],c,h=>by simp at h
 |v::vs,a,x::b,c,h=>by
  simp only[WR];have e:(a++(x::b++c)).set a.length v=(a++[v])++(b++c):=by simp
  rw[e];have:=Q26 vs (a++[v]) b c (by simpa using h);rw[zk,xt] at this;rw[this];simp
theorem Z5s {c:List Value}{o:Nat}{vs:List Value}(h:o+vs.length<=c.length):stL c o vs=WR c o vs:=by
 unfold stL;split
 .rfl
 .have h1:c=c.take o++((c.drop o).take vs.length++c.drop (o+vs.length)):=by
   rw[<-List.drop_drop,xH,xH]
  have h2:(c.take o).length=o:=by simp;omega
  have:=Q26 vs (c.take o) ((c.drop o).take vs.length) (c.drop (o+vs.length)) (by simp;omega);rw[h2,<-h1] at this;exact this.symm
def Z0x (size:Nat) (a v:Value) (U:CH):Option (Value×CH):=match a,VL v with
  |.pointer (some ⟨i,o,none⟩),some vs=>match U.get i with
   |some (.cells c e wr tight)=>if wr=true/\vs.length=size/\o+size<=c.length/\vs.all cellOk=true then some (undef,U.upd i (.cells (stL c o vs) e wr tight)) else none
   |_=>none
  |_,_=>none
def Q2v (esz:El) (bytes:Nat) (z:List Value) (l c:Value) (U:CH):Option (Value×CH) :=
  match l,c with
  |.int _ a,.int _ b=>if 0<=a/\a<=b/\b*bytes<=2 ^ 46/\b<=2 ^ 46 then NA U (.cells (Rx b.toNat z) esz true true) (.slice (some ⟨U.n,0,none⟩) a.toNat b.toNat) else none
  |_,_=>none
def J2j (esz:El) (bytes:Nat) (s x:Value) (U:CH):Option (Value×CH) :=
  match U.sl esz.sz x,x with
  |some xs,.slice _ m _=>if xs.all cellOk then Fu esz bytes U s m xs else none
  |_,_=>none
def Q00 (o:VOp) (ev:Operand->Value) (U:CH):Option (Value×CH) :=
 match o with
 |.move x=>some (ev x,U)
 |.pick c a b=>ppp (Z49 (ev c) (ev a) (ev b)) U
 |.arith op x y=>ppp (Q9x op (ev x) (ev y)) U
 |.div op x y=>ppp (J1z op (ev x) (ev y)) U
 |.bits op x y=>ppp (Z37 op (ev x) (ev y)) U
 |.shift op x y=>ppp (Z0u op (ev x) (ev y)) U
 |.cmp op x y=>ppp (J1t op (ev x) (ev y)) U
 |.str op x y=>ppp (J0j op (ev x) (ev y)) U
 |.eqB n x y=>ppp (J15 n (ev x) (ev y)) U
 |.un op x=>ppp (pUn op (ev x)) U
 |.convI k x=>ppp (Q9r k (ev x)) U
 |.convS x=>ppp (Q9o (ev x)) U
 |.build z parts=>ppp (Z0w z (parts.map λp=>(p.1,p.2.1,ev p.2.2))) U
 |.fieldAddr off a=>ppp (Ag off (ev a)) U
 |.field agg off size x=>ppp (Z09 agg off size (ev x)) U
 |.indexAddr size x i=>ppp (AG size (ev x) (ev i)) U
 |.indexAddrArr len size x i=>ppp (H5 len size (ev x) (ev i)) U
 |.indexStr x i=>ppp (IJ (ev x) (ev i)) U
 |.indexArr len agg size x i=>ppp (I5 len agg size (ev x) (ev i)) U
 |.sliceStr x lo hi=>ppp (IT ev (ev x) lo hi) U
 |.len x=>ppp (J1d (ev x)) U
 |.lenStr x=>ppp (Q6d (ev x)) U
 |.max x y=>ppp (J0b (ev x) (ev y)) U
 |.max4 x y z w=>ppp (Z7j (ev x) (ev y) (ev z) (ev w)) U
 |.min x y=>ppp (J0h (ev x) (ev y)) U
 |.makeFunc fn first cap=>some (.func fn (first.map ev).toArray (cap.map ev).toArray,U)
 |.iface t x=>ppp (Z07 t (ev x)) U
 |.extract x i=>ppp (Q22 i (ev x)) U
 |.nilCheck x=>ppp (IQ (ev x)) U
 |.alloc t z=>NA U (.cells z ⟨z.length,t⟩ true true) (.pointer (some ⟨U.n,0,none⟩))
 |.box t x=>J2r t (ev x) U
 |.buildSlice esz z len parts=>OE esz z len (parts.map λp=>(p.1*esz.sz,esz.sz,ev p.2)) U
 |.load agg size a=>Z4x agg size (ev a) U
 |.store size a v=>Z0x size (ev a) (ev v) U
 |.slice size x lo hi mx=>Q7l (.slice size x lo hi mx) ev U
 |.makeSlice esz bytes z l c=>Q2v esz bytes z (ev l) (ev c) U
 |.append esz bytes s x=>J2j esz bytes (ev s) (ev x) U
 |.ext o=>Y0 o ev U
 |_=>none
theorem Q4m {rs:Nat->Env×Loop}{h:CH}{U:Heap}(hs:CSim rs h U) {r:Option Value}{r':Option (Value×Heap)}{p:Value×CH}(hr:∀ v,r=some v->r'=some (v,U)) (hx:ppp r h=some p):ESnd rs h U r' p:=by
 unfold ppp at hx;split at hx
 .rename_i v;obtain rfl:=osj hx;exact .same hs (hr v rfl)
 .cases hx
theorem VW {rs:Nat->Env×Loop}{h:CH}{U:Heap}(hs:CSim rs h U) {o:VOp}{ev:Operand->Value}{p:Value×CH}(hx:Q00 o ev h=some p):ESnd rs h U (Q7 o ev U) p:=by
 cases o
 case move x=>exact .same hs (by obtain rfl:=osj hx;rfl) |> λ(h:ESnd rs _ U (Q7 (.move x) ev U) (ev x,_))=>by obtain rfl:=osj hx;exact h
 case makeFunc fn a b=>obtain rfl:=osj hx;exact .same hs rfl
 case alloc t z=>exact Kg (o:=.alloc t z) hs hx
 case box t x=>exact Kg (o:=.box t x) hs hx
 case buildSlice a b c d=>exact Kg (o:=.buildSlice a b c d) hs hx
 case load a b c=>exact Kg (o:=.load a b c) hs hx
 case store size a v =>
  simp only[Q00] at hx;simp only[Q7];unfold Z0x at hx;generalize VL (ev v)=q0 at hx |-;generalize ev a=q1 at hx |-;split at hx
  .rename_i i o vs;split at hx
   .rename_i c e wr tight hg;simp only[hs.cells hg];split at hx
    .rename_i hc;simp only[z7 hc];rw[Z5s (by omega)] at hx;obtain rfl:=osj hx;exact .upd hs hg rfl rfl
    .cases hx
   .cases hx
  .cases hx
 case slice a b c d e=>exact Kg (o:=.slice a b c d e) hs hx
 case makeSlice a b c d e=>exact Kg (o:=.makeSlice a b c d e) hs hx
 case append a b c d=>exact Kg (o:=.append a b c d) hs hx
 case ext o=>exact S1 hs hx
 case callF=>cases hx
 case callV=>cases hx
 case bad=>cases hx
 all_goals refine Q4m hs (λv hv=>?_) hx
 case arith op x y =>
  simp only[Q7];generalize ev x=a at hv |-;generalize ev y=b at hv |-;unfold Q9x at hv;split at hv
  .split at hv
   .rename_i hk;simp only[z7 hk];obtain rfl:=osj hv;cases op<;>simp only[TI,Q1c]
   .cases hv
  .cases hv
 case convI k x =>
  simp only[Q7];generalize ev x=a at hv |-;unfold Q9r at hv;split at hv
  .obtain rfl:=osj hv;simp only[Q1c]
  .cases hv
 case pick c a b =>
  simp only[Q7];generalize ev c=q0 at hv |-;generalize ev a=q1 at hv |-;generalize ev b=q2 at hv |-;unfold Z49 at hv
  (repeat' split at hv)<;>first|(cases hv;done)|(obtain rfl:=osj hv;first|rfl|(simp_all;done)|(simp_all;intros;omega))
 case div op x y =>
  simp only[Q7];generalize ev x=q0 at hv |-;generalize ev y=q1 at hv |-;unfold J1z at hv
  (repeat' split at hv)<;>first|(cases hv;done)|(obtain rfl:=osj hv;first|rfl|(simp_all;done)|(simp_all;intros;omega))
 case bits op x y =>
  simp only[Q7];generalize ev x=q0 at hv |-;generalize ev y=q1 at hv |-;unfold Z37 at hv
  (repeat' split at hv)<;>first|(cases hv;done)|(obtain rfl:=osj hv;first|rfl|(simp_all;done)|(simp_all;intros;omega))
 case shift op x y =>
  simp only[Q7];generalize ev x=q0 at hv |-;generalize ev y=q1 at hv |-;unfold Z0u at hv
  (repeat' split at hv)<;>first|(cases hv;done)|(obtain rfl:=osj hv;first|rfl|(simp_all;done)|(simp_all;intros;omega))
 case cmp op x y =>
  simp only[Q7];generalize ev x=q0 at hv |-;generalize ev y=q1 at hv |-;unfold J1t at hv
  (repeat' split at hv)<;>first|(cases hv;done)|(obtain rfl:=osj hv;first|rfl|(simp_all;done)|(simp_all;intros;omega))
 case eqB n x y =>
  simp only[Q7];generalize ev x=q0 at hv |-;generalize ev y=q1 at hv |-;unfold J15 at hv
  (repeat' split at hv)<;>first|(cases hv;done)|(obtain rfl:=osj hv;first|rfl|(simp_all;done)|(simp_all;intros;omega))
 case un op x =>
  simp only[Q7];generalize ev x=q0 at hv |-;unfold pUn at hv
  (repeat' split at hv)<;>first|(cases hv;done)|(obtain rfl:=osj hv;first|rfl|(simp_all;done)|(simp_all;intros;omega))
 case convS x =>
  simp only[Q7];generalize ev x=q0 at hv |-;unfold Q9o at hv
  (repeat' split at hv)<;>first|(cases hv;done)|(obtain rfl:=osj hv;first|rfl|(simp_all;done)|(simp_all;intros;omega))
 case fieldAddr off a =>
  simp only[Q7];generalize ev a=q0 at hv |-;unfold Ag at hv
  (repeat' split at hv)<;>first|(cases hv;done)|(obtain rfl:=osj hv;first|rfl|(simp_all;done)|(simp_all;intros;omega))
 case indexAddr size x i =>
  simp only[Q7];generalize ev x=q0 at hv |-;generalize ev i=q1 at hv |-;unfold AG at hv
  (repeat' split at hv)<;>first|(cases hv;done)|(obtain rfl:=osj hv;first|rfl|(simp_all;done)|(simp_all;intros;omega))
 case indexAddrArr len size x i =>
  simp only[Q7];generalize ev x=q0 at hv |-;generalize ev i=q1 at hv |-;unfold H5 at hv
  (repeat' split at hv)<;>first|(cases hv;done)|(obtain rfl:=osj hv;first|rfl|(simp_all;done)|(simp_all;intros;omega))
 case len x =>
  simp only[Q7];generalize ev x=q0 at hv |-;unfold J1d at hv
  (repeat' split at hv)<;>first|(cases hv;done)|(obtain rfl:=osj hv;first|rfl|(simp_all;done)|(simp_all;intros;omega))
 case lenStr x =>
  simp only[Q7];generalize ev x=q0 at hv |-;unfold Q6d at hv
  (repeat' split at hv)<;>first|(cases hv;done)|(obtain rfl:=osj hv;first|rfl|(simp_all;done)|(simp_all;intros;omega))
 case max4 x y z w =>
  simp only[Q7];generalize ev x=q0 at hv |-;generalize ev y=q1 at hv |-;generalize ev z=q2 at hv |-;generalize ev w=q3 at hv |-;unfold Z7j at hv
  (repeat' split at hv)<;>first|(cases hv;done)|(rename_i pP;obtain⟨rfl,rfl,rfl⟩:=pP;obtain rfl:=osj hv;simp_all;done)
 case max x y =>
  simp only[Q7];generalize ev x=q0 at hv |-;generalize ev y=q1 at hv |-;unfold J0b at hv
  (repeat' split at hv)<;>first|(cases hv;done)|(obtain rfl:=osj hv;first|rfl|(simp_all;done)|(simp_all;intros;omega))
 case min x y =>
  simp only[Q7];generalize ev x=q0 at hv |-;generalize ev y=q1 at hv |-;unfold J0h at hv
  (repeat' split at hv)<;>first|(cases hv;done)|(obtain rfl:=osj hv;first|rfl|(simp_all;done)|(simp_all;intros;omega))
 case nilCheck x =>
  simp only[Q7];generalize ev x=q0 at hv |-;unfold IQ at hv
  (repeat' split at hv)<;>first|(cases hv;done)|(obtain rfl:=osj hv;first|rfl|(simp_all;done)|(simp_all;intros;omega))
 case str op x y =>
  simp only[Q7];generalize ev x=q0 at hv |-;generalize ev y=q1 at hv |-;unfold J0j at hv
  (repeat' split at hv)<;>first|(cases hv;done)|(obtain rfl:=osj hv;first|rfl|(simp_all;done)|(simp_all;intros;omega))
 case build z parts =>
  simp only[Q7];unfold Z0w at hv;split at hv
  .rename_i cs hc;rw[hc];obtain rfl:=osj hv;rfl
  .cases hv
 case field agg off size x =>
  simp only[Q7];generalize ev x=q0 at hv |-;unfold Z09 at hv;split at hv
  .dsimp only;rw[hv]
  .cases hv
 case indexStr x i =>
  simp only[Q7];generalize ev x=q0 at hv |-;generalize ev i=q1 at hv |-;unfold IJ at hv;split at hv
  .split at hv
   .rename_i hc;simp only[z7 hc];split at hv
    .rename_i b hb;simp only[hb];obtain rfl:=osj hv;rfl
    .cases hv
   .cases hv
  .cases hv
 case indexArr len agg size x i =>
  simp only[Q7];generalize ev x=q0 at hv |-;generalize ev i=q1 at hv |-;unfold I5 at hv;split at hv
  .split at hv
   .rename_i hc;simp only[z7 hc,hv]
   .cases hv
  .cases hv
 case sliceStr x lo hi =>
  simp only[Q7];generalize ev x=q0 at hv |-;unfold IT at hv;split at hv
  .rename_i s;split at hv
   .rename_i l h h1 h2;split at hv
    .rename_i hc;simp only[h1,h2,z7 hc];obtain rfl:=osj hv;rfl
    .cases hv
   .cases hv
  .cases hv
 case iface t x =>
  simp only[Q7];generalize ev x=q0 at hv |-;unfold Z07 at hv;split at hv
  .cases hv
  .rename_i aK;obtain rfl:=osj hv;split
   .exact absurd rfl (aK _)
   .rfl
 case extract x i =>
  simp only[Q7];generalize ev x=q0 at hv |-;unfold Q22 at hv;split at hv
  .dsimp only;rw[hv]
  .cases hv
inductive Sh (a m d:Nat):Value->Value->Prop
 |plain (v:Value) (h:Zy v=true):Sh a m d v v
 |ptr (i o:Nat) (h:a<=i) (hi:i<m):Sh a m d (.pointer (some ⟨i,o,none⟩)) (.pointer (some ⟨d+(i-a),o,none⟩))
 |sl (i o len cap:Nat) (h:a<=i) (hi:i<m):Sh a m d (.slice (some ⟨i,o,none⟩) len cap) (.slice (some ⟨d+(i-a),o,none⟩) len cap)
 |agg (cs ds:Array Value) (hc:cs.size=ds.size) (h:∀ i (h1:i<cs.size) (h2:i<ds.size),Sh a m d cs[i] ds[i]):Sh a m d (.agg cs) (.agg ds)
 |tuple (cs ds:Array Value) (hc:cs.size=ds.size) (h:∀ i (h1:i<cs.size) (h2:i<ds.size),Sh a m d cs[i] ds[i]):Sh a m d (.tuple cs) (.tuple ds)
theorem Sh.rel {ρ ρ':Plc}{a m d n':Nat}(hn:d+(m-a)<=n') (hρ:∀ i,a<=i->i<m->ρ' (d+(i-a))=ρ i) {v v':Value}(h:Sh a m d v v') :
  ∀ {c:Value},VRel ρ m v c->VRel ρ' n' v' c:=by
 induction h with
 |plain v h =>intro c hv;have:c=v:=Ve h hv;subst this;exact YP h
 |ptr i o h hi =>intro c hv;obtain⟨a',rfl,_,bz⟩:=hv.q1f;exact .ptr _ _ _ (by omega) λp hp=>bz p (by rw[<-hρ i h hi];exact hp)
 |sl i o len cap h hi =>intro c hv;obtain⟨a',av,rfl,_,bz⟩:=hv.q1c;exact .sl _ _ _ _ _ _ (by omega) λp hp=>bz p (by rw[<-hρ i h hi];exact hp)
 |agg cs ds hc h ih =>
  intro c hv;cases hv with
  |agg _ ds' cX h'=>exact .agg _ _ (hc.symm.trans cX) λi k1 k2=>ih i (by omega) k1 (h' i (by omega) k2)
 |tuple cs ds hc h ih =>
  intro c hv;cases hv with
  |tuple _ ds' cX h'=>exact .tuple _ _ (hc.symm.trans cX) λi k1 k2=>ih i (by omega) k1 (h' i (by omega) k2)
theorem BRel.any {ρ ρ':Plc}{n n':Nat}{p:Pl}{w:World}{c:List Value}{esz:El}{wr tight:Bool}(hp:c.all Zy=true) (h:BRel ρ n p w (.cells c esz wr tight)) :
  BRel ρ' n' p w (.cells c esz wr tight):=by
 obtain⟨h1,h2,h3,h4,h5,h6⟩:=h;refine⟨h1,h2,h3,h4,λk v hk=>?_,h6⟩;obtain⟨u,hu,hv⟩:=h5 k v hk;have aY:Zy v=true:=zg.1 hp v (xh hk);obtain rfl:u=v:=Ve aY hv;exact⟨u,hu,YP aY⟩
theorem BRel.renRo {ρ:Plc}{nf n':Nat}{π:Nat->Nat}{p:Pl}{w:World}{c c':List Value}{esz:El}{wr tight:Bool}(hr:LRen n' π c c') (h:BRel ρ nf p w (.cells c' esz wr tight)) :
  BRel (λi=>if i<n' then ρ (π i) else none) n' p w (.cells c esz false tight):=by
 obtain⟨h1,h2,h3,h4,h5,h6⟩:=h;refine⟨h1,h2,by rw[hr.1];exact h3,h4,λk v hk=>?_,λh=>by cases h⟩;have ao:k<c'.length:=by rw[<-hr.1];exact(zp.1 hk).1
 obtain⟨u,hu,hv⟩:=h5 k _ (z8 ao);exact⟨u,hu,(hr.2 k v _ hk (z8 ao)).rel hv⟩
structure PB where
 c:List Value
 esz:El
 tight:Bool
def PB.blk (wr:Bool) (b:PB):Blk:=.cells b.c b.esz wr b.tight
def YL (bl fr:List PB):Heap where
 get i:=if i<bl.length then (bl[i]?).map (PB.blk false) else (fr[i-bl.length]?).map (PB.blk true)
 n:=bl.length+fr.length
 wf i h:=by rw[z6 (by omega),zE (by omega)];rfl
def K0 (U:Heap) (fr:List PB):Heap where
 get i:=if i<U.n then U.get i else (fr[i-U.n]?).map (PB.blk true)
 n:=U.n+fr.length
 wf i h:=by rw[z6 (by omega),zE (by omega)];rfl
theorem VCalled.localize {P:Program}{f:FuncId}{iv args:List Value}{bl fr:List PB}{vm v:Value}{U:Heap}{π:Nat->Nat}{K:Value->Heap->Prop}
  (hm:VCalled P f iv (YL bl []) λu Z=>u=vm/\Z=YL bl fr)
  (cL:∀ b∈fr,b.c.all Zy=true)
  (hπ:∀ i b,bl[i]?=some b->∃ wr c',U.get (π i)=some (.cells c' b.esz wr b.tight)/\LRen bl.length π b.c c')
  (aA:LRen bl.length π iv args) (hv:Sh bl.length (bl.length+fr.length) U.n vm v) (hK:K v (K0 U fr)):VCalled P f args U K:=by
 intro ρ w ax hH hL;have bV:∀ B,¬ Wr (λi=>if i<bl.length then ρ (π i) else none) (YL bl []) B:=by
  rintro B ⟨i,p,b,_,hb,hw,_⟩;have hi:i<bl.length:=by have:=(YL bl []).lt hb;simpa [YL] using this
  simp only[YL,z7 hi] at hb;cases eJ:bl[i]? with
  |none=>rw[eJ] at hb;cases hb
  |some b0=>rw[eJ] at hb;obtain rfl:=osj hb;cases hw
 have ui:HRel (λi=>if i<bl.length then ρ (π i) else none) (YL bl []) w:=by
  refine⟨⟨λi b hb=>?_,λi hi=>?_,λi p hp=>?_,λi j p q b _ hp _ hb hw _=>(bV _ ⟨i,p,b,hp,hb,hw,rfl⟩).elim⟩,λg cs hg=>⟨(hH.tab g cs hg).1,bV g⟩⟩
  .have hi:i<bl.length:=by have:=(YL bl []).lt hb;simpa [YL] using this
   simp only[YL,z7 hi] at hb;cases eJ:bl[i]? with
   |none=>rw[eJ] at hb;cases hb
   |some b0 =>rw[eJ] at hb;obtain rfl:=osj hb;obtain⟨wr,c',hg,qa⟩:=hπ i b0 eJ;obtain⟨p,hp,hB⟩:=hH.live _ _ hg;exact⟨p,by simp[hi,hp],BRel.renRo qa hB⟩
  .by_cases h:i<bl.length
   .simp only[YL,z7 h,z8 h] at hi;cases hi
   .simp[h]
  .skip
   split at hp
   .exact hH.lt _ p hp
   .cases hp
 have uj:LRel (λi=>if i<bl.length then ρ (π i) else none) (YL bl []).n iv ax.toList:=by have:=aA.rel hL;simpa [YL] using this
 have lift:∀ c w',Got (λi=>if i<bl.length then ρ (π i) else none) (YL bl []) w (λu Z=>u=vm/\Z=YL bl fr) c w'->Got ρ U w K c w':=by
  rintro c w' ⟨_,ρm,_,⟨rfl,rfl⟩,dC,iw,hE⟩;have dF:∀ B,B<w.heap.size->w'.heap[B]?=w.heap[B]?:=λB hB=>hE.keep B hB (bV B);have fP:∀ i p,bl.length<=i->ρm i=some p->w.heap.size<=p.blk:=λi p hi hp=>by
   rcases zm p.blk w.heap.size with h|h
   .refine (bV _ (hE.wr p.blk h ?_)).elim;have hZ:=iw.idlt hp;cases hb:(YL bl fr).get i with
    |none=>rw[iw.dead i hb] at hp;cases hp
    |some b =>
     refine⟨i,p,b,hp,hb,?_,rfl⟩;simp only[YL,z6 (wC.2 hi)] at hb;cases eJ:fr[i-bl.length]? with
     |none=>rw[eJ] at hb;cases hb
     |some b0=>rw[eJ] at hb;obtain rfl:=osj hb;rfl
   .exact h
  have hρ:∀ i,U.n<=i->(if i<U.n then ρ i else if i<U.n+fr.length then ρm (bl.length+(i-U.n)) else none)=if i<U.n+fr.length then ρm (bl.length+(i-U.n)) else none:=λi hi=>z6 (by omega)
  have hX:Ext ρ U w (λi=>if i<U.n then ρ i else if i<U.n+fr.length then ρm (bl.length+(i-U.n)) else none) (K0 U fr) w':=by
   refine⟨hE.os,hE.tape,hE.output,hE.size,λB hB _=>dF B hB,?_,by simp[K0],λi hi p hp=>?_⟩
   .rintro B hB ⟨i,p,b,hp,hb,hw,rfl⟩
    replace hp:(if i<U.n then ρ i else if i<U.n+fr.length then ρm (bl.length+(i-U.n)) else none)=some p:=hp
    by_cases hi:i<U.n
    .rw[z7 hi] at hp;simp only[K0,z7 hi] at hb;exact⟨i,p,b,hp,hb,hw,rfl⟩
    .rw[z6 hi] at hp;split at hp
     .have:=fP _ p (by omega) hp;omega
     .cases hp
   .skip
    rwa [z7 hi] at hp
  refine⟨v,λi=>if i<U.n then ρ i else if i<U.n+fr.length then ρm (bl.length+(i-U.n)) else none,K0 U fr,hK,?_,hH.ext ⟨λi b hb=>?_,λi hi=>?_,λi p hp=>?_,λi j p q b cy hp hq hb hw hx=>?_⟩ hX,hX⟩
  .refine hv.rel (by simp[K0]) (λi h1 h2=>?_) dC;rw[z6 (by omega),z7 (by omega)];congr 1;omega
  .by_cases hi:i<U.n
   .simp only[K0,z7 hi] at hb;obtain⟨p,hp,hB⟩:=hH.live i b hb;exact⟨p,by simp[hi,hp],hB.mono (by simp[K0]) (λj hj q hq=>by simpa [hj] using hq) (dF _ (hH.lt i p hp))⟩
   .simp only[K0,z6 hi] at hb;cases eJ:fr[i-U.n]? with
    |none=>rw[eJ] at hb;cases hb
    |some b0 =>
     rw[eJ] at hb;obtain rfl:=osj hb;have ao:i-U.n<fr.length:=(zp.1 eJ).1;obtain⟨p,hp,hB⟩:=iw.live (bl.length+(i-U.n)) (b0.blk true) (by
      show (if _ then _ else _)=_;rw[z6 (by omega),show bl.length+(i-U.n)-bl.length=i-U.n by omega,eJ];rfl)
     exact⟨p,by rw[z6 hi,z7 (by omega)];exact hp,BRel.any (cL b0 (xh eJ)) hB⟩
  .by_cases h:i<U.n
   .simp only[K0,z7 h] at hi;rw[z7 h];exact hH.dead i hi
   .simp only[K0,z6 h] at hi;rw[z6 h];split
    .rename_i h2;have ao:i-U.n<fr.length:=by omega
     rw[z8 ao] at hi;cases hi
    .rfl
  .skip
   split at hp
   .exact x3 (hH.lt i p hp) hE.size
   .split at hp
    .exact iw.lt _ p hp
    .cases hp
  .skip
   by_cases hi:i<U.n<;>by_cases hj:j<U.n
   .rw[z7 hi] at hp;rw[z7 hj] at hq;simp only[K0,z7 hi] at hb;exact hH.sep i j p q b cy hp hq hb hw hx
   .rw[z7 hi] at hp;rw[z6 hj] at hq;split at hq
    .have h1:=hH.lt i p hp;have h2:=fP _ q (by omega) hq;omega
    .cases hq
   .rw[z6 hi] at hp;rw[z7 hj] at hq;split at hp
    .have h1:=hH.lt j q hq;have h2:=fP _ p (by omega) hp;omega
    .cases hp
   .rw[z6 hi] at hp;rw[z6 hj] at hq;split at hp
    .split at hq
     .simp only[K0,z6 hi] at hb;refine iw.sep (bl.length+(i-U.n)) (bl.length+(j-U.n)) p q b (by omega) hp hq ?_ hw hx;show (if _ then _ else _)=_;rw[z6 (by omega),show bl.length+(i-U.n)-bl.length=i-U.n by omega];exact hb
     .cases hq
    .cases hp
 rcases hm _ w ax ui uj with⟨h1,h2⟩|⟨c,h1,h2⟩
 .refine .inl ⟨h1,?_⟩;exact h2.mono λe w' he=>by
   obtain⟨c,rfl,hc⟩:=he;exact⟨c,rfl,lift c w' hc⟩
 .refine .inr ⟨c,lift c w h1,λw' gI=>h2 w' ⟨gI.1,λi p hp=>?_,gI.tab⟩⟩
  replace hp:(if i<bl.length then ρ (π i) else none)=some p:=hp
  split at hp
  .exact gI.2 _ p hp
  .cases hp
def Q5r {α:Type}(p:α->α->Bool):List α->List α->Bool
 |[],[]=>true
 |a::l,b::m=>p a b&&Q5r p l m
 |_,_=>false
theorem NJ {α:Type}{p:α->α->Bool}(hp:∀ a b,p a b=true->a=b):∀ l m,Q5r p l m=true->l=m
 |[],[],_=>rfl
 |a::l,b::m,h=>by simp only[Q5r,z0] at h;rw[hp a b h.1,NJ hp l m h.2]
 |[],_::_,h=>by cases h
 |_::_,[],h=>by cases h
def Q0x:Nat->Value->Value->Bool
 |0,_,_=>false
 |f+1,a,b=>match a,b with
  |.bool x,.bool y=>x==y
  |.int k x,.int k' y=>decide (k=k')&&decide (x=y)
  |.string s,.string t=>decide (s.data.toList=t.data.toList)
  |.pointer none,.pointer none=>true
  |.pointer (some ⟨i,o,none⟩),.pointer (some ⟨j,q,none⟩)=>Nat.beq i j&&Nat.beq o q
  |.slice none l c,.slice none l' c'=>Nat.beq l l'&&Nat.beq c c'
  |.slice (some ⟨i,o,none⟩) l c,.slice (some ⟨j,q,none⟩) l' c'=>Nat.beq i j&&(Nat.beq o q&&(Nat.beq l l'&&Nat.beq c c'))
  |.slice (some ⟨i,o,some 0⟩) l c,.slice (some ⟨j,q,some 0⟩) l' c'=>Nat.beq i j&&(Nat.beq o q&&(Nat.beq l l'&&Nat.beq c c'))
  |.map x,.map y=>decide (x=y)
  |.chan none,.chan none=>true
  |.nilFunc,.nilFunc=>true
  |.nilIface,.nilIface=>true
  |.func (.func g) fs cs,.func (.func g') rL cs'=>decide (g=g')&&(Q5r (Q0x f) fs.toList rL.toList&&Q5r (Q0x f) cs.toList cs'.toList)
  |.func (.yield i) ⟨[]⟩ ⟨[]⟩,.func (.yield j) ⟨[]⟩ ⟨[]⟩=>Nat.beq i j
  |.iface t v,.iface t' v'=>decide (t=t')&&Q0x f v v'
  |.agg cs,.agg ds=>Q5r (Q0x f) cs.toList ds.toList
  |.tuple cs,.tuple ds=>Q5r (Q0x f) cs.toList ds.toList
  |_,_=>false
theorem S3 {α:Type}{a b:Array α}(h:a.toList=b.toList):a=b:=by cases a;cases b;simp at h;rw[h]
theorem Bi:∀ (f:Nat) (a b:Value),Q0x f a b=true->a=b:=by
 intro f;induction f with
 |zero=>intro a b h;cases h
 |succ f ih =>
  intro a b h;unfold Q0x at h
  split at h<;>first
   |(cases h;done)
   |rfl
   |(simp at h;subst h;rfl)
   |(simp at h;obtain⟨rfl,rfl⟩:=h;rfl)
   |(simp at h;obtain⟨rfl,rfl,rfl,rfl⟩:=h;rfl)
   |skip
  .rename_i s t;have h:=xE h;have:=S3 h;cases s;cases t;simp at this;rw[this]
  .rename_i g fs cs g' rL cs';simp only[z0,zf] at h;obtain⟨rfl,h1,h2⟩:=h;rw[S3 (NJ ih _ _ h1),S3 (NJ ih _ _ h2)]
  .rename_i t v t' v';simp only[z0,zf] at h;obtain⟨rfl,h1⟩:=h;rw[ih _ _ h1]
  .rw[S3 (NJ ih _ _ h)]
  .rw[S3 (NJ ih _ _ h)]
def EB.beq:EB->EB->Bool
 |.cells c e w t,.cells c' e' w' t'=>decide (e=e')&&(w==w'&&(t==t'&&Q5r (Q0x 20) c c'))
 |.map es cl w,.map bM uk w'=>Nat.beq cl uk&&(w==w'&&Q5r (λa b=>Q0x 20 a.1 b.1&&(Q0x 20 a.2.1 b.2.1&&Nat.beq a.2.2 b.2.2)) es bM)
 |.iter m s sn l,.iter m' s' um l'=>Nat.beq m m'&&(Nat.beq s s'&&(Nat.beq l l'&&decide (sn=um)))
 |.lp .ready none,.lp .ready none=>true
 |.lp .busy none,.lp .busy none=>true
 |.siter s p,.siter s' p'=>decide (s.data.toList=s'.data.toList)&&Nat.beq p p'
 |_,_=>false
theorem EB.beq_eq {a b:EB}(h:a.beq b=true):a=b:=by
 unfold EB.beq at h
 split at h<;>first
  |(cases h;done)
  |rfl
  |skip
 .simp only[z0,zf,zU] at h;obtain⟨rfl,rfl,rfl,h⟩:=h;rw[NJ (Bi 20) _ _ h]
 .simp only[z0,zU,Nat.beq_eq] at h;obtain⟨rfl,rfl,h⟩:=h;rw[NJ (λa b h=>by
   simp only[z0,Nat.beq_eq] at h;obtain⟨a1,a2,a3⟩:=a;obtain⟨b1,b2,b3⟩:=b;obtain⟨h1,h2,h3⟩:=h;simp at h1 h2 h3;rw[Bi _ _ _ h1,Bi _ _ _ h2,h3]) _ _ h]
 .simp only[z0,zf,Nat.beq_eq] at h;obtain⟨rfl,rfl,rfl,rfl⟩:=h;rfl
 .rename_i s _ s' _;simp only[z0,zf,Nat.beq_eq] at h;obtain⟨h1,rfl⟩:=h;have:=S3 h1;cases s;cases s';simp at this;rw[this]
def CH.newOk (h h':CH):Bool:=Nat.ble h.n h'.n&&(h'.room&&(List.range' h.n (h'.n-h.n)).all λi=>match h'.get i with
 |some (.lp _ _)=>false
 |_=>true)
structure AnsOps (A:Type) where
 fail:A
 both:A->A->A
structure Good {A:Type}(R:AnsOps A) (G:A->Prop):Prop where
 fail:¬ G R.fail
 both:∀ a b,G (R.both a b)->G a/\G b
def US:AnsOps Bool:=⟨false,and⟩
theorem Q1d:Good US (·=true):=⟨by simp[US],λa b h=>by simpa [US] using h⟩
def Q23:AnsOps (Option (Value×CH)):=⟨none,λ_ _=>none⟩
theorem Z24 (x:Value×CH):Good Q23 (·=some x):=⟨by simp[Q23],λa b h=>by simp[Q23] at h⟩
def CH.same (h h':CH):Bool:=Nat.beq h.n h'.n&&(List.range h.n).all λi=>match h.get i,h'.get i with
 |none,none=>true
 |some a,some b=>a.beq b
 |_,_=>false
def EB.plainE:EB->Bool
 |.cells c _ _ _=>c.all Zy
 |.map es _ _=>es.all λkv=>Zy kv.2.1
 |_=>false
def CH.keepOk (h h':CH):Bool:=Nat.ble h.n h'.n&&(List.range h.n).all λi=>match h.get i,h'.get i with
 |_,none=>true
 |some a,some b=>b.plainE||a.beq b
 |_,_=>false
def gcI (n0:Nat) (refs:List Nat) (i:Nat):Nat×List Nat :=
 if i<n0 then (i,refs) else if refs.contains i=true then (n0+refs.idxOf i,refs) else (n0+refs.length,refs++[i])
def Q7f (g:List Nat->Value->Option (Value×List Nat)):List Value->List Nat->Option (List Value×List Nat)
 |[],refs=>some ([],refs)
 |v::vs,refs=>match g refs v with
  |none=>none
  |some p=>match Q7f g vs p.2 with
   |none=>none
   |some q=>some (p.1::q.1,q.2)
def gcX (n0:Nat):Nat->List Nat->Value->Option (Value×List Nat)
 |0,_,_=>none
 |f+1,refs,v=>match v with
  |.pointer (some ⟨i,o,none⟩)=>some (.pointer (some ⟨(gcI n0 refs i).1,o,none⟩),(gcI n0 refs i).2)
  |.slice (some ⟨i,o,none⟩) l c=>some (.slice (some ⟨(gcI n0 refs i).1,o,none⟩) l c,(gcI n0 refs i).2)
  |.slice (some ⟨i,o,some 0⟩) l c=>some (.slice (some ⟨(gcI n0 refs i).1,o,some 0⟩) l c,(gcI n0 refs i).2)
  |.map (some i)=>some (.map (some (gcI n0 refs i).1),(gcI n0 refs i).2)
  |.chan none=>some (.chan none,refs)
  |.iface t u=>match gcX n0 f refs u with
   |some p=>some (.iface t p.1,p.2)
   |none=>none
  |.agg cs=>match Q7f (gcX n0 f) cs.toList refs with
   |some p=>some (.agg p.1.toArray,p.2)
   |none=>none
  |.tuple cs=>match Q7f (gcX n0 f) cs.toList refs with
   |some p=>some (.tuple p.1.toArray,p.2)
   |none=>none
  |.func (.func g) fs cs=>match Q7f (gcX n0 f) fs.toList refs with
   |some p=>match Q7f (gcX n0 f) cs.toList p.2 with
    |some q=>some (.func (.func g) p.1.toArray q.1.toArray,q.2)
    |none=>none
   |none=>none
  |.func (.yield i) ⟨[]⟩ ⟨[]⟩=>if i<n0 then some (.func (.yield i) ⟨[]⟩ ⟨[]⟩,refs) else none
  |v=>if Zy v=true then some (v,refs) else none
def Z7q (n0:Nat):List Wl->List Nat->Option (List Wl×List Nat)
 |[],refs=>some ([],refs)
 |e::es,refs=>match gcX n0 8 refs e.2.1 with
  |none=>none
  |some p=>match Z7q n0 es p.2 with
   |none=>none
   |some q=>some ((e.1,p.1,e.2.2)::q.1,q.2)
def gcB (n0:Nat) (refs:List Nat):EB->Option (EB×List Nat)
 |.cells c e w t=>match Q7f (gcX n0 8) c refs with
  |some p=>some (.cells p.1 e w t,p.2)
  |none=>none
 |.map es cl w=>match Z7q n0 es refs with
  |some p=>some (.map p.1 cl w,p.2)
  |none=>none
 |_=>none
def Q7q (h':CH) (n0:Nat):Nat->Nat->List Nat->CH->Option (CH×List Nat)
 |0,_,_,_=>none
 |f+1,k,refs,acc=>if refs.length<=k then (if k=refs.length then some (acc,refs) else none) else match h'.get (refs.getD k 0) with
  |none=>none
  |some b=>match gcB n0 refs b with
   |none=>none
   |some p=>if acc.room=true then Q7q h' n0 f (k+1) p.2 (acc.push p.1) else none
def Z04 (h h':CH) (refs:List Nat):Option (CH×List Nat) :=
 if h.keepOk h'=true then Q7q h' h.n 100000 0 refs ⟨h'.t,h.n⟩ else none
def FZ (h h':CH) (v:Value):Option (Value×CH):=match gcX h.n 8 [] v with
 |none=>none
 |some p=>match Z04 h h' p.2 with
  |none=>none
  |some q=>some (p.1,q.1)
def joinOps:AnsOps (Option (Value×CH)):=⟨none,λa b=>match a with
 |some x=>match b with
  |some y=>if Q0x 20 x.1 y.1=true/\x.2.same y.2=true then some x else none
  |none=>none
 |none=>none⟩
structure ET where
 t:GT Value
 m:Nat
def ET.get (e:ET) (i:Nat):Value:=Bool.rec (motive:=λ_=>Value) undef (e.t.get undef i) (Nat.blt i e.m)
def ET.set (e:ET) (i:Nat) (v:Value):ET:=Bool.rec (motive:=λ_=>ET) e ⟨e.t.set undef 32 i v,e.m⟩ (Nat.blt i e.m)
def ET.put (e:ET) (d:Option Nat) (v:Value):ET:=Option.rec (motive:=λ_=>ET) e (λd=>e.set d v) d
def etL (l:List Value):Nat->GT Value->GT Value:=List.rec (motive:=λ_=>Nat->GT Value->GT Value) (λ_ t=>t) (λv _ ih i t=>ih (i+1) (t.set undef 32 i v)) l
def ET.of (args:List Value) (nt:Nat):ET:=⟨etL args 0 .nil,args.length+(nt-args.length)⟩
def Bw (e:ET) (x:Operand):Value:=Operand.rec (motive:=λ_=>Value) (λt=>e.get t) (λv=>v) (λg=>.pointer (some ⟨g,0,some 0⟩)) (λf=>.func (.func f) #[] #[]) x
def Z10 (e:ET) (ps:List Nat):List Value->ET:=List.rec (motive:=λ_=>ET->List Value->ET) (λe _=>e) (λp _ ih e vs=>List.rec (motive:=λ_=>ET) e (λv vs _=>ih (e.set p v) vs) vs) ps e
def Q4g (e:ET) (g:Option (Nat×Bool)):Option Bool:=match g with
 |none=>some true
 |some (d,want)=>match e.get d with
  |.bool b=>some (b==want)
  |.tuple _=>some false
  |_=>none
def ET.list (e:ET):List Value:=(List.range e.m).map e.get
def Z65 (h h':CH) (e:ET):Option (Value×CH):=FZ h h' (.tuple e.list.toArray)
structure RCtx where
 ps:List Nat
 a:VCode
 b:VCode
 env:ET
abbrev Ys:=List (Nat×RCtx)
def Ys.find:Ys->Nat->Option RCtx
 |[],_=>none
 |(j,c)::l,i=>if Nat.beq i j=true then some c else Ys.find l i
structure Memo where
 args:List Value
 bl:List PB
 v:Value
 fr:List PB
def Z4y (g:Value->Option Value):List Value->Option (List Value)
 |[]=>some []
 |v::vs=>match g v with
  |none=>none
  |some u=>match Z4y g vs with
   |none=>none
   |some us=>some (u::us)
def shX (a m d:Nat):Nat->Value->Option Value
 |0,_=>none
 |f+1,v=>match v with
  |.pointer (some ⟨i,o,none⟩)=>if a<=i/\i<m then some (.pointer (some ⟨d+(i-a),o,none⟩)) else none
  |.slice (some ⟨i,o,none⟩) l c=>if a<=i/\i<m then some (.slice (some ⟨d+(i-a),o,none⟩) l c) else none
  |.agg cs=>match Z4y (shX a m d f) cs.toList with
   |some p=>some (.agg p.toArray)
   |none=>none
  |.tuple cs=>match Z4y (shX a m d f) cs.toList with
   |some p=>some (.tuple p.toArray)
   |none=>none
  |v=>if Zy v=true then some v else none
def Ai (h:CH):Nat->List Nat->List PB->Option (List Nat)
 |k,refs,[]=>if refs.length=k then some refs else none
 |k,refs,b::m=>if k<refs.length then
   match h.get (refs.getD k 0) with
   |some (.cells c e _ t)=>(match Q7f (gcX 0 8) c refs with
    |some p=>if (decide (e=b.esz)&&(t==b.tight&&Q5r (Q0x 20) p.1 b.c))=true then Ai h (k+1) p.2 m else none
    |none=>none)
   |_=>none
  else none
def D3:List PB->CH->CH
 |[],h=>h
 |b::l,h=>D3 l (h.push (.cells b.c b.esz true b.tight))
def Q1y (h:CH) (args:List Value) (refs:List Nat):List Memo->Option Memo
 |[]=>none
 |m::ms=>if (Q5r (Q0x 20) args m.args&&(Ai h 0 refs m.bl).isSome)=true then some m else Q1y h args refs ms
def EC (h:CH) (args:List Value) (ms:List Memo):Option (Value×CH) :=
 match Q7f (gcX 0 8) args [] with
 |none=>none
 |some p=>match Q1y h p.1 p.2 ms with
  |none=>none
  |some m=>match Nat.ble (h.n+m.fr.length) 1000000000 with
   |false=>none
   |true=>match shX m.bl.length (m.bl.length+m.fr.length) h.n 8 m.v with
    |some v=>some (v,D3 m.fr h)
    |none=>none
inductive FEnt where
 |code (vc:VCode) (rs:List VResult) (nt:Nat)
 |codeJ (vc:VCode) (rs:List VResult) (nt:Nat)
 |codeM (vc:VCode) (rs:List VResult) (nt:Nat) (ms:List Memo)
 |same
abbrev Tab:=FuncId->Option FEnt
abbrev Z2w:=∀ {A:Type},AnsOps A->Ys->VCode->Option Nat->ET->CH->(Exit->ET->CH->A)->A
def Sp (env:ET) (U:CH):VResult->Option Value
 |.tmp t=>some (env.get t)
 |.cell a agg size=>match Z4x agg size (env.get a) U with|some p=>some p.1|none=>none
def Ht (env:ET) (U:CH):List VResult->Option (List Value)
 |[]=>some []
 |r::rs=>match Sp env U r with
  |none=>none
  |some v=>match Ht env U rs with
   |none=>none
   |some vs=>some (v::vs)
def Db (env:ET) (U:CH) (rs:List VResult):Option Value :=
 match rs with
 |[r]=>Sp env U r
 |rs=>match Ht env U rs with|some vs=>some (.tuple vs.toArray)|none=>none
section
variable (T:Tab) (ev:Z2w) {A:Type}(R:AnsOps A) (ys:Ys)
def Q82 (fail:A) (rs:List VResult) (k:Value->CH->A):Exit->ET->CH->A:=λe env h'=>match e with
  |.normal=>(match Db env h' rs with|some v=>k v h'|none=>fail)
  |.ret=>(match Db env h' rs with|some v=>k v h'|none=>fail)
  |_=>fail
def OV (f:FuncId) (args:List Value) (h:CH) (k:Value->CH->A):A :=
 match T f with
 |some (.code vc rs nt)=>match Nat.ble (ET.of args nt).m 1000000 with
  |true=>ev R ys vc none (ET.of args nt) h (Q82 R.fail rs k)
  |false=>R.fail
 |some (.codeJ vc rs nt)=>match Nat.ble (ET.of args nt).m 1000000 with
  |true=>(match ev joinOps ys vc none (ET.of args nt) h (Q82 none rs λv h'=>FZ h h' v) with
   |some x=>if x.2.room=true/\Nat.ble h.n x.2.n=true then k x.1 x.2 else R.fail
   |none=>R.fail)
  |false=>R.fail
 |some (.codeM vc rs nt ms)=>match EC h args ms with
  |some p=>k p.1 p.2
  |none=>match Nat.ble (ET.of args nt).m 1000000 with
   |true=>ev R ys vc none (ET.of args nt) h (Q82 R.fail rs k)
   |false=>R.fail
 |some .same=>match args with
  |[v]=>k v h
  |_=>R.fail
 |none=>R.fail
def Q72 (i:Nat) (k:Value->CH->A):Exit->ET->CH->A:=λe _ h =>
 match h.get i with
 |some (.lp .busy none)=>match e with
  |.normal=>k (.bool true) (h.upd i (.lp .ready none))
  |.ret=>k (.bool false) (h.upd i (.lp .done (some .ret)))
  |.exit id=>k (.bool false) (h.upd i (.lp .done (some (.exit id))))
  |_=>R.fail
 |_=>R.fail
def Z11 (c:RCtx) (i:Nat) (k:Value->CH->A):Exit->ET->CH->A:=λe bn h1=>match e with
 |.normal=>(match h1.get i with
  |some (.lp .ready none)=>ev R ys c.b (some i) bn (h1.upd i (.lp .busy none)) (Q72 R i k)
  |_=>R.fail)
 |_=>R.fail
def Q7b (i:Nat) (args:List Value) (h:CH) (k:Value->CH->A):A :=
 match ys.find i with
 |some c=>match h.get i with
  |some (.lp .ready none)=>if args.length=c.ps.length then ev R ys c.a (some i) (Z10 c.env c.ps args) h (Z11 ev R ys c i k) else R.fail
  |_=>R.fail
 |none=>R.fail
def Dv (i m since clock:Nat) (seen:List Nat) (h:CH) (k:Value->CH->A):List Wl->Option A
 |[]=>none
 |e::es=>if seen.contains e.2.2=true then Dv i m since clock seen h k es
  else match Dv i m since clock seen h k es with
   |none=>some (k (.tuple #[.bool true,e.1,e.2.1]) (h.upd i (.iter m since (seen++[e.2.2]) clock)))
   |some a=>some (R.both (k (.tuple #[.bool true,e.1,e.2.1]) (h.upd i (.iter m since (seen++[e.2.2]) clock))) a)
def Z1d (x:Value) (h:CH) (k:Value->CH->A):A :=
 match x with
 |.pointer (some ⟨i,0,none⟩)=>match h.get i with
  |some (.iter m since seen last)=>match h.mapAt m with
   |some (es,clock,_) =>
    if (seen.isEmpty||es.isEmpty||es.any (λe=>decide (e.2.2<last)))=true/\es.all (λe=>UL e.1)=true then
     (match Dv R i m since clock seen h k es with
     |none=>if es.all (λe=>seen.contains e.2.2||decide (since<=e.2.2))=true then k (.tuple #[.bool false]) h else R.fail
     |some a=>if es.all (λe=>seen.contains e.2.2||decide (since<=e.2.2))=true then R.both (k (.tuple #[.bool false]) h) a else a)
    else R.fail
   |none=>R.fail
  |_=>R.fail
 |_=>R.fail
def Q9z (f:Value) (args:List Value) (h:CH) (k:Value->CH->A):A:=match f with
  |.func (.func g) first cap=>OV T ev R ys g (first.toList++args++cap.toList) h k
  |.func (.yield i) _ _=>Q7b ev R ys i args h k
  |_=>R.fail
def Q67 (r:Option (Value×CH)) (k:Value->CH->A):A:=match r with
  |some p=>k p.1 p.2
  |none=>R.fail
def Z21 (o:VOp) (env:ET) (h:CH) (k:Value->CH->A):A :=
 match o with
 |.callF f args=>OV T ev R ys f (args.map (Bw env)) h k
 |.callV f args=>Q9z T ev R ys (Bw env f) (args.map (Bw env)) h k
 |.ext (.nextMap x)=>Z1d R (Bw env x) h k
 |o=>Q67 R (Q00 o (Bw env) h) k
def Q5f (l:List VOper):ET->CH->(ET->CH->A)->A :=
 List.rec (motive:=λ_=>ET->CH->(ET->CH->A)->A) (λenv h k=>k env h)
  (λo _ ih env h k=>match Q4g env o.guard with
   |none=>R.fail
   |some true=>Z21 T ev R ys o.op env h λv h'=>ih (env.put o.dst v) h' k
   |some false=>ih (env.put o.dst undef) h k) l
def Q16 (op:VOp) (ev:Operand->Value) (v:Value) (h:CH):Bool:=match Q00 op ev h with
 |some q=>Q0x 20 q.1 v
 |none=>false
def Q4l (r:Nat) (h:CH):List (Nat×(CH->Bool))->Bool
 |[]=>true
 |c::l=>(!(Nat.ble r c.1)||c.2 h)&&Q4l r h l
def Bd:List DOper->ET->List CH->CH->List (Nat×(CH->Bool))->(ET->CH->A)->A
 |[],env,_,h,_,k=>k env h
 |o::rest,env,hs,h,pend,k=>match Q4g env o.guard with
  |none=>R.fail
  |some true=>if o.kind=2 then
    (match Z21 T ev Q23 ys o.op env h (λv h'=>some (v,h')) with
    |some p=>if h.newOk p.2=true/\Q4l hs.length p.2 pend=true then Bd rest (env.put o.dst p.1) (hs++[p.2]) p.2 pend k else R.fail
    |none=>R.fail)
   else if o.kind=1 then
    (match Q00 o.op (Bw env) h with
    |some p=>if (hs.drop o.kmin).all (Q16 o.op (Bw env) p.1)=true then
      Bd rest (env.put o.dst p.1) hs h (if hs.length<=o.kmax then (o.kmax,Q16 o.op (Bw env) p.1)::pend else pend) k else R.fail
    |none=>R.fail)
   else match Q00 o.op (Bw env) h with
    |some p=>Bd rest (env.put o.dst p.1) hs h pend k
    |none=>R.fail
  |some false=>if o.kind=2 then
    (if Q4l hs.length h pend=true then Bd rest (env.put o.dst undef) (hs++[h]) h pend k else R.fail)
   else Bd rest (env.put o.dst undef) hs h pend k
def Z15 (env:ET) (h:CH) (a:List DOper):Option (Value×CH):=Bd T ev joinOps ys a env [h] h [] λenv h'=>Z65 h h' env
def Q1b (env:ET) (h:CH):List (List DOper)->Option (Value×CH)
 |[]=>none
 |[a]=>Z15 T ev ys env h a
 |a::b::r=>joinOps.both (Z15 T ev ys env h a) (Q1b env h (b::r))
def Sw:List DSeg->ET->CH->(ET->CH->A)->A
 |[],env,h,k=>k env h
 |.one o::rest,env,h,k=>Q5f T ev R ys [o] env h λenv h=>Sw rest env h k
 |.alts [a]::rest,env,h,k=>Bd T ev R ys a env [h] h [] λenv h=>Sw rest env h k
 |.alts l::rest,env,h,k=>match Q1b T ev ys env h l with
  |some x=>(match x.1 with
   |.tuple vs=>if x.2.room=true/\Nat.ble h.n x.2.n=true/\vs.toList.length=env.m then Sw rest (ET.of vs.toList 0) x.2 k else R.fail
   |_=>R.fail)
  |none=>R.fail
def Q9p (h:CH):Option Nat->Bool
 |none=>true
 |some i=>match h.get i with
  |some (.lp _ _)=>true
  |_=>false
def Z22:LoopState->Bool
 |.busy=>false
 |_=>true
def Z6g (env:ET) (i:Nat) (k:Exit->ET->CH->A):Value->CH->A:=λ_ h =>
 match h.get i with
 |some (.lp st pend)=>if Z22 st=true then (match pend with
   |none=>k .normal env (h.kill i)
   |some .ret=>k .ret env (h.kill i)
   |some (.exit id)=>k (.exit id) env (h.kill i)
   |some _=>R.fail) else R.fail
 |_=>R.fail
def Z74 (kb k:Exit->ET->CH->A):Exit->ET->CH->A:=λe env h=>match e with
 |.normal=>kb .normal env h
 |e=>k e env h
def Q4i (id:Nat) (k:Exit->ET->CH->A):Exit->ET->CH->A:=λe env h=>match e with
 |.exit gV=>if gV=id then k .normal env h else k (.exit gV) env h
 |e=>k e env h
def Z2a (v:Value) (a b:A):A:=match v with
 |.bool true=>a
 |.bool false=>b
 |_=>R.fail
def Q5n (g:Value) (ps:List Nat) (a b:VCode) (ro:Option Nat) (env:ET) (h:CH) (k:Exit->ET->CH->A):A:=match g with
 |.func (.func f) first cap=>match T f with
  |some (.code _ _ _)=>if Q9p h ro=true/\h.room=true then
    OV T ev R ((h.n,⟨ps,a,b,env⟩)::ys) f (first.toList++[.func (.yield h.n) #[] #[]]++cap.toList) (h.push (.lp .ready none)) (Z6g R env h.n k)
   else R.fail
  |_=>R.fail
 |_=>R.fail
def Io (c:VCode):Option Nat->ET->CH->(Exit->ET->CH->A)->A :=
 VCode.rec (motive:=λ_=>Option Nat->ET->CH->(Exit->ET->CH->A)->A)
  (λ_ env h k=>k .normal env h)
  (λops _ env h k=>Q5f T ev R ys ops env h (k .normal))
  (λaU _ env h k=>Sw T ev R ys aU env h (k .normal))
  (λg ps a b _ _ ro env h k=>Q5n T ev R ys (Bw env g) ps a b ro env h k)
  (λ_ _ fw eW ro env h k=>fw ro env h (Z74 (λ_ ah h'=>eW ro ah h' k) k))
  (λc _ _ fw eW ro env h k=>Z2a R (Bw env c) (fw ro env h k) (eW ro env h k))
  (λid _ ih ro env h k=>ih ro env h (Q4i id k))
  (λb ih ro env h k=>ih ro env h (Z74 (λ_ ah h'=>ev R ys (.loop b) ro ah h' k) k))
  (λid _ env h k=>k (.exit id) env h)
  (λ_ env h k=>k .ret env h)
  (λ_ _ _ _=>R.fail) c
end
def C4 (T:Tab) (n:Nat):Z2w :=
 Nat.rec (motive:=λ_=>Z2w) (λR _ _ _ _ _ _=>R.fail) (λ_ ih {_} R ys c ro env h k=>Io T ih R ys c ro env h k) n
end Go.V
namespace Go.V
open Go
structure FRel (e:ET) (env:Env):Prop where
 m:e.m=List.length env
 sm:e.m<=1000000
 get:∀ i,env.getD i undef=e.get i
theorem ET.q0w {e:ET}{i:Nat}(hi:i<e.m):e.get i=e.t.get undef i:=by unfold ET.get;rw[show Nat.blt i e.m=true from Nat.ble_eq_true_of_le hi]
theorem ET.q0r {e:ET}{i:Nat}(hi:e.m<=i):e.get i=undef:=by
 unfold ET.get;cases hb:Nat.blt i e.m with
 |false=>rfl
 |true=>have:=zx hb;omega
theorem ET.q2c {e:ET}{i:Nat}{v:Value}(hi:i<e.m):e.set i v=⟨e.t.set undef 32 i v,e.m⟩:=by unfold ET.set;rw[show Nat.blt i e.m=true from Nat.ble_eq_true_of_le hi]
theorem ET.q1y {e:ET}{i:Nat}{v:Value}(hi:e.m<=i):e.set i v=e:=by
 unfold ET.set;cases hb:Nat.blt i e.m with
 |false=>rfl
 |true=>have:=zx hb;omega
theorem ET.q2g (e:ET) (i:Nat) (v:Value):(e.set i v).m=e.m:=by
 rcases zm i e.m with h|h
 .rw[ET.q2c h]
 .rw[ET.q1y h]
theorem ET.q1e {e:ET}(hs:e.m<=1000000) (i:Nat) (v:Value) (j:Nat):(e.set i v).get j=if j=i/\i<e.m then v else e.get j:=by
 rcases zm i e.m with hi|hi
 .rw[ET.q2c hi];rcases zm j e.m with hj|hj
  .rw[ET.q0w (e:=⟨e.t.set undef 32 i v,e.m⟩) hj,ET.q0w hj];show (e.t.set undef 32 i v).get undef j=_;rw[GT.q1e undef 32 _ _ _ _ (by omega)];by_cases h:j=i
   .rw[z7 h,z7 ⟨h,hi⟩]
   .rw[z6 h,z6 (λe=>h e.1)]
  .rw[ET.q0r (e:=⟨e.t.set undef 32 i v,e.m⟩) hj,ET.q0r hj,z6 (by rintro⟨rfl,_⟩;omega)]
 .rw[ET.q1y hi,z6 (by rintro⟨_,h⟩;omega)]
theorem FRel.set {e:ET}{env:Env}(h:FRel e env) (i:Nat) (v:Value):FRel (e.set i v) (env.set i v):=by
 refine⟨by rw[ET.q2g,xU];exact h.m,by rw[ET.q2g];exact h.sm,λj=>?_⟩;rw[ET.q1e h.sm,<-h.get,zd,zd,xF,h.m];by_cases cy:i=j
 .subst cy;rcases zm i (List.length env) with hi|hi
  .rw[z7 rfl,z7 hi,z7 ⟨rfl,hi⟩];rfl
  .rw[z7 rfl,z6 (by omega),z6 (by rintro⟨_,h⟩;omega),zE hi]
 .rw[z6 cy,z6 (λe=>cy e.1.symm)]
theorem FRel.put {e:ET}{env:Env}(h:FRel e env) (d:Option Nat) (v:Value):FRel (e.put d v) (Ww env d v):=by
 cases d with
 |none=>exact h
 |some d=>exact h.set d v
theorem RC {e:ET}{env:Env}(h:FRel e env):Bw e=Q5 env:=by
 funext x
 cases x with
 |tmp t=>exact(h.get t).symm
 |_=>rfl
theorem Q1m {e:ET}{env:Env}(h:FRel e env) (g:Option (Nat×Bool)):Q4g e g=Xu env g:=by
 cases g with
 |none=>rfl
 |some p =>obtain⟨d,w⟩:=p;simp only[Q4g,Xu,h.get];cases e.get d<;>rfl
theorem AV:∀ (ps:List Nat) (vs:List Value) {e:ET}{env:Env},FRel e env->FRel (Z10 e ps vs) (Ly env ps vs)
 |[],vs,e,env,h=>by cases vs<;>exact h
 |p::ps,[],e,env,h=>h
 |p::ps,v::vs,e,env,h=>AV ps vs (h.set p v)
theorem Q4r:∀ (l:List Value) (i:Nat) (t:GT Value) (j:Nat),i+l.length<=1000000->(etL l i t).get undef j=if i<=j/\j<i+l.length then l.getD (j-i) undef else t.get undef j
 |[],i,t,j,_=>by rw[z6 (by simp only[List.length_nil];omega)];rfl
 |v::l,i,t,j,h=>by
  have h:i+(l.length+1)<=1000000:=h;show (etL l (i+1) (t.set undef 32 i v)).get undef j=_;rw[Q4r l (i+1) _ j (by omega),GT.q1e undef 32 _ _ _ _ (by omega)];by_cases aN:j=i
  .subst aN;rw[z6 (by omega),z7 rfl,z7 (by simp)];simp
  .by_cases hc:i+1<=j/\j<i+1+l.length
   .rw[z7 hc,z7 (by simp;omega),show j-i=j-(i+1)+1 by omega];rfl
   .rw[z6 hc,z6 aN,z6 (by simp;omega)]
theorem ET.q1o {args:List Value}{nt:Nat}(h:(ET.of args nt).m<=1000000):FRel (ET.of args nt) (args++List.replicate (nt-args.length) undef):=by
 refine⟨by simp[ET.of],h,λi=>?_⟩;have hm:(ET.of args nt).m=args.length+(nt-args.length):=rfl;rw[hm] at h;rcases zm i (ET.of args nt).m with hi|hi
 .rw[ET.q0w hi];show _=(etL args 0 .nil).get undef i;rw[Q4r _ _ _ _ (by omega),zd,List.getElem?_append];rw[hm] at hi;by_cases hl:i<args.length
  .rw[z7 hl,z7 (by omega)];simp[zd]
  .rw[z6 hl,z6 (by omega),List.getElem?_replicate,z7 (by omega)];rfl
 .rw[ET.q0r hi];rw[hm] at hi;rw[zd,zE (by simp;omega)];rfl
def Q5m (P:Program) (f:FuncId) (m:Memo):Prop :=
 VCalled P f m.args (YL m.bl []) (λu Z=>u=m.v/\Z=YL m.bl m.fr)/\∀ b∈m.fr,b.c.all Zy=true
structure TabOk (P:Program) (T:Tab):Prop where
 code:∀ f vc rs nt,T f=some (.code vc rs nt)->Fun P f vc rs nt
 codeJ:∀ f vc rs nt,T f=some (.codeJ vc rs nt)->Fun P f vc rs nt
 codeM:∀ f vc rs nt ms,T f=some (.codeM vc rs nt ms)->Fun P f vc rs nt/\∀ m∈ms,Q5m P f m
 same:∀ f,T f=some .same->∀ (v:Value) (U:Heap) (K:Value->Heap->Prop),K v U->VCalled P f [v] U K
section
variable {P:Program}{T:Tab}{ev:Z2w}
abbrev Mz:=Nat->Env×Loop
def YOk (P:Program) (ys:Ys) (rs:Mz) (n:Nat):Prop :=
 ∀ i c,ys.find i=some c->i<n/\FRel c.env (rs i).1/\UQ P i (Q0y (vwp (Q3 P) c.a (some i)) (vwp (Q3 P) c.b (some i)) c.ps (rs i).1 (rs i).2 i)
theorem YOk.mono {ys:Ys}{rs br:Mz}{n n':Nat}(h:YOk P ys rs n) (hn:n<=n') (hr:∀ i,i<n->br i=rs i):YOk P ys br n':=λi c hc=>by obtain⟨h1,h2,h3⟩:=h i c hc;rw[hr i h1];exact⟨by omega,h2,h3⟩
def Z31 {A:Type}(G:A->Prop) (rs:Mz) (h:CH) (k:Value->CH->A) (K:Value->Heap->Prop):Prop :=
 ∀ v h' br U',h.n<=h'.n->(∀ i,i<h.n->br i=rs i)->CSim br h' U'->G (k v h')->K v U'
def Q8x {A:Type}(G:A->Prop) (rs:Mz) (h:CH) (m:Nat) (k:Exit->ET->CH->A) (Q:Exit->Env->Heap->Prop):Prop :=
 ∀ e dq h' br U' ah,h.n<=h'.n->(∀ i,i<h.n->br i=rs i)->CSim br h' U'->FRel dq ah->List.length ah=m->G (k e dq h')->Q e ah U'
def Q9a {A:Type}(G:A->Prop) (rs:Mz) (h:CH) (m:Nat) (k:ET->CH->A) (K:Env->Heap->Prop):Prop :=
 ∀ dq h' br U' ah,h.n<=h'.n->(∀ i,i<h.n->br i=rs i)->CSim br h' U'->FRel dq ah->List.length ah=m->G (k dq h')->K ah U'
def Sd (P:Program) (ev:Z2w):Prop:=∀ {A:Type}(R:AnsOps A) (G:A->Prop),Good R G->∀ (ys:Ys) (c:VCode) (ro:Option Nat) (et:ET) (env:Env) (h:CH) (k:Exit->ET->CH->A) (rs:Mz) (U:Heap) (Q:Exit->Env->Heap->Prop),
 YOk P ys rs h.n->CSim rs h U->FRel et env->G (ev R ys c ro et h k)->Q8x G rs h (List.length env) k Q->vwp (Q3 P) c ro Q env U
theorem HJ {rs:Mz}{h:CH}{U:Heap}(hs:CSim rs h U) {et:ET}{env:Env}(hE:FRel et env) {r:VResult}{v:Value}(hr:Sp et h r=some v):W2 env U r=some v:=by
 cases r with
 |tmp t=>simp only[Sp] at hr;simp only[W2,hE.get];exact hr
 |cell a agg size =>
  simp only[Sp] at hr;split at hr
  .rename_i p hp;rw[<-hE.get] at hp;obtain⟨_,U',h1,_⟩:=VW (o:=.load agg size (.tmp a)) (ev:=Q5 env) hs hp;simp only[W2,h1,wm];exact hr
  .cases hr
theorem Be {rs:Mz}{h:CH}{U:Heap}(hs:CSim rs h U) {et:ET}{env:Env}(hE:FRel et env):∀ (l:List VResult) (vs:List Value),Ht et h l=some vs->l.mapM (W2 env U)=some vs
 |[],vs,hr=>by simp[Ht] at hr;subst hr;rfl
 |r::l,vs,hr=>by
  simp only[Ht] at hr;split at hr
  .cases hr
  .rename_i v hv;split at hr
   .cases hr
   .rename_i ws hw;obtain rfl:=osj hr;rw[x6,HJ hs hE hv];simp[Be hs hE l ws hw]
theorem B3 {rs:Mz}{h:CH}{U:Heap}(hs:CSim rs h U) {et:ET}{env:Env}(hE:FRel et env) {l:List VResult}{v:Value}(hr:Db et h l=some v):Wq env U l=some v:=by
 unfold Db at hr;split at hr
 .exact HJ hs hE hr
 .rename_i aK;split at hr
  .rename_i vs cn;unfold Wq;split
   .rename_i r;exact absurd rfl (aK r)
   .rw[Be hs hE _ _ cn];exact hr
  .cases hr
variable {A:Type}{R:AnsOps A}{G:A->Prop}
theorem Da (hG:Good R G) {rl:List VResult}{k:Value->CH->A}{rs:Mz}{h:CH}{U:Heap}{K:Value->Heap->Prop}{m:Nat}(hk:Z31 G rs h k K):Q8x G rs h m (Q82 R.fail rl k) (Z7s U rl K):=by
 intro e dq h' br U' ah hn hr bh bS _ hg;have fin:G (match Db dq h' rl with|some v=>k v h'|none=>R.fail)->Zt (Wq ah U' rl) λv=>∃ v' aL,DropTo U v U' v' aL/\K v' aL:=by
  intro hg;split at hg
  .rename_i v hv;rw[B3 bh bS hv];exact⟨v,U',.refl _ _ _,hk v h' br U' hn hr bh hg⟩
  .exact(hG.fail hg).elim
 cases e with
 |normal=>exact fin hg
 |ret=>exact fin hg
 |_=>exact(hG.fail hg).elim
def CH.toHeap (rs:Mz) (h:CH):Heap:=⟨λi=>(h.get i).map (EB.to (rs i)),h.n,λi hi=>by rw[CH.q0r hi];rfl⟩
theorem PJ {rs:Mz}{h:CH}(hr:h.n<=1000000001):CSim rs h (h.toHeap rs):=⟨rfl,hr,λ_=>rfl⟩
theorem CSim.eq {rs:Mz}{h:CH}{U:Heap}(hs:CSim rs h U):U=h.toHeap rs:=Heap.ext' (λj=>hs.get j) hs.n.symm
def Q2p (x:Value×CH) (a:Option (Value×CH)):Prop:=∃ y,a=some y/\y.1=x.1/\y.2.n=x.2.n/\∀ i,y.2.get i=x.2.get i
theorem Q85 {h h':CH}(hs:h.same h'=true):h.n=h'.n/\∀ i,h.get i=h'.get i:=by
 simp only[CH.same,z0,zg,zG,Nat.beq_eq] at hs;refine⟨hs.1,λi=>?_⟩;rcases zm i h.n with hi|hi
 .have:=hs.2 i hi;split at this
  .rename_i h1 h2;rw[h1,h2]
  .rename_i a b h1 h2;rw[h1,h2,EB.beq_eq this]
  .cases this
 .rw[CH.q0r hi,CH.q0r (by rw[<-hs.1];exact hi)]
theorem EO (x:Value×CH):Good joinOps (Q2p x):=by
 refine⟨λ⟨y,h,_⟩=>(by cases h),λa b h=>?_⟩;obtain⟨y,h1,h2,h3,h4⟩:=h;cases a with
 |none=>cases h1
 |some xa =>
  cases b with
  |none=>cases h1
  |some xb =>
   simp only[joinOps] at h1;split at h1
   .rename_i hc;obtain rfl:=osj h1;have e1:=Bi _ _ _ hc.1;obtain⟨e2,e3⟩:=Q85 hc.2;exact⟨⟨xa,rfl,h2,h3,h4⟩,xb,rfl,by rw[<-e1];exact h2,by rw[<-e2];exact h3,λi=>by rw[<-e3 i];exact h4 i⟩
   .cases h1
theorem Q5s {b:EB}{q:Env×Loop}(h:b.plainE=true):(b.to q).plain=true/\∀ q',b.to q'=b.to q:=by cases b<;>first|exact⟨h,λ_=>rfl⟩|cases h
def gcP (n0:Nat) (refs:List Nat) (i:Nat):Nat:=if i<n0 then i else refs.getD (i-n0) 0
def RExt (n0:Nat) (a b:List Nat):Prop:=(∃ t,b=a++t/\∀ x∈t,n0<=x)/\(a.Nodup->b.Nodup)
theorem RExt.refl (n0:Nat) (a:List Nat):RExt n0 a a:=⟨⟨[],by simp,λx hx=>by cases hx⟩,id⟩
theorem RExt.trans {n0:Nat}{a b c:List Nat}(h:RExt n0 a b) (k:RExt n0 b c):RExt n0 a c:=by obtain⟨⟨t,rfl,ht⟩,h2⟩:=h;obtain⟨⟨u,rfl,hu⟩,k2⟩:=k;exact⟨⟨t++u,by simp,λx hx=>(xj.1 hx).elim (ht x) (hu x)⟩,λh=>k2 (h2 h)⟩
def Sub (a b:List Nat):Prop:=∃ t,b=a++t
theorem Sub.trans {a b c:List Nat}(h:Sub a b) (k:Sub b c):Sub a c:=by obtain⟨t,rfl⟩:=h;obtain⟨u,rfl⟩:=k;exact⟨t++u,by simp⟩
theorem RExt.sub {n0:Nat}{a b:List Nat}(h:RExt n0 a b):Sub a b:=by obtain⟨⟨t,h,_⟩,_⟩:=h;exact⟨t,h⟩
theorem Rz (n0:Nat) (refs:List Nat) (i:Nat):RExt n0 refs (gcI n0 refs i).2/\∀ (all:List Nat),Sub (gcI n0 refs i).2 all->(gcI n0 refs i).1<n0+all.length/\gcP n0 all (gcI n0 refs i).1=i:=by
 unfold gcI;split
 .rename_i hi;exact⟨RExt.refl _ _,λall _=>⟨by simp only;omega,by simp[gcP,hi]⟩⟩
 .rename_i hi;split
  .rename_i hc;have hm:i∈refs:=by simpa using hc
   have ao:=List.idxOf_lt_length_of_mem hm;refine⟨RExt.refl _ _,λall ⟨t,ht⟩=>?_⟩;simp only at ht;have cM:refs.idxOf i<all.length:=by rw[ht,zk];omega
   refine⟨by simp only;omega,?_⟩;simp only[gcP,z6 (show ¬ n0+refs.idxOf i<n0 by omega),show n0+refs.idxOf i-n0=refs.idxOf i by omega,zd];rw[ht,x9 ao,z8 ao];simp
  .rename_i hc;have hm:i∉refs:=by simpa using hc
   refine⟨⟨⟨[i],rfl,λx hx=>by simp at hx;omega⟩,λh1=>List.nodup_append.2 ⟨h1,by simp,λa ha b hb=>by simp at hb;subst hb;rintro rfl;exact hm ha⟩⟩,λall ⟨t,ht⟩=>?_⟩;simp only at ht;have ao:refs.length<all.length:=by rw[ht];simp
   refine⟨by simp only;omega,?_⟩;simp only[gcP,z6 (show ¬ n0+refs.length<n0 by omega),show n0+refs.length-n0=refs.length by omega];simp[ht,zd]
def Z7h (n0:Nat) (refs fh:List Nat) (v' v:Value):Prop:=RExt n0 refs fh/\∀ (all:List Nat),Sub fh all->Ren (n0+all.length) (gcP n0 all) v' v
def Z9s (n0:Nat) (refs fh:List Nat) (v' v:List Value):Prop:=RExt n0 refs fh/\∀ (all:List Nat),Sub fh all->LRen (n0+all.length) (gcP n0 all) v' v
theorem KH {n0:Nat}{g:List Nat->Value->Option (Value×List Nat)}(hg:∀ refs v p,g refs v=some p->Z7h n0 refs p.2 p.1 v):∀ (vs:List Value) (refs:List Nat) (p:List Value×List Nat),Q7f g vs refs=some p->Z9s n0 refs p.2 p.1 vs
 |[],refs,p,h=>by obtain rfl:=osj h;exact⟨RExt.refl _ _,λall _=>⟨rfl,λi a b ha=>by simp at ha⟩⟩
 |v::vs,refs,p,h=>by
  simp only[Q7f] at h;split at h
  .cases h
  .rename_i p1 h1;split at h
   .cases h
   .rename_i p2 h2;obtain rfl:=osj h;obtain⟨a1,a2⟩:=hg _ _ _ h1;obtain⟨b1,b2⟩:=KH hg vs _ _ h2;refine⟨a1.trans b1,λall hall=>?_⟩;have c1:=a2 all (b1.sub.trans hall);have c2:=b2 all hall;refine⟨by simp[c2.1],λi a b ha hb=>?_⟩;cases i with
    |zero=>simp at ha hb;subst ha;subst hb;exact c1
    |succ i=>exact c2.2 i a b (by simpa using ha) (by simpa using hb)
theorem LRen.agg {n:Nat}{π:Nat->Nat}{cE:List Value}{cs:Array Value}(h:LRen n π cE cs.toList):Ren n π (.agg cE.toArray) (.agg cs) :=
 .agg _ _ (by simpa using h.1) λi h1 h2=>h.2 i _ _ (by simp) (by simp)
theorem LRen.tuple {n:Nat}{π:Nat->Nat}{cE:List Value}{cs:Array Value}(h:LRen n π cE cs.toList):Ren n π (.tuple cE.toArray) (.tuple cs) :=
 .tuple _ _ (by simpa using h.1) λi h1 h2=>h.2 i _ _ (by simp) (by simp)
theorem H4 (n0:Nat):∀ (f:Nat) (refs:List Nat) (v:Value) (p:Value×List Nat),gcX n0 f refs v=some p->Z7h n0 refs p.2 p.1 v:=by
 intro f;induction f with
 |zero=>intro refs v p h;cases h
 |succ f ih =>
  intro refs v p h;unfold gcX at h;split at h
  .rename_i i o;obtain rfl:=osj h;obtain⟨h1,h2⟩:=Rz n0 refs i;refine⟨h1,λall hall=>?_⟩;obtain⟨k1,k2⟩:=h2 all hall;have:=Ren.ptr (n:=n0+all.length) (π:=gcP n0 all) (gcI n0 refs i).1 o k1
   rwa [k2] at this
  .rename_i i o l c;obtain rfl:=osj h;obtain⟨h1,h2⟩:=Rz n0 refs i;refine⟨h1,λall hall=>?_⟩;obtain⟨k1,k2⟩:=h2 all hall;have:=Ren.sl (n:=n0+all.length) (π:=gcP n0 all) (gcI n0 refs i).1 o l c k1
   rwa [k2] at this
  .rename_i i o l c;obtain rfl:=osj h;obtain⟨h1,h2⟩:=Rz n0 refs i;refine⟨h1,λall hall=>?_⟩;obtain⟨k1,k2⟩:=h2 all hall;have:=Ren.slx (n:=n0+all.length) (π:=gcP n0 all) (gcI n0 refs i).1 o l c k1
   rwa [k2] at this
  .rename_i i;obtain rfl:=osj h;obtain⟨h1,h2⟩:=Rz n0 refs i;refine⟨h1,λall hall=>?_⟩;obtain⟨k1,k2⟩:=h2 all hall;have:=Ren.map (n:=n0+all.length) (π:=gcP n0 all) (gcI n0 refs i).1 k1
   rwa [k2] at this
  .obtain rfl:=osj h;exact⟨RExt.refl _ _,λall _=>.poison _⟩
  .split at h
   .rename_i q hq;obtain rfl:=osj h;obtain⟨h1,h2⟩:=ih _ _ _ hq;exact⟨h1,λall hall=>.iface _ _ _ (h2 all hall)⟩
   .cases h
  .split at h
   .rename_i q hq;obtain rfl:=osj h;obtain⟨h1,h2⟩:=KH ih _ _ _ hq;exact⟨h1,λall hall=>(h2 all hall).agg⟩
   .cases h
  .split at h
   .rename_i q hq;obtain rfl:=osj h;obtain⟨h1,h2⟩:=KH ih _ _ _ hq;exact⟨h1,λall hall=>(h2 all hall).tuple⟩
   .cases h
  .split at h
   .rename_i q hq;split at h
    .rename_i q2 rM;obtain rfl:=osj h;obtain⟨h1,h2⟩:=KH ih _ _ _ hq;obtain⟨h3,h4⟩:=KH ih _ _ _ rM;refine⟨h1.trans h3,λall hall=>?_⟩;have c1:=h2 all (h3.sub.trans hall);have c2:=h4 all hall;exact .func _ _ _ _ _ (by simpa using c1.1) (by simpa using c2.1) (λi h1 h2=>c1.2 i _ _ (by simp) (by simp)) (λi h1 h2=>c2.2 i _ _ (by simp) (by simp))
    .cases h
   .cases h
  .rename_i i;split at h
   .rename_i hi;obtain rfl:=osj h;refine⟨RExt.refl _ _,λall _=>?_⟩;have:=Ren.yield (n:=n0+all.length) (π:=gcP n0 all) i (by omega)
    rwa [show gcP n0 all i=i by simp[gcP,hi]] at this
   .cases h
  .split at h
   .rename_i hp;obtain rfl:=osj h;exact⟨RExt.refl _ _,λall _=>.plain _ hp⟩
   .cases h
theorem Ic (n0:Nat):∀ (es:List Wl) (refs:List Nat) (p:List Wl×List Nat),Z7q n0 es refs=some p->RExt n0 refs p.2/\∀ (all:List Nat),Sub p.2 all ->
  p.1.length=es.length/\∀ (k:Nat) (a b:Wl),p.1[k]?=some a->es[k]?=some b->a.1=b.1/\a.2.2=b.2.2/\Ren (n0+all.length) (gcP n0 all) a.2.1 b.2.1
 |[],refs,p,h=>by obtain rfl:=osj h;exact⟨RExt.refl _ _,λall _=>⟨rfl,λi a b ha=>by simp at ha⟩⟩
 |e::es,refs,p,h=>by
  simp only[Z7q] at h;split at h
  .cases h
  .rename_i p1 h1;split at h
   .cases h
   .rename_i p2 h2;obtain rfl:=osj h;obtain⟨a1,a2⟩:=H4 n0 _ _ _ _ h1;obtain⟨b1,b2⟩:=Ic n0 es _ _ h2;refine⟨a1.trans b1,λall hall=>?_⟩;have c1:=a2 all (b1.sub.trans hall);obtain⟨c2,c3⟩:=b2 all hall;refine⟨by simp[c2],λi a b ha hb=>?_⟩;cases i with
    |zero=>simp at ha hb;subst ha;subst hb;exact⟨rfl,rfl,c1⟩
    |succ i=>exact c3 i a b (by simpa using ha) (by simpa using hb)
theorem Q9b {n0:Nat}{refs:List Nat}{b:EB}{p:EB×List Nat}(h:gcB n0 refs b=some p):RExt n0 refs p.2/\∀ (all:List Nat),Sub p.2 all->∀ q q',BRen (n0+all.length) (gcP n0 all) (p.1.to q') (b.to q):=by
 unfold gcB at h;split at h
 .split at h
  .rename_i q hq;obtain rfl:=osj h;obtain⟨h1,h2⟩:=KH (H4 n0 8) _ _ _ hq;exact⟨h1,λall hall _ _=>⟨rfl,rfl,rfl,h2 all hall⟩⟩
  .cases h
 .split at h
  .rename_i q hq;obtain rfl:=osj h;obtain⟨h1,h2⟩:=Ic n0 _ _ _ hq;exact⟨h1,λall hall _ _=>⟨rfl,rfl,(h2 all hall).1,(h2 all hall).2⟩⟩
  .cases h
 .cases h
theorem Q3m {h':CH}{n0:Nat}:∀ (f k:Nat) (refs:List Nat) (acc:CH) (r:CH×List Nat),Q7q h' n0 f k refs acc=some r->acc.n=n0+k->acc.n<=1000000001 ->
  RExt n0 refs r.2/\r.1.n=n0+r.2.length/\r.1.n<=1000000001/\(∀ i,i<acc.n->r.1.get i=acc.get i) /\
  ∀ j,k<=j->j<r.2.length->∃ b b',h'.get (r.2.getD j 0)=some b/\r.1.get (n0+j)=some b'/\∀ q q',BRen (n0+r.2.length) (gcP n0 r.2) (b'.to q') (b.to q):=by
 intro f;induction f with
 |zero=>intro k refs acc r h;cases h
 |succ f ih =>
  intro k refs acc r h hn hs;simp only[Q7q] at h;split at h
  .split at h
   .rename_i hk;obtain rfl:=osj h;exact⟨RExt.refl _ _,by rw[hn,hk],hs,λ_ _=>rfl,λj h1 h2=>by simp only at h2;omega⟩
   .cases h
  .rename_i hk;split at h
   .cases h
   .rename_i b hb;split at h
    .cases h
    .rename_i p hp;split at h
     .rename_i aM;have aM:acc.n<=1000000000:=zx aM;obtain⟨a1,a2⟩:=Q9b hp;have kL:(acc.push p.1).n=acc.n+1:=rfl;obtain⟨b1,b2,b3,b4,b5⟩:=ih (k+1) p.2 (acc.push p.1) r h (by rw[kL];omega) (by rw[kL];omega);refine⟨a1.trans b1,b2,b3,λi hi=>?_,λj qb iK=>?_⟩
      .rw[b4 i (by rw[kL];omega),CH.q1p hs,z6 (by omega)]
      .by_cases dY:j=k
       .subst dY;have cr:j<refs.length:=by omega
        obtain⟨t,ht⟩:=(a1.trans b1).sub;have hg:r.2.getD j 0=refs.getD j 0:=by rw[ht,zd,zd,x9 cr]
        refine⟨b,p.1,by rw[hg];exact hb,?_,a2 r.2 b1.sub⟩;rw[<-hn,b4 _ (by rw[kL];omega),CH.q1p hs,z7 rfl]
       .exact b5 j (by omega) iK
     .cases h
theorem Tx {rs br:Mz}{h h':CH}{U U':Heap}(hs:CSim rs h U) (bh:CSim br h' U') (hr:∀ i,i<h.n->br i=rs i) {v:Value}{y x:Value×CH}(hg:FZ h h' v=some y) (h1:y.1=x.1) (h2:y.2.n=x.2.n) (h3:∀ i,y.2.get i=x.2.get i) :
  DropTo U v U' x.1 (x.2.toHeap rs):=by
 unfold FZ at hg;split at hg
 .cases hg
 .rename_i p hp;split at hg
  .cases hg
  .rename_i q hq;obtain rfl:=osj hg;simp only at h1 h2 h3;obtain⟨f1,f2⟩:=H4 h.n 8 [] v p hp;unfold Z04 at hq;split at hq
   .rename_i dF;simp only[CH.keepOk,z0,zg,zG] at dF;obtain⟨hle,dF⟩:=dF;have hle:h.n<=h'.n:=zx hle;have oP:=hs.sm;obtain⟨g0,g1,g2,g3,g4⟩:=Q3m _ 0 p.2 ⟨h'.t,h.n⟩ q hq rfl oP;have hall:=f1.trans g0;have gi:q.2.Nodup:=hall.2 List.nodup_nil;have bZ:∀ x∈q.2,h.n<=x:=by
     obtain⟨⟨t,ht,hx⟩,_⟩:=hall;simpa [ht] using hx
    have hold:∀ i,i<h.n->q.1.get i=h'.get i:=λi hi=>by rw[g3 i hi,CH.q0w (h:=⟨h'.t,h.n⟩) hi,CH.q0w (by omega)]
    have kM:(x.2.toHeap rs).n=h.n+q.2.length:=by show x.2.n=_;rw[<-h2,g1]
    have rN:∀ i,(x.2.toHeap rs).get i=(q.1.get i).map (EB.to (rs i)):=λi=>by show (x.2.get i).map _=_;rw[<-h3 i]
    rw[<-h1];refine DropTo.rename (gcP h.n q.2) (by rw[kM,<-hs.n];omega) (λi hi=>?_) (λi gm gf=>?_) (λi j gm gf qb iK he=>?_) (by rw[kM];exact f2 q.2 g0.sub)
    .rw[<-hs.n] at hi;refine⟨by simp[gcP,hi],by rw[rN,hold i hi,bh.get,hr i hi],?_⟩;have:=dF i hi;rw[bh.get,hs.get];split at this
     .rename_i e2;rw[e2];exact .inr (.inr rfl)
     .rename_i a b e1 e2;rw[e1,e2];rw[zt] at this;rcases this with hb|hb
      .exact .inr (.inl ⟨_,rfl,(Q5s hb).1⟩)
      .rw[EB.beq_eq hb,hr i hi];exact .inl rfl
     .cases this
    .rw[<-hs.n] at gm;rw[kM] at gf;obtain⟨b,b',e1,e2,e3⟩:=g4 (i-h.n) (by omega) (by omega);have jL:gcP h.n q.2 i=q.2.getD (i-h.n) 0:=by simp[gcP,wC.2 gm]
     have aR:q.2.getD (i-h.n) 0∈q.2:=by
      have:i-h.n<q.2.length:=by omega
      simp[zd,this]
     rw[show h.n+(i-h.n)=i by omega] at e2;rw[jL];refine⟨by rw[<-hs.n];exact bZ _ aR,b'.to (rs i),b.to (br (q.2.getD (i-h.n) 0)),by rw[rN,e2];rfl,by rw[bh.get,e1];rfl,by rw[kM];exact e3 _ _⟩
    .rw[<-hs.n] at gm qb;rw[kM] at gf iK;simp only[gcP,wC.2 gm,wC.2 qb,if_false] at he;have jl:i-h.n<q.2.length:=by omega
     have gK:j-h.n<q.2.length:=by omega
     simp only[zd,z8 jl,z8 gK,Option.getD_some] at he;have:=(List.getElem_inj (h₀:=jl) (h₁:=gK) gi).1 he;omega
   .cases hq
theorem RN {a m d:Nat}{g:Value->Option Value}(hg:∀ v u,g v=some u->Sh a m d v u):∀ (vs us:List Value),Z4y g vs=some us->vs.length=us.length/\∀ (i:Nat) (v u:Value),vs[i]?=some v->us[i]?=some u->Sh a m d v u
 |[],us,h=>by obtain rfl:=osj h;exact⟨rfl,λi v u h=>by simp at h⟩
 |v::vs,us,h=>by
  simp only[Z4y] at h;split at h
  .cases h
  .rename_i u hu;split at h
   .cases h
   .rename_i lX eD;obtain rfl:=osj h;obtain⟨h1,h2⟩:=RN hg vs lX eD;refine⟨by simp[h1],λi v' u' jI dt=>?_⟩;cases i with
    |zero=>simp at jI dt;subst jI;subst dt;exact hg _ _ hu
    |succ i=>exact h2 i v' u' (by simpa using jI) (by simpa using dt)
theorem Q8l (a m d:Nat):∀ (f:Nat) (v u:Value),shX a m d f v=some u->Sh a m d v u:=by
 intro f;induction f with
 |zero=>intro v u h;cases h
 |succ f ih =>
  intro v u h;unfold shX at h;split at h
  .split at h
   .rename_i hc;obtain rfl:=osj h;exact .ptr _ _ hc.1 hc.2
   .cases h
  .split at h
   .rename_i hc;obtain rfl:=osj h;exact .sl _ _ _ _ hc.1 hc.2
   .cases h
  .split at h
   .rename_i p hp;obtain rfl:=osj h;obtain⟨h1,h2⟩:=RN ih _ _ hp;exact .agg _ _ (by simpa using h1) λi k1 k2=>h2 i _ _ (by simp) (by simp)
   .cases h
  .split at h
   .rename_i p hp;obtain rfl:=osj h;obtain⟨h1,h2⟩:=RN ih _ _ hp;exact .tuple _ _ (by simpa using h1) λi k1 k2=>h2 i _ _ (by simp) (by simp)
   .cases h
  .split at h
   .rename_i hc;obtain rfl:=osj h;exact .plain _ hc
   .cases h
theorem Lg {rs:Mz}{h:CH}{U:Heap}(hs:CSim rs h U):∀ (m:List PB) (k:Nat) (refs r:List Nat),Ai h k refs m=some r ->
  Sub refs r/\r.length=k+m.length/\∀ i b,m[i]?=some b->∃ wr c',U.get (r.getD (k+i) 0)=some (.cells c' b.esz wr b.tight)/\LRen r.length (gcP 0 r) b.c c'
 |[],k,refs,r,hb=>by
  simp only[Ai] at hb;split at hb
  .rename_i hl;obtain rfl:=osj hb;exact⟨⟨[],by simp⟩,by simp[hl],λi b h=>by simp at h⟩
  .cases hb
 |b::m,k,refs,r,hb=>by
  simp only[Ai] at hb;split at hb
  .rename_i hk;split at hb
   .rename_i c e w t hg;split at hb
    .rename_i p hp;split at hb
     .rename_i hc;simp only[z0,zf,zU] at hc;obtain⟨rfl,rfl,h3⟩:=hc;have h3:=NJ (Bi 20) _ _ h3;obtain⟨s1,s2⟩:=KH (H4 0 8) _ _ _ hp;obtain⟨i1,i2,i3⟩:=Lg hs m (k+1) p.2 r hb;have jh:=s1.sub.trans i1;refine⟨jh,by rw[i2,zw];omega,λi b' cm=>?_⟩;cases i with
      |zero =>
       have cm:b=b':=by simpa using cm
       subst cm;obtain⟨u,hu⟩:=jh;have dG:r.getD (k+0) 0=refs.getD k 0:=by rw[hu,z_,zd,zd,x9 hk]
       have hl:=s2 r i1;rw[h3,zQ] at hl;exact⟨w,c,by rw[dG];exact hs.cells hg,hl⟩
      |succ i =>
       have:=i3 i b' (by simpa using cm)
       rwa [show k+1+i=k+(i+1) by omega] at this
     .cases hb
    .cases hb
   .cases hb
  .cases hb
theorem Tm {rs:Mz}:∀ (fr:List PB) {h:CH}{U:Heap},CSim rs h U->h.n+fr.length<=1000000000->CSim rs (D3 fr h) (K0 U fr)/\(D3 fr h).n=h.n+fr.length
 |[],h,U,hs,_=>by
  have:K0 U []=U:=Heap.ext' (λj=>by
   show (if j<U.n then U.get j else _)=_;split
   .rfl
   .rename_i hj;rw[U.wf j (by omega)];simp) rfl
  rw[this];exact⟨hs,rfl⟩
 |b::l,h,U,hs,hr=>by
  have hr:h.n+(l.length+1)<=1000000000:=hr;have hn:=hs.n;have h1:CSim rs (h.push (.cells b.c b.esz true b.tight)) (U.push (b.blk true)):=hs.push (Nat.ble_eq_true_of_le (by omega)) rfl;obtain⟨h2,h3⟩:=Tm l h1 (by show h.n+1+_<=_;omega);refine⟨?_,by rw[show D3 (b::l) h=D3 l (h.push (.cells b.c b.esz true b.tight)) from rfl,h3];show h.n+1+l.length=h.n+(l.length+1);omega⟩;have:K0 U (b::l)=K0 (U.push (b.blk true)) l:=Heap.ext' (λj=>by
   show (if j<U.n then U.get j else _)=(if j<U.n+1 then (U.push (b.blk true)).get j else _);rcases Nat.lt_trichotomy j U.n with hj|hj|hj
   .rw[z7 hj,z7 (by omega),Heap.q0h _ _ hj]
   .subst hj;rw[z6 (by omega),z7 (by omega),Heap.q0a];simp
   .rw[z6 (by omega),z6 (by omega)];rw[show j-U.n=(j-(U.push (b.blk true)).n)+1 by simp;omega];rfl) (by simp[K0];omega)
  rw[this];exact h2
theorem RG {h:CH}{args:List Value}{refs:List Nat}:∀ (ms:List Memo) (m:Memo),Q1y h args refs ms=some m->m∈ms/\args=m.args/\(Ai h 0 refs m.bl).isSome=true
 |[],m,h=>by cases h
 |m0::ms,m,h=>by
  simp only[Q1y] at h;split at h
  .rename_i hc;obtain rfl:=osj h;rw[z0] at hc;exact⟨zF,NJ (Bi 20) _ _ hc.1,hc.2⟩
  .obtain⟨h1,h2⟩:=RG ms m h;exact⟨x4 _ h1,h2⟩
theorem Cr {f:FuncId}{args:List Value}{ms:List Memo}(hm:∀ m∈ms,Q5m P f m) {rs:Mz}{h:CH}{U:Heap}(hs:CSim rs h U) {p:Value×CH}(hp:EC h args ms=some p)
  {K:Value->Heap->Prop}(hK:∀ U',h.n<=p.2.n->CSim rs p.2 U'->K p.1 U'):VCalled P f args U K:=by
 unfold EC at hp;split at hp
 .cases hp
 .rename_i q hq;split at hp
  .cases hp
  .rename_i m lN;obtain⟨h1,h2,h3⟩:=RG ms m lN;obtain⟨k1,k3⟩:=hm m h1;obtain⟨r,jA⟩:=Option.isSome_iff_exists.1 h3;obtain⟨l0,l1,l2⟩:=Lg hs _ _ _ _ jA;rw[zQ] at l1;split at hp
   .cases hp
   .rename_i hr;have hr:=zx hr;split at hp
    .rename_i v hv;obtain rfl:=osj hp;obtain⟨s1,s2⟩:=Tm m.fr hs hr;have hx:=(KH (H4 0 8) _ _ _ hq).2 r l0;rw[h2,l1] at hx;refine VCalled.localize (π:=gcP 0 r) k1 k3 (λi b hb=>?_) (by simpa using hx) ?_ (hK _ (by rw[s2];omega) s1)
     .obtain⟨wr,c',g1,g2⟩:=l2 i b hb;rw[l1] at g2;exact⟨wr,c',by simpa [gcP] using g1,g2⟩
     .have:=Q8l _ _ _ _ _ _ hv
      rwa [hs.n] at this
    .cases hp
theorem LC (hm:P.follows .mixedOrders=true) (hT:TabOk P T) (cC:Sd P ev) (hG:Good R G) {ys:Ys}{f:FuncId}{args:List Value}{h:CH}{k:Value->CH->A}{rs:Mz}{U:Heap}{K:Value->Heap->Prop}
  (hY:YOk P ys rs h.n) (hs:CSim rs h U) (he:G (OV T ev R ys f args h k)) (hk:Z31 G rs h k K):VCalled P f args U K:=by
 unfold OV at he;split at he
 .rename_i vc rl nt hf;have hF:=hT.code f vc rl nt hf;split at he
  .rename_i hb;exact hF.calls hm LU (cC R G hG ys vc none _ _ h _ rs U _ hY hs (ET.q1o (zx hb)) he (Da hG hk))
  .exact(hG.fail he).elim
 .rename_i vc rl nt hf;have hF:=hT.codeJ f vc rl nt hf;split at he
  .rename_i hb;split at he
   .rename_i x hx;split at he
    .rename_i hc;have aM:x.2.n<=1000000000:=zx hc.1;have hK:=hk x.1 x.2 rs _ (zx hc.2) (λ_ _=>rfl) (PJ (by omega)) he;refine hF.calls hm LU (cC joinOps (Q2p x) (EO x) ys vc none _ _ h _ rs U _ hY hs (ET.q1o (zx hb)) (show Q2p x _ from ⟨x,hx,rfl,rfl,λ_=>rfl⟩) ?_);intro e dq h' br U' ah hn hr bh bS _ hg;have fin:Q2p x (match Db dq h' rl with|some v=>FZ h h' v|none=>none)->Zt (Wq ah U' rl) λv=>∃ v' aL,DropTo U v U' v' aL/\K v' aL:=by
      rintro⟨y,hy,h1,h2,h3⟩;split at hy
      .rename_i v hv;rw[B3 bh bS hv];exact⟨_,_,Tx hs bh hr hy h1 h2 h3,hK⟩
      .cases hy
     cases e with
     |normal=>exact fin hg
     |ret=>exact fin hg
     |_=>obtain⟨y,hy,_⟩:=hg;cases hy
    .exact(hG.fail he).elim
   .exact(hG.fail he).elim
  .exact(hG.fail he).elim
 .rename_i vc rl nt ms hf;obtain⟨hF,hM⟩:=hT.codeM f vc rl nt ms hf;split at he
  .rename_i p hp;exact Cr hM hs hp λU' hn bh=>hk _ _ rs U' hn (λ_ _=>rfl) bh he
  .split at he
   .rename_i hb;exact hF.calls hm LU (cC R G hG ys vc none _ _ h _ rs U _ hY hs (ET.q1o (zx hb)) he (Da hG hk))
   .exact(hG.fail he).elim
 .rename_i hf;split at he
  .rename_i v;exact hT.same f hf v U K (hk v h rs U (z9 _) (λ_ _=>rfl) hs he)
  .exact(hG.fail he).elim
 .exact(hG.fail he).elim
theorem Fy (hm:P.follows .mixedOrders=true) (cC:Sd P ev) (hG:Good R G) {ys:Ys}{f:FuncId}{vc:VCode}{rl:List VResult}{nt:Nat}(hf:T f=some (.code vc rl nt)) (hF:Fun P f vc rl nt) {args:List Value}{h:CH}{k:Value->CH->A}{rs:Mz}{U:Heap}{K:Value->Heap->Prop}
  (hY:YOk P ys rs h.n) (hs:CSim rs h U) (he:G (OV T ev R ys f args h k)) (hk:Z31 G rs h k K):VCallsTo P f args U K:=by
 unfold OV at he;rw[hf] at he;simp only at he;split at he
 .rename_i hb;exact hF.callsTo hm LU (cC R G hG ys vc none _ _ h _ rs U _ hY hs (ET.q1o (zx hb)) he (Da hG hk))
 .exact(hG.fail he).elim
theorem Iu (cC:Sd P ev) (hG:Good R G) {ys:Ys}{i:Nat}{args:List Value}{h:CH}{k:Value->CH->A}{rs:Mz}{U:Heap}{K:Value->Heap->Prop}
  (hY:YOk P ys rs h.n) (hs:CSim rs h U) (he:G (Q7b ev R ys i args h k)) (hk:Z31 G rs h k K):Lp P i args U K:=by
 unfold Q7b at he;split at he
 .rename_i c hc;obtain⟨aR,kI,aq⟩:=hY i c hc;split at he
  .rename_i hg;split at he
   .rename_i hlen;refine aq args U K ⟨hs.lp hg,hlen,?_⟩;refine cC R G hG ys c.a (some i) _ _ h _ rs U _ hY hs (AV c.ps args kI) he ?_;intro e jP h1 fj σ1 bn e_ ff cJ ft _ gO;cases e with
    |normal =>
     simp only[Z11] at gO;split at gO
     .rename_i iQ;have e1:fj i=rs i:=ff i aR;have m9:=cJ.lp iQ;rw[e1] at m9;refine⟨m9,?_⟩;have gm:=cJ.lt iQ;refine cC R G hG ys c.b (some i) jP bn _ _ fj _ _ (hY.mono (n':=(h1.upd i (.lp .busy none)).n) e_ ff) (cJ.upd gm (b:=.lp .busy none) (by rw[EB.to,e1])) ft gO ?_;intro e2 fx h2 dU σ2 aT dM dE bJ fy _ cR;have kS:h1.n<=h2.n:=dM;have jQ:dU i=rs i:=(dE i gm).trans e1;unfold Q72 at cR;split at cR
      .rename_i m_;have gf:=bJ.lt m_;have na:=bJ.lp m_;rw[jQ] at na;refine⟨na,?_⟩;have dH:∀ j,j<h.n->dU j=rs j:=λj hj=>(dE j (x3 hj e_)).trans (ff j hj);cases e2 with
       |normal=>exact hk _ (h2.upd i (.lp .ready none)) dU _ (zO e_ kS) dH (bJ.upd gf (b:=.lp .ready none) (by simp only[EB.to,jQ])) cR
       |ret=>exact hk _ (h2.upd i (.lp .done (some .ret))) dU _ (zO e_ kS) dH (bJ.upd gf (b:=.lp .done (some .ret)) (by simp only[EB.to,jQ])) cR
       |exit id=>exact hk _ (h2.upd i (.lp .done (some (.exit id)))) dU _ (zO e_ kS) dH (bJ.upd gf (b:=.lp .done (some (.exit id))) (by simp only[EB.to,jQ])) cR
       |_=>exact(hG.fail cR).elim
      .exact(hG.fail cR).elim
     .exact(hG.fail gO).elim
    |_=>exact(hG.fail gO).elim
   .exact(hG.fail he).elim
  .exact(hG.fail he).elim
 .exact(hG.fail he).elim
theorem To (hG:Good R G) {i m since clock:Nat}{seen:List Nat}{h:CH}{k:Value->CH->A}:∀ (es:List Wl),
  (∀ e∈es,seen.contains e.2.2=true)/\Dv R i m since clock seen h k es=none \/
  ∃ a,Dv R i m since clock seen h k es=some a/\(G a->∀ e∈es,seen.contains e.2.2=false->G (k (.tuple #[.bool true,e.1,e.2.1]) (h.upd i (.iter m since (seen++[e.2.2]) clock))))
 |[]=>.inl ⟨λ_ h=>(by cases h),rfl⟩
 |e::es=>by
  have ih:=To hG (i:=i) (m:=m) (since:=since) (clock:=clock) (seen:=seen) (h:=h) (k:=k) es;by_cases hc:seen.contains e.2.2=true
  .have he:Dv R i m since clock seen h k (e::es)=Dv R i m since clock seen h k es:=by rw[Dv,z7 hc]
   rw[he];rcases ih with⟨h1,h2⟩|⟨a,h1,h2⟩
   .exact .inl ⟨λx hx=>by rcases zH.1 hx with rfl|hx;exact hc;exact h1 x hx,h2⟩
   .refine .inr ⟨a,h1,λkT x hx bm=>?_⟩;rcases zH.1 hx with rfl|hx
    .rw[hc] at bm;cases bm
    .exact h2 kT x hx bm
  .rcases ih with⟨h1,h2⟩|⟨a,h1,h2⟩
   .refine .inr ⟨k (.tuple #[.bool true,e.1,e.2.1]) (h.upd i (.iter m since (seen++[e.2.2]) clock)),by rw[Dv,z6 hc,h2],λkT x hx bm=>?_⟩;rcases zH.1 hx with rfl|hx
    .exact kT
    .rw[h1 x hx] at bm;cases bm
   .refine .inr ⟨R.both (k (.tuple #[.bool true,e.1,e.2.1]) (h.upd i (.iter m since (seen++[e.2.2]) clock))) a,by rw[Dv,z6 hc,h1],λkT x hx bm=>?_⟩;obtain⟨g1,g2⟩:=hG.both _ _ kT;rcases zH.1 hx with rfl|hx
    .exact g1
    .exact h2 g2 x hx bm
theorem Q02 (hG:Good R G) {x:Value}{h:CH}{k:Value->CH->A}{rs:Mz}{U:Heap}{K:Value->Heap->Prop}(hs:CSim rs h U) (he:G (Z1d R x h k)) (hk:Z31 G rs h k K):Q08 x U K:=by
 unfold Z1d at he;unfold Q08;split at he
 .rename_i i;split at he
  .rename_i m since seen last hg;have hi:=hs.lt hg;simp only[hs.iter hg];split at he
   .rename_i es clock wr gM;obtain⟨k1,_⟩:=hs.mapAt gM;simp only[k1];split at he
    .rename_i hc;refine⟨hc.1,hc.2,?_⟩;rcases To hG (i:=i) (m:=m) (since:=since) (clock:=clock) (seen:=seen) (h:=h) (k:=k) es with⟨h1,h2⟩|⟨a,h1,h2⟩
     .rw[h2] at he;simp only at he;split at he
      .exact⟨λ_=>hk _ _ rs U (z9 _) (λ_ _=>rfl) hs he,λe ij nb=>by rw[h1 e ij] at nb;cases nb⟩
      .exact(hG.fail he).elim
     .rw[h1] at he;simp only at he;have key:G a->∀ e∈es,seen.contains e.2.2=false->K (.tuple #[.bool true,e.1,e.2.1]) (U.upd i (.obj (.iter m since (seen++[e.2.2]) clock) true)):=λkT e ij nb =>
       hk _ (h.upd i (.iter m since (seen++[e.2.2]) clock)) rs _ (z9 _) (λ_ _=>rfl) (hs.upd hi rfl) (h2 kT e ij nb)
      split at he
      .obtain⟨g1,g2⟩:=hG.both _ _ he;exact⟨λ_=>hk _ _ rs U (z9 _) (λ_ _=>rfl) hs g1,key g2⟩
      .rename_i hn;exact⟨λhh=>absurd hh hn,key he⟩
    .exact(hG.fail he).elim
   .exact(hG.fail he).elim
  .exact(hG.fail he).elim
 .exact(hG.fail he).elim
theorem Ao (hm:P.follows .mixedOrders=true) (hT:TabOk P T) (cC:Sd P ev) (hG:Good R G) {ys:Ys}{o:VOp}{et:ET}{env:Env}(hE:FRel et env) {h:CH}{k:Value->CH->A}{rs:Mz}{U:Heap}{K:Value->Heap->Prop}
  (hY:YOk P ys rs h.n) (hs:CSim rs h U) (he:G (Z21 T ev R ys o et h k)) (hk:Z31 G rs h k K):vop (Q3 P) o env U K:=by
 have aj:=RC hE;have other:∀ o':VOp,G (Q67 R (Q00 o' (Bw et) h) k)->Zt (Q7 o' (Q5 env) U) λp=>K p.1 p.2:=by
  intro o' hg;rw[aj] at hg;unfold Q67 at hg;split at hg
  .rename_i p hp;obtain⟨h1,U',h2,h3⟩:=VW hs hp;rw[h2];exact hk _ _ rs U' h1 (λ_ _=>rfl) h3 hg
  .exact(hG.fail hg).elim
 cases o
 case callF f args =>
  simp only[Z21,aj] at he;exact LC hm hT cC hG hY hs he hk
 case callV f args =>
  simp only[Z21,aj] at he;simp only[vop];unfold Q9z at he;split at he
  .rename_i g first cap hg
   simp only[hg];exact LC hm hT cC hG hY hs he hk
  .rename_i i first cap hg
   simp only[hg];exact Iu cC hG hY hs he hk
  .exact(hG.fail he).elim
 case ext x =>
  cases x
  case nextMap x =>
   simp only[Z21,aj] at he;exact Q02 hG hs he hk
  case delete a b c=>exact other (.ext (.delete a b c)) he
  case mapEntry a z b c=>exact other (.ext (.mapEntry a z b c)) he
  case entryStore a b c=>exact other (.ext (.entryStore a b c)) he
  all_goals exact other _ he
 case move a=>exact other (.move a) he
 case makeFunc a b c=>exact other (.makeFunc a b c) he
 case bad=>exact other .bad he
 all_goals exact other _ he
theorem S9 (hm:P.follows .mixedOrders=true) (hT:TabOk P T) (cC:Sd P ev) (hG:Good R G) {ys:Ys}{k:ET->CH->A}{K:Env->Heap->Prop}:∀ (ops:List VOper) (et:ET) (env:Env) (h:CH) (rs:Mz) (U:Heap),
  YOk P ys rs h.n->CSim rs h U->FRel et env->G (Q5f T ev R ys ops et h k)->Q9a G rs h (List.length env) k K->SQ (Q3 P) ops env U K:=by
 intro ops;induction ops with
 |nil=>intro et env h rs U hY hs hE he hk;exact hk et h rs U env (z9 _) (λ_ _=>rfl) hs hE rfl he
 |cons o rest ih =>
  intro et env h rs U hY hs hE he hk
  have he:G (match Q4g et o.guard with
   |none=>R.fail
   |some true=>Z21 T ev R ys o.op et h λv h'=>Q5f T ev R ys rest (et.put o.dst v) h' k
   |some false=>Q5f T ev R ys rest (et.put o.dst undef) h k):=he
  rw[Q1m hE] at he;simp only[SQ];split at he
  .exact(hG.fail he).elim
  .rename_i hw;rw[hw];refine⟨λ_=>?_,λhh=>by cases hh⟩;refine Ao hm hT cC hG hE hY hs he ?_;intro v h' br U' hn hr bh hg;refine ih _ _ h' br U' (hY.mono hn hr) bh (hE.put _ _) hg ?_;intro fx h2 dU σ2 aT dM dE bJ fy hl cR;exact hk fx h2 dU σ2 aT (zO hn dM) (λi hi=>(dE i (by omega)).trans (hr i hi)) bJ fy (by rw[hl,JK]) cR
  .rename_i hw;rw[hw];refine⟨λhh=>(by cases hh),λ_=>?_⟩;refine ih _ _ h rs U hY hs (hE.put _ _) he ?_;intro fx h2 dU σ2 aT dM dE bJ fy hl cR;exact hk fx h2 dU σ2 aT dM dE bJ fy (by rw[hl,JK]) cR
def CSims (rs:Mz) (n:Nat):List CH->List Heap->Prop
 |[],[]=>True
 |h::hs,U::σs=>(CSim rs h U/\h.n<=n)/\CSims rs n hs σs
 |_,_=>False
theorem CSims.mono {rs br:Mz}{n n':Nat}(hn:n<=n') (hr:∀ i,i<n->br i=rs i):∀ {hs:List CH}{σs:List Heap},CSims rs n hs σs->CSims br n' hs σs
 |[],[],_=>trivial
 |h::hs,U::σs,⟨⟨h1,h2⟩,h3⟩=>⟨⟨h1.rs λi hi=>hr i (by omega),by omega⟩,CSims.mono hn hr h3⟩
 |[],_::_,h=>h.elim
 |_::_,[],h=>h.elim
theorem CSims.snoc {rs:Mz}{n:Nat}{h:CH}{U:Heap}(hs:CSim rs h U) (hn:h.n<=n):∀ {hl:List CH}{σl:List Heap},CSims rs n hl σl->CSims rs n (hl++[h]) (σl++[U])
 |[],[],_=>⟨⟨hs,hn⟩,trivial⟩
 |_::_,_::_,⟨h1,h2⟩=>⟨h1,CSims.snoc hs hn h2⟩
 |[],_::_,h=>h.elim
 |_::_,[],h=>h.elim
theorem Tt {rs:Mz}{h:CH}{U:Heap}(hs:CSim rs h U) {op:VOp}{ev:Operand->Value}{v:Value}(hr:Q16 op ev v h=true):Wy op ev v U:=by
 unfold Q16 at hr;split at hr
 .rename_i q hq;obtain⟨_,U',h2,_⟩:=VW hs hq;unfold Wy;rw[h2];exact Bi _ _ _ hr
 .cases hr
def Q7x:List (Nat×(CH->Bool))->List (Nat×(Heap->Prop))->Prop
 |[],[]=>True
 |c::l,d::m=>(c.1=d.1/\∀ rs h U,CSim rs h U->c.2 h=true->d.2 U)/\Q7x l m
 |_,_=>False
theorem Bu {rs:Mz}{h:CH}{U:Heap}(hs:CSim rs h U) {r:Nat}:∀ {l:List (Nat×(CH->Bool))}{m:List (Nat×(Heap->Prop))},Q7x l m->Q4l r h l=true->WQ r U m
 |[],[],_,_=>trivial
 |c::l,d::m,⟨⟨h1,h2⟩,h3⟩,he=>by
  simp only[Q4l,z0,zt,Bool.not_eq_true'] at he;refine⟨λhr=>h2 rs h U hs ?_,Bu hs h3 he.2⟩;rcases he.1 with h|h
  .rw[h1,Nat.ble_eq_true_of_le hr] at h;cases h
  .exact h
 |[],_::_,h,_=>h.elim
 |_::_,[],h,_=>h.elim
theorem CSims.mem {rs:Mz}{n:Nat}:∀ {hl:List CH}{σl:List Heap},CSims rs n hl σl->∀ (f:CH->Bool) (Q:Heap->Prop),(∀ rs h U,CSim rs h U->f h=true->Q U)->∀ j,(hl.drop j).all f=true->∀ Z∈σl.drop j,Q Z
 |[],[],_,_,_,_,_,_,Z,hτ=>by simp at hτ
 |h::hl,U::σl,⟨h1,h2⟩,f,Q,hQ,0,ha,Z,hτ=>by
  simp only[xy,zW,z0,zH] at ha hτ;rcases hτ with rfl|hτ
  .exact hQ rs h Z h1.1 ha.1
  .exact CSims.mem h2 f Q hQ 0 (by simpa using ha.2) Z (by simpa using hτ)
 |h::hl,U::σl,⟨h1,h2⟩,f,Q,hQ,j+1,ha,Z,hτ=>CSims.mem h2 f Q hQ j (by simpa using ha) Z (by simpa using hτ)
 |[],_::_,h,_,_,_,_,_,_,_=>h.elim
 |_::_,[],h,_,_,_,_,_,_,_=>h.elim
theorem CSims.length {rs:Mz}{n:Nat}:∀ {hl:List CH}{σl:List Heap},CSims rs n hl σl->hl.length=σl.length
 |[],[],_=>rfl
 |_::_,_::_,⟨_,h⟩=>by simp[CSims.length h]
 |[],_::_,h=>h.elim
 |_::_,[],h=>h.elim
theorem TA (hm:P.follows .mixedOrders=true) (hT:TabOk P T) (cC:Sd P ev) (hG:Good R G) {ys:Ys}{k:ET->CH->A}{K:Env->Heap->Prop}:∀ (ops:List DOper) (et:ET) (env:Env) (hl:List CH) (h:CH) (pe:List (Nat×(CH->Bool))) (rs:Mz) (σl:List Heap) (U:Heap) (pv:List (Nat×(Heap->Prop))),
  YOk P ys rs h.n->CSim rs h U->FRel et env->CSims rs h.n hl σl->Q7x pe pv->G (Bd T ev R ys ops et hl h pe k)->Q9a G rs h (List.length env) k K->J_ (Q3 P) ops env σl U pv K:=by
 intro ops;induction ops with
 |nil=>intro et env hl h pe rs σl U pv hY hs hE kU hp he hk;exact hk et h rs U env (z9 _) (λ_ _=>rfl) hs hE rfl he
 |cons o rest ih =>
  intro et env hl h pe rs σl U pv hY hs hE kU d_ he hk;have aj:=RC hE;simp only[Bd,Q1m hE,aj] at he;simp only[J_];have hlen:=kU.length;split at he
  .exact(hG.fail he).elim
  .rename_i hw;rw[hw];refine⟨λ_=>?_,λhh=>by cases hh⟩;split at he
   .rename_i aB;rw[z7 aB];split at he
    .rename_i p hp;split at he
     .rename_i kV;obtain⟨jm,nc⟩:=kV;simp only[CH.newOk,z0,zg] at jm;obtain⟨n1,n2,n3⟩:=jm;have n1:h.n<=p.2.n:=zx n1;have n2:p.2.n<=1000000000:=zx n2;have kW:CSim rs p.2 (p.2.toHeap rs):=PJ (by omega);refine .inl ⟨p.1,p.2.toHeap rs,?_,?_,?_⟩
      .refine Ao hm hT cC (Z24 p) hE hY hs hp ?_;intro v h' br U' hn hr bh hg;have hg:(v,h')=p:=osj hg;subst hg;refine⟨rfl,?_⟩;have:CSim rs h' U':=by
        refine⟨bh.n,bh.sm,λi=>?_⟩;rw[bh.get];cases iQ:h'.get i with
        |none=>rfl
        |some b =>
         rcases zm i h.n with hi|hi
         .rw[hr i hi]
         .have aR:=bh.lt iQ;have:=n3 i (List.mem_range'_1.2 ⟨hi,by simp at n1 |-;omega⟩);simp only[iQ] at this;cases b<;>first|rfl|cases this
       exact this.eq
      .rw[<-hlen];exact Bu kW d_ nc
      .refine ih _ _ _ p.2 pe rs _ _ pv (hY.mono n1 (λ_ _=>rfl)) kW (hE.put _ _) ((kU.mono n1 (λ_ _=>rfl)).snoc kW (z9 _)) d_ he ?_;intro fx h2 dU σ2 aT dM dE bJ fy b_ cR;exact hk fx h2 dU σ2 aT (zO n1 dM) (λi hi=>dE i (by omega)) bJ fy (by rw[b_,JK]) cR
     .exact(hG.fail he).elim
    .exact(hG.fail he).elim
   .rename_i aB;rw[z6 aB];have done:∀ (u:Value) (oQ:List (Nat×(CH->Bool))) (oR:List (Nat×(Heap->Prop))),Q7x oQ oR->G (Bd T ev R ys rest (et.put o.dst u) hl h oQ k)->J_ (Q3 P) rest (Ww env o.dst u) σl U oR K:=by
     intro u oQ oR bz hg;refine ih _ _ hl h oQ rs σl U oR hY hs (hE.put _ _) kU bz hg ?_;intro fx h2 dU σ2 aT dM dE bJ fy b_ cR;exact hk fx h2 dU σ2 aT dM dE bJ fy (by rw[b_,JK]) cR
    split at he
    .rename_i bG;rw[z7 bG];split at he
     .rename_i p hp;split at he
      .rename_i hall;obtain⟨_,U',h2,_⟩:=VW hs hp;rw[h2];refine⟨kU.mem _ _ (λrs h U hc hf=>Tt hc hf) _ hall,?_⟩;refine done _ _ _ ?_ he;rw[<-hlen];split
       .exact⟨⟨rfl,λrs h U hc hf=>Tt hc hf⟩,d_⟩
       .exact d_
      .exact(hG.fail he).elim
     .exact(hG.fail he).elim
    .rename_i bG;rw[z6 bG];split at he
     .rename_i p hp;obtain⟨_,U',h2,_⟩:=VW hs hp;rw[h2];exact done _ _ _ d_ he
     .exact(hG.fail he).elim
  .rename_i hw;rw[hw];refine⟨λhh=>(by cases hh),λ_=>?_⟩;split at he
   .rename_i aB;rw[z7 aB];split at he
    .rename_i nc;refine⟨by rw[<-hlen];exact Bu hs d_ nc,?_⟩;refine ih _ _ _ h pe rs _ U pv hY hs (hE.put _ _) (kU.snoc hs (z9 _)) d_ he ?_;intro fx h2 dU σ2 aT dM dE bJ fy b_ cR;exact hk fx h2 dU σ2 aT dM dE bJ fy (by rw[b_,JK]) cR
    .exact(hG.fail he).elim
   .rename_i aB;rw[z6 aB];refine ih _ _ _ h pe rs _ U pv hY hs (hE.put _ _) kU d_ he ?_;intro fx h2 dU σ2 aT dM dE bJ fy b_ cR;exact hk fx h2 dU σ2 aT dM dE bJ fy (by rw[b_,JK]) cR
theorem ET.q2d {e:ET}{env:Env}(h:FRel e env):e.list=env:=by
 apply zT;intro i;unfold ET.list;rw[xu];rcases zm i e.m with hi|hi
 .rw[List.getElem?_range hi];have:=h.get i;rw[h.m] at hi;rw[zd,z8 hi] at this;rw[z8 hi,wm,<-this];rfl
 .rw[zE (by simpa using hi),zE (by rw[<-h.m];exact hi)];rfl
theorem Fq {ρ:Plc}{n:Nat}{vs:Array Value}{cs:List Value}(h:VRel ρ n (.tuple vs) (.tuple cs.toArray)):LRel ρ n vs.toList cs:=by
 obtain⟨ds,he,hl⟩:=h.q1k;have:cs.toArray=ds:=by injection he
 subst this;simpa using hl
theorem FK (hm:P.follows .mixedOrders=true) (hT:TabOk P T) (cC:Sd P ev) {ys:Ys}{x:Value×CH}{vs:Array Value}(jJ:x.1=.tuple vs) {K:Env->Heap->Prop}{et:ET}{env:Env}{h:CH}{rs:Mz}{U:Heap}(hY:YOk P ys rs h.n) (hs:CSim rs h U) (hE:FRel et env)
  (hk:K vs.toList (x.2.toHeap rs)):∀ (alts:List (List DOper)),Q2p x (Q1b T ev ys et h alts)->∀ ops∈alts,J_ (Q3 P) ops env [U] U [] λbn σ1=>∃ aT σ2,DropE U bn σ1 aT σ2/\K aT σ2:=by
 have one:∀ a:List DOper,Q2p x (Z15 T ev ys et h a)->J_ (Q3 P) a env [U] U [] λbn σ1=>∃ aT σ2,DropE U bn σ1 aT σ2/\K aT σ2:=by intro a ha;refine TA hm hT cC (EO x) a et env [h] h [] rs [U] U [] hY hs hE ⟨⟨hs,z9 _⟩,trivial⟩ trivial ha ?_;intro dq h' br U' ah hn hr bh bS hl hg;obtain⟨y,hy,h1,h2,h3⟩:=hg;unfold Z65 at hy;have hd:=Tx hs bh hr hy h1 h2 h3;rw[ET.q2d bS,jJ] at hd;refine⟨vs.toList,x.2.toHeap rs,?_,hk⟩;intro ρ0 w0 ρ w cs fI pN hH hL;obtain⟨ρ',d1,d2,d3⟩:=hd ρ0 w0 ρ w (.tuple cs.toArray) fI pN hH (VRel.q0j hL);exact⟨ρ',Fq d1,d2,d3⟩
 intro alts;induction alts with
 |nil=>rintro⟨y,hy,_⟩;cases hy
 |cons a l ih =>
  intro he ops ho;cases l with
  |nil =>obtain rfl:=zS.1 ho;exact one _ he
  |cons b r =>
   obtain⟨g1,g2⟩:=(EO x).both _ _ he;rcases zH.1 ho with rfl|ho
   .exact one _ g1
   .exact ih g2 ops ho
theorem Ol (hm:P.follows .mixedOrders=true) (hT:TabOk P T) (cC:Sd P ev) (hG:Good R G) {ys:Ys}{k:ET->CH->A}{K:Env->Heap->Prop}:∀ (aU:List DSeg) (et:ET) (env:Env) (h:CH) (rs:Mz) (U:Heap),
  YOk P ys rs h.n->CSim rs h U->FRel et env->G (Sw T ev R ys aU et h k)->Q9a G rs h (List.length env) k K->Dd (Q3 P) aU env U K:=by
 intro aU;induction aU with
 |nil=>intro et env h rs U hY hs hE he hk;exact hk et h rs U env (z9 _) (λ_ _=>rfl) hs hE rfl he
 |cons x rest ih =>
  intro et env h rs U hY hs hE he hk;have next:Q9a G rs h (List.length env) (λet h=>Sw T ev R ys rest et h k) (λenv U=>Dd (Q3 P) rest env U K):=by intro jP h1 fj σ1 bn e_ ff cJ ft dL gO;refine ih jP bn h1 fj σ1 (hY.mono e_ ff) cJ ft gO ?_;intro fx h2 dU σ2 aT dM dE bJ fy b_ cR;exact hk fx h2 dU σ2 aT (zO e_ dM) (λi hi=>(dE i (by omega)).trans (ff i hi)) bJ fy (b_.trans dL) cR
  cases x with
  |one o=>exact S9 hm hT cC hG [o] et env h rs U hY hs hE he next
  |alts l =>
   have many:G (match Q1b T ev ys et h l with
     |some x=>(match x.1 with
      |.tuple vs=>if x.2.room=true/\Nat.ble h.n x.2.n=true/\vs.toList.length=et.m then Sw T ev R ys rest (ET.of vs.toList 0) x.2 k else R.fail
      |_=>R.fail)
     |none=>R.fail)->Dd (Q3 P) (.alts l::rest) env U K:=by
    intro he;split at he
    .rename_i x hx;split at he
     .rename_i vs jJ;split at he
      .rename_i hc;obtain⟨c1,c2,c3⟩:=hc;have aM:x.2.n<=1000000000:=zx c1;have uo:FRel (ET.of vs.toList 0) vs.toList:=by
        have:=ET.q1o (args:=vs.toList) (nt:=0) (by show vs.toList.length+(0-vs.toList.length)<=_;have:=hE.sm;omega);simpa using this
       exact FK hm hT cC jJ hY hs hE (next _ x.2 rs _ _ (zx c2) (λ_ _=>rfl) (PJ (by omega)) uo (by rw[c3,hE.m]) he) l ⟨x,hx,rfl,rfl,λ_=>rfl⟩
      .exact(hG.fail he).elim
     .exact(hG.fail he).elim
    .exact(hG.fail he).elim
   match l,he with
   |[],he=>exact many he
   |[a],he =>intro ops ho;obtain rfl:=zS.1 ho;refine TA hm hT cC hG ops et env [h] h [] rs [U] U [] hY hs hE ⟨⟨hs,z9 _⟩,trivial⟩ trivial he ?_;intro dq h' br U' ah hn hr bh bS hl hg;exact⟨ah,U',.refl _ _ _,next dq h' br U' ah hn hr bh bS hl hg⟩
   |a::b::r,he=>exact many he
def O0 (P:Program) (T:Tab) (ev:Z2w) (c:VCode):Prop:=∀ {A:Type}(R:AnsOps A) (G:A->Prop),Good R G->∀ (ys:Ys) (ro:Option Nat) (et:ET) (env:Env) (h:CH) (k:Exit->ET->CH->A) (rs:Mz) (U:Heap) (Q:Exit->Env->Heap->Prop),
 YOk P ys rs h.n->CSim rs h U->FRel et env->G (Io T ev R ys c ro et h k)->Q8x G rs h (List.length env) k Q->vwp (Q3 P) c ro Q env U
theorem IB (hm:P.follows .mixedOrders=true) (hT:TabOk P T) (cC:Sd P ev) (hG:Good R G) {ys:Ys}{g:Operand}{ps:List Nat}{a b:VCode}{ro:Option Nat}{et:ET}{env:Env}{h:CH}{k:Exit->ET->CH->A}{rs:Mz}{U:Heap}{Q:Exit->Env->Heap->Prop}
  (hY:YOk P ys rs h.n) (hs:CSim rs h U) (hE:FRel et env) (he:G (Q5n T ev R ys (Bw et g) ps a b ro et h k)) (hk:Q8x G rs h (List.length env) k Q):vwp (Q3 P) (.rangeF g ps a b) ro Q env U:=by
 rw[RC hE] at he;unfold Q5n at he;simp only[vwp,O9];split at he
 .rename_i f first cap hg
  simp only[hg];split at he
  .rename_i vc rl nt hf;have hF:=hT.code f vc rl nt hf;split at he
   .rename_i kV;obtain⟨aR,aM⟩:=kV;have mH:(Q3 P).it f=some λi Y args U K=>UQ P i Y->VCallsTo P f args U K:=by
     simp only[Q3];rw[z7 hF.enterable]
    rw[mH];refine⟨?_,λr uq=>?_⟩
    .cases ro with
     |none=>trivial
     |some i =>
      simp only[Q9p] at aR;split at aR
      .rename_i st pend iQ;exact⟨_,_,_,_,hs.lp iQ⟩
      .cases aR
    .let fj:Mz:=λi=>if i=h.n then (env,r) else rs i
     have eO:∀ i,i<h.n->fj i=rs i:=λi hi=>by simp only[fj];rw[z6 (by omega)]
     have cJ:CSim fj (h.push (.lp .ready none)) (U.push (.obj (.lp env r .ready none) true)) :=
      (hs.rs eO).push aM (by simp[EB.to,fj])
     have ur:YOk P ((h.n,⟨ps,a,b,et⟩)::ys) fj (h.push (.lp .ready none)).n:=by
      intro i c hc;simp only[Ys.find] at hc;split at hc
      .rename_i eJ;have eJ:=zK eJ;subst eJ;obtain rfl:=osj hc;refine⟨Nat.lt_succ_self _,by simp only[fj,zq];exact hE,?_⟩;rw[hs.n] at *
       simpa [fj,hs.n] using uq
      .obtain⟨h1,h2,h3⟩:=hY i c hc;rw[eO i h1];exact⟨Nat.lt_succ_of_lt h1,h2,h3⟩
     rw[<-hs.n];refine Fy hm cC hG hf hF ur cJ he ?_;intro v h' br U' hn hr bh cW;have oN:h.n+1<=h'.n:=hn;unfold Z6g at cW;unfold Q93;split at cW
     .rename_i st pend iQ;have hi:=bh.lt iQ;simp only[bh.lp iQ];split at cW
      .rename_i cK;refine⟨(by rintro rfl;cases cK),?_⟩;have dH:∀ j,j<h.n->br j=rs j:=λj hj=>(hr j (Nat.lt_succ_of_lt hj)).trans (eO j hj);have cr:=bh.kill hi;split at cW
       .exact hk _ _ _ br _ _ (by show h.n<=h'.n;omega) dH cr hE rfl cW
       .exact hk _ _ _ br _ _ (by show h.n<=h'.n;omega) dH cr hE rfl cW
       .exact hk _ _ _ br _ _ (by show h.n<=h'.n;omega) dH cr hE rfl cW
       .exact(hG.fail cW).elim
      .exact(hG.fail cW).elim
     .exact(hG.fail cW).elim
   .exact(hG.fail he).elim
  .exact(hG.fail he).elim
 .exact(hG.fail he).elim
theorem Oe (hm:P.follows .mixedOrders=true) (hT:TabOk P T) (cC:Sd P ev)
  (ng:∀ b,O0 P T ev b->O0 P T ev (.loop b)):∀ (c:VCode),O0 P T ev c:=by
 intro c;induction c with
 |skip=>intro A R G hG ys ro et env h k rs U Q hY hs hE he hk;exact hk _ _ _ rs U _ (z9 _) (λ_ _=>rfl) hs hE rfl he
 |region ops =>intro A R G hG ys ro et env h k rs U Q hY hs hE he hk;exact S9 hm hT cC hG ops et env h rs U hY hs hE he λdq h' br U' ah h1 h2 h3 h4 h5 h6=>hk _ _ _ _ _ _ h1 h2 h3 h4 h5 h6
 |regionD aU =>intro A R G hG ys ro et env h k rs U Q hY hs hE he hk;exact Ol hm hT cC hG aU et env h rs U hY hs hE he λdq h' br U' ah h1 h2 h3 h4 h5 h6=>hk _ _ _ _ _ _ h1 h2 h3 h4 h5 h6
 |rangeF g ps a b fw eW =>intro A R G hG ys ro et env h k rs U Q hY hs hE he hk;exact IB hm hT cC hG hY hs hE he hk
 |seq a b fw eW =>
  intro A R G hG ys ro et env h k rs U Q hY hs hE he hk;simp only[vwp];refine fw R G hG ys ro et env h _ rs U _ hY hs hE he ?_;intro e dq h' br U' ah hn hr bh bS hl hg;cases e with
  |normal =>refine eW R G hG ys ro dq ah h' k br U' Q (hY.mono hn hr) bh bS hg ?_;intro e2 fx h2 dU σ2 aT dM dE bJ fy b_ cR;exact hk e2 fx h2 dU σ2 aT (zO hn dM) (λi hi=>(dE i (by omega)).trans (hr i hi)) bJ fy (b_.trans hl) cR
  |_=>exact hk _ dq h' br U' ah hn hr bh bS hl hg
 |cond c a b fw eW =>
  intro A R G hG ys ro et env h k rs U Q hY hs hE he hk;have he:G (Z2a R (Bw et c) (Io T ev R ys a ro et h k) (Io T ev R ys b ro et h k)):=he;rw[RC hE] at he;unfold Z2a at he;simp only[vwp];split at he
  .rename_i hc;rw[hc];exact⟨λ_=>fw R G hG ys ro et env h k rs U Q hY hs hE he hk,λhh=>by cases hh⟩
  .rename_i hc;rw[hc];exact⟨λhh=>(by cases hh),λ_=>eW R G hG ys ro et env h k rs U Q hY hs hE he hk⟩
  .exact(hG.fail he).elim
 |block id b ih =>
  intro A R G hG ys ro et env h k rs U Q hY hs hE he hk;simp only[vwp];refine ih R G hG ys ro et env h _ rs U _ hY hs hE he ?_;intro e dq h' br U' ah hn hr bh bS hl hg;cases e with
  |exit gV =>
   simp only[Q4i] at hg;simp only[Q1z];split at hg
   .rename_i bt;rw[z7 bt];exact hk _ dq h' br U' ah hn hr bh bS hl hg
   .rename_i bt;rw[z6 bt];exact hk _ dq h' br U' ah hn hr bh bS hl hg
  |_=>exact hk _ dq h' br U' ah hn hr bh bS hl hg
 |loop b ih =>intro A R G hG ys ro et env h k rs U Q hY hs hE he hk;exact ng b ih R G hG ys ro et env h k rs U Q hY hs hE he hk
 |exit id=>intro A R G hG ys ro et env h k rs U Q hY hs hE he hk;exact hk _ _ _ rs U _ (z9 _) (λ_ _=>rfl) hs hE rfl he
 |ret=>intro A R G hG ys ro et env h k rs U Q hY hs hE he hk;exact hk _ _ _ rs U _ (z9 _) (λ_ _=>rfl) hs hE rfl he
 |bad=>intro A R G hG ys ro et env h k rs U Q hY hs hE he hk;exact(hG.fail he).elim
theorem As {v:Value}(h:Q47 v=true):Zy v=true\/∃ vs,v=.tuple vs/\vs.toList.all Zy=true:=by unfold Q47 at h;split at h<;>first|exact .inl rfl|exact .inr ⟨_,rfl,h⟩|cases h
theorem Q90 {ρ:Plc}{n:Nat}{v c:Value}(h:Q47 v=true) (hv:VRel ρ n v c):c=v:=by
 rcases As h with hp|⟨vs,rfl,hall⟩
 .exact Ve hp hv
 .obtain⟨ds,rfl,hl⟩:=hv.q1k;have hall:∀ x∈vs.toList,Zy x=true:=zg.1 hall;have:ds.toList=vs.toList:=by
   apply zT;intro i;rcases zm i vs.toList.length with hi|hi
   .have cS:i<ds.toList.length:=by rw[<-hl.1];exact hi
    rw[z8 hi,z8 cS];rw[Ve (hall _ (zl hi)) (hl.2 i _ _ (z8 hi) (z8 cS))]
   .rw[zE hi,zE (by rw[<-hl.1];exact hi)]
  rw[S3 this]
theorem Q77 {ρ:Plc}{n:Nat}{v:Value}(h:Q47 v=true):VRel ρ n v v:=by
 rcases As h with hp|⟨vs,rfl,hall⟩
 .exact YP hp
 .exact .tuple _ _ rfl λi h1 _=>YP (zg.1 hall _ (by simp))
theorem Pb (m:Nat) (env:Env) (h:List.length env=m):TN (List.range m) env=env:=by
 apply zT;intro i;simp only[TN,xu];rcases zm i m with hi|hi
 .rw[List.getElem?_range hi];simp[zd,h,hi]
 .rw[zE (by simpa using hi),zE (by omega)];rfl
theorem Af:∀ (l:List Nat) (vs base:List Value) (i:Nat),l.Nodup->vs.length=l.length->(∀ x∈l,x<base.length)->(Yt l vs base)[i]?=if i∈l then vs[l.idxOf i]? else base[i]?
 |[],[],base,i,_,_,_=>by simp[Yt]
 |[],_::_,_,_,_,h,_=>by simp at h
 |_::_,[],_,_,_,h,_=>by simp at h
 |x::l,v::vs,base,i,hn,h,hb=>by
  obtain⟨h1,h2⟩:=xA.1 hn;simp only[Yt];rw[Af l vs _ i h2 (by simpa using h) (λy hy=>by rw[xU];exact hb y (by simp[hy]))];by_cases lY:i=x
  .subst lY;rw[z6 h1,z7 (by simp),List.getElem?_set_self (hb i (by simp))];simp
  .by_cases hZ:i∈l
   .have e:(x::l).idxOf i=l.idxOf i+1:=by rw[List.idxOf_cons,show (x==i)=false from by simpa using Ne.symm lY];rfl
    rw[z7 hZ,z7 (by simp[hZ]),e];rfl
   .rw[z6 hZ,z6 (by simp[lY,hZ]),List.getElem?_set_ne (Ne.symm lY)]
theorem Ix (m:Nat) (vs:List Value) (h:vs.length=m):Yt (List.range m) vs (List.replicate m poison)=vs:=by
 apply zT;intro i;rw[Af _ _ _ _ List.nodup_range (by simpa using h) (λx hx=>by simpa using hx)];split
 .rename_i hi;have hi:=zG.1 hi;have:(List.range m).idxOf i=i:=by
   have h1:(List.range m).idxOf i<(List.range m).length:=List.idxOf_lt_length_of_mem (zG.2 hi);have h2:=List.getElem_idxOf h1;rw[List.getElem_range] at h2;exact h2
  rw[this]
 .rename_i hi;have hi:m<=i:=by simpa using hi
  rw[zE (by simpa using hi),zE (by omega)]
theorem Q3z (hm:P.follows .mixedOrders=true) (hT:TabOk P T):∀ (n:Nat) (c:VCode),O0 P T (C4 T n) c:=by
 intro n;induction n using Nat.strongRecOn with
 |ind n oL =>
  have cC:Sd P (C4 T n):=by
   cases n with
   |zero=>intro A R G hG ys c ro et env h k rs U Q hY hs hE he hk;exact(hG.fail he).elim
   |succ n=>intro A R G hG ys c ro et env h k rs U Q hY hs hE he hk;exact oL n (Nat.lt_succ_self _) c R G hG ys ro et env h k rs U Q hY hs hE he hk
  refine Oe hm hT cC λb eW=>?_;intro A R G hG ys ro et env h k rs U Q hY hs hE he hk;have nh:∀ j,j<=n->O0 P T (C4 T j) b:=λj hj=>by
   rcases zm j n with h'|h'
   .exact oL j h' b
   .obtain rfl:j=n:=by omega
    exact eW
  simp only[vwp];refine⟨List.range (List.length env),λj vs σ1=>j<=n/\∃ jP h1 fj,h.n<=h1.n/\(∀ i,i<h.n->fj i=rs i)/\CSim fj h1 σ1/\FRel jP vs/\List.length vs=List.length env/\G (Io T (C4 T j) R ys (.loop b) ro jP h1 k),n,?_,?_⟩
  .rw[Pb _ _ rfl];exact⟨z9 _,et,h,rs,z9 _,λ_ _=>rfl,hs,hE,rfl,he⟩
  .rintro j vs σ1 ⟨hj,jP,h1,fj,g1,g2,g3,gE,g4,g5⟩;rw[Ix _ _ g4];refine nh j hj R G hG ys ro jP vs h1 _ fj σ1 _ (hY.mono g1 g2) g3 gE g5 ?_;intro e dq h' br U' ah hn hr bh bS hl hg;cases e with
   |normal =>
    cases j with
    |zero=>exact(hG.fail hg).elim
    |succ j =>
     refine⟨j,Nat.lt_succ_self _,by omega,dq,h',br,zO g1 hn,λi hi=>(hr i (by omega)).trans (g2 i hi),bh,?_,?_,?_⟩
     .rw[Pb _ _ (hl.trans g4)];exact bS
     .rw[Pb _ _ (hl.trans g4)];exact hl.trans g4
     .exact hg
   |_=>exact hk _ dq h' br U' ah (zO g1 hn) (λi hi=>(hr i (by omega)).trans (g2 i hi)) bh bS (hl.trans g4) hg
theorem OJ (hm:P.follows .mixedOrders=true) (hT:TabOk P T) (n:Nat):Sd P (C4 T n):=by
 cases n with
 |zero=>intro A R G hG ys c ro et env h k rs U Q hY hs hE he hk;exact(hG.fail he).elim
 |succ n=>intro A R G hG ys c ro et env h k rs U Q hY hs hE he hk;exact Q3z hm hT n c R G hG ys ro et env h k rs U Q hY hs hE he hk
theorem HRel.forget {ρ:Plc}{U:Heap}{w:World}(hH:HRel ρ U w):HRel (λ_=>none) Heap.empty w :=
 ⟨⟨λi b h=>(by cases h),λ_ _=>rfl,λi p h=>(by cases h),λi j p q b _ h=>(by cases h)⟩,λg cs hg=>⟨(hH.tab g cs hg).1,λ⟨_,_,_,h,_⟩=>by cases h⟩⟩
theorem Ie {f:FuncId}{args:List Value}(ha:args.all Zy=true) {v:Value}(hv:Q47 v=true) (he:Y9 P f) (h0:VCallsTo P f args Heap.empty (λu _=>u=v)) {U:Heap}{K:Value->Heap->Prop}(hK:K v U):VCalled P f args U K:=by
 refine VCallsTo.called he ?_;intro ρ w ax hH hL;refine (h0 (λ_=>none) w ax hH.forget ?_).mono ?_
 .refine⟨hL.1,λi a c jx hc=>?_⟩;have hp:=zg.1 ha a (xh jx);have:=Ve hp (hL.2 i a c jx hc);subst this;exact YP hp
 .rintro e w' ⟨c,rfl,u,ρ',U',rfl,dZ,gg,hE⟩;refine⟨c,rfl,u,ρ,U,hK,?_,?_,?_⟩
  .have:c=u:=Q90 hv dZ;subst this;exact Q77 hv
  .exact hH.world hE.size (λi p hp=>hE.keep _ (hH.lt i p hp) (λ⟨_,_,_,h,_⟩=>by cases h)) λg cs hg=>hE.keep _ (hH.tab.lt hg) (λ⟨_,_,_,h,_⟩=>by cases h)
  .exact⟨hE.os,hE.tape,hE.output,hE.size,λB hB _=>hE.keep B hB (λ⟨_,_,_,h,_⟩=>by cases h),λ_ _ h=>h,z9 _,λ_ _ _ h=>h⟩
theorem Q86 (hm:P.follows .mixedOrders=true) (hT:TabOk P T) (n:Nat) {f:FuncId}{vc:VCode}{rl:List VResult}{nt:Nat}(hF:Fun P f vc rl nt) (args:List Value) (ha:args.all Zy=true) (v:Value) (hv:Q47 v=true) (p:Value->Bool) (hp:∀ u,p u=true->u=v)
  (eA:Nat.ble (ET.of args nt).m 1000000=true) (he:C4 T n US [] vc none (ET.of args nt) CH.empty (Q82 false rl λv _=>p v)=true) {U:Heap}{K:Value->Heap->Prop}(hK:K v U):VCalled P f args U K:=by
 refine Ie ha hv hF.enterable ?_ hK;refine hF.callsTo hm LU ?_
 exact OJ hm hT n US (·=true) Q1d [] vc none _ _ CH.empty _ (λ_=>([],default)) Heap.empty _ (λi c h=>by cases h) ⟨rfl,by decide,λi=>rfl⟩ (ET.q1o (zx eA)) he
  (Da (R:=US) Q1d λv' h' br U' _ _ _ hg=>hp v' hg)
end
end Go.V
namespace Go.V
open Go
def Q83 (P:Program) (f:FuncId):Option FEnt->Prop
 |none=>True
 |some (.code vc rs nt)=>Fun P f vc rs nt
 |some (.codeJ vc rs nt)=>Fun P f vc rs nt
 |some (.codeM vc rs nt ms)=>Fun P f vc rs nt/\∀ m∈ms,Q5m P f m
 |some .same=>∀ (v:Value) (U:Heap) (K:Value->Heap->Prop),K v U->VCalled P f [v] U K
def EntsOk (P:Program):Nat->List (Option FEnt)->Prop
 |_,[]=>True
 |i,e::l=>Q83 P i e/\EntsOk P (i+1) l
theorem EntsOk.get {P:Program}:∀ {l:List (Option FEnt)}{i j:Nat}{e:FEnt},EntsOk P i l->l[j]?=some (some e)->Q83 P (i+j) (some e)
 |[],_,_,_,_,h=>by simp at h
 |x::l,i,0,e,h,hj=>by simp at hj;subst hj;exact h.1
 |x::l,i,j+1,e,h,hj=>by have:=EntsOk.get (l:=l) (i:=i+1) (j:=j) h.2 (by simpa using hj);rw[zu,xY 1 j] at this;exact this
theorem Q9e {P:Program}{l:List (Option FEnt)}(h:EntsOk P 0 l):TabOk P (λf=>(l[f]?).join):=by
 have key:∀ f e,(l[f]?).join=some e->Q83 P f (some e):=λf e he=>by
  have:=EntsOk.get (j:=f) (e:=e) h (by
   cases hl:l[f]? with
   |none=>rw[hl] at he;cases he
   |some x=>rw[hl] at he;simp at he;rw[he])
  simpa using this
 exact⟨λf vc rs nt he=>key f _ he,λf vc rs nt he=>key f _ he,λf vc rs nt ms he=>key f _ he,λf he=>key f _ he⟩
theorem Q8v {P:Program}{f:FuncId}{fn:Func}{e:Array Value->Sem Value}(hf:P.funcs[f]?=some fn) (h1:(fn.name=="runtime.NumGoroutine")=false) (h2:fn.body.isNone=true) (h3:Extern.findNext fn=none) (h4:Extern.find fn=some e) (h5:∀ (c:Value) w,(e #[c]).run P w=.ok c w)
  (v:Value) (U:Heap) (K:Value->Heap->Prop) (hK:K v U):VCalled P f [v] U K:=by
 intro ρ w ax hH hL;obtain⟨c,hc⟩:∃ c,ax=#[c]:=by
  have hl:=hL.1
  match ax,hl with
  |⟨[c]⟩,_=>exact⟨c,rfl⟩
 subst hc;refine .inr ⟨c,⟨v,ρ,U,hK,hL.2 0 v c rfl rfl,hH,Ext.refl _ _ _⟩,λw' _=>?_⟩;have gK:fn.body=none:=by simpa using h2
 have jl:¬ fn.name="runtime.NumGoroutine":=by simpa using h1
 simp[callFunc,hf,jl,gK,h3,h4,h5]
def isTrue:Value->Bool
 |.bool true=>true
 |_=>false
theorem Q7c {v:Value}(h:isTrue v=true):v=.bool true:=by
 unfold isTrue at h;split at h
 .rfl
 .cases h
theorem EM {P:Program}(hm:P.follows .mixedOrders=true) {T:Tab}(hT:TabOk P T) (n:Nat) {f:FuncId}{vc:VCode}{rl:List VResult}{nt:Nat}(hF:Fun P f vc rl nt) (eA:Nat.ble (ET.of [] nt).m 1000000=true)
  (he:C4 T n US [] vc none (ET.of [] nt) CH.empty (Q82 false rl λv _=>isTrue v)=true) {U:Heap}{K:Value->Heap->Prop}(hK:K (.bool true) U):VCalled P f [] U K :=
 Q86 hm hT n hF [] rfl (.bool true) rfl isTrue (λ_ h=>Q7c h) eA he hK
end Go.V