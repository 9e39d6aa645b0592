/- A framework for walks, contracts of functions, and their proofs: part 2. -/
import Derived.RangeFuncLeaves
import Derived.RangeFuncCalls
import Derived.OrdersIn
import Derived.TacticsIn
import Derived.Sort.LoopGhostIn
import Derived.Deep.LoopGhost
import Derived.Test.YtfblnfcecfjbpaaGreatS1
noncomputable section
namespace Go.V
open Go
section
variable {P:Program}{S:VSpecs}{B:Nat}
def FF:Option Nat->Fence
 |none=>Fence.wide
 |some l=>Fence.wide.inRound l
theorem Fk (ro:Option Nat) (f:FuncId):(FF ro).fn f:=by cases ro<;>trivial
theorem Sl (ro:Option Nat):(FF ro).depth=none:=by cases ro<;>rfl
theorem Q1h (ro:Option Nat):(FF ro).round=ro:=by cases ro<;>rfl
theorem Af {ro:Option Nat}{n:Nat}{f:FuncId}{args:Array Value}{w:World}{R:Ending->World->Prop}(h:Calls P f args w R):CallsIn (FF ro) n P f args w R:=by
 cases ro with
 |none=>exact callsIn_wide.2 h
 |some l=>exact CallsIn.inRound l (callsIn_wide.2 h)
theorem Ch {ro:Option Nat}{n m:Nat}{l:Nat}{f:FuncId}{tmps:Array Value}{ft body:Code}{w:World}{R:Ending->World->Prop}(h:RoundIn Fence.wide m P l f tmps ft body w R):RoundIn (FF ro) n P l f tmps ft body w R:=by refine⟨Fk _ _,λc cs _=>?_⟩;obtain⟨e,w',r,s⟩:=h.2 c cs (room_wide _);refine⟨e,w',r,?_⟩;cases ro<;>exact s
def Got (ρ:Plc) (U:Heap) (w:World) (R:Value->Heap->Prop) (c:Value) (w':World):Prop :=
 ∃ v ρ' U',R v U'/\VRel ρ' U'.n v c/\HRel ρ' U' w'/\Ext ρ U w ρ' U' w'
def VCallsTo (P:Program) (f:FuncId) (args:List Value) (U:Heap) (R:Value->Heap->Prop):Prop :=
 ∀ ρ w (ax:Array Value),HRel ρ U w->LRel ρ U.n args ax.toList->Calls P f ax w λe w'=>∃ c,e=.returned c/\Got ρ U w R c w'
def VCalled (P:Program) (f:FuncId) (args:List Value) (U:Heap) (R:Value->Heap->Prop):Prop :=
 ∀ ρ w (ax:Array Value),HRel ρ U w->LRel ρ U.n args ax.toList ->
  ((∀ w,(callFunc f ax).run P w=.ok (.enter f ax) w)/\Calls P f ax w λe w'=>∃ c,e=.returned c/\Got ρ U w R c w') \/
  (∃ c,Got ρ U w R c w/\∀ w',Like ρ w w'->(callFunc f ax).run P w'=.ok (.value c) w')
def HT (P:Program) (i:Nat) (args:List Value) (U:Heap) (R:Value->Heap->Prop):Prop :=
 ∀ ρ w (ax:Array Value),HRel ρ U w->LRel ρ U.n args ax.toList ->
  ∃ p,ρ i=some p/\∃ fn tmps ft body,(Instr.yield p.blk ax).run P w=.ok (.round p.blk fn tmps ft body) w /\
   RoundIn Fence.wide 0 P p.blk fn tmps ft body w λe w'=>∃ c,e=.returned c/\Got ρ U w R c w'
def ZI (P:Program) (f:FuncId):Prop:=∃ fn,P.funcs[f]?=some fn/\fn.body.isSome=true/\(fn.name=="runtime.NumGoroutine")=false
def Q8v (P:Program) (f:FuncId) (s:Tq):Prop:=∀ args U K,s args U K->VCalled P f args U K
def Va (P:Program) (i:Nat) (s:Tq):Prop:=∀ args U K,s args U K->HT P i args U K
def Q8y (P:Program) (f:FuncId) (T:Nat->Tq->Tq):Prop:=ZI P f/\∀ i Y,Va P i Y->∀ args U K,T i Y args U K->VCallsTo P f args U K
structure OkSpecs (P:Program) (S:VSpecs):Prop where
 fn:∀ f s,S.fn f=some s->Q8v P f s
 yl:∀ i s,S.yl i=some s->Va P i s
 it:∀ f T,S.it f=some T->Q8y P f T
theorem W9 {f:FuncId}(h:ZI P f) (args:Array Value) (w:World):(callFunc f args).run P w=.ok (.enter f args) w:=by
 obtain⟨fn,h1,h2,h3⟩:=h;have h4:¬ fn.body=none:=λe=>by rw[e] at h2;cases h2
 have h5:¬ fn.name="runtime.NumGoroutine":=λe=>by rw[e] at h3;simp at h3
 simp[callFunc,h1,h4,h5]
theorem VCallsTo.called {f:FuncId}{args:List Value}{U:Heap}{R:Value->Heap->Prop}(he:ZI P f) (h:VCallsTo P f args U R):VCalled P f args U R :=
 fun ρ w ax hH hL=>.inl ⟨λw=>W9 he ax w,h ρ w ax hH hL⟩
theorem Got.mono {ρ:Plc}{U:Heap}{w:World}{R R':Value->Heap->Prop}{c:Value}{w':World}(h:Got ρ U w R c w') (hr:∀ v U',R v U'->R' v U'):Got ρ U w R' c w' :=
 let ⟨v,ρ',U',h1,h2⟩:=h;⟨v,ρ',U',hr _ _ h1,h2⟩
theorem VCallsTo.mono {f:FuncId}{args:List Value}{U:Heap}{R R':Value->Heap->Prop}(h:VCallsTo P f args U R) (hr:∀ v U',R v U'->R' v U'):VCallsTo P f args U R' :=
 fun ρ w ax hH hL=>(h ρ w ax hH hL).mono λ_ _ ⟨c,he,hg⟩=>⟨c,he,hg.mono hr⟩
theorem YZ {ρ:Plc}{n:Nat}{env:Env}{a:Act}(h:LRel ρ n env a.tmps.toList) {v c:Value}(hv:VRel ρ n v c) (d:Option Nat):LRel ρ n (Xk env d v) (a.put d c).tmps.toList:=by
 cases d with
 |none=>exact h
 |some d=>simp only[Xk,Act.put,Array.toList_setIfInBounds];exact h.set d hv
theorem ZH (env:Env) (d:Option Nat) (v:Value):List.length (Xk env d v)=List.length env:=by cases d<;>simp[Xk]
theorem Xi (a:Act) (d:Option Nat) (c:Value):(a.put d c).defers=a.defers:=by cases d<;>rfl
theorem GI {ρ:Plc}{n:Nat}{env:Env}{a:Act}{ops:Array Oper}{o:Oper}{vo:VOper}(hc:Jn P ops o=some vo) (hL:LRel ρ n env a.tmps.toList) {b:Bool}(h:Jm env vo.guard=some b) :
  Region.wanted o (yielded ops a.tmps)=b/\vo.dst=o.dst/\K4 P o.op=vo.op:=by
 unfold Jn at hc;simp only[zT] at hc;cases hg:o.guard with
 |none =>simp[hg] at hc;subst hc;simp[Jm] at h;subst h;simp[Region.wanted,hg]
 |some jw =>
  obtain⟨j,want⟩:=jw;simp[hg] at hc;cases hj:ops[j]? with
  |none=>simp[hj] at hc
  |some oj =>
   cases hd:oj.dst with
   |none=>simp[hj,hd] at hc
   |some d =>
    simp[hj,hd] at hc;subst hc;refine⟨?_,rfl,rfl⟩;simp only[Jm] at h;simp only[Region.wanted,hg,yielded,hj,xt,hd];have hlen:List.length env=a.tmps.size:=by have:=hL.1;rw[Array.length_toList] at this;exact this
    rcases zn d (List.length env) with ah|bG
    .have b8:d<a.tmps.size:=by rw[<-hlen];exact ah
     have hr:=hL.2 d env[d] a.tmps[d] (z6 ah) (by simp[b8]);have he:env.getD d undef=env[d]:=by simp[List.getD,ah]
     rw[he] at h;simp only[x7 b8];split at h
     .rename_i b' heq;rw[heq] at hr;rw[hr.q1c];simp at h;simp[<-h]
     .rename_i vs heq;rw[heq] at hr;obtain⟨ds,hds,_⟩:=hr.q1j;rw[hds];simp at h;subst h;simp
     .cases h
    .have he:env.getD d undef=undef:=by simp[List.getD,zr bG]
     rw[he] at h;have:a.tmps[d]?=none:=Array.getElem?_eq_none (by rw[<-hlen];exact bG);simp only[this];simp[undef] at h;subst h;simp
theorem Q1u {o:Oper}{vo:VOp}(hc:VD P o.op=some vo) {ρ:Plc}{U:Heap}{env:Env}{a:Act}(hL:LRel ρ U.n env a.tmps.toList) {K:Value->Heap->Prop}
  (aD:(∃ f bQ,vo=.callF f bQ)\/(∃ f bQ,vo=.callV f bQ)) {σ0:Heap}(h:vop S vo env σ0 K) :
  (∃ f args ax,vcall S f args σ0 K/\LRel ρ U.n args ax.toList/\∀ w,(execOp a.eval o).run P w=(callFunc f ax).run P w) \/
  (∃ i r args ax,AH S i args σ0 K/\VRel ρ U.n (.func (.yield i) #[] #[]) (.func (.yield r) #[] #[])/\LRel ρ U.n args ax.toList/\∀ w,(execOp a.eval o).run P w=(Instr.yield r ax).run P w):=by
 have bm:=hc;cases dP:VD P o.op with
 |none=>rw[dP] at hc;cases hc
 |some tl =>
  clear dP hc tl;obtain⟨dst,op,ty,pos,after,guard⟩:=o;simp only at bm;unfold VD at bm;split at bm
  .cases bm
  rename_i ai;simp only[w4,xR] at ai;cases op
  case call c =>
   simp only[Op.operands] at ai bm;split at bm
   .rename_i f aL;simp at bm;subst bm;simp only[vop] at h;have aB:(c.args.toList).all Xo=true:=by
     simp only[Call.operands,aL,Array.toList_append,List.all_append,z8] at ai;exact ai.2
    refine .inl ⟨f,_,c.args.map a.eval,h,by have:=SD (λx hx=>Wq hL hx) aB;simpa using this,λw=>?_⟩;simp[execOp,resolve,aL,Act.eval,Deferred.ofValue,invoke]
   .rename_i fo az aL;simp at bm;subst bm;simp only[vop] at h;simp only[Call.operands,aL,Array.toList_append,List.all_append,z8] at ai;have hf:=Wq hL (x:=fo) (by simpa using ai.1);have has:=SD (λx hx=>Wq hL hx) ai.2;split at h
    .rename_i g first cap heq
     rw[heq] at hf;cases kD:a.eval fo with
     |func fn gs ds =>
      rw[kD] at hf;cases hf with
      |func _ _ _ _ _ h1 h2 h3 h4 =>
       refine .inl ⟨g,_,gs++c.args.map a.eval++ds,h,?_,λw=>?_⟩
       .have eU:=LRel.of_array h1 h3;have b9:=LRel.of_array h2 h4;have:=(eU.append has).append b9;simpa using this
       .simp[execOp,resolve,aL,kD,Deferred.ofValue,invoke]
     |_=>rw[kD] at hf;cases hf
    .rename_i i first cap heq
     rw[heq] at hf;have hinv:∀ c,VRel ρ U.n (.func (.yield i) first cap) c->∃ r,c=.func (.yield r) #[] #[]/\VRel ρ U.n (.func (.yield i) #[] #[]) (.func (.yield r) #[] #[]):=by
      intro c h;cases h with
      |yield _ r hi hr=>exact⟨r,rfl,.yield i r hi hr⟩
     obtain⟨r,kD,hv⟩:=hinv _ hf;refine .inr ⟨i,r,_,c.args.map a.eval,h,hv,by simpa using has,λw=>?_⟩;simp[execOp,resolve,aL,kD,Deferred.ofValue,invoke]
    .cases h
   all_goals
    repeat' first
     |(cases bm;done)
     |(simp at bm;subst bm;rcases aD with⟨f,bQ,h⟩|⟨f,bQ,h⟩<;>cases h;done)
     |split at bm
   all_goals
    simp only[zT,xd] at bm;obtain⟨_,_,_,_,bm⟩:=bm;split at bm<;>simp at bm;subst bm;rcases aD with⟨f,bQ,h⟩|⟨f,bQ,h⟩<;>cases h
  all_goals simp only[Op.operands] at ai bm
  all_goals
   repeat' first
    |(cases bm;done)
    |(simp at bm;subst bm;rcases aD with⟨f,bQ,h⟩|⟨f,bQ,h⟩<;>cases h;done)
    |split at bm
  all_goals simp only[zT,xd,reduceCtorEq,and_false,exists_false] at bm
  all_goals first
   |(obtain⟨_,_,bm⟩:=bm;simp at bm;subst bm;rcases aD with⟨f,bQ,h⟩|⟨f,bQ,h⟩<;>cases h;done)
   |(obtain⟨_,_,_,_,bm⟩:=bm;simp at bm;subst bm;rcases aD with⟨f,bQ,h⟩|⟨f,bQ,h⟩<;>cases h;done)
   |(obtain⟨_,_,_,_,_,_,bm⟩:=bm;simp at bm;subst bm;rcases aD with⟨f,bQ,h⟩|⟨f,bQ,h⟩<;>cases h;done)
   |(obtain⟨d,_,bm⟩:=bm;cases d<;>simp at bm<;>subst bm<;>rcases aD with⟨f,bQ,h⟩|⟨f,bQ,h⟩<;>cases h;done)
   |(obtain⟨_,_,_,_,bm⟩:=bm;split at bm<;>simp at bm;subst bm;rcases aD with⟨f,bQ,h⟩|⟨f,bQ,h⟩<;>cases h;done)
   |(obtain⟨_,_,bm⟩:=bm;split at bm<;>simp at bm;subst bm;rcases aD with⟨f,bQ,h⟩|⟨f,bQ,h⟩<;>cases h;done)
theorem NJ {o:Op}{vo:VOp}(h:K4 P o=vo) (hv:vo≠.bad):VD P o=some vo\/∃ x,Tk P o=some x/\vo=.ext x:=by
 unfold K4 at h;split at h
 .rename_i v gK;subst h;exact .inl gK
 .split at h
  .rename_i x hx;exact .inr ⟨x,hx,h.symm⟩
  .exact absurd h.symm hv
theorem Es {o:Op}{x:XOp}(h:VD P o=some (.ext x)):False:=by
 unfold VD at h
 repeat' first
  |contradiction
  |(cases h;done)
  |(simp at h;done)
  |(rw[zT,xd] at h;obtain⟨_,_,h⟩:=h)
  |split at h
theorem Sr {o:Op}{vo:VOp}(h:K4 P o=vo) (hv:vo≠.bad) (c:Call):o≠.defer c:=by
 rintro rfl;rcases NJ h hv with h|⟨x,h,_⟩
 .unfold VD at h;split at h<;>simp at h
 .unfold Tk at h;split at h<;>simp at h
theorem Ew {o:Oper}{x:Operand}(hc:Tk P o.op=some (.nextMap x)) {ρ:Plc}{U:Heap}{w:World}{env:Env}{ev:Operand->Value}(hH:HRel ρ U w) (hE:∀ x,Xo x=true->VRel ρ U.n (Q6 env x) (ev x))
  {K:Value->Heap->Prop}(h:Cs (Q6 env x) U K):∃ c w',(execOp ev o).run P w=.ok (.value c) w'/\Got ρ U w K c w':=by
 obtain⟨dst,op,ty,pos,after,guard⟩:=o;simp only at hc;unfold Tk at hc;split at hc
 .cases hc
 rename_i ai;simp only[w4,xR] at ai;have bJ:op=.next x false:=by
  cases op
  case next y b=>cases b<;>simp at hc;subst hc;rfl
  all_goals
   simp only at hc
   repeat' first
    |contradiction
    |(obtain⟨_,h⟩:=Fc hc;cases h;done)
    |(cases hc;done)
    |(simp at hc;done)
    |(rw[zT,xd] at hc;obtain⟨_,_,hc⟩:=hc)
    |split at hc
 subst bJ;clear hc;simp[Op.operands] at ai;have hx:=hE x ai;unfold Cs at h;split at h
 .rename_i i bz;rw[bz] at hx;split at h
  .rename_i m since seen last hb;split at h
   .rename_i es clock wr aF;obtain⟨h1,ae,h2,h3⟩:=h;obtain⟨p,hp,⟨_,eE⟩,O,hO,rm,rfl,pq⟩:=hH.live i _ hb;obtain⟨q,entries,iH,cF,hblk,aI⟩:=XI hH aF pq;simp at iH;subst iH;obtain⟨_,_,cA⟩:=hx.q0w hp;rw[eE,xl] at cA;have ie:(getObj p.blk).run P w=.ok (.mapIter (some q.blk) since seen.toArray last) w:=QG hO (λ_ _ _ e=>by cases e);have dj:(getObj q.blk).run P w=.ok (.map entries clock) w:=QG hblk (λ_ _ _ e=>by cases e);let left:=entries.filter λe=>!seen.toArray.contains e.born;let aY:=left.filter (·.born<since);let new:=left.filter (·.born>=since);let bK:Array (Option MapEntry):=(if aY.isEmpty then #[none] else #[])++(aY++new).map some;have bc:0<bK.size:=by
     by_cases ho:aY.isEmpty=true
     .simp only[bK,ho,zI,Array.size_append];show 0<1+_;omega
     .have:aY.size≠0:=λe=>ho (by simp[Array.isEmpty,e]);simp only[bK,Array.size_append,Array.size_map];omega
    obtain⟨k,w1,hk,dW,qi⟩:∃ k w1,k<bK.size/\(choose (.mapNext bK.size)).run P w=.ok k w1/\(w1=w\/w1=w.drew):=by
     rw[run_choose_drew];by_cases hf:(Question.mapNext bK.size).forced=true
     .exact⟨0,w,bc,by rw[z7 hf],.inl rfl⟩
     .refine⟨_,w.drew,?_,by rw[z1 hf],.inr rfl⟩;exact w5 _ bc
    have jo:HRel ρ U w1:=by rcases qi with rfl|rfl;exact hH;exact hH.drew
    have fm:Ext ρ U w ρ U w1:=by rcases qi with rfl|rfl;exact Ext.refl _ _ _;exact Ext.drew _ _ _
    have tm:w1.heap[p.blk]?=some (.mapIter (some q.blk) since seen.toArray last):=by rcases qi with rfl|rfl<;>exact hO
    have aj:¬ ((!seen.toArray.isEmpty&&!entries.isEmpty&&entries.all (λe=>decide (e.born>=last)))=true):=by
     intro hh;simp only[z8] at hh;obtain⟨⟨h4,h5⟩,h6⟩:=hh;simp only[zy] at h1;rcases h1 with (h1|h1)|h1
     .rw[List.isEmpty_iff] at h1;subst h1;simp at h4
     .rw[List.isEmpty_iff] at h1;subst h1;have:entries=#[]:=by have:=aI.1;simpa using this
      subst this;simp at h5
     .obtain⟨kv,dz,ah⟩:=xD.1 h1;obtain⟨j,hj⟩:=xp.1 dz;have cm:j<entries.toList.length:=by rw[aI.1];exact(zg.1 hj).1
      have he:=aI.2 j entries.toList[j] kv (z6 cm) hj;have:=Array.all_eq_true'.1 h6 entries.toList[j] (by rw[<-Array.mem_toList_iff];exact zp cm);have h7:=he.2.1;simp at this ah;simp at h7;omega
    have aS:∀ r,(match bK[k]? with
      |some (some e)=>(do setObj p.blk (.mapIter (some q.blk) since (seen.toArray.push e.born) clock);pure (Value.tuple #[.bool true,e.key,e.val]):Sem Value)
      |some none=>pure (.tuple #[.bool false])
      |none=>stuck "Next: no such candidate").run P w1=r->(Instr.next (ev x) false ty).run P w=r:=by
     intro r hr;rw[<-hr];simp only[Instr.next,cA,zA,ie,dj,zj];rw[z1 aj];simp only[zA];change ((choose (Question.mapNext bK.size)).run P w).andThen _=_;rw[dW];rfl
    have hval:∀ c w',(Instr.next (ev x) false ty).run P w=.ok c w'->(execOp ev ⟨dst,.next x false,ty,pos,after,guard⟩).run P w=.ok (.value c) w':=λc w' h=>by simp[execOp,h]
    have fq:bK[k]?=some bK[k]:=x7 hk;cases hx:bK[k] with
    |none =>
     rw[hx] at fq;have aK:none∈bK:=hx▸Array.getElem_mem hk;have hold:aY.isEmpty=true:=by
      cases ho:aY.isEmpty with
      |true=>rfl
      |false=>simp[bK,ho] at aK
     refine⟨_,w1,hval _ _ (aS _ (by rw[fq];rfl)),_,ρ,U,h2 ?_,VRel.q0j (LRel.cons (.bool _) (LRel.nil _ _)),jo,fm⟩;refine zf.2 λkv dz=>?_;obtain⟨j,hj⟩:=xp.1 dz;have cm:j<entries.toList.length:=by rw[aI.1];exact(zg.1 hj).1
     have he:=aI.2 j entries.toList[j] kv (z6 cm) hj;cases tn:seen.contains kv.2.2 with
     |true=>rfl
     |false =>
      simp only[Bool.false_or,zC];rcases zn kv.2.2 since with ah|bG
      .exfalso;have:entries.toList[j]∈aY:=by
        simp only[aY,left,Array.mem_filter,zC];refine⟨⟨by rw[<-Array.mem_toList_iff];exact zp cm,?_⟩,by rw[he.2.1];exact ah⟩;rw[he.2.1];simpa using tn
       rw[Array.isEmpty_iff] at hold;rw[hold] at this;simp at this
      .exact bG
    |some e =>
     rw[hx] at fq;have aK:some e∈bK:=hx▸Array.getElem_mem hk;have nH:e∈left:=by
      have h4:e∈aY++new:=by
       simp only[bK,Array.mem_append,Array.mem_map] at aK;rcases aK with aK|⟨a,ha,pn⟩
       .split at aK<;>simp at aK
       .simp at pn;subst pn;simpa using ha
      rcases Array.mem_append.1 h4 with h4|h4
      .exact(Array.mem_filter.1 h4).1
      .exact(Array.mem_filter.1 h4).1
     obtain⟨hel,mN⟩:=Array.mem_filter.1 nH;rw[<-Array.mem_toList_iff] at hel;obtain⟨j,hj⟩:=xp.1 hel;have cm:j<es.length:=by rw[<-aI.1];exact(zg.1 hj).1
     have he:=aI.2 j e es[j] hj (z6 cm);have jl:=h3 es[j] (zp cm) (by rw[<-he.2.1];simpa using mN);obtain⟨k1,k2⟩:=jo.setObj (o':=.iter m since (seen++[es[j].2.2]) clock) (O':=.mapIter (some q.blk) since (seen.toArray.push e.born) clock) hp hb ⟨q.blk,by rw[he.2.1];simp,pq⟩;have a7:VRel ρ U.n es[j].1 e.key:=by rw[he.1];exact VF (zf.1 ae _ (zp cm))
     refine⟨_,_,hval _ _ (aS _ (by
      rw[fq];simp only[zA,Z2 tm (λ_ _ _ e=>by cases e),zj,xe])),_,ρ,_,jl,VRel.q0j (LRel.cons (.bool _) (LRel.cons a7 (LRel.cons he.2.2 (LRel.nil _ _)))),k1,fm.trans k2⟩
   .exact h.elim
  .exact h.elim
 .exact h.elim
theorem IC (hS:OkSpecs P S) {f:FuncId}{args:List Value}{U:Heap}{K:Value->Heap->Prop}(h:vcall S f args U K):VCalled P f args U K:=by
 unfold vcall at h;split at h
 .rename_i s hs;exact hS.fn f s hs _ _ _ h
 .exact h.elim
theorem EU (hS:OkSpecs P S) {i:Nat}{args:List Value}{U:Heap}{K:Value->Heap->Prop}(h:AH S i args U K):HT P i args U K:=by
 unfold AH at h;split at h
 .rename_i s hs;exact hS.yl i s hs _ _ _ h
 .exact h.elim
theorem Oc {o:Oper}{vo:VOp}(hc:K4 P o.op=vo) {ρ:Plc}{U:Heap}{w:World}{env:Env}{a:Act}(hH:HRel ρ U w) (hL:LRel ρ U.n env a.tmps.toList) {v:Value}{U':Heap}
  (h:Qb vo (Q6 env) U=some (v,U')):Rt P ρ U w v U' (execOp a.eval o):=by
 cases hq:vo.quiet with
 |false=>exact Q0z hc hq hH (λx hx=>Wq hL hx) h
 |true =>obtain⟨rfl,c,eH,hr⟩:=I4 hc hq hH (λx hx=>Wq hL hx) h;exact⟨c,w,ρ,.inl (hr w (Like.refl ρ w)),eH,hH,Ext.refl _ _ _⟩
theorem Vw (hS:OkSpecs P S) {ro:Option Nat}{n:Nat}{o:Oper}{vo:VOp}(bJ:K4 P o.op=vo) {ρ:Plc}{U:Heap}{w:World}{env:Env}{a:Act}(hH:HRel ρ U w) (hL:LRel ρ U.n env a.tmps.toList)
  {K:Value->Heap->Prop}(h:vop S vo env U K) {next:Act->World->Prop}{Q':Exit->Act->World->Prop}(hn:∀ c w',Got ρ U w K c w'->next (a.put o.dst c) w'):o.wpIn (FF ro) n P a w next Q':=by
 refine⟨λf _=>Fk _ _,?_⟩;have cJ:vo≠.bad:=by rintro rfl;exact h.elim
 rw[Oper.semAt_eq _ _ _ (Sr bJ cJ)];by_cases aD:(∃ f bQ,vo=.callF f bQ)\/(∃ f bQ,vo=.callV f bQ)
 .have hc:VD P o.op=some vo:=by
   rcases NJ bJ cJ with hc|⟨x,_,hx⟩
   .exact hc
   .subst hx;rcases aD with⟨f,bQ,hh⟩|⟨f,bQ,hh⟩<;>cases hh
  rcases Q1u (S:=S) hc hL aD h with⟨f,args,ax,hv,nw,hr⟩|⟨i,r,args,ax,hv,cK,nw,hr⟩
  .rcases IC hS hv ρ w ax hH nw with⟨h1,h2⟩|⟨c,hg,h2⟩
   .rw[hr,h1];exact⟨(λhd=>by rw[Sl] at hd;cases hd),(Af h2).mono λe w' ⟨c,he,hg⟩=>by subst he;exact hn c w' hg⟩
   .rw[hr,h2 w (Like.refl ρ w)];exact hn c w hg
  .obtain⟨p,hp,fn,tmps,ft,body,h1,h2⟩:=EU hS hv ρ w ax hH nw;have tq:r=p.blk:=by
    cases cK with
    |yield _ _ _ hh=>exact hh p hp
   rw[hr,tq,h1];exact⟨(λhd=>by rw[Sl] at hd;cases hd),(Ch h2).mono λe w' ⟨c,he,hg⟩=>by subst he;exact hn c w' hg⟩
 .by_cases eN:∃ x,vo=.ext (.nextMap x)
  .obtain⟨x,rfl⟩:=eN;have hc:Tk P o.op=some (.nextMap x):=by
    rcases NJ bJ cJ with hc|⟨y,hy,hx⟩
    .have:=Es hc;exact this.elim
    .cases hx;exact hy
   obtain⟨c,w',hr,hg⟩:=Ew hc hH (λx hx=>Wq hL hx) h;rw[hr];exact hn c w' hg
  .have gp:∃ v U',Qb vo (Q6 env) U=some (v,U')/\K v U':=by
    unfold vop at h;split at h
    .exact absurd (.inl ⟨_,_,rfl⟩) aD
    .exact absurd (.inr ⟨_,_,rfl⟩) aD
    .exact absurd ⟨_,rfl⟩ eN
    .cases dX:Qb vo (Q6 env) U with
     |none=>rw[dX] at h;exact h.elim
     |some p=>rw[dX] at h;exact⟨p.1,p.2,rfl,h⟩
   obtain⟨v,U',dX,hK⟩:=gp;obtain⟨c,w',ρ',aS,eH,gQ,hE⟩:=Oc bJ hH hL dX;have hg:Got ρ U w K c w':=⟨v,ρ',U',hK,eH,gQ,hE⟩;rcases aS with aS|⟨aS,rfl⟩
   .rw[aS];exact hn c w' hg
   .rw[aS];exact hn undef w' hg
def Mks (B:Nat) (ds:List Deferred) (w:World):Prop:=B<=w.heap.size/\∃ Ds:List Nat,ds=Ds.map (λD=>⟨.collected D,#[]⟩)/\Ds.Nodup/\∀ D∈Ds,B<=D/\w.heap[D]?=some (.deferred (some []))
theorem Mks.nil {w:World}(h:B<=w.heap.size):Mks B [] w:=⟨h,[],rfl,List.nodup_nil,λ_ h=>by cases h⟩
theorem Mks.ext {ds:List Deferred}{ρ ρ':Plc}{U U':Heap}{w w':World}(h:Mks B ds w) (hH:HRel ρ U w) (hE:Ext ρ U w ρ' U' w'):Mks B ds w':=by
 obtain⟨h0,Ds,h1,h2,h3⟩:=h;refine⟨x4 h0 hE.size,Ds,h1,h2,λD hD=>⟨(h3 D hD).1,?_⟩⟩;have hb:=(h3 D hD).2;have ah:D<w.heap.size:=by
  rcases zn D w.heap.size with h'|h'
  .exact h'
  .rw[Array.getElem?_eq_none h'] at hb;cases hb
 rw[hE.keep D ah (λ⟨i,p,b,hp,_,_,tv⟩=>hH.q0l hb i p hp tv)];exact hb
def BX (B m:Nat) (ρ:Plc) (U:Heap) (w:World) (K:Env->Heap->Prop) (a':Act) (w':World):Prop :=
 ∃ af ρ' U',K af U'/\List.length af=m/\HRel ρ' U' w'/\LRel ρ' U'.n af a'.tmps.toList/\Mks B a'.defers w'/\Ext ρ U w ρ' U' w'
theorem Ed (hS:OkSpecs P S) {ro:Option Nat}{n:Nat}(ops:Array Oper) (Q:Exit->Act->World->Prop):∀ (l:List Oper) (lv:List VOper),l.mapM (Jn P ops)=some lv ->
  ∀ (env:Env) (U:Heap) (K:Env->Heap->Prop) (ρ:Plc) (w:World) (a:Act),TA S lv env U K->HRel ρ U w->LRel ρ U.n env a.tmps.toList->Mks B a.defers w ->
  (∀ a' w',BX B (List.length env) ρ U w K a' w'->Q .normal a' w')->wpListIn (FF ro) n P ops Q l a w:=by
 intro l;induction l with
 |nil =>intro lv bU env U K ρ w a h hH hL hd hQ;simp at bU;subst bU;exact hQ a w ⟨env,ρ,U,h,rfl,hH,hL,hd,Ext.refl _ _ _⟩
 |cons o l ih =>
  intro lv bU env U K ρ w a h hH hL hd hQ;rw[xx] at bU;cases bm:Jn P ops o with
  |none=>simp[bm] at bU
  |some vo =>
   cases iG:l.mapM (Jn P ops) with
   |none=>simp[bm,iG] at bU
   |some rP =>
    simp[bm,iG] at bU;subst bU;simp only[TA] at h;cases hw:Jm env vo.guard with
    |none=>rw[hw] at h;exact h.elim
    |some b =>
     rw[hw] at h;obtain⟨dA,bH,bJ⟩:=GI bm hL hw;obtain⟨ht,hf⟩:=h;simp only[wpListIn];rw[dA];cases b with
     |false =>rw[z1 (by simp)];exact⟨λf _=>Fk _ _,ih rP iG (Xk env vo.dst undef) U K ρ w _ (hf rfl) hH (by rw[bH];exact YZ hL JM o.dst) (by rw[Xi];exact hd) (λa' w' hn=>hQ a' w' (by rw[ZH] at hn;exact hn))⟩
     |true =>
      rw[z7 rfl];refine Vw hS bJ hH hL (ht rfl) λc w' ⟨v,ρ',U',hK,eH,gQ,hE⟩=>?_
      exact ih rP iG (Xk env vo.dst v) U' K ρ' w' _ hK gQ (by rw[bH];exact YZ (hE.lrel hL) eH o.dst) (by rw[Xi];exact hd.ext hH hE)
       (λa' pa ⟨nJ,eS,aH,k1,k0,k2,k3,k4,k5⟩=>hQ a' pa ⟨nJ,eS,aH,k1,by rw[k0,ZH],k2,k3,k4,hE.trans k5⟩)
theorem RI:∀ (l:List Nat) (vs:List Value) (env:Env),(XP l vs env).length=env.length:=by
 intro l;induction l with
 |nil=>intro vs env;cases vs<;>rfl
 |cons i l ih =>
  intro vs env;cases vs with
  |nil=>rfl
  |cons v vs=>simp only[XP];rw[ih];simp
theorem EF {ρ:Plc}{n:Nat}:∀ (l:List Nat) (env base:Env) (cs:List Value),LRel ρ n env cs->LRel ρ n base cs->LRel ρ n (XP l (H2 l env) base) cs:=by
 intro l;induction l with
 |nil=>intro env base cs _ hb;exact hb
 |cons i l ih =>
  intro env base cs he hb;simp only[H2,zG,XP];refine ih env _ cs he ?_;refine⟨by simp[hb.1],λj v c hv hc=>?_⟩;by_cases bN:i=j
  .subst bN;rcases zn i (List.length base) with ah|bG
   .rw[List.getElem?_set_self ah] at hv;obtain rfl:=osj hv;have b8:i<List.length env:=by rw[he.1,<-hb.1];exact ah
    have:env.getD i poison=env[i]:=by simp[List.getD,b8]
    rw[this];exact he.2 i _ c (z6 b8) hc
   .rw[zr (by simp;exact bG)] at hv;cases hv
  .rw[List.getElem?_set_ne bN] at hv;exact hb.2 j v c hv hc
theorem Eb {ρ:Plc}{n:Nat}(cs:List Value) {m:Nat}(h:m=cs.length):LRel ρ n (List.replicate m poison) cs :=
 ⟨by simp[h],λi v c hv _=>by
  have:=zK hv;rw[List.mem_replicate] at this;rw[this.2];exact .poison c⟩
def RoRel (de ro:Option Nat) (ρ:Plc) (n:Nat):Prop:=(de=none/\ro=none)\/∃ i l,de=some i/\ro=some l/\i<n/\∀ p,ρ i=some p->p.blk=l
theorem RoRel.ext {de ro:Option Nat}{ρ ρ':Plc}{U U':Heap}{w w':World}(h:RoRel de ro ρ U.n) (hE:Ext ρ U w ρ' U' w'):RoRel de ro ρ' U'.n:=by
 rcases h with h|⟨i,l,h1,h2,h3,h4⟩
 .exact .inl h
 .exact .inr ⟨i,l,h1,h2,xj h3 hE.n,λp hp=>h4 p (hE.pl i h3 p hp)⟩
def Sound (P:Program) (S:VSpecs) (c:Code) (vc:VCode):Prop :=
 ∀ ⦃B:Nat⦄ (de ro:Option Nat) (n:Nat) (Q:Exit->Env->Heap->Prop) (env:Env) (U:Heap) (ρ:Plc) (w:World) (a:Act),vwp S vc de Q env U->HRel ρ U w->LRel ρ U.n env a.tmps.toList->Mks B a.defers w->RoRel de ro ρ U.n ->
  ∀ (Q':Exit->Act->World->Prop),(∀ e a' w',BX B (List.length env) ρ U w (Q e) a' w'->Q' e a' w')->c.wpIn (FF ro) n P Q' a w
theorem FY {ρ:Plc}{n:Nat}:∀ (ps:List Nat) (vs cs:List Value) (env:Env) (tmps:Array Value),LRel ρ n env tmps.toList->LRel ρ n vs cs ->
  LRel ρ n (Hy env ps vs) ((ps.zip cs).foldl (λ(tmps:Array Value) (q:Nat×Value)=>tmps.setIfInBounds q.1 q.2) tmps).toList:=by
 intro ps;induction ps with
 |nil=>intro vs cs env tmps h _;cases vs<;>exact h
 |cons p ps ih =>
  intro vs cs env tmps h hv;cases vs with
  |nil =>
   cases cs with
   |nil=>exact h
   |cons _ _=>have:=hv.1;simp at this
  |cons v vs =>
   cases cs with
   |nil=>have:=hv.1;simp at this
   |cons c cs =>simp only[Hy,List.zip_cons_cons,wi];refine ih vs cs _ _ ?_ ⟨by have:=hv.1;simpa using this,λi a b ha hb=>hv.2 (i+1) a b (by simpa using ha) (by simpa using hb)⟩;rw[Array.toList_setIfInBounds];exact h.set p (hv.2 0 v c rfl rfl)
theorem XQ {w:World}{l:Nat}{r:Loop}(h:w.heap[l]?=some (.loop r)):(Instr.getLoop l).run P w=.ok r w:=by simp[Instr.getLoop,QG h (λ_ _ _ e=>by cases e)]
theorem Mg {ρ:Plc}{U:Heap}{w:World}(hH:HRel ρ U w) {i:Nat}{env:Env}{r:Loop}{st:LoopState}{pend:Option Code}{wr:Bool}(h:U.get i=some (.obj (.lp env r st pend) wr)) :
  ∃ p,ρ i=some p/\w.heap[p.blk]?=some (.loop {r with state:=st,pending:=pend})/\LRel ρ U.n env r.tmps.toList:=by
 obtain⟨p,hp,_,O,h1,rfl,h2⟩:=hH.live i _ h;exact⟨p,hp,h1,h2⟩
theorem C3 {ρ:Plc}{U:Heap}{w:World}(hH:HRel ρ U w) {i:Nat}{env:Env}{r:Loop}{st:LoopState}{pend:Option Code}{p:Pl}(hp:ρ i=some p) (h:U.get i=some (.obj (.lp env r st pend) true)) (mP:LoopState) (bW:Option Code) :
  HRel ρ (U.upd i (.obj (.lp env r mP bW) true)) (Pb w p.blk (.loop {r with state:=mP,pending:=bW})) /\
  Ext ρ U w ρ (U.upd i (.obj (.lp env r mP bW) true)) (Pb w p.blk (.loop {r with state:=mP,pending:=bW})):=by
 obtain⟨p',bt,h1,h2⟩:=Mg hH h;exact hH.setObj hp h ⟨rfl,h2⟩
theorem Cw {ft body:Code}{va vb:VCode}(ha:Sound P S ft va) (hb:Sound P S body vb) (ps:List Nat) (env:Env) (r:Loop) (fU:r.assign=ft) (dY:r.body=body) (jP:r.params.toList=ps) (i:Nat) :
  Va P i (A5 (vwp S va (some i)) (vwp S vb (some i)) ps env r i):=by
 intro args U K h ρ w ax hH hL;obtain⟨h1,h2,h3⟩:=h;obtain⟨p,hp,hblk,lK⟩:=Mg hH h1;refine⟨p,hp,r.fn,(r.params.zip ax).foldl (λtmps (t,a)=>tmps.setIfInBounds t a) r.tmps,r.assign,r.body,?_,?_⟩
 .have aG:ax.size=r.params.size:=by
   have h4:=hL.1;have:r.params.size=ps.length:=by rw[<-jP];simp
   simp at h4;omega
  simp[Instr.yield,XQ hblk,aG]
 .refine roundIn_of_wpIn (F:=Fence.wide) trivial ?_;rw[fU,dY];refine ha (some i) (some p.blk) 0 _ _ U ρ w _ h3 hH ?_ (Mks.nil (ze _)) (.inr ⟨i,p.blk,rfl,rfl,U.lt h1,λq hq=>by rw[hp] at hq;obtain rfl:=osj hq;rfl⟩) _ ?_
  .have:=FY ps args ax.toList env r.tmps lK hL;rw[<-jP,<-Array.toList_zip,Array.foldl_toList] at this;rw[jP] at this;exact this
  .intro e a1 w1 ⟨bC,ρ1,σ1,k1,k0,k2,k3,k4,k5⟩;cases e with
   |normal =>
    obtain⟨k6,k7⟩:=k1;obtain⟨p1,iL,kE,rQ⟩:=Mg k2 k6;have mI:p1=p:=by have:=k5.pl i (U.lt h1) p1 iL;rw[hp] at this;exact(osj this).symm
    subst mI;obtain⟨j1,j2⟩:=C3 k2 iL k6 .busy none;refine⟨_,by simp[Instr.beginRound,XQ kE,Z2 kE (λ_ _ _ e=>by cases e)];rfl,?_⟩;refine hb (some i) (some p1.blk) 0 _ _ _ ρ1 _ a1 k7 j1 k3 (k4.ext k2 j2) (.inr ⟨i,p1.blk,rfl,rfl,σ1.lt k6,λq hq=>by rw[iL] at hq;obtain rfl:=osj hq;rfl⟩) _ ?_;intro e2 a2 w2 ⟨aT,ρ2,σ2,m1,m0,m2,m3,m4,m5⟩;obtain⟨m6,m7⟩:=m1;obtain⟨p2,cQ,eO,rR⟩:=Mg m2 m6;have mI:p2=p1:=by have h8:=m5.pl i (by rw[Heap.q2o];exact σ1.lt k6) p2 cQ;rw[iL] at h8;exact(osj h8).symm
    subst mI;cases e2 with
    |normal =>obtain⟨q1,q2⟩:=C3 m2 cQ m6 .ready none;refine⟨.bool true,_,?_,_,rfl,.bool true,ρ2,_,m7,.bool _,q1,k5.trans (j2.trans (m5.trans q2))⟩;simp[Instr.endRound,XQ eO,Z2 eO (λ_ _ _ e=>by cases e)]
    |ret =>obtain⟨q1,q2⟩:=C3 m2 cQ m6 .done (some .ret);refine⟨.bool false,_,?_,_,rfl,.bool false,ρ2,_,m7,.bool _,q1,k5.trans (j2.trans (m5.trans q2))⟩;simp[Instr.endRound,XQ eO,Z2 eO (λ_ _ _ e=>by cases e)]
    |exit id =>obtain⟨q1,q2⟩:=C3 m2 cQ m6 .done (some (.exit id));refine⟨.bool false,_,?_,_,rfl,.bool false,ρ2,_,m7,.bool _,q1,k5.trans (j2.trans (m5.trans q2))⟩;simp[Instr.endRound,XQ eO,Z2 eO (λ_ _ _ e=>by cases e)]
    |goto l=>exact m7.elim
    |panic ch=>exact m7.elim
    |outgrown=>exact m7.elim
   |exit id=>exact k1.elim
   |goto l=>exact k1.elim
   |ret=>exact k1.elim
   |panic ch=>exact k1.elim
   |outgrown=>exact k1.elim
theorem Heap.ext' {U U':Heap}(h:∀ j,U.get j=U'.get j) (hn:U.n=U'.n):U=U':=by obtain⟨g,n,wf⟩:=U;obtain⟨g',n',vI⟩:=U';have hg:g=g':=funext h;have px:n=n':=hn;subst hg;subst px;rfl
theorem Mks.push {ds:List Deferred}{w:World}(h:Mks B ds w):Mks B ({target:=.collected w.heap.size,args:=#[]}::ds) (w.alloc (.deferred (some []))):=by
 obtain⟨h0,Ds,h1,h2,h3⟩:=h;have ah:∀ D∈Ds,D<w.heap.size:=λD hD=>by
  rcases zn D w.heap.size with h'|h'
  .exact h'
  .have:=(h3 D hD).2;rw[Array.getElem?_eq_none h'] at this;cases this
 refine⟨by rw[World.size_alloc];omega,w.heap.size::Ds,by rw[h1];rfl,xn.2 ⟨λhh=>wD _ (ah _ hh),h2⟩,λD hD=>?_⟩;rcases zk.1 hD with rfl|hD
 .refine⟨h0,?_⟩;show (w.heap.push _)[w.heap.size]?=_;simp
 .refine⟨(h3 D hD).1,?_⟩;show (w.heap.push _)[D]?=_;rw[Array.getElem?_push,z1 (by have:=ah D hD;omega)];exact(h3 D hD).2
theorem Ext.q1f {ρ:Plc}{U:Heap}(w:World) (O:Obj):Ext ρ U w ρ U (w.alloc O) :=
 ⟨rfl,rfl,rfl,by have:=World.size_alloc w O;omega,λB hB _=>by show (w.heap.push _)[B]?=_;rw[Array.getElem?_push,z1 (by omega)],λ_ _ h=>h,ze _,λ_ _ _ h=>h⟩
theorem HRel.q1f {ρ:Plc}{U:Heap}{w:World}(h:HRel ρ U w) (O:Obj):HRel ρ U (w.alloc O) :=
 h.world (by have:=World.size_alloc w O;omega) (λi p hp=>by show (w.heap.push _)[p.blk]?=_;rw[Array.getElem?_push,z1 (by have:=h.lt i p hp;omega)]) λg cs hg=>by show (w.heap.push _)[g]?=_;rw[Array.getElem?_push,z1 (by have:=h.tab.lt hg;omega)]
theorem A0 {de ro:Option Nat}{ρ:Plc}{U:Heap}{w:World}{a:Act}{env:Env}(hH:HRel ρ U w) (hL:LRel ρ U.n env a.tmps.toList) (hd:Mks B a.defers w) (hR:RoRel de ro ρ U.n) (aP:Z5o U de) (fn:FuncId) (ps:Array Nat) (ft body:Code) :
  ∃ (r:Loop) (mark:List Deferred) (w1:World) (ρ1:Plc),(Instr.enterLoop fn a.tmps ps ft body ro).run P w=.ok (w1.heap.size-1,mark) w1/\r.assign=ft/\r.body=body/\r.params=ps /\
   HRel ρ1 (U.push (.obj (.lp env r .ready none) true)) w1/\Ext ρ U w ρ1 (U.push (.obj (.lp env r .ready none) true)) w1/\Mks B (mark++a.defers) w1 /\
   (∀ p,ρ1 U.n=some p->p.blk=w1.heap.size-1):=by
 rcases hR with⟨rfl,rfl⟩|⟨i,l,rfl,rfl,hi,gW⟩
 .let w0:=w.alloc (.deferred (some []));have gu:HRel ρ U w0:=hH.q1f _;have qj:Ext ρ U w ρ U w0:=Ext.q1f _ _;let r:Loop:={state:=.ready,pending:=none,fn,tmps:=a.tmps,params:=ps,assign:=ft,body:=body,defers:=w.heap.size};obtain⟨ρ1,h1,h2,h3⟩:=gu.newObj (.lp env r .ready none) (.loop r) ⟨rfl,hL⟩;have aG:(w0.alloc (.loop r)).heap.size-1=w0.heap.size:=by have:=World.size_alloc w0 (.loop r);omega
  refine⟨r,[{target:=.collected w.heap.size,args:=#[]}],w0.alloc (.loop r),ρ1,?_,rfl,rfl,rfl,h2,qj.trans h3,?_,λp hp=>?_⟩
  .rw[aG];simp[Instr.enterLoop];exact⟨(World.size_alloc w _).symm,rfl⟩
  .exact(hd.push).ext gu h3
  .rw[h1] at hp;obtain rfl:=osj hp;rw[aG]
 .obtain⟨tw,r0,st,pend,hb⟩:=aP;obtain⟨p,hp,hblk,_⟩:=Mg hH hb;have aQ:=gW p hp;subst aQ;let r:Loop:={state:=.ready,pending:=none,fn,tmps:=a.tmps,params:=ps,assign:=ft,body:=body,defers:=r0.defers};obtain⟨ρ1,h1,h2,h3⟩:=hH.newObj (.lp env r .ready none) (.loop r) ⟨rfl,hL⟩;have aG:(w.alloc (.loop r)).heap.size-1=w.heap.size:=by have:=World.size_alloc w (.loop r);omega
  refine⟨r,[],w.alloc (.loop r),ρ1,?_,rfl,rfl,rfl,h2,h3,?_,λp hp=>?_⟩
  .rw[aG];simp[Instr.enterLoop,XQ hblk];rfl
  .exact hd.ext hH h3
  .rw[h1] at hp;obtain rfl:=osj hp;rw[aG]
theorem C_ (hS:OkSpecs P S) {ft body:Code}{va vb:VCode}(ha:Sound P S ft va) (hb:Sound P S body vb) (g:Operand) (hg:Xo g=true) (ps:Array Nat):Sound P S (.rangeFunc g ps ft body) (.rangeF g ps.toList va vb):=by
 intro B de ro n Q env U ρ w a h hH hL hd hR Q' hQ;simp only[vwp,LF] at h;have gX:=Wq hL hg;split at h
 .rename_i f first cap bG
  rw[bG] at gX;split at h
  .rename_i T hT;obtain⟨aP,h⟩:=h;refine wpIn_rangeFunc λfn _=>?_;obtain⟨r,mark,w1,ρ1,he,fU,dY,jP,jo,fm,tx,eU⟩:=A0 (P:=P) hH hL hd hR aP fn ps ft body;obtain⟨iM,nK⟩:=hS.it f T hT;obtain⟨gs,ds,py,lx,kj⟩:∃ gs ds,a.eval g=.func (.func f) gs ds/\LRel ρ U.n first.toList gs.toList/\LRel ρ U.n cap.toList ds.toList:=by
    cases py:a.eval g with
    |func vJ gs ds =>
     rw[py] at gX;cases gX with
     |func _ _ _ _ _ k1 k2 k3 k4=>exact⟨gs,ds,rfl,LRel.of_array k1 k3,LRel.of_array k2 k4⟩
    |_=>rw[py] at gX;cases gX
   have hY:Va P U.n (A5 (vwp S va (some U.n)) (vwp S vb (some U.n)) ps.toList env r U.n):=Cw ha hb ps.toList env r fU dY (by rw[jP]) U.n;have lL:=nK U.n _ hY _ _ _ (h r) ρ1 w1 (gs++#[.func (.yield (w1.heap.size-1)) #[] #[]]++ds) jo (by
    have k1:=fm.lrel lx;have k2:=fm.lrel kj;have k3:LRel ρ1 (U.push (.obj (.lp env r .ready none) true)).n [.func (.yield U.n) #[] #[]] [.func (.yield (w1.heap.size-1)) #[] #[]] :=
     LRel.cons (.yield _ _ (by simp) (λp hp=>(eU p hp).symm)) (LRel.nil _ _)
    have:=(k1.append k3).append k2;simpa using this)
   refine⟨w1.heap.size-1,mark,w1,{target:=.fn (.func f) ds,args:=gs++#[.func (.yield (w1.heap.size-1)) #[] #[]]},w1,f,gs++#[.func (.yield (w1.heap.size-1)) #[] #[]]++ds,w1,?_,?_,λ_ _=>Fk _ _,?_,(λhh=>by rw[Sl] at hh;cases hh),?_⟩
   .rw[Q1h];exact he
   .simp[resolve,py,Deferred.ofValue];rfl
   .simp only[invoke];exact W9 iM _ _
   .refine (Af lL).mono λe w3 ⟨c,tz,v,ρ3,σ3,k1,k2,k3,k4⟩=>?_;subst tz;unfold Q25 at k1;split at k1
    .rename_i af r' st pend jr;obtain⟨bk,k1⟩:=k1;obtain⟨p3,rS,iN,rT⟩:=Mg k3 jr;have aQ:p3.blk=w1.heap.size-1:=eU p3 (k4.pl U.n (by simp) p3 rS);obtain⟨q1,q2⟩:=C3 k3 rS jr .exhausted pend;rw[aQ] at iN q1 q2;obtain⟨q3,q4⟩:=q1.kill U.n;have fT:(σ3.upd U.n (.obj (.lp af r' .exhausted pend) true)).kill U.n=σ3.kill U.n:=by
      apply Heap.ext'
      .intro j;by_cases hj:j=U.n
       .subst hj;rw[Heap.q0f,Heap.q0f]
       .rw[Heap.q0d _ hj,Heap.q0d _ hj,Heap.q0b _ _ hj]
      .rfl
     rw[fT] at q3 q4;have kF:=fm.trans (k4.trans (q2.trans q4));have bX:=tx.ext jo (k4.trans (q2.trans q4));refine⟨pend,_,by simp[Instr.endLoop,XQ iN,Z2 iN (λ_ _ _ e=>by cases e),bk];rfl,?_⟩;have eN:∀ K:Env->Heap->Prop,K env (σ3.kill U.n)->BX B (List.length env) ρ U w K {a with defers:=mark++a.defers} (Pb w3 (w1.heap.size-1) (.loop {r' with state:=.exhausted,pending:=pend})):=λK hK =>
      ⟨env,_,_,hK,rfl,q3,kF.lrel hL,bX,kF⟩
     cases pend with
     |none=>exact hQ _ _ _ (eN _ k1)
     |some c =>
      cases c with
      |ret=>exact wpIn_ret (hQ _ _ _ (eN _ k1))
      |exit id=>exact wpIn_exit (hQ _ _ _ (eN _ k1))
      |_=>exact k1.elim
    .exact k1.elim
  .exact h.elim
 .exact h.elim
end
end Go.V
namespace Go.V
open Go
theorem Yx {ev fW:Operand->Value}(x:Option Operand) (d:Nat) (h:∀ y∈x.toList,ev y=fW y):Jh ev x d=Jh fW x d:=by
 cases x with
 |none=>rfl
 |some y=>simp only[Jh];rw[h y (by simp)]
theorem EO {o:XOp}{ev fW:Operand->Value}{U:Heap}(h:∀ x∈o.opds,ev x=fW x):ZA o ev U=ZA o fW U:=by cases o<;>simp only[XOp.opds,zk,List.not_mem_nil,or_false,forall_eq_or_imp,forall_eq] at h<;>simp only[ZA]<;>(try simp only[h])
theorem B8 {o:VOp}{ev fW:Operand->Value}{U:Heap}(h:∀ x∈o.opds,ev x=fW x):Qb o ev U=Qb o fW U:=by
 cases o
 case build z ps =>
  have:(ps.map λp=>(p.1,p.2.1,ev p.2.2))=ps.map λp=>(p.1,p.2.1,fW p.2.2):=xr λp hp=>by rw[h p.2.2 (zu.2 ⟨p,hp,rfl⟩)]
  simp only[Qb,this]
 case buildSlice e z n ps =>
  have:(ps.map λp=>(p.1*e.sz,e.sz,ev p.2))=ps.map λp=>(p.1*e.sz,e.sz,fW p.2):=xr λp hp=>by rw[h p.2 (zu.2 ⟨p,hp,rfl⟩)]
  simp only[Qb,this]
 case makeFunc fn a b =>
  have h1:a.map ev=a.map fW:=xr λx hx=>h x (xE _ hx);have h2:b.map ev=b.map fW:=xr λx hx=>h x (xA _ hx);simp only[Qb,h1,h2]
 case slice size x lo hi mx =>
  have h1:=Yx lo 0 (λy hy=>h y (by simp[VOp.opds] at *;exact .inr (.inl hy)));have h2:∀ n,Jh ev hi n=Jh fW hi n:=λn=>Yx hi n (λy hy=>h y (by simp[VOp.opds] at *;exact .inr (.inr (.inl hy))));have h3:=Yx mx 0 (λy hy=>h y (by simp[VOp.opds] at *;exact .inr (.inr (.inr hy))));have h4:=h x (by simp[VOp.opds]);simp only[Qb,h4];cases fW x<;>simp only[h1,h2,h3]
 case sliceStr x lo hi =>
  have h1:=Yx lo 0 (λy hy=>h y (by simp[VOp.opds] at *;exact .inr (.inl hy)));have h2:∀ n,Jh ev hi n=Jh fW hi n:=λn=>Yx hi n (λy hy=>h y (by simp[VOp.opds] at *;exact .inr (.inr hy)));have h4:=h x (by simp[VOp.opds]);simp only[Qb,h4];cases fW x<;>simp only[h1,h2]
 case ext o=>exact EO h
 all_goals
  simp only[VOp.opds,zk,List.not_mem_nil,or_false,forall_eq_or_imp,forall_eq] at h;simp only[Qb];try simp only[h]
theorem Ly {S:VSpecs}{o:VOp}{env af:Env}{U:Heap}{K:Value->Heap->Prop}(h:∀ x∈o.opds,Q6 env x=Q6 af x):vop S o env U K=vop S o af U K:=by
 cases o
 case callF f bQ =>
  have:bQ.map (Q6 env)=bQ.map (Q6 af):=xr h;simp only[vop,this]
 case callV f bQ =>
  have h1:Q6 env f=Q6 af f:=h f (by simp[VOp.opds]);have h2:bQ.map (Q6 env)=bQ.map (Q6 af):=xr λx hx=>h x (by simp[VOp.opds,hx]);simp only[vop,h1,h2]
 case ext o =>
  by_cases hx:∃ x,o=.nextMap x
  .obtain⟨x,rfl⟩:=hx;have h1:Q6 env x=Q6 af x:=h x (by simp[VOp.opds,XOp.opds]);simp only[vop,h1]
  .have e1:=B8 (U:=U) h;cases o<;>first|exact absurd ⟨_,rfl⟩ hx|(simp only[vop];rw[e1])
 all_goals
  have e1:=B8 (U:=U) h;simp only[vop];rw[e1]
theorem Heap.Le.refl (U:Heap):U.Le U:=⟨ze _,λ_ _ h=>h⟩
theorem Heap.Le.trans {U U' aH:Heap}(h:U.Le U') (k:U'.Le aH):U.Le aH:=⟨x4 h.1 k.1,λi b hb=>k.2 i b (h.2 i b hb)⟩
theorem Z3n {U U':Heap}(h:U.Le U') {esz:Nat}{v:Value}{xs:List Value}(hx:U.sl esz v=some xs):U'.sl esz v=some xs:=by
 unfold Heap.sl at hx |-;split at hx
 .exact hx
 .rename_i i o n c;split at hx
  .rename_i cs e wr t hb;simp only[h.2 i _ hb];exact hx
  .cases hx
 .cases hx
theorem Se {U U':Heap}(h:U.Le U') {m:Nat}{x:List JD×Nat×Bool}(hx:U.mapAt m=some x):U'.mapAt m=some x:=by
 unfold Heap.mapAt at hx |-;split at hx
 .rename_i es clock wr hb;simp only[h.2 m _ hb];exact hx
 .cases hx
theorem Ey {U U':Heap}(h:U.Le U') {kd:Nat}{a b:Value}{r:Bool}(hx:Jp kd a b U=some r):Jp kd a b U'=some r:=by
 unfold Jp at hx |-
 split at hx<;>first
  |exact hx
  |(cases hx;done)
  |skip
 rename_i i o j q;split at hx
 .rename_i hc;obtain⟨h1,h2,h3⟩:=hc;obtain⟨b,hb⟩:=Option.isSome_iff_exists.1 h3;rw[z7 ⟨h1,h2,by rw[h.2 _ _ hb];rfl⟩];exact hx
 .cases hx
theorem Lm {neg:Bool}{s:List MK}{x y:Operand}{ev:Operand->Value}{U U' σ1:Heap}{v:Value}(h:ZA (.eqAgg neg s x y) ev U=some (v,σ1)):ZA (.eqAgg neg s x y) ev U'=some (v,U'):=by
 simp only[ZA] at h |-;split at h
 .split at h
  .rename_i hc;rw[z7 hc];simp at h;obtain⟨rfl,_⟩:=h;rfl
  .cases h
 .cases h
theorem IA {o:XOp}{ev:Operand->Value}{U U' σ1:Heap}{v:Value}(hk:(VOp.ext o).kind≠2) (h:ZA o ev U=some (v,σ1)) (hl:U.Le U'):ZA o ev U'=some (v,U'):=by
 cases o<;>simp only[VOp.kind,VOp.quiet,XOp.quiet] at hk<;>try (exact absurd rfl hk)
 case eqAgg neg s x y=>exact Lm h
 case eqNil kd neg x y =>
  simp only[ZA] at h |-;split at h
  .rename_i r hr;rw[Ey hl hr];simp at h;obtain⟨rfl,_⟩:=h;rfl
  .cases h
 case lookup mk z ok x i =>
  simp only[ZA] at h |-;split at h
  .rename_i bR;rw[z7 bR];split at h
   .simp at h;obtain⟨rfl,_⟩:=h;rfl
   .rename_i m vK;split at h
    .rename_i es clock wr hm;simp only[Se hl hm];split at h
     .rename_i ae;rw[z7 ae];split at h<;>(rename_i hf;simp at h;obtain⟨rfl,_⟩:=h;rfl)
     .cases h
    .cases h
   .cases h
  .cases h
 case lenMap x =>
  simp only[ZA] at h |-;split at h
  .simp at h;obtain⟨rfl,_⟩:=h;rfl
  .split at h
   .rename_i es clock wr hm;simp only[Se hl hm];simp at h;obtain⟨rfl,_⟩:=h;rfl
   .cases h
  .cases h
 case entry x =>
  simp only[ZA] at h |-;split at h
  .rename_i i hx;split at h
   .rename_i m since seen last wr hb;simp only[hl.2 i _ hb];split at h
    .rename_i es clock lF b hm dU;simp only[Se hl hm,dU];split at h
     .rename_i cq;rw[z7 cq];split at h
      .rename_i e hf;split at h
       .rename_i hp;rw[z7 hp];simp at h;obtain⟨rfl,_⟩:=h;rfl
       .cases h
      .cases h
     .cases h
    .cases h
   .cases h
  .cases h
 case toUnsafe x =>
  simp only[ZA] at h |-;split at h
  .simp at h;obtain⟨rfl,_⟩:=h;rfl
  .rename_i i o hx;split at h
   .rename_i c e wr t hb;simp only[hl.2 i _ hb];split at h
    .rename_i hc;rw[z7 hc];simp at h;obtain⟨rfl,_⟩:=h;rfl
    .cases h
   .cases h
  .cases h
 case fromUnsafe u sz x =>
  simp only[ZA] at h |-;split at h
  .simp at h;obtain⟨rfl,_⟩:=h;rfl
  .rename_i i o hx;split at h
   .rename_i c e hb;simp only[hl.2 i _ hb];split at h
    .rename_i hc;rw[z7 hc];simp at h;obtain⟨rfl,_⟩:=h;rfl
    .cases h
   .cases h
  .cases h
 case sliceData x =>
  simp only[ZA] at h |-;split at h
  .simp at h;obtain⟨rfl,_⟩:=h;rfl
  .rename_i i o n cap hx;split at h
   .rename_i hc;obtain⟨h1,h2⟩:=hc;obtain⟨b,hb⟩:=Option.isSome_iff_exists.1 h2;rw[z7 ⟨h1,by rw[hl.2 _ _ hb];rfl⟩];simp at h;obtain⟨rfl,_⟩:=h;rfl
   .cases h
  .cases h
 case bytesStr x =>
  simp only[ZA] at h |-;split at h
  .rename_i a n c hx;split at h
   .rename_i xs bE;simp only[Z3n hl bE];split at h
    .rename_i s hs;simp at h;obtain⟨rfl,_⟩:=h;rfl
    .cases h
   .cases h
  .cases h
theorem Pd {o:VOp}{ev:Operand -> Value}{U U' σ1:Heap}{v:Value}(hk:o.kind = 0) (h:Qb o ev U = some (v, σ1)):Qb o ev U' = some (v, U'):=by
  cases o
  case ext o =>
    cases o <;> first | (simp [VOp.kind, VOp.quiet, XOp.quiet] at hk; done) | skip
    case eqAgg neg s x y => exact Lm h
  case slice size x lo hi mx => cases mx <;> simp [VOp.kind, VOp.quiet] at hk
  case build z ps =>
    simp only [Qb] at h |-;split at h
    . simp at h; obtain ⟨rfl, _⟩:=h; rfl
    . cases h
  all_goals first
    | (simp [VOp.kind, VOp.quiet] at hk; done)
    | skip
  all_goals
    simp only [Qb] at h |-
    (repeat' split at h) <;> first
      | (cases h; done)
      | (rename_i qk; obtain ⟨rfl, rfl, rfl⟩:=qk; simp_all; done)
      | (simp_all; done)
      | (simp_all
         obtain ⟨rfl, _⟩:=h
         first
          | rw [z1 (by omega)]
          | rw [z7 (by omega)])
theorem Ps {o:VOp}{ev:Operand->Value}{U U' σ1:Heap}{v:Value}(hk:o.kind≠2) (h:Qb o ev U=some (v,σ1)) (hl:U.Le U'):Qb o ev U'=some (v,U'):=by
 cases o
 case ext o=>exact IA hk h hl
 case load agg size a =>
  simp only[Qb] at h |-;split at h
  .split at h
   .split at h
    .rename_i ae;rw[z7 ae];split at h
     .simp at h;obtain⟨rfl,_⟩:=h;rfl
     .cases h
    .cases h
   .cases h
  .rename_i i o hx;split at h
   .rename_i c e wr t hb;simp only[hl.2 i _ hb];split at h
    .rename_i u hu;simp at h;obtain⟨rfl,_⟩:=h;rfl
    .cases h
   .cases h
  .cases h
 case slice size x lo hi mx =>
  cases mx with
  |some m=>simp[VOp.kind,VOp.quiet] at hk
  |none =>
   simp only[Qb] at h |-;split at h
   .rename_i a n cap hx;split at h
    .rename_i l k eU b9;unfold WM at h |-;split at h
     .rename_i heq;split at h
      .rename_i hc;rw[z7 hc];simp at h;obtain⟨rfl,_⟩:=h;rfl
      .cases h
     .rename_i i o n' aw heq;split at h
      .rename_i c e wr t hb;simp only[hl.2 i _ hb];simp only at h;split at h
       .rename_i hc;rw[z7 hc];simp at h;obtain⟨rfl,_⟩:=h;rfl
       .cases h
      .cases h
     .cases h
    .rename_i hm;cases hm
    .cases h
   .cases h
 all_goals first
  |(exact absurd rfl hk)
  |(exact Pd rfl h)
section
variable {P:Program}{S:VSpecs}{B:Nat}
def EL (lv:List VOper) (env:Env) (tr:Nat->Value) (A:Nat->Bool):Nat->Env
 |0=>env
 |i+1=>if A i then Xk (EL lv env tr A i) ((lv[i]?).bind (·.dst)) (tr i) else EL lv env tr A i
theorem Kw (lv:List VOper) (env:Env) (tr:Nat->Value) (A:Nat->Bool):∀ i,List.length (EL lv env tr A i)=List.length env
 |0=>rfl
 |i+1=>by
  simp only[EL];split
  .rw[ZH];exact Kw lv env tr A i
  .exact Kw lv env tr A i
theorem V0 (lv:List VOper) (env:Env) {tr tr':Nat->Value}{A B:Nat->Bool}:∀ i,(∀ l,l<i->tr l=tr' l)->(∀ l,l<i->A l=B l)->EL lv env tr A i=EL lv env tr' B i
 |0,_,_=>rfl
 |i+1,h,h'=>by simp only[EL];rw[V0 lv env i (λl hl=>h l (by omega)) (λl hl=>h' l (by omega)),h i (by omega),h' i (by omega)]
theorem Km (env:Env) (d:Option Nat) (v:Value) {x:Nat}(h:d≠some x):(Xk env d v)[x]?=env[x]?:=by
 cases d with
 |none=>rfl
 |some d=>simp only[Xk];rw[List.getElem?_set_ne (by rintro rfl;exact h rfl)]
theorem Q8b (lv:List VOper) (env:Env) {tr tr':Nat->Value}{A:Nat->Bool}:∀ i,(∀ l,l<i->A l=true->tr l=tr' l)->EL lv env tr A i=EL lv env tr' A i
 |0,_=>rfl
 |i+1,h=>by
  simp only[EL];rw[Q8b lv env i λl hl hA=>h l (by omega) hA];split
  .rename_i hA;rw[h i (by omega) hA]
  .rfl
theorem Gm (lv:List VOper) (env:Env) (tr:Nat->Value) {A B:Nat->Bool}(x:Nat):∀ i,(∀ l,l<i->(lv[l]?).bind (·.dst)=some x->A l=B l)->(EL lv env tr A i)[x]?=(EL lv env tr B i)[x]?
 |0,_=>rfl
 |i+1,h=>by
  have ih:=Gm lv env tr x i (λl hl hd=>h l (by omega) hd);by_cases hd:(lv[i]?).bind (·.dst)=some x
  .have lM:=h i (by omega) hd;simp only[EL];rw[lM];split
   .rw[hd];simp only[Xk,xH];rw[Kw,Kw];rfl
   .exact ih
  .simp only[EL]
   split<;>split<;>first
    |exact ih
    |(rw[Km _ _ _ hd];exact ih)
    |(rw[Km _ _ _ hd,Km _ _ _ hd];exact ih)
theorem DC (lv:List VOper) (env:Env) (tr:Nat->Value) (j:Nat):∀ i,j<=i->EL lv env tr (λl=>decide (l<j)) i=EL lv env tr (λ_=>true) j
 |0,h=>by
  obtain rfl:j=0:=by omega
  rfl
 |i+1,h=>by
  by_cases hj:j=i+1
  .subst hj;exact V0 lv env _ (λ_ _=>rfl) (λl hl=>by simp[hl])
  .simp only[EL];rw[z1 (by simp;omega)];exact DC lv env tr j i (by omega)
def DFact (S:VSpecs) (d:DInfo) (lv:List VOper) (env:Env) (tr:Nat->Value) (hp:Nat->Heap) (u:Nat) (i:Nat):Prop :=
 ∀ v,lv[i]?=some v->∃ b,Jm (EL lv env tr (λ_=>true) i) v.guard=some b /\
  (b=true->v.op.kind=2->vop S v.op (EL lv env tr (λ_=>true) i) (hp (d.rank i)) (λv' U'=>v'=tr i/\U'=hp (d.rank i+1))) /\
  (b=true->v.op.kind=1->∀ r,d.kmin i<=r->r<=d.kmax i->r<=u->∃ U',Qb v.op (Q6 (EL lv env tr (λ_=>true) i)) (hp r)=some (tr i,U')) /\
  (b=true->v.op.kind≠1->v.op.kind≠2->∃ U',Qb v.op (Q6 (EL lv env tr (λ_=>true) i)) (hp (d.rank i))=some (tr i,U')) /\
  (b=false->tr i=undef/\(v.op.kind=2->hp (d.rank i+1)=hp (d.rank i)))
def Z0d (d:DInfo) (lv:List VOper) (env:Env) (tr:Nat->Value) (i:Nat) (pend:List (Nat×(Heap->Prop))):Prop :=
 ∀ l,l<i->∀ v,lv[l]?=some v->Jm (EL lv env tr (λ_=>true) l) v.guard=some true->v.op.kind=1->d.rank i+1<=d.kmax l->(d.kmax l,Xc v.op (Q6 (EL lv env tr (λ_=>true) l)) (tr l))∈pend
inductive Know (S:VSpecs) (d:DInfo) (lv:List VOper) (env:Env) (K:Env->Heap->Prop):List Nat->Nat->(Nat->Value)->(Nat->Heap)->Prop
 |full {nd:List Nat}{tr:Nat->Value}{hp:Nat->Heap}(hF:∀ l,l<lv.length->l∉nd->DFact S d lv env tr hp (d.rank lv.length) l) (hK:K (EL lv env tr (λ_=>true) lv.length) (hp (d.rank lv.length))):Know S d lv env K nd lv.length tr hp
 |part {nd:List Nat}{i:Nat}{tr:Nat->Value}{hp:Nat->Heap}{v:VOper}(hv:lv[i]?=some v) (hk:v.op.kind=2) (hw:Jm (EL lv env tr (λ_=>true) i) v.guard=some true)
   (hF:∀ l,l<i->l∉nd->DFact S d lv env tr hp (d.rank i) l) (kG:∀ j,i<j->j<lv.length->∃ e u,i<=e/\e<j/\lv[e]?=some u/\((∃ x,u.dst=some x/\∀ v,lv[j]?=some v->x∈KP v)\/(u.op.kind=2/\∀ v,lv[j]?=some v->v.op.kind=2)))
   (R:Value->Heap->Prop) (gv:vop S v.op (EL lv env tr (λ_=>true) i) (hp (d.rank i)) R)
   (I:∀ u U',R u U'->Nat) (T:∀ u U',R u U'->Nat->Value) (H:∀ u U',R u U'->Nat->Heap)
   (hT:∀ u U' h,i<I u U' h/\(∀ l,l<i->T u U' h l=tr l)/\T u U' h i=u/\(∀ r,r<=d.rank i->H u U' h r=hp r)/\H u U' h (d.rank i+1)=U')
   (next:∀ u U' h,Know S d lv env K (i::nd) (I u U' h) (T u U' h) (H u U' h)):Know S d lv env K nd i tr hp
theorem SZ {r:Nat}{U:Heap}:∀ {l:List (Nat×(Heap->Prop))},X5 r U l->∀ c∈l,r<=c.1->c.2 U
 |[],_,_,h=>by cases h
 |x::l,h,c,hc=>by
  rcases zk.1 hc with rfl|hc
  .exact h.1
  .exact SZ h.2 c hc
theorem P7 {op:VOp}{ev:Operand->Value}{v:Value}{Z:Heap}(h:Xc op ev v Z):∃ U',Qb op ev Z=some (v,U'):=by
 unfold Xc at h;cases hv:Qb op ev Z with
 |none=>rw[hv] at h;exact h.elim
 |some q =>rw[hv] at h;have h:q.1=v:=h;exact⟨q.2,by rw[<-h]⟩
theorem DFact.congr {d:DInfo}{lv:List VOper}{env:Env}{tr tr':Nat->Value}{hp bt:Nat->Heap}{u u' l:Nat}(h:DFact S d lv env tr hp u l) (ht:∀ k,k<=l->tr' k=tr k) (hh:∀ r,r<=u->bt r=hp r) (hr:d.rank l<=u) (h2:∀ v,lv[l]?=some v->v.op.kind=2->d.rank l+1<=u)
  (hu:∀ v,lv[l]?=some v->Jm (EL lv env tr (λ_=>true) l) v.guard=some true->v.op.kind=1->∀ r,u<r->r<=u'->r<=d.kmax l->∃ U',Qb v.op (Q6 (EL lv env tr (λ_=>true) l)) (bt r)=some (tr l,U')):DFact S d lv env tr' bt u' l:=by
 intro v hv;obtain⟨b,f1,f2,f3,f4,f5⟩:=h v hv;have e:=V0 lv env (tr:=tr') (tr':=tr) (A:=λ_=>true) (B:=λ_=>true) l (λk hk=>ht k (by omega)) (λ_ _=>rfl);rw[e,ht l (ze _),hh _ hr];refine⟨b,f1,λhb hk=>?_,λhb hk r r1 r2 r3=>?_,f4,λhb=>⟨(f5 hb).1,λhk=>?_⟩⟩
 .rw[hh _ (h2 v hv hk)];exact f2 hb hk
 .rcases zn u r with ah|bG
  .subst hb;exact hu v hv f1 hk r ah r3 r2
  .rw[hh r bG];exact f3 hb hk r r1 r2 bG
 .rw[hh _ (h2 v hv hk)];exact(f5 hb).2 hk
theorem TW:∀ (d:DInfo) (rest:List VOper) (i:Nat) (xs:List Nat),waits xs (d.opers rest i)=true->∀ (k:Nat) (v:VOper),rest[k]?=some v->v.op.kind=2\/(∃ x∈xs,x∈KP v)\/∃ (e:Nat) (u:VOper) (x:Nat),e<k/\rest[e]?=some u/\u.dst=some x/\x∈KP v
 |d,[],i,xs,_,k,v,hv=>by simp at hv
 |d,o::rest,i,xs,h,k,v,hv=>by
  simp only[DInfo.opers,waits,z8,zy,xD,z_] at h;obtain⟨h1,h2⟩:=h;cases k with
  |zero =>
   obtain rfl:o=v:=by simpa using hv
   rcases h1 with h1|⟨x,hx,bE⟩
   .exact .inl h1
   refine .inr (.inl ⟨x,by simpa using bE,?_⟩);simp only[KP,zF] at hx |-;rcases hx with hx|hx
   .exact .inl (.inr hx)
   .exact .inr hx
  |succ k =>
   rcases TW d rest (i+1) _ h2 k v (by simpa using hv) with h3|⟨y,hy,rU⟩|⟨e,u,y,he,hu,hd,hn⟩
   .exact .inl h3
   .rcases zF.1 hy with hy|hy
    .exact .inr (.inr ⟨0,o,y,by omega,rfl,by simpa using hy,rU⟩)
    .exact .inr (.inl ⟨y,hy,rU⟩)
   .exact .inr (.inr ⟨e+1,u,y,by omega,by simpa using hu,hd,hn⟩)
theorem LK (d:DInfo) {i j:Nat}(h:i<=j):d.rank i<=d.rank j:=by
 induction j with
 |zero =>
  obtain rfl:i=0:=by omega
  exact ze _
 |succ j ih =>
  by_cases bN:i=j+1
  .subst bN;exact ze _
  .have:=ih (by omega);simp only[DInfo.rank];split<;>omega
theorem Q8l (d:DInfo) (lv:List VOper) (kH:∀ i v,lv[i]?=some v->d.k i=v.op.kind) (env:Env) (K:Env->Heap->Prop):∀ (rest:List VOper) (i:Nat),i<=lv.length->lv.drop i=rest->∀ (nd:List Nat) (tp:Nat->Value) (hq:Nat->Heap) (pend:List (Nat×(Heap->Prop))),
  (∀ l,l<i->l∉nd->DFact S d lv env tp hq (d.rank i) l)->Z0d d lv env tp i pend ->
  ZE S (d.opers rest i) (EL lv env tp (λ_=>true) i) ((List.range (d.rank i+1)).map hq) (hq (d.rank i)) pend K ->
  ∃ k tr hp,i<=k/\(∀ l,l<i->tr l=tp l)/\(∀ r,r<=d.rank i->hp r=hq r)/\Know S d lv env K nd k tr hp:=by
 intro rest;induction rest with
 |nil =>
  intro i gW hi nd tp hq pend hF hP h;have hl:lv.length<=i:=by simpa using hi
  obtain rfl:i=lv.length:=by omega
  simp only[DInfo.opers,ZE] at h;exact⟨_,tp,hq,ze _,λ_ _=>rfl,λ_ _=>rfl,.full hF h⟩
 |cons v rest ih =>
  intro i gW hi nd tp hq pend hF hP h;have ah:i<lv.length:=by
   rcases zn i lv.length with h'|h'
   .exact h'
   .rw[List.drop_eq_nil_of_le h'] at hi;cases hi
  have hv:lv[i]?=some v:=by have:=congrArg List.head? hi;rw[List.head?_drop] at this;simpa using this
  have dZ:lv.drop (i+1)=rest:=by have:=congrArg List.tail hi;simpa using this
  have hk:=kH i v hv;have fU:v.op.kind=2->d.rank (i+1)=d.rank i+1:=λe=>by simp only[DInfo.rank,hk,e,zI]
  have jq:v.op.kind≠2->d.rank (i+1)=d.rank i:=λe=>by simp only[DInfo.rank,hk,e,if_false]
  have dp:∀ l,l<i->d.rank l<=d.rank i/\∀ w,lv[l]?=some w->w.op.kind=2->d.rank l+1<=d.rank i:=λl hl=>by have h1:=LK d (show l+1<=i by omega);refine⟨by simp only[DInfo.rank] at h1;split at h1<;>omega,λw hw h2=>?_⟩;simp only[DInfo.rank,kH l w hw,h2,zI] at h1;exact h1
  simp only[DInfo.opers,ZE] at h;have hlen:((List.range (d.rank i+1)).map hq).length=d.rank i+1:=by simp
  cases hw:Jm (EL lv env tp (λ_=>true) i) v.guard with
  |none=>rw[hw] at h;exact h.elim
  |some b =>
   rw[hw] at h;obtain⟨ht,hf⟩:=h
   have go:∀ (jv:List Nat) (u:Value) (U':Heap) (bW:List (Nat×(Heap->Prop))),(∀ l,l∈nd->l∈jv) ->
     ZE S (d.opers rest (i+1)) (Xk (EL lv env tp (λ_=>true) i) v.dst u) (if v.op.kind=2 then (List.range (d.rank i+1)).map hq++[U'] else (List.range (d.rank i+1)).map hq) (if v.op.kind=2 then U' else hq (d.rank i)) bW K ->
     (v.op.kind=2->X5 (d.rank i+1) U' pend)->(∀ c∈pend,c∈bW) ->
     (b=true->v.op.kind=1->d.rank i+1<=d.kmax i->(d.kmax i,Xc v.op (Q6 (EL lv env tp (λ_=>true) i)) u)∈bW) ->
     (i∉jv->∀ tr hp,(∀ l,l<i->tr l=tp l)->tr i=u->(∀ r,r<=d.rank i->hp r=hq r)->(v.op.kind=2->hp (d.rank i+1)=U')->DFact S d lv env tr hp (d.rank (i+1)) i) ->
     ∃ k tr hp,i<k/\(∀ l,l<i->tr l=tp l)/\tr i=u/\(∀ r,r<=d.rank i->hp r=hq r)/\(v.op.kind=2->hp (d.rank i+1)=U')/\Know S d lv env K jv k tr hp:=by
    intro jv u U' bW fv h kI eY jx nL;let iu:Nat->Value:=λl=>if l=i then u else tp l
    let cF:Nat->Heap:=λr=>if v.op.kind=2/\r=d.rank i+1 then U' else hq r
    have et:∀ l,l<i->iu l=tp l:=λl hl=>by simp[iu];intro e;omega
    have ei:iu i=u:=by simp[iu]
    have eh:∀ r,r<=d.rank i->cF r=hq r:=λr hr=>by simp only[cF];rw[z1 (by omega)]
    have ql:v.op.kind=2->cF (d.rank i+1)=U':=λav=>by simp[cF,av]
    have e1:EL lv env iu (λ_=>true) (i+1)=Xk (EL lv env tp (λ_=>true) i) v.dst u:=by simp only[EL,zI];rw[V0 lv env (tr:=iu) (tr':=tp) i et (λ_ _=>rfl),hv,ei];rfl
    have e2:(List.range (d.rank (i+1)+1)).map cF=if v.op.kind=2 then (List.range (d.rank i+1)).map hq++[U'] else (List.range (d.rank i+1)).map hq:=by
     simp only[DInfo.rank,hk];split
     .rename_i av;rw[List.range_succ,xI];congr 1
      .exact xr λr hr=>eh r (by have:=zz.1 hr;omega)
      .simp[cF,av]
     .rename_i av;exact xr λr hr=>by simp[cF,av]
    have e3:cF (d.rank (i+1))=if v.op.kind=2 then U' else hq (d.rank i):=by simp only[DInfo.rank,hk];split<;>rename_i av<;>simp[cF,av]
    have tA:∀ l,l<i+1->l∉jv->DFact S d lv env iu cF (d.rank (i+1)) l:=λl hl gw=>by
     by_cases iO:l=i
     .subst iO;exact nL gw iu cF et ei eh ql
     .have iO:l<i:=by omega
      refine (hF l iO λh=>gw (fv l h)).congr (λk hk=>et k (by omega)) eh (dp l iO).1 (dp l iO).2 λw dq lN bp r r1 r2 r3=>?_;by_cases av:v.op.kind=2
      .rw[fU av] at r2;obtain rfl:r=d.rank i+1:=by omega
       rw[ql av];exact P7 (SZ (kI av) _ (hP l iO w dq lN bp (by omega)) (by simpa using r3))
      .rw[jq av] at r2;omega
    have tB:Z0d d lv env iu (i+1) bW:=λl hl w dq lN bp pw=>by
     by_cases iO:l=i
     .subst iO;rw[hv] at dq;obtain rfl:=osj dq;have e:=V0 lv env (tr:=iu) (tr':=tp) (A:=λ_=>true) (B:=λ_=>true) l et (λ_ _=>rfl);rw[e] at lN |-;rw[hw] at lN;obtain rfl:b=true:=by simpa using lN
      rw[ei];exact jx rfl bp (by rw[jq (by omega)] at pw;exact pw)
     .have iO:l<i:=by omega
      have e:=V0 lv env (tr:=iu) (tr':=tp) (A:=λ_=>true) (B:=λ_=>true) l (λk hk=>et k (by omega)) (λ_ _=>rfl);rw[e] at lN |-;rw[et l iO];have hle:d.rank i<=d.rank (i+1):=by simp only[DInfo.rank];split<;>omega
      exact eY _ (hP l iO w dq lN bp (by omega))
    obtain⟨k,tr,hp,k0,k1,k2,k3⟩:=ih (i+1) (by omega) dZ jv iu cF bW tA tB (by rw[e1,e2,e3];exact h);have hle:d.rank i<=d.rank (i+1):=by simp only[DInfo.rank];split<;>omega
    exact⟨k,tr,hp,by omega,λl hl=>by rw[k1 l (by omega),et l hl],by rw[k1 i (by omega),ei],λr hr=>by rw[k2 r (by omega),eh r hr],λav=>by rw[k2 _ (by rw[fU av];exact ze _),ql av],k3⟩
   have weak:∀ {jv:List Nat}{u:Value}{U':Heap},(∃ k tr hp,i<k/\(∀ l,l<i->tr l=tp l)/\tr i=u/\(∀ r,r<=d.rank i->hp r=hq r)/\(v.op.kind=2->hp (d.rank i+1)=U')/\Know S d lv env K jv k tr hp)->∃ k tr hp,i<=k/\(∀ l,l<i->tr l=tp l)/\(∀ r,r<=d.rank i->hp r=hq r)/\Know S d lv env K jv k tr hp:=by rintro jv u U' ⟨k,tr,hp,h0,h1,_,h2,_,h3⟩;exact⟨k,tr,hp,by omega,h1,h2,h3⟩
   have fact:∀ {u:Value}{U':Heap},(b=true->v.op.kind=1->∀ r,d.kmin i<=r->r<=d.rank i->Xc v.op (Q6 (EL lv env tp (λ_=>true) i)) u (hq r))->(b=true->v.op.kind≠1->v.op.kind≠2->∃ aH,Qb v.op (Q6 (EL lv env tp (λ_=>true) i)) (hq (d.rank i))=some (u,aH))->(b=false->u=undef/\(v.op.kind=2->U'=hq (d.rank i)))->(b=true->v.op.kind=2->vop S v.op (EL lv env tp (λ_=>true) i) (hq (d.rank i)) (λv' aH=>v'=u/\aH=U')) ->
     ∀ tr hp,(∀ l,l<i->tr l=tp l)->tr i=u->(∀ r,r<=d.rank i->hp r=hq r)->(v.op.kind=2->hp (d.rank i+1)=U')->DFact S d lv env tr hp (d.rank (i+1)) i:=by
    intro u U' g1 g2 g3 k5 tr hp k1 k2 k3 k4 v' gK;rw[hv] at gK;obtain rfl:=osj gK;have e:=V0 lv env (tr:=tr) (tr':=tp) (A:=λ_=>true) (B:=λ_=>true) i k1 (λ_ _=>rfl);rw[e,k2,k3 _ (ze _)];refine⟨b,hw,λhb av=>by rw[k4 av];exact k5 hb av,λhb bp r r1 r2 r3=>?_,g2,λhb=>⟨(g3 hb).1,λav=>by rw[k4 av];exact(g3 hb).2 av⟩⟩;rw[jq (by omega)] at r3;rw[k3 r r3];exact P7 (g1 hb bp r r1 r3)
   cases b with
   |false =>
    have hf:=hf rfl;by_cases av:v.op.kind=2
    .rw[z7 av] at hf;obtain⟨iL,hf⟩:=hf;exact weak (go nd undef (hq (d.rank i)) pend (λ_ h=>h) (by rw[z7 av,ite_self];exact hf) (λ_=>by rw[hlen] at iL;exact iL) (λ_ h=>h) (λh=>by cases h) (λ_=>fact (λh=>by cases h) (λh=>by cases h) (λ_=>⟨rfl,λ_=>rfl⟩) (λh=>by cases h)))
    .rw[z1 av] at hf;exact weak (go nd undef (hq (d.rank i)) pend (λ_ h=>h) (by rw[z1 av,ite_self];exact hf) (λh=>absurd h av) (λ_ h=>h) (λh=>by cases h) (λ_=>fact (λh=>by cases h) (λh=>by cases h) (λ_=>⟨rfl,λ_=>rfl⟩) (λh=>by cases h)))
   |true =>
    have ht:=ht rfl;by_cases av:v.op.kind=2
    .rw[z7 av] at ht;rw[hlen] at ht;rcases ht with⟨u,U',h1,h2,h3⟩|⟨gY,gv⟩
     .exact weak (go nd u U' pend (λ_ h=>h) (by rw[z7 av,z7 av];exact h3) (λ_=>h2) (λ_ h=>h) (λ_ hk=>by omega) (λ_=>fact (λ_ hk=>by omega) (λ_ _ hk=>absurd av hk) (λh=>by cases h) (λ_ _=>h1)))
     .have nx:∀ u U',(X5 (d.rank i+1) U' pend/\ZE S (d.opers rest (i+1)) (Xk (EL lv env tp (λ_=>true) i) v.dst u) ((List.range (d.rank i+1)).map hq++[U']) U' pend K) ->
        ∃ k tr hp,i<k/\(∀ l,l<i->tr l=tp l)/\tr i=u/\(∀ r,r<=d.rank i->hp r=hq r)/\(v.op.kind=2->hp (d.rank i+1)=U')/\Know S d lv env K (i::nd) k tr hp:=λu U' ⟨h2,h3⟩ =>
       go (i::nd) u U' pend (λ_ h=>zi _ h) (by rw[z7 av,z7 av];exact h3) (λ_=>h2) (λ_ h=>h) (λ_ hk=>by omega) (λh=>absurd zl h)
      refine⟨i,tp,hq,ze _,λ_ _=>rfl,λ_ _=>rfl,.part hv av hw hF (λj hj aO=>?_) _ gv (λu U' h=>(nx u U' h).choose) (λu U' h=>(nx u U' h).choose_spec.choose) (λu U' h=>(nx u U' h).choose_spec.choose_spec.choose) (λu U' h=>?_) (λu U' h=>?_)⟩
      .obtain⟨n,hn⟩:∃ n,j=i+1+n:=⟨j-(i+1),by omega⟩;subst hn;have tC:∀ k w,lv[i+1+k]?=some w->rest[k]?=some w:=λk w dq=>by
        rw[<-dZ,zH];exact dq
       have qm:∀ k w,rest[k]?=some w->lv[i+1+k]?=some w:=λk w dq=>by rw[<-dZ,zH] at dq;exact dq
       have pz:=z6 aO;rcases TW d rest (i+1) _ gY n _ (tC n _ pz) with nM|⟨x,hx,jQ⟩|⟨e,u,x,he,hu,hd,jQ⟩
       .exact⟨i,v,ze _,by omega,hv,.inr ⟨av,λw dq=>by rw[pz] at dq;obtain rfl:=osj dq;exact nM⟩⟩
       .exact⟨i,v,ze _,by omega,hv,.inl ⟨x,by simpa using hx,λw dq=>by rw[pz] at dq;obtain rfl:=osj dq;exact jQ⟩⟩
       .exact⟨i+1+e,u,by omega,by omega,qm e u hu,.inl ⟨x,hd,λw dq=>by rw[pz] at dq;obtain rfl:=osj dq;exact jQ⟩⟩
      .obtain⟨q1,q2,q3,q4,q5,_⟩:=(nx u U' h).choose_spec.choose_spec.choose_spec;exact⟨q1,q2,q3,q4,q5 av⟩
      .exact(nx u U' h).choose_spec.choose_spec.choose_spec.2.2.2.2.2
    .rw[z1 av] at ht;by_cases bp:v.op.kind=1
     .rw[z7 bp] at ht;cases dX:Qb v.op (Q6 (EL lv env tp (λ_=>true) i)) (hq (d.rank i)) with
      |none=>rw[dX] at ht;exact ht.elim
      |some p =>
       rw[dX] at ht;obtain⟨g1,g2⟩:=ht;refine weak (go nd p.1 (hq (d.rank i)) _ (λ_ h=>h) (by rw[z1 av,ite_self];exact g2) (λh=>absurd h av) (λc hc=>?_) (λ_ _ hr=>?_) (λ_=>fact (λ_ _ r tD tE=>?_) (λ_ hk=>absurd bp hk) (λh=>by cases h) (λ_ hk=>absurd hk av)))
       .split
        .exact zi _ hc
        .exact hc
       .rw[z7 (by rw[hlen];exact hr)];simp
       .refine g1 _ ?_;rw[xp];refine⟨r-d.kmin i,?_⟩;rw[zH,zY,List.getElem?_range (by omega)];simp;congr 1;omega
     .rw[z1 bp] at ht;cases dX:Qb v.op (Q6 (EL lv env tp (λ_=>true) i)) (hq (d.rank i)) with
      |none=>rw[dX] at ht;exact ht.elim
      |some p =>rw[dX] at ht;exact weak (go nd p.1 (hq (d.rank i)) pend (λ_ h=>h) (by rw[z1 av,ite_self];exact ht) (λh=>absurd h av) (λ_ h=>h) (λ_ hk=>absurd hk bp) (λ_=>fact (λ_ hk=>absurd hk bp) (λ_ _ _=>⟨p.2,dX⟩) (λh=>by cases h) (λ_ hk=>absurd hk av)))
structure DOk (d:DInfo) (n:Nat):Prop where
 edge:∀ j,j<n->∀ e∈d.ed.getD j [],e<j
 path:∀ j,j<n->∀ i,i<j->d.lt i j=true->∃ e∈d.ed.getD j [],e=i\/(i<e/\d.lt i e=true)
 free:∀ j,j<n->∀ i,i<j->d.lt i j=false->d.touch i j=false/\¬(d.k i=2/\d.k j=2)
 kmin:∀ j,j<n->d.k j=1->(d.kmin j<=d.rank j/\d.rank j<=d.kmax j)/\d.kmax j<=d.rank n/\∀ l,l<n->d.k l=2->((d.lt l j=true<->d.rank l<d.kmin j)/\(d.lt j l=true<->d.kmax j<=d.rank l))
theorem DOk.of {d:DInfo}(h:d.ok=true):DOk d d.ks.length:=by
 have h0:∀ j,j<d.ks.length->d.okE j=true/\d.okP j=true/\d.okK j=true:=λj hj=>by have:=zf.1 h j (zz.2 hj);simpa [z8] using this
 refine⟨λj hj e he=>?_,λj hj i hi ah=>?_,λj hj i hi ah=>?_,λj hj hk=>?_⟩
 .have:=zf.1 (h0 j hj).1 e he;simpa using this
 .have:=zf.1 (h0 j hj).2.1 i (zz.2 hi);simp only[ah,zI,xD,zy,z8,zC,z_] at this;exact this
 .have:=zf.1 (h0 j hj).2.1 i (zz.2 hi);simp[ah] at this;exact⟨this.1,λhk=>this.2.elim (λh=>h hk.1) (λh=>h hk.2)⟩
 .have:=(h0 j hj).2.2;simp only[DInfo.okK,hk,BEq.rfl,xY,Bool.false_or,z8,zC] at this;refine⟨this.1,this.2.1,λl hl av=>?_⟩;have h1:=zf.1 this.2.2 l (zz.2 hl);simp only[av,BEq.rfl,xY,Bool.false_or,z8,z_] at h1;rw[h1.1,h1.2];simp
theorem G2 (d:DInfo) {i j:Nat}(h:i<j) (hk:d.k i=2):d.rank i<d.rank j:=by have:=LK d (show i+1<=j from h);simp only[DInfo.rank,hk,zI] at this;omega
theorem Ub (d:DInfo):∀ j r,r<d.rank j->∃ l,l<j/\d.k l=2/\d.rank l=r
 |0,r,h=>by simp[DInfo.rank] at h
 |j+1,r,h=>by
  simp only[DInfo.rank] at h;split at h
  .rename_i hk;rcases zn r (d.rank j) with h'|h'
   .obtain⟨l,h1,h2⟩:=Ub d j r h';exact⟨l,by omega,h2⟩
   .exact⟨j,by omega,hk,by omega⟩
  .obtain⟨l,h1,h2⟩:=Ub d j r h;exact⟨l,by omega,h2⟩
theorem Nj {d:DInfo}{n:Nat}(hd:DOk d n) {A:Nat->Bool}(hc:∀ j,j<n->A j=true->∀ e∈d.ed.getD j [],A e=true):∀ j,j<n->A j=true->∀ i,i<j->d.lt i j=true->A i=true:=by
 intro j;induction j using Nat.strongRecOn with
 |ind j ih =>
  intro hj hA i hi ah;obtain⟨e,he,h⟩:=hd.path j hj i hi ah;have nN:=hd.edge j hj e he;have gR:=hc j hj hA e he;rcases h with rfl|⟨h1,h2⟩
  .exact gR
  .exact ih e nN (by omega) gR i h1 h2
def cnt (A:Nat->Bool):Nat->Nat
 |0=>0
 |i+1=>cnt A i+if A i then 0 else 1
theorem A8 {A:Nat->Bool}:∀ {n},cnt A n=0->∀ i,i<n->A i=true
 |0,_,i,h=>by omega
 |n+1,hc,i,h=>by
  simp only[cnt] at hc;by_cases hi:i=n
  .subst hi;split at hc
   .assumption
   .omega
  .exact A8 (n:=n) (by omega) i (by omega)
theorem O2 {A B:Nat->Bool}{j:Nat}(hA:A j=false) (hB:B j=true) (h:∀ i,i≠j->A i=B i):∀ n,j<n->cnt A n=cnt B n+1
 |0,hj=>by omega
 |n+1,hj=>by
  simp only[cnt];by_cases aO:j=n
  .subst aO;have:cnt A j=cnt B j:=by
    have key:∀ m,m<=j->cnt A m=cnt B m:=by
     intro m;induction m with
     |zero=>intro _;rfl
     |succ m ih=>intro hm;simp only[cnt];rw[ih (by omega),h m (by omega)]
    exact key j (ze _)
   simp[hA,hB,this]
  .have:=O2 hA hB h n (by omega);rw[h n (by omega)];omega
theorem Q6v (o:VOp):o.kind<=2:=by
 unfold VOp.kind;split<;>try omega
 split<;>omega
theorem Q78 {o:VOp}{env:Env}{U:Heap}{p:Value×Heap}{K:Value->Heap->Prop}(hk:o.kind≠2) (h:Qb o (Q6 env) U=some p) (hK:K p.1 p.2):vop S o env U K:=by
 cases o
 case callF=>exact absurd rfl hk
 case callV=>exact absurd rfl hk
 case ext x =>
  cases x
  case nextMap=>exact absurd rfl hk
  all_goals (simp only[vop];rw[h];exact hK)
 all_goals (simp only[vop];rw[h];exact hK)
theorem GU {o:VOp}{ev:Operand->Value}{U U':Heap}{v:Value}(hk:o.kind≠2) (h:Qb o ev U=some (v,U')):U'=U:=by have:=Ps hk h (Heap.Le.refl U);rw[h] at this;simp at this;exact this
theorem Rq {env af:Env}{g:Option (Nat×Bool)}(h:∀ x b,g=some (x,b)->env[x]?=af[x]?):Jm env g=Jm af g:=by
 cases g with
 |none=>rfl
 |some p =>obtain⟨x,b⟩:=p;simp only[Jm,zd];rw[h x b rfl]
theorem R1 {env af:Env}{x:Operand}(h:∀ t,x=.tmp t->env[t]?=af[t]?):Q6 env x=Q6 af x:=by
 cases x<;>try rfl
 rename_i t;simp only[Q6,zd];rw[h t rfl]
structure DInv (B:Nat) (d:DInfo) (lv:List VOper) (env:Env) (tr:Nat->Value) (hp:Nat->Heap) (ρ0:Plc) (σ0:Heap) (w0:World) (A:Nat->Bool) (a:Act) (w:World):Prop where
 closed:∀ j,j<lv.length->A j=true->∀ e∈d.ed.getD j [],A e=true
 run:∃ m ρ,(∀ l,l<lv.length->d.k l=2->(A l=true<->d.rank l<m))/\m<=d.rank lv.length/\HRel ρ (hp m) w/\LRel ρ (hp m).n (EL lv env tr A lv.length) a.tmps.toList/\Mks B a.defers w/\Ext ρ0 σ0 w0 ρ (hp m) w
structure DLink (P:Program) (ops:Array Oper) (pm:List Nat) (d:DInfo) (lv:List VOper):Prop where
 comp:∀ (p:Nat) (v:VOper),lv[p]?=some v->∃ o,ops[pm.getD p 0]?=some o/\Jn P ops o=some v/\d.k p=v.op.kind
 touch:∀ (i j:Nat) (u v:VOper),lv[i]?=some u->lv[j]?=some v->d.touch i j=false->(∀ x,u.dst=some x->x∉KP v)/\(∀ x,v.dst=some x->x∉KP u)
 size:pm.length=lv.length
theorem DLink.of {ops:Array Oper}{vs:List VOper}(h:ops.toList.mapM (Jn P ops)=some vs) {d0:DInfo}{pm:List Nat}(ki:∀ i∈pm,i<vs.length):DLink P ops pm (CS d0 vs pm) (Vk vs pm):=by
 obtain⟨h1,h2⟩:=Ws _ _ _ h;refine⟨λp v hv=>?_,λi j u v hu hv ht=>?_,by simp[Vk]⟩
 .simp only[Vk,zY,zw] at hv;obtain⟨i,hi,rfl⟩:=hv;have aP:=ki i (zK hi);have nO:i<ops.toList.length:=by omega
  obtain⟨v,hv,hc⟩:=h2 i _ (z6 nO);have hg:vs.getD i default=v:=by simp[zd,hv]
  have hp:pm.getD p 0=i:=by simp[zd,hi]
  refine⟨ops.toList[i],?_,by rw[hg];exact hc,?_⟩
  .rw[hp];simp
  .simp[DInfo.k,CS,Vk,zd,hi]
 .simp only[DInfo.touch,CS,Q3b,zd,zY,hu,hv,x6,Option.getD_some,Bool.or_eq_false_iff] at ht;refine⟨λx hx hm=>?_,λx hx hm=>?_⟩
  .have:=ht.1;rw[hx] at this;simp at this;exact this hm
  .have:=ht.2;rw[hx] at this;simp at this;exact this hm
theorem Ax {v:VOper}{x:Nat}(h:v.dst=some x):x∈KP v:=by simp[KP,h]
theorem AF {v:VOper}{x:Nat}(h:Operand.tmp x∈v.op.opds):x∈KP v:=by refine xE _ (xA _ ?_);exact List.mem_filterMap.2 ⟨_,h,rfl⟩
theorem TN {v:VOper}{x:Nat}{b:Bool}(h:v.guard=some (x,b)):x∈KP v:=by refine xA _ ?_;simp[h]
theorem HE (hS:OkSpecs P S) {ro:Option Nat}{n:Nat}{ops:Array Oper}{pm:List Nat}{d:DInfo}{lv:List VOper}(hl:DLink P ops pm d lv) (hd:DOk d lv.length) {env:Env}{tr:Nat->Value}{hp:Nat->Heap}
  {bd j:Nat}(hF:DFact S d lv env tr hp bd j)
  {Q:Exit->Act->World->Prop}{ρ0:Plc}{σ0:Heap}{w0:World}{A:Nat->Bool}{a:Act}{w:World}(tF:∀ m,(∀ l,l<lv.length->d.k l=2->(A l=true<->d.rank l<m))->m<=d.rank lv.length->m<=bd) (hI:DInv B d lv env tr hp ρ0 σ0 w0 A a w)
  (aO:j<lv.length) (d_:A j=false) (ec:∀ e∈d.ed.getD j [],A e=true) {A':Nat->Bool}(aW:∀ i,A' i=if i=j then true else A i) {K:Act->World->Prop}(hK:∀ a' w',DInv B d lv env tr hp ρ0 σ0 w0 A' a' w'->K a' w'):wpOpIn (FF ro) n P ops Q (pm.getD j 0) K a w:=by
 obtain⟨v,hv⟩:∃ v,lv[j]?=some v:=⟨_,z6 aO⟩;obtain⟨o,ho,hc,hk⟩:=hl.comp j v hv;obtain⟨bP,m,ρ,hm,lO,hH,hL,dD,hE⟩:=hI;have dB:∀ i,i<j->d.lt i j=true->A i=true:=by
  intro i hi ah;obtain⟨e,he,h⟩:=hd.path j aO i hi ah;have nN:=hd.edge j aO e he;have gR:A e=true:=ec e he;rcases h with rfl|⟨h1,h2⟩
  .exact gR
  .exact Nj hd bP e (by omega) gR i h1 h2
 have eP:∀ i,i<lv.length->j<i->d.lt j i=true->A i=false:=by
  intro i hi aN ah;cases hA:A i with
  |false=>rfl
  |true=>rw[Nj hd bP i hi hA j aN ah] at d_;cases d_
 have fD:∀ x,x∈KP v->(EL lv env tr A lv.length)[x]?=(EL lv env tr (λ_=>true) j)[x]?:=by
  intro x hx;rw[<-DC lv env tr j lv.length (by omega)];refine Gm lv env tr x lv.length λl aU bH=>?_;cases bU:lv[l]? with
  |none=>rw[bU] at bH;cases bH
  |some u =>
   rw[bU] at bH;rcases Nat.lt_trichotomy l j with h|h|h
   .have ah:d.lt l j=true:=by
     cases ah:d.lt l j with
     |true=>rfl
     |false=>exact absurd hx ((hl.touch l j u v bU hv (hd.free j aO l h ah).1).1 x bH)
    simp only[h,decide_true];exact dB l h ah
   .subst h;simp only[wD,decide_false];exact d_
   .have ah:d.lt j l=true:=by
     cases ah:d.lt j l with
     |true=>rfl
     |false=>exact absurd hx ((hl.touch j l v u hv bU (hd.free l aU j h ah).1).2 x bH)
    have:¬ l<j:=by omega
    simp only[this,decide_false];exact eP l aU h ah
 obtain⟨b,f1,f2,f3,tG,f4⟩:=hF v hv;have hw:Jm (EL lv env tr A lv.length) v.guard=some b:=by rw[Rq (λx b' hg=>fD x (TN hg))];exact f1
 have jR:∀ x∈v.op.opds,Q6 (EL lv env tr A lv.length) x=Q6 (EL lv env tr (λ_=>true) j) x:=λx hx=>R1 λt ht=>fD t (AF (ht▸hx));obtain⟨dA,bH,bJ⟩:=GI hc hL hw;have du:EL lv env tr A' lv.length=Xk (EL lv env tr A lv.length) v.dst (tr j):=by
  apply x3;intro x;by_cases hx:v.dst=some x
  .have h1:(EL lv env tr A' lv.length)[x]?=(EL lv env tr (λl=>decide (l<j+1)) lv.length)[x]?:=by
    refine Gm lv env tr x lv.length λl aU bA=>?_;rw[aW];by_cases gZ:l=j
    .subst gZ;simp
    .rw[z1 gZ];cases bU:lv[l]? with
     |none=>rw[bU] at bA;cases bA
     |some u =>
      rw[bU] at bA;have jS:=Ax hx;rcases zn l j with h|h
      .have ah:d.lt l j=true:=by
        cases ah:d.lt l j with
        |true=>rfl
        |false=>exact absurd jS ((hl.touch l j u v bU hv (hd.free j aO l h ah).1).1 x bA)
       have:l<j+1:=by omega
       simp only[this,decide_true];exact dB l h ah
      .have h':j<l:=by omega
       have ah:d.lt j l=true:=by
        cases ah:d.lt j l with
        |true=>rfl
        |false=>exact absurd jS ((hl.touch j l v u hv bU (hd.free l aU j h' ah).1).2 x bA)
       have:¬ l<j+1:=by omega
       simp only[this,decide_false];exact eP l aU h' ah
   rw[h1,DC lv env tr (j+1) lv.length (by omega)];simp only[EL,zI,hv,xt,hx,Xk];rw[xH,xH];simp only[zI,Kw]
  .rw[Km _ _ _ hx];refine Gm lv env tr x lv.length λl aU bA=>?_;rw[aW];split
   .rename_i h;subst h;rw[hv] at bA;exact absurd bA hx
   .rfl
 have cB:∀ i,i<lv.length->A' i=true->∀ e∈d.ed.getD i [],A' e=true:=by
  intro i hi hA e he;rw[aW] at hA |-;split
  .rfl
  .by_cases bN:i=j
   .subst bN;exact ec e he
   .rw[z1 bN] at hA;exact bP i hi hA e he
 have kJ:d.k j=2->d.rank j=m:=by
  intro av;have h1:¬ d.rank j<m:=λh=>by rw[(hm j aO av).2 h] at d_;cases d_
  by_cases h2:d.rank j=m
  .exact h2
  .obtain⟨l,gZ,bh,dp⟩:=Ub d j m (by omega);have ah:d.lt l j=true:=by
    cases ah:d.lt l j with
    |true=>rfl
    |false=>exact absurd ⟨bh,av⟩ (hd.free j aO l gZ ah).2
   have:=(hm l (by omega) bh).1 (dB l gZ ah);omega
 have iP:d.k j=2->∀ l,l<lv.length->d.k l=2->(A' l=true<->d.rank l<m+1):=by
  intro av l aU bh;rw[aW];have fw:=kJ av;split
  .rename_i h;subst h;simp;omega
  .rename_i h;rw[hm l aU bh];have:d.rank l≠m:=by
    rcases zn l j with h'|h'
    .have:=G2 d h' bh;omega
    .have:=G2 d (show j<l by omega) av;omega
   omega
 have nP:d.k j≠2->∀ l,l<lv.length->d.k l=2->(A' l=true<->d.rank l<m):=by intro av l aU bh;rw[aW,z1 (by rintro rfl;exact av bh)];exact hm l aU bh
 have jT:d.k j=2->m+1<=d.rank lv.length:=λav=>by have:=G2 d aO av;have:=kJ av;omega
 unfold wpOpIn;simp only[ho];cases b with
 |false =>
  rw[dA,z1 (by simp)];obtain⟨g1,g2⟩:=f4 rfl;refine⟨λf _=>Fk _ _,hK _ _ ⟨cB,?_⟩⟩;by_cases av:d.k j=2
  .have fw:=kJ av;have hh:hp (m+1)=hp m:=by rw[<-fw];exact g2 (hk▸av)
   refine⟨m+1,ρ,iP av,jT av,by rw[hh];exact hH,?_,by rw[Xi];exact dD,by rw[hh];exact hE⟩;rw[hh,du,g1,bH];exact YZ hL JM o.dst
  .refine⟨m,ρ,nP av,lO,hH,?_,by rw[Xi];exact dD,hE⟩;rw[du,g1,bH];exact YZ hL JM o.dst
 |true =>
  rw[dA,z7 rfl];by_cases av:d.k j=2
  .have fw:=kJ av;have g1:=f2 rfl (hk▸av);rw[fw] at g1;rw[<-Ly jR] at g1;refine Vw hS bJ hH hL g1 λc w' ⟨u,ρ',U',⟨hu,hσ⟩,eH,gQ,b6⟩=>hK _ _ ⟨cB,?_⟩;subst hu;subst hσ;refine⟨m+1,ρ',iP av,jT av,gQ,?_,by rw[Xi];exact dD.ext hH b6,hE.trans b6⟩;rw[du,bH];exact YZ (b6.lrel hL) eH o.dst
  .have g2:∃ σ1,Qb v.op (Q6 (EL lv env tr A lv.length)) (hp m)=some (tr j,σ1):=by
    rw[B8 jR];by_cases bp:d.k j=1
    .obtain⟨⟨k1,k4⟩,k3,k2⟩:=hd.kmin j aO bp;refine f3 rfl (hk▸bp) m ?_ ?_ (tF m hm lO)
     .rcases zn m (d.kmin j) with h|h
      .obtain⟨l,aU,bh,dp⟩:=Ub d j m (by omega);have ah:=(k2 l (by omega) bh).1.2 (by omega);have:=(hm l (by omega) bh).1 (dB l aU ah);omega
      .exact h
     .rcases zn (d.kmax j) m with h|h
      .obtain⟨l,aU,bh,dp⟩:=Ub d lv.length (d.kmax j) (by omega);have ah:=(k2 l aU bh).2.2 (by omega);have kK:=(hm l aU bh).2 (by omega);rcases Nat.lt_trichotomy j l with h'|h'|h'
       .rw[eP l aU h' ah] at kK;cases kK
       .subst h';omega
       .exfalso;have fU:d.rank l<d.rank j:=G2 d h' bh;omega
      .exact h
    .have ju:v.op.kind=0:=by
      have h2:v.op.kind<=2:=Q6v v.op;omega
     obtain⟨σ1,g1⟩:=tG rfl (by omega) (by omega);exact⟨hp m,Pd ju g1⟩
   obtain⟨σ1,g2⟩:=g2;have hq:=GU (hk▸av) g2;subst hq;refine Vw hS (K:=λv' U'=>v'=tr j/\U'=hp m) bJ hH hL (Q78 (hk▸av) g2 ⟨rfl,rfl⟩) λc w' ⟨u,ρ',U',⟨hu,hσ⟩,eH,gQ,b6⟩=>hK _ _ ⟨cB,?_⟩;subst hu;subst hσ;refine⟨m,ρ',nP av,lO,gQ,?_,by rw[Xi];exact dD.ext hH b6,hE.trans b6⟩;rw[du,bH];exact YZ (b6.lrel hL) eH o.dst
theorem CU (hS:OkSpecs P S) {ro:Option Nat}{n:Nat}{ops:Array Oper}{pm:List Nat}{d:DInfo}{lv:List VOper}(hl:DLink P ops pm d lv) (hd:DOk d lv.length) {env:Env}{tr:Nat->Value}{hp:Nat->Heap}
  {j:Nat}{v:VOper}(hv:lv[j]?=some v) (qn:v.op.kind=2) (tH:Jm (EL lv env tr (λ_=>true) j) v.guard=some true) {R:Value->Heap->Prop}(gv:vop S v.op (EL lv env tr (λ_=>true) j) (hp (d.rank j)) R)
  {Q:Exit->Act->World->Prop}{ρ0:Plc}{σ0:Heap}{w0:World}{A:Nat->Bool}{a:Act}{w:World}(hI:DInv B d lv env tr hp ρ0 σ0 w0 A a w) (nQ:∀ l,j<=l->l<lv.length->A l=false)
  (aO:j<lv.length) (d_:A j=false) (ec:∀ e∈d.ed.getD j [],A e=true) {A':Nat->Bool}(aW:∀ i,A' i=if i=j then true else A i) {K:Act->World->Prop}
  (hK:∀ u U' a' w',R u U'->(∀ tr' bt,(∀ l,l<j->tr' l=tr l)->tr' j=u->(∀ r,r<=d.rank j->bt r=hp r)->bt (d.rank j+1)=U'->DInv B d lv env tr' bt ρ0 σ0 w0 A' a' w')->K a' w'):wpOpIn (FF ro) n P ops Q (pm.getD j 0) K a w:=by
 obtain⟨o,ho,hc,hk⟩:=hl.comp j v hv;obtain⟨bP,m,ρ,hm,lO,hH,hL,dD,hE⟩:=hI;have dB:∀ i,i<j->d.lt i j=true->A i=true:=by
  intro i hi ah;obtain⟨e,he,h⟩:=hd.path j aO i hi ah;have nN:=hd.edge j aO e he;have gR:A e=true:=ec e he;rcases h with rfl|⟨h1,h2⟩
  .exact gR
  .exact Nj hd bP e (by omega) gR i h1 h2
 have eP:∀ i,i<lv.length->j<i->d.lt j i=true->A i=false:=by
  intro i hi aN ah;cases hA:A i with
  |false=>rfl
  |true=>rw[Nj hd bP i hi hA j aN ah] at d_;cases d_
 have fD:∀ x,x∈KP v->(EL lv env tr A lv.length)[x]?=(EL lv env tr (λ_=>true) j)[x]?:=by
  intro x hx;rw[<-DC lv env tr j lv.length (by omega)];refine Gm lv env tr x lv.length λl aU bH=>?_;cases bU:lv[l]? with
  |none=>rw[bU] at bH;cases bH
  |some u =>
   rw[bU] at bH;rcases Nat.lt_trichotomy l j with h|h|h
   .have ah:d.lt l j=true:=by
     cases ah:d.lt l j with
     |true=>rfl
     |false=>exact absurd hx ((hl.touch l j u v bU hv (hd.free j aO l h ah).1).1 x bH)
    simp only[h,decide_true];exact dB l h ah
   .subst h;simp only[wD,decide_false];exact d_
   .have ah:d.lt j l=true:=by
     cases ah:d.lt j l with
     |true=>rfl
     |false=>exact absurd hx ((hl.touch j l v u hv bU (hd.free l aU j h ah).1).2 x bH)
    have:¬ l<j:=by omega
    simp only[this,decide_false];exact eP l aU h ah
 have hw:Jm (EL lv env tr A lv.length) v.guard=some true:=by rw[Rq (λx b' hg=>fD x (TN hg))];exact tH
 have jR:∀ x∈v.op.opds,Q6 (EL lv env tr A lv.length) x=Q6 (EL lv env tr (λ_=>true) j) x:=λx hx=>R1 λt ht=>fD t (AF (ht▸hx));obtain⟨dA,bH,bJ⟩:=GI hc hL hw;have du:∀ tr:Nat->Value,EL lv env tr A' lv.length=Xk (EL lv env tr A lv.length) v.dst (tr j):=λtr=>by
  apply x3;intro x;by_cases hx:v.dst=some x
  .have h1:(EL lv env tr A' lv.length)[x]?=(EL lv env tr (λl=>decide (l<j+1)) lv.length)[x]?:=by
    refine Gm lv env tr x lv.length λl aU bA=>?_;rw[aW];by_cases gZ:l=j
    .subst gZ;simp
    .rw[z1 gZ];cases bU:lv[l]? with
     |none=>rw[bU] at bA;cases bA
     |some u =>
      rw[bU] at bA;have jS:=Ax hx;rcases zn l j with h|h
      .have ah:d.lt l j=true:=by
        cases ah:d.lt l j with
        |true=>rfl
        |false=>exact absurd jS ((hl.touch l j u v bU hv (hd.free j aO l h ah).1).1 x bA)
       have:l<j+1:=by omega
       simp only[this,decide_true];exact dB l h ah
      .have h':j<l:=by omega
       have ah:d.lt j l=true:=by
        cases ah:d.lt j l with
        |true=>rfl
        |false=>exact absurd jS ((hl.touch j l v u hv bU (hd.free l aU j h' ah).1).2 x bA)
       have:¬ l<j+1:=by omega
       simp only[this,decide_false];exact eP l aU h' ah
   rw[h1,DC lv env tr (j+1) lv.length (by omega)];simp only[EL,zI,hv,xt,hx,Xk];rw[xH,xH];simp only[zI,Kw]
  .rw[Km _ _ _ hx];refine Gm lv env tr x lv.length λl aU bA=>?_;rw[aW];split
   .rename_i h;subst h;rw[hv] at bA;exact absurd bA hx
   .rfl
 have cB:∀ i,i<lv.length->A' i=true->∀ e∈d.ed.getD i [],A' e=true:=by
  intro i hi hA e he;rw[aW] at hA |-;split
  .rfl
  .by_cases bN:i=j
   .subst bN;exact ec e he
   .rw[z1 bN] at hA;exact bP i hi hA e he
 have kJ:d.k j=2->d.rank j=m:=by
  intro av;have h1:¬ d.rank j<m:=λh=>by rw[(hm j aO av).2 h] at d_;cases d_
  by_cases h2:d.rank j=m
  .exact h2
  .obtain⟨l,gZ,bh,dp⟩:=Ub d j m (by omega);have ah:d.lt l j=true:=by
    cases ah:d.lt l j with
    |true=>rfl
    |false=>exact absurd ⟨bh,av⟩ (hd.free j aO l gZ ah).2
   have:=(hm l (by omega) bh).1 (dB l gZ ah);omega
 have iP:d.k j=2->∀ l,l<lv.length->d.k l=2->(A' l=true<->d.rank l<m+1):=by
  intro av l aU bh;rw[aW];have fw:=kJ av;split
  .rename_i h;subst h;simp;omega
  .rename_i h;rw[hm l aU bh];have:d.rank l≠m:=by
    rcases zn l j with h'|h'
    .have:=G2 d h' bh;omega
    .have:=G2 d (show j<l by omega) av;omega
   omega
 have nP:d.k j≠2->∀ l,l<lv.length->d.k l=2->(A' l=true<->d.rank l<m):=by intro av l aU bh;rw[aW,z1 (by rintro rfl;exact av bh)];exact hm l aU bh
 have jT:d.k j=2->m+1<=d.rank lv.length:=λav=>by have:=G2 d aO av;have:=kJ av;omega
 unfold wpOpIn;simp only[ho];rw[dA,z7 rfl];have av:d.k j=2:=hk.trans qn;have fw:=kJ av;rw[fw,<-Ly jR] at gv;refine Vw hS bJ hH hL gv λc w' ⟨u,ρ',U',hR,eH,gQ,b6⟩=>hK u U' _ _ hR λtr' bt t1 t2 t3 t4=>⟨cB,m+1,ρ',iP av,jT av,?_,?_,?_,?_⟩
 .rw[<-fw,t4];exact gQ
 .have e0:EL lv env tr' A lv.length=EL lv env tr A lv.length:=Q8b lv env lv.length λl aU hA=>t1 l (by
   rcases zn l j with h|h
   .exact h
   .rw[nQ l h aU] at hA;cases hA)
  rw[<-fw,t4,du tr',e0,bH,t2];exact YZ (b6.lrel hL) eH o.dst
 .rw[Xi];exact dD.ext hH b6
 .rw[<-fw,t4];exact hE.trans b6
theorem Z61 {ops:Array Oper}{pm:List Nat}{d:DInfo}{lv:List VOper}(_hl:DLink P ops pm d lv) {env:Env}{tr:Nat->Value}{hp:Nat->Heap}{ρ0:Plc}{σ0:Heap}{w0:World}{A:Nat->Bool}{a:Act}{w:World}
  (hI:DInv B d lv env tr hp ρ0 σ0 w0 A a w) (ae:∀ j,j<lv.length->A j=true):BX B (List.length env) ρ0 σ0 w0 (λaf U'=>af=EL lv env tr (λ_=>true) lv.length/\U'=hp (d.rank lv.length)) a w:=by
 obtain⟨bP,m,ρ,hm,lO,hH,hL,dD,hE⟩:=hI;have fE:m=d.rank lv.length:=by
  rcases zn m (d.rank lv.length) with h|h
  .obtain⟨l,h1,h2,h3⟩:=Ub d _ _ h;have:=(hm l h1 h2).1 (ae l h1);omega
  .omega
 subst fE;have e:=V0 lv env (tr:=tr) (tr':=tr) (A:=A) (B:=λ_=>true) lv.length (λ_ _=>rfl) (λl hl=>ae l hl);exact⟨_,ρ,_,⟨rfl,rfl⟩,Kw _ _ _ _ _,hH,by rw[<-e];exact hL,dD,hE⟩
def Ir (pm:List Nat) (d:DInfo) (n:Nat):(Nat->Bool)->List Nat->Prop
 |A,[]=>∀ p,p<n->A p=true
 |A,j::rest=>∃ p,p<n/\pm.getD p 0=j/\A p=false/\(∀ e∈d.ed.getD p [],A e=true)/\Ir pm d n (λq=>if q=p then true else A q) rest
theorem Fu (hS:OkSpecs P S) {ro:Option Nat}{n:Nat}{ops:Array Oper}{pm:List Nat}{d:DInfo}{lv:List VOper}(hl:DLink P ops pm d lv) (hd:DOk d lv.length) {env:Env}{K:Env->Heap->Prop}
  {Q:Exit->Act->World->Prop}{ρ0:Plc}{σ0:Heap}{w0:World}{l2:List Nat}(hQ:∀ a w,BX B (List.length env) ρ0 σ0 w0 K a w->wpOpsIn (FF ro) n P ops Q l2 a w) {nd:List Nat}{i:Nat}{tr:Nat->Value}{hp:Nat->Heap}(tI:Know S d lv env K nd i tr hp) :
  ∀ (l:List Nat) (A:Nat->Bool) (a:Act) (w:World),Ir pm d lv.length A l->DInv B d lv env tr hp ρ0 σ0 w0 A a w->(∀ j,i<=j->j<lv.length->A j=false)->(∀ j,j∈nd->j<lv.length->A j=true)->wpOpsIn (FF ro) n P ops Q (l++l2) a w:=by
 induction tI with
 |full hF hK =>
  intro l;induction l with
  |nil =>intro A a w hs hI _ _;obtain⟨af,ρ',U',⟨e1,e2⟩,n1⟩:=Z61 hl hI hs;exact hQ a w ⟨af,ρ',U',by rw[e1,e2];exact hK,n1⟩
  |cons j rest ih =>
   intro A a w hs hI hA hN;obtain⟨p,bt,rfl,kL,he,a8⟩:=hs;rw[xF,wpOpsIn_cons];refine HE hS hl hd (hF p bt λh=>?_) (λm _ h=>h) hI bt kL he (λ_=>rfl) λa' w' nR=>ih _ a' w' a8 nR (λj h1 h2=>by omega) (λj hj dN=>?_)
   .rw[hN p h bt] at kL;cases kL
   .split
    .rfl
    .exact hN j hj dN
 |part hv hk hw hF kG R gv I T H hT next pA =>
  rename_i nd i tr hp v;have aP:i<lv.length:=by
   rcases zn i lv.length with h|h
   .exact h
   .rw[zr h] at hv;cases hv
  intro l;induction l with
  |nil =>intro A a w hs hI hA _;have:=hs i aP;rw[hA i (ze _) aP] at this;cases this
  |cons j rest ih =>
   intro A a w hs hI hA hN;obtain⟨p,bt,rfl,kL,he,a8⟩:=hs;rw[xF,wpOpsIn_cons];have kg:d.k i=2:=by obtain⟨_,_,_,h⟩:=hl.comp i v hv;exact h.trans hk
   rcases Nat.lt_trichotomy p i with jy|rfl|jy
   .refine HE hS hl hd (hF p jy λh=>?_) (λm hm _=>?_) hI bt kL he (λ_=>rfl) λa' w' nR=>ih _ a' w' a8 nR (λj h1 h2=>?_) (λj hj dN=>?_)
    .rw[hN p h bt] at kL;cases kL
    .have h1:¬ d.rank i<m:=λh=>by
      have:=(hm i aP kg).2 h;rw[hA i (ze _) aP] at this;cases this
     omega
    .rw[z1 (by omega)];exact hA j h1 h2
    .split
     .rfl
     .exact hN j hj dN
   .refine CU hS hl hd hv hk hw gv hI hA bt kL he (λ_=>rfl) λu U' a' w' hR nR=>?_;obtain⟨q1,q2,q3,q4,q5⟩:=hT u U' hR;refine pA u U' hR _ _ a' w' a8 (nR _ _ q2 q3 q4 q5) (λj h1 h2=>?_) (λj hj dN=>?_)
    .rw[z1 (by omega)];exact hA j (by omega) h2
    .split
     .rfl
     .rename_i az;rcases zk.1 hj with h|h
      .exact absurd h az
      .exact hN j h dN
   .exfalso;obtain⟨e,u,h1,h2,hu,hn⟩:=kG p jy bt;have kI:=z6 bt;have ah:d.lt e p=true:=by
     cases h:d.lt e p with
     |true=>rfl
     |false =>
      rcases hn with⟨x,hx,hn⟩|⟨gN,ef⟩
      .exact absurd (hn _ kI) ((hl.touch e p u _ hu kI (hd.free p bt e h2 h).1).1 x hx)
      .obtain⟨_,_,_,q1⟩:=hl.comp e u hu;obtain⟨_,_,_,q2⟩:=hl.comp p _ kI;exact absurd ⟨q1.trans gN,q2.trans (ef _ kI)⟩ (hd.free p bt e h2 h).2
    have gR:A e=true:=by
     obtain⟨e',rV,h3⟩:=hd.path p bt e h2 ah;have nS:=he e' rV;rcases h3 with rfl|⟨h3,h4⟩
     .exact nS
     .exact Nj hd hI.closed e' (by have:=hd.edge p bt e' rV;omega) nS e h3 h4
    rw[hA e h1 (by omega)] at gR;cases gR
def KR (ops:Array Oper):Array Bool->List Nat->Prop
 |L,[]=>∀ j,j<ops.size->L.getD j false=true
 |L,j::rest=>j∈Region.ready .any ops L/\KR ops (L.setIfInBounds j true) rest
theorem KQ (L:Array Bool) (j i:Nat) (hj:j<L.size):(L.setIfInBounds j true).getD i false=if i=j then true else L.getD i false:=by
 by_cases h:i=j
 .subst h;simp[hj]
 .simp[h,Array.getElem?_setIfInBounds_ne (Ne.symm h)]
theorem Ic {ops:Array Oper}(iQ:∀ (j:Nat) (o:Oper),ops[j]?=some o->∀ e∈BB o,e<j) {L:Array Bool}(hs:L.size=ops.size) (h:Region.ready .any ops L=[]):∀ j,j<ops.size->L.getD j false=true:=by
 intro j;induction j using Nat.strongRecOn with
 |ind j ih =>
  intro hj;cases hA:L.getD j false with
  |true=>rfl
  |false =>
   exfalso;have:j∈Region.ready .any ops L:=by
    refine mem_ready.2 ⟨?_,ops[j],x7 hj,λe he hb=>?_⟩
    .have h1:L.getD j true=L[j]:=by simp[hs,hj]
     have h2:L.getD j false=L[j]:=by simp[hs,hj]
     rw[h1,<-h2];exact hA
    .have:=iQ j ops[j] (x7 hj) e.on (zu.2 ⟨e,zL.2 ⟨by simpa using he,hb⟩,rfl⟩);exact ih _ this (by omega)
   rw[h] at this;cases this
theorem Hk {ops:Array Oper}{L:Array Bool}(hs:L.size=ops.size) {j:Nat}(h:j∈Region.ready .any ops L):j<ops.size/\L.getD j false=false/\∃ o,ops[j]?=some o/\∀ e∈BB o,L.getD e false=true:=by obtain⟨h1,o,ho,h2⟩:=mem_ready.1 h;have aO:j<ops.size:=(xc.1 ho).1;refine⟨aO,by simp[hs,aO] at h1 |-;exact h1,o,ho,λe he=>?_⟩;obtain⟨x,hx,rfl⟩:=zu.1 he;obtain⟨tJ,tK⟩:=zL.1 hx;exact h2 x (by simpa using tJ) tK
theorem Q2f {ops:Array Oper}(iQ:∀ (j:Nat) (o:Oper),ops[j]?=some o->∀ e∈BB o,e<j):∀ (fuel t:Nat) (L:Array Bool),L.size=ops.size->cnt (λi=>L.getD i false) ops.size<=fuel ->
  KR ops L (Region.linearise.go .any ops fuel t L []):=by
 intro fuel;induction fuel with
 |zero =>intro t L hs hc;simp only[Region.linearise.go,List.reverse_nil,KR];exact A8 (by omega)
 |succ fuel ih =>
  intro t L hs hc;simp only[Region.linearise.go]
  change KR ops L (match (Region.ready .any ops L)[t % (Region.ready .any ops L).length]? with
   |some i=>Region.linearise.go .any ops fuel (t / (Region.ready .any ops L).length) (L.setIfInBounds i true) [i]
   |none=>[].reverse)
  cases hi:(Region.ready .any ops L)[t % (Region.ready .any ops L).length]? with
  |none =>
   have iR:Region.ready .any ops L=[]:=by
    cases hr:Region.ready .any ops L with
    |nil=>rfl
    |cons x xs =>rw[hr] at hi;have ah:t % (x::xs).length<(x::xs).length:=w5 _ (by simp);simp at hi;simp at ah;omega
   simp only[List.reverse_nil,KR];exact Ic iQ hs iR
  |some i =>
   simp only[];rw[linearise_go_acc,List.reverse_singleton,List.singleton_append];have kM:=zK hi;obtain⟨aP,nT,_⟩:=Hk hs kM;refine⟨kM,ih _ _ (by simp[hs]) ?_⟩;have iS:i<L.size:=by rw[hs];exact aP
   have:=O2 (A:=λi=>L.getD i false) (B:=λk=>(L.setIfInBounds i true).getD k false) (j:=i) nT (by simp only[KQ L i i iS,zI]) (λk hk=>by simp only[KQ L i k iS,z1 hk]) ops.size aP;omega
theorem CD {ops:Array Oper}:∀ (l:List Nat) (L:Array Bool),L.size=ops.size->KR ops L l->l.Nodup/\∀ j,j∈l<->(j<ops.size/\L.getD j false=false):=by
 intro l;induction l with
 |nil=>intro L hs h;exact⟨List.nodup_nil,λj=>⟨λh=>(by cases h),λ⟨h1,h2⟩=>by rw[h j h1] at h2;cases h2⟩⟩
 |cons i l ih =>
  intro L hs h;obtain⟨kM,h'⟩:=h;obtain⟨aP,nT,_⟩:=Hk hs kM;have iS:i<L.size:=by rw[hs];exact aP
  obtain⟨k1,k2⟩:=ih _ (by simp[hs]) h';refine⟨xn.2 ⟨λhm=>?_,k1⟩,λj=>?_⟩
  .have:=((k2 i).1 hm).2;rw[KQ L i i iS,z7 rfl] at this;cases this
  .rw[zk,k2 j,KQ L i j iS];by_cases aN:j=i
   .subst aN;simp[aP,nT]
   .simp[aN]
structure DBase (ops:Array Oper) (d:DInfo):Prop where
 ed:∀ (j:Nat) (o:Oper),ops[j]?=some o->d.ed.getD j []=BB o
 edge:∀ j,j<ops.size->∀ e∈d.ed.getD j [],e<j
 path:∀ j,j<ops.size->∀ i,i<j->d.lt i j=true->∃ e∈d.ed.getD j [],e=i\/(i<e/\d.lt i e=true)
 up:∀ i j,d.lt i j=true->i<j
 size:d.ks.length=ops.size
theorem Ck {ops:Array Oper}{d:DInfo}(hb:DBase ops d) {A:Nat->Bool}(hc:∀ j,j<ops.size->A j=true->∀ e∈d.ed.getD j [],A e=true):∀ j,j<ops.size->A j=true->∀ i,i<j->d.lt i j=true->A i=true:=by
 intro j;induction j using Nat.strongRecOn with
 |ind j ih =>
  intro hj hA i hi ah;obtain⟨e,he,h⟩:=hb.path j hj i hi ah;have nN:=hb.edge j hj e he;have gR:=hc j hj hA e he;rcases h with rfl|⟨h1,h2⟩
  .exact gR
  .exact ih e nN (by omega) gR i h1 h2
theorem Z0v {ops:Array Oper}{d:DInfo}(hb:DBase ops d):∀ (l:List Nat) (L:Array Bool),L.size=ops.size->(∀ j,j<ops.size->L.getD j false=true->∀ e∈d.ed.getD j [],L.getD e false=true)->KR ops L l ->
  l.Pairwise λj i=>d.lt i j=false:=by
 intro l;induction l with
 |nil=>intro L _ _ _;exact List.Pairwise.nil
 |cons j l ih =>
  intro L hs hc h;obtain⟨kM,h'⟩:=h;obtain⟨aP,nT,o,ho,iQ⟩:=Hk hs kM;have iS:j<L.size:=by rw[hs];exact aP
  have cO:∀ k,k<ops.size->(L.setIfInBounds j true).getD k false=true->∀ e∈d.ed.getD k [],(L.setIfInBounds j true).getD e false=true:=by
   intro k hk hA e he;rw[KQ L j e iS];split
   .rfl
   .rw[KQ L j k iS] at hA;split at hA
    .rename_i tL;subst tL;rw[hb.ed _ o ho] at he;exact iQ e he
    .exact hc k hk hA e he
  obtain⟨k1,k2⟩:=CD l _ (by simp[hs]) h';refine List.Pairwise.cons (λi hi=>?_) (ih _ (by simp[hs]) cO h');cases ah:d.lt i j with
  |false=>rfl
  |true =>
   exfalso;have bN:=hb.up i j ah;have hA:(L.setIfInBounds j true).getD j false=true:=by rw[KQ L j j iS,z7 rfl]
   have:=Ck hb cO j aP hA i bN ah;rw[((k2 i).1 hi).2] at this;cases this
theorem Si (lt:Nat->Nat->Bool):∀ (s l:List Nat) (n:Nat),s.Perm l->l.length<=n->s.Pairwise (λj i=>lt i j=false)->s∈exts lt n l:=by
 intro s;induction s with
 |nil =>intro l n hp hn _;have:l=[]:=hp.symm.eq_nil;subst this;cases n<;>simp[exts]
 |cons k s ih =>
  intro l n hp hn hs;have hk:k∈l:=hp.mem_iff.1 (by simp);cases l with
  |nil=>cases hk
  |cons x xs =>
   cases n with
   |zero=>simp at hn
   |succ n =>
    simp only[exts];refine List.mem_flatMap.2 ⟨k,hk,?_⟩;obtain⟨h1,h2⟩:=xU.1 hs;have ae:((x::xs).all λi=>i==k||!lt i k)=true:=by
     refine zf.2 λi hi=>?_;have:i∈k::s:=hp.mem_iff.2 hi;rcases zk.1 this with rfl|h
     .simp
     .simp[h1 i h]
    rw[z7 ae];refine zu.2 ⟨s,ih _ n ?_ ?_ h2,rfl⟩
    .exact(List.cons_perm_iff_perm_erase.1 hp).2
    .rw[List.length_erase_of_mem hk];simp at hn |-;omega
theorem Q21 {j:Nat}:∀ (a a' b b':List Nat),j∉a->j∉a'->a++j::b=a'++j::b'->a=a':=by
 intro a;induction a with
 |nil =>
  intro a' b b' _ h' h;cases a' with
  |nil=>rfl
  |cons x a'=>simp at h;exact absurd h.1 (by rintro rfl;exact h' (by simp))
 |cons x a ih =>
  intro a' b b' h1 h2 h;cases a' with
  |nil=>simp at h;exact absurd h.1 (by rintro rfl;exact h1 (by simp))
  |cons y a' =>simp at h;obtain⟨rfl,h⟩:=h;rw[ih a' b b' (λhm=>h1 (by simp[hm])) (λhm=>h2 (by simp[hm])) h]
theorem Aq {ops:Array Oper}{d:DInfo}(hb:DBase ops d):∀ (l:List Nat) (L:Array Bool),L.size=ops.size->KR ops L l->∀ pre j post,l=pre++j::post->∀ e∈d.ed.getD j [],L.getD e false=true\/e∈pre:=by
 intro l;induction l with
 |nil=>intro L _ _ pre j post h;simp at h
 |cons i l ih =>
  intro L hs h pre j post he e gx;obtain⟨kM,h'⟩:=h;obtain⟨aP,nT,o,ho,iQ⟩:=Hk hs kM;have iS:i<L.size:=by rw[hs];exact aP
  cases pre with
  |nil =>simp at he;obtain⟨rfl,_⟩:=he;rw[hb.ed _ o ho] at gx;exact .inl (iQ e gx)
  |cons x pre =>
   simp at he;obtain⟨rfl,he⟩:=he;rcases ih _ (by simp[hs]) h' pre j post he e gx with h1|h1
   .rw[KQ L i e iS] at h1;split at h1
    .rename_i cE;subst cE;exact .inr (by simp)
    .exact .inl h1
   .exact .inr (by simp[h1])
theorem C9 {d0 d:DInfo}{pm l:List Nat}(N:Nat) (hN:∀ i∈l,i<N) (jx:pm.Nodup) (gw:l.Nodup) (aK:∀ i,i∈pm<->i∈l) (bY:∀ pre j post,l=pre++j::post->∀ e∈d0.ed.getD j [],e∈l->e∈pre)
  (iQ:∀ p,p<pm.length->d.ed.getD p []=Q56 d0 pm p) (hf:pm.filter (λi=>d0.k i==2)=l.filter (λi=>d0.k i==2)) :
  ∀ (post pre:List Nat),l=pre++post->Ir pm d pm.length (λq=>pre.contains (pm.getD q N)) post:=by
 intro post;induction post with
 |nil =>
  intro pre hl p hp;have hm:pm.getD p N∈pm:=by simp[zd,hp]
  have:=(aK _).1 hm;rw[hl,xL] at this;simpa using this
 |cons j post ih =>
  intro pre hl;have cm:j∈l:=by rw[hl];simp
  have fw:=(aK j).2 cm;have hp:pm.idxOf j<pm.length:=List.idxOf_lt_length_of_mem fw;have rW:pm[pm.idxOf j]'hp=j:=List.getElem_idxOf hp;have hg:∀ z,pm.getD (pm.idxOf j) z=j:=λz=>by simp[zd,hp]
  have kN:j∉pre:=λhm=>by rw[hl] at gw;exact(List.nodup_append.1 gw).2.2 j hm j (by simp) rfl
  refine⟨pm.idxOf j,hp,hg 0,by simp only[hg];simpa using kN,λe he=>?_,?_⟩
  .rw[iQ _ hp] at he;rcases zF.1 he with he|he
   .obtain⟨e0,lH,rfl⟩:=zu.1 he;rw[hg] at lH;obtain⟨gP,eX⟩:=zL.1 lH;have eX:e0∈pm:=by simpa using eX
    have tM:pm.idxOf e0<pm.length:=List.idxOf_lt_length_of_mem eX;have:pm.getD (pm.idxOf e0) N=e0:=by simp[zd,tM]
    simp only[this];have:=bY pre j post hl e0 gP ((aK e0).1 eX);simpa using this
   .split at he
    .rename_i av;rw[hg] at av;obtain⟨hq,hk⟩:=zL.1 (List.mem_of_getLast? (Option.mem_toList.1 he));have cF:e<pm.idxOf j:=zz.1 hq;have hel:e<pm.length:=by omega
     have heq:pm.getD e N=pm[e]'hel:=by simp[zd,hel]
     have qo:pm.getD e 0=pm[e]'hel:=by simp[zd,hel]
     rw[qo] at hk;simp only[heq];have dw:pm=pm.take (pm.idxOf j)++j::pm.drop (pm.idxOf j+1):=by conv=>lhs;rw[<-wb (pm.idxOf j) pm,wc hp,rW]
     have qp:j∉pm.take (pm.idxOf j):=by intro hm;have hn:=jx;rw[dw] at hn;exact(List.nodup_append.1 hn).2.2 j hm j (by simp) rfl
     have tN:(pm.take (pm.idxOf j)).filter (λi=>d0.k i==2)++j::(pm.drop (pm.idxOf j+1)).filter (λi=>d0.k i==2)=pre.filter (λi=>d0.k i==2)++j::post.filter (λi=>d0.k i==2):=by have h1:=hf;rw[dw,hl] at h1;simp only[List.filter_append,wF,av,zI] at h1;exact h1
     have:=Q21 _ _ _ _ (λhm=>qp (zL.1 hm).1) (λhm=>kN (zL.1 hm).1) tN;have aP:pm[e]∈(pm.take (pm.idxOf j)).filter (λi=>d0.k i==2):=zL.2 ⟨List.mem_take_iff_getElem.2 ⟨e,by omega,rfl⟩,hk⟩;rw[this] at aP;have:=(zL.1 aP).1;simpa using this
    .cases he
  .have qq:(λq=>if q=pm.idxOf j then true else pre.contains (pm.getD q N))=λq=>(pre++[j]).contains (pm.getD q N):=by
    funext q
    by_cases hq:q=pm.idxOf j
    .subst hq;simp only[zI,hg];simp
    .rw[z1 hq];have az:pm.getD q N≠j:=by
      intro he;rcases zn q pm.length with mQ|mQ
      .have h1:pm[q]=j:=by simpa [zd,mQ] using he
       exact hq ((List.getElem_inj (h₀:=mQ) (h₁:=hp) jx).1 (h1.trans rW.symm))
      .simp[zd,zr mQ] at he;have:=hN j cm;omega
     rw[Bool.eq_iff_iff];simp only[List.contains_iff_mem,zF,zh,az,or_false]
   rw[qq];exact ih (pre++[j]) (by rw[hl];simp)
theorem FG {ops:Array Oper}{vs:List VOper}(h:ops.toList.mapM (Jn P ops)=some vs) (ai:(KA ops.toList vs).okB=true):DBase ops (KA ops.toList vs):=by
 have hlen:vs.length=ops.size:=by have:=(Ws _ _ _ h).1;simpa using this
 have kH:(KA ops.toList vs).ks.length=ops.size:=by simp[KA,hlen]
 have c_:=ai;unfold DInfo.okB at c_;rw[z8,zC] at c_;obtain⟨tO,lB⟩:=c_;have h0:∀ j,j<ops.size->(KA ops.toList vs).okE j=true/\(KA ops.toList vs).an.getD j 0<2 ^ j/\((List.range j).all λi=>!((KA ops.toList vs).lt i j)||((KA ops.toList vs).ed.getD j []).any (λe=>e==i||decide (i<e)&&(KA ops.toList vs).lt i e))=true:=λj hj=>by have:=zf.1 lB j (zz.2 (by rw[kH];exact hj));rw[z8,z8,zC] at this;exact this
 have nU:∀ j,j<ops.size->∀ e∈(KA ops.toList vs).ed.getD j [],e<j:=λj hj e he=>by have:=zf.1 (h0 j hj).1 e he;simpa using this
 refine⟨λj o ho=>by simp[KA,zd,ho],nU,λj hj i hi ah=>?_,λi j ah=>?_,kH⟩
 .have:=zf.1 (h0 j hj).2.2 i (zz.2 hi);simp only[ah,xY,Bool.false_or,xD,zy,z8,zC,z_] at this;exact this
 .rcases zn i j with h|h
  .exact h
  .exfalso;unfold DInfo.lt at ah;rcases zn j ops.size with hj|hj
   .have h1:=(h0 j hj).2.1;have h2:(KA ops.toList vs).an.getD j 0<2 ^ i:=xj h1 (Nat.pow_le_pow_right (by omega) h);rw[Nat.testBit_lt_two_pow h2] at ah;cases ah
   .have:(KA ops.toList vs).an.getD j 0=0:=by
     rw[zd,zr (by rw[tO,kH];exact hj)];rfl
    rw[this,Nat.zero_testBit] at ah;cases ah
theorem AO {t:Nat}:∀ (l:List Nat),l.Pairwise (λj i=>¬ (i<t/\t<=j))->l=l.filter (λi=>decide (i<t))++l.filter (λi=>decide (t<=i))
 |[],_=>rfl
 |x::l,h=>by
  obtain⟨h1,h2⟩:=xU.1 h;have ih:=AO l h2;by_cases hx:x<t
  .have nb:¬ t<=x:=by omega
   simp only[wF,hx,decide_true,zI,nb,decide_false,xF,zD,if_false];rw[<-ih]
  .have nb:t<=x:=by omega
   have iR:l.filter (λi=>decide (i<t))=[]:=List.filter_eq_nil_iff.2 λi hi=>by have:=h1 i hi;simp;omega
   have ae:l.filter (λi=>decide (t<=i))=l:=List.filter_eq_self.2 λi hi=>by have:=h1 i hi;simp;omega
   simp only[wF,hx,decide_false,nb,decide_true,zI,iR,ae];simp
theorem PN (hS:OkSpecs P S) {ro:Option Nat}{n:Nat}{ops:Array Oper}{vs:List VOper}(cH:ops.toList.mapM (Jn P ops)=some vs) {d0:DInfo}(_hb:DBase ops d0) {l l2 idx pm:List Nat}(gw:l.Nodup) (ah:∀ i∈l,i<ops.size) (qs:∀ i,i∈l<->i∈idx)
  (bY:∀ pre j post,l=pre++j::post->∀ e∈d0.ed.getD j [],e∈l->e∈pre) (fE:Z23 d0 vs idx (l.filter λi=>d0.k i==2) pm=true)
  {env:Env}{U:Heap}{K:Env->Heap->Prop}{ρ:Plc}{w:World}{a:Act}(qt:ZE S ((CS d0 vs pm).opers (Vk vs pm) 0) env [U] U [] K) (hH:HRel ρ U w) (hL:LRel ρ U.n env a.tmps.toList) (dD:Mks B a.defers w)
  {Q:Exit->Act->World->Prop}(hQ:∀ a' w',BX B (List.length env) ρ U w K a' w'->wpOpsIn (FF ro) n P ops Q l2 a' w'):wpOpsIn (FF ro) n P ops Q (l++l2) a w:=by
 have mL:vs.length=ops.size:=by have:=(Ws _ _ _ cH).1;simpa using this
 simp only[Z23,z8,zC,zf,List.contains_iff_mem] at fE;obtain⟨m1,m2,m3,m4,m5⟩:=fE;have kO:∀ i,i∈pm<->i∈l:=λi=>by rw[qs i];exact⟨λhi=>m2 i hi,λhi=>m1 i hi⟩
 have jy:∀ i∈pm,i<vs.length:=λi hi=>by have:=ah i ((kO i).1 hi);omega
 have hl:DLink P ops pm (CS d0 vs pm) (Vk vs pm):=DLink.of cH jy;have qu:(Vk vs pm).length=pm.length:=by simp[Vk]
 have kH:(CS d0 vs pm).ks.length=(Vk vs pm).length:=by simp[CS]
 have hd:=DOk.of m5;rw[kH] at hd;have iQ:∀ p,p<pm.length->(CS d0 vs pm).ed.getD p []=Q56 d0 pm p:=λp hp=>by simp[CS,zd,hp]
 have iT:=C9 (d:=CS d0 vs pm) ops.size ah m3 gw kO bY iQ m4 l [] (by simp);have fT:∀ i v,(Vk vs pm)[i]?=some v->(CS d0 vs pm).k i=v.op.kind:=λi v hv=>(hl.comp i v hv).choose_spec.2.2;obtain⟨k,tr,hp,_,_,k2,k3⟩:=Q8l (CS d0 vs pm) (Vk vs pm) fT env K (Vk vs pm) 0 (by omega) rfl [] (λ_=>undef) (λ_=>U) [] (λl hl=>by omega) (λl hl=>by omega) (by simpa [DInfo.rank,EL] using qt);have qv:hp 0=U:=k2 0 (by omega);have nV:(λq=>([]:List Nat).contains (pm.getD q ops.size))=λ_=>false:=by funext q;rfl
 rw[nV] at iT;refine Fu (B:=B) (pm:=pm) hS hl hd hQ k3 l (λ_=>false) a w (by rw[qu];exact iT) ?_ (λ_ _ _=>rfl) (λj hj=>by cases hj) (ρ0:=ρ) (σ0:=U) (w0:=w)
 .refine⟨λj hj hA=>(by cases hA),0,ρ,λl aU hk=>by simp,by omega,by rw[qv];exact hH,?_,dD,by rw[qv];exact Ext.refl _ _ _⟩;have e:EL (Vk vs pm) env tr (λ_=>false) (Vk vs pm).length=env:=by
   have:∀ m,EL (Vk vs pm) env tr (λ_=>false) m=env:=by
    intro m;induction m with
    |zero=>rfl
    |succ m ih=>simp only[EL,zD,if_false];exact ih
   exact this _
  rw[e,qv];exact hL
theorem Rv (d:DInfo):∀ (lv:List VOper) (i:Nat),(∀ v∈lv,v.op.kind≠2)->∀ (env:Env) (U:Heap) (pend:List (Nat×(Heap->Prop))) (K:Env->Heap->Prop),TA S lv env U K->ZE S (d.opers lv i) env [U] U pend K:=by
 intro lv;induction lv with
 |nil=>intro i _ env U pend K h;exact h
 |cons v rest ih =>
  intro i hk env U pend K h;have av:v.op.kind≠2:=hk v (by simp);have dZ:∀ u∈rest,u.op.kind≠2:=λu hu=>hk u (by simp[hu]);simp only[TA] at h;simp only[DInfo.opers,ZE];cases hw:Jm env v.guard with
  |none=>rw[hw] at h;exact h.elim
  |some b =>
   rw[hw] at h;obtain⟨ht,hf⟩:=h;refine⟨λe=>?_,λe=>?_⟩
   .have ht:=ht e;have gp:∃ p,Qb v.op (Q6 env) U=some p/\TA S rest (Xk env v.dst p.1) p.2 K:=by
     have cJ:∀ x:XOp,v.op=.ext x->(∀ y,x≠.nextMap y):=λx hx y hy=>by rw[hx,hy] at av;exact av rfl
     have:=ht;unfold vop at this;split at this
     .rename_i f bQ heq;rw[heq] at av;exact absurd rfl av
     .rename_i f bQ heq;rw[heq] at av;exact absurd rfl av
     .rename_i x heq;rw[heq] at av;exact absurd rfl av
     .cases dX:Qb v.op (Q6 env) U with
      |none=>rw[dX] at this;exact this.elim
      |some p=>rw[dX] at this;exact⟨p,rfl,this⟩
    obtain⟨p,hp,hr⟩:=gp;have hq:p.2=U:=GU av (v:=p.1) (U':=p.2) hp;rw[hq] at hr;rw[z1 av];split
    .rw[hp];refine⟨λZ hτ=>?_,ih (i+1) dZ _ _ _ _ hr⟩;have:Z=U:=by
      have:=List.mem_of_mem_drop hτ;simpa using this
     subst this;show Zf (Qb v.op (Q6 env) Z) _;rw[hp];rfl
    .rw[hp];exact ih (i+1) dZ _ _ _ _ hr
   .rw[z1 av];exact ih (i+1) dZ _ _ _ _ (hf e)
theorem OA (hS:OkSpecs P S) {ro:Option Nat}{n:Nat}{ops:Array Oper}{vs:List VOper}(cH:ops.toList.mapM (Jn P ops)=some vs) {d0:DInfo}(hb:DBase ops d0) (_hk0:∀ i v,vs[i]?=some v->d0.k i=v.op.kind) {s len:Nat}(hlen:0<len) (gO:s+len<=ops.size) {x:DSeg}(hx:Z3o d0 vs s len=some x)
  {l l2:List Nat}(gw:l.Nodup) (aK:∀ i,i∈l<->(s<=i/\i<s+len)) (bY:∀ pre j post,l=pre++j::post->∀ e∈d0.ed.getD j [],e∈l->e∈pre) (iv:l.Pairwise λj i=>d0.lt i j=false)
  {rest:List DSeg}{env:Env}{U:Heap}{K:Env->Heap->Prop}{ρ:Plc}{w:World}{a:Act}(h:Mu S (x::rest) env U K) (hH:HRel ρ U w) (hL:LRel ρ U.n env a.tmps.toList) (dD:Mks B a.defers w)
  {Q:Exit->Act->World->Prop}(hQ:∀ a' w',BX B (List.length env) ρ U w (λenv U=>Mu S rest env U K) a' w'->wpOpsIn (FF ro) n P ops Q l2 a' w'):wpOpsIn (FF ro) n P ops Q (l++l2) a w:=by
 have mL:vs.length=ops.size:=by have:=(Ws _ _ _ cH).1;simpa using this
 unfold Z3o at hx;split at hx
 .rename_i h1;subst h1;obtain rfl:=osj hx;have hs:s<ops.size:=by omega
  have eU:l=[s]:=by
   have hm:∀ i,i∈l<->i=s:=λi=>by rw[aK i];omega
   have hp:l.Perm [s]:=(xN gw (by simp)).2 λi=>by rw[hm i];simp
   exact List.perm_singleton.1 hp
  subst eU;obtain⟨v,hv,hc⟩:=(Ws _ _ _ cH).2 s ops[s] (by simp[hs]);have hg:vs.getD s default=v:=by simp[zd,hv]
  simp only[Mu,hg] at h;simp only[TA] at h;rw[List.singleton_append,wpOpsIn_cons];unfold wpOpIn;rw[x7 hs];simp only;cases hw:Jm env v.guard with
  |none=>rw[hw] at h;exact h.elim
  |some b =>
   rw[hw] at h;obtain⟨ht,hf⟩:=h;obtain⟨dA,bH,bJ⟩:=GI hc hL hw;rw[dA];cases b with
   |false =>rw[z1 (by simp)];refine⟨λf _=>Fk _ _,hQ _ _ ⟨_,ρ,U,hf rfl,ZH _ _ _,hH,by rw[bH];exact YZ hL JM _,by rw[Xi];exact dD,Ext.refl _ _ _⟩⟩
   |true =>rw[z7 rfl];refine Vw hS bJ hH hL (ht rfl) λc w' ⟨u,ρ',U',hK,eH,gQ,hE⟩=>?_;exact hQ _ _ ⟨_,ρ',U',hK,ZH _ _ _,gQ,by rw[bH];exact YZ (hE.lrel hL) eH _,by rw[Xi];exact dD.ext hH hE,hE⟩
 .rename_i gN;simp only at hx;split at hx
  .rename_i hP;obtain rfl:=osj hx;simp only[Mu] at h;have nW:(l.filter λi=>d0.k i==2).Perm ((List.range' s len).filter λi=>d0.k i==2):=by
    refine (List.Perm.filter _ ?_);refine (xN gw List.nodup_range').2 λj=>?_;rw[aK j,List.mem_range'_1]
   have hs:=Si d0.lt _ _ len nW (by
    refine x4 (List.length_filter_le _ _) (by simp)) (iv.filter _)
   have fE:=zf.1 hP _ (zu.2 ⟨_,hs,rfl⟩);have qt:=h _ (zu.2 ⟨_,zu.2 ⟨_,hs,rfl⟩,rfl⟩);exact PN hS cH hb gw (λi hi=>by have:=(aK i).1 hi;omega) (λi=>by rw[aK i,List.mem_range'_1]) bY fE qt hH hL dD (λa' w' hn=>by
    obtain⟨af,ρ',U',⟨aT,σ2,hD,hR⟩,n1,n2,n3,n4,n5⟩:=hn;obtain⟨ρ2,d1,d2,d3⟩:=hD ρ w ρ' w' a'.tmps.toList hH n5 n2 n3;exact hQ a' w' ⟨aT,ρ2,σ2,hR,(d1.1.trans n3.1.symm).trans n1,d2,d1,n4,d3⟩)
  .cases hx
theorem Ex (hS:OkSpecs P S) {ro:Option Nat}{n:Nat}{ops:Array Oper}{vs:List VOper}(cH:ops.toList.mapM (Jn P ops)=some vs) {d0:DInfo}(hb:DBase ops d0) (ju:∀ i v,vs[i]?=some v->d0.k i=v.op.kind)
  {Q:Exit->Act->World->Prop}{K:Env->Heap->Prop}:∀ (f s:Nat) (aR:List DSeg),O5 d0 vs f s=some aR->s<=ops.size->∀ (l:List Nat),l.Nodup->(∀ i,i∈l<->(s<=i/\i<ops.size)) ->
   (∀ pre j post,l=pre++j::post->∀ e∈d0.ed.getD j [],e∈l->e∈pre)->(l.Pairwise λj i=>d0.lt i j=false) ->
   ∀ (env:Env) (U:Heap) (ρ:Plc) (w:World) (a:Act),Mu S aR env U K->HRel ρ U w->LRel ρ U.n env a.tmps.toList->Mks B a.defers w->(∀ a' w',BX B (List.length env) ρ U w K a' w'->Q .normal a' w') ->
   wpOpsIn (FF ro) n P ops Q l a w:=by
 intro f
 have fin:∀ (s:Nat) (aR:List DSeg),s=d0.ks.length->[]=aR->∀ (l:List Nat),(∀ i,i∈l<->(s<=i/\i<ops.size))->∀ (env:Env) (U:Heap) (ρ:Plc) (w:World) (a:Act),Mu S aR env U K->HRel ρ U w->LRel ρ U.n env a.tmps.toList->Mks B a.defers w->(∀ a' w',BX B (List.length env) ρ U w K a' w'->Q .normal a' w') ->
   wpOpsIn (FF ro) n P ops Q l a w:=by
  intro s aR hs eZ l aK env U ρ w a h hH hL dD hQ;subst eZ;have:l=[]:=by
   cases l with
   |nil=>rfl
   |cons x l =>have:=(aK x).1 (by simp);rw[hs,hb.size] at this;omega
  subst this;exact hQ a w ⟨env,ρ,U,h,rfl,hH,hL,dD,Ext.refl _ _ _⟩
 induction f with
 |zero =>
  intro s aR eZ hs l gw aK bY iv env U ρ w a h hH hL dD hQ;simp only[O5] at eZ;split at eZ
  .rename_i he;exact fin s aR he (osj eZ) l aK env U ρ w a h hH hL dD hQ
  .cases eZ
 |succ f ih =>
  intro s aR eZ hs l gw aK bY iv env U ρ w a h hH hL dD hQ;simp only[O5] at eZ;split at eZ
  .rename_i he;exact fin s aR he (osj eZ) l aK env U ρ w a h hH hL dD hQ
  .rename_i az;split at eZ
   .cases eZ
   .rename_i t ht;have qw:=List.find?_some ht;have nX:=List.mem_range'_1.1 (List.mem_of_find?_eq_some ht);rw[hb.size] at nX;split at eZ
    .rename_i x r hx hr;obtain rfl:=osj eZ;have ah:∀ i p,i<t->t<=p->p<ops.size->d0.lt i p=true:=λi p hi hp jx=>by
      have h1:=zf.1 qw p (List.mem_range'_1.2 ⟨hp,by rw[hb.size];omega⟩);exact zf.1 h1 i (zz.2 hi)
     have qx:l.Pairwise (λj i=>¬ (i<t/\t<=j)):=by refine (List.pairwise_iff_forall_sublist.2 λ{j i} eY=>?_);rintro⟨h1,h2⟩;have hj:j∈l:=eY.subset (by simp);have h3:=(List.pairwise_iff_forall_sublist.1 iv) eY;rw[ah i j h1 h2 ((aK j).1 hj).2] at h3;cases h3
     have dw:=AO l qx;have nP:∀ i,i∈l.filter (λi=>decide (i<t))<->(s<=i/\i<s+(t-s)):=λi=>by rw[zL,aK i,zC];omega
     have iP:∀ i,i∈l.filter (λi=>decide (t<=i))<->(t<=i/\i<ops.size):=λi=>by rw[zL,aK i,zC];omega
     rw[dw];refine OA hS cH hb ju (by omega) (by omega) hx (gw.filter _) nP ?_ (iv.filter _) h hH hL dD ?_
     .intro pre j post he e gx hel;refine bY pre j (post++l.filter (λi=>decide (t<=i))) ?_ e gx (zL.1 hel).1;exact dw.trans (by rw[he,xh];rfl)
     .intro a' w' ⟨af,ρ',U',k1,k0,k2,k3,k4,k5⟩;refine ih t r hr (by omega) _ (gw.filter _) iP ?_ (iv.filter _) af U' ρ' w' a' k1 k2 k3 k4 ?_
      .intro pre j post he e gx hel;have:=bY (l.filter (λi=>decide (i<t))++pre) j post (dw.trans (by rw[he,xh])) e gx (zL.1 hel).1;rcases zF.1 this with h1|h1
       .have h2:=(zL.1 h1).2;have h3:=(zL.1 hel).2;simp at h2 h3;omega
       .exact h1
      .intro a2 w2 ⟨aT,ρ2,σ2,m1,m0,m2,m3,m4,m5⟩;exact hQ a2 w2 ⟨aT,ρ2,σ2,m1,m0.trans k0,m2,m3,m4,k5.trans m5⟩
    .cases eZ
theorem E9 (hm:P.follows .mixedOrders=true) (hS:OkSpecs P S) {ro:Option Nat}{n:Nat}{id:Nat}{ops:Array Oper}{vs:List VOper}(cH:ops.toList.mapM (Jn P ops)=some vs) {aR:List DSeg}(ai:Q6s (KA ops.toList vs) vs=some aR)
  {env:Env}{U:Heap}{K:Env->Heap->Prop}{ρ:Plc}{w:World}{a:Act}(h:Mu S aR env U K) (hH:HRel ρ U w) (hL:LRel ρ U.n env a.tmps.toList) (dD:Mks B a.defers w)
  {Q:Exit->Act->World->Prop}(hQ:∀ a' w',BX B (List.length env) ρ U w K a' w'->Q .normal a' w'):(Code.region id ops true).wpIn (FF ro) n P Q a w:=by
 unfold Q6s at ai;split at ai
 .rename_i hB;have hb:=FG cH hB;have fT:∀ i v,vs[i]?=some v->(KA ops.toList vs).k i=v.op.kind:=λi v hv=>by
   simp[DInfo.k,KA,zd,hv]
  generalize qe:KA ops.toList vs=d0 at *
  refine wpIn_region_draw λt=>?_;simp only[Region.schedule,hm,Bool.true_or,zI];have gy:∀ (j:Nat) (o:Oper),ops[j]?=some o->∀ e∈BB o,e<j:=λj o ho e he=>hb.edge j (xc.1 ho).1 e (by rw[hb.ed j o ho];exact he);have ae:∀ i,(Array.replicate ops.size false).getD i false=false:=λi=>by rw[Array.getD_eq_getD_getElem?,Array.getElem?_replicate];split<;>rfl
  have g_:=Q2f gy ops.size t (Array.replicate ops.size false) (by simp) (by
   have:∀ m,cnt (λi=>(Array.replicate ops.size false).getD i false) m<=m:=by
    intro m;induction m with
    |zero=>exact ze _
    |succ m ih=>simp only[cnt];split<;>omega
   exact this _)
  change wpOpsIn _ _ _ _ _ (Region.linearise.go .any ops ops.size t (Array.replicate ops.size false) []) _ _;generalize Region.linearise.go .any ops ops.size t (Array.replicate ops.size false) []=l at *
  obtain⟨fv,aK⟩:=CD l _ (by simp) g_;have iv:=Z0v hb l _ (by simp) (λj _ hA=>by rw[ae] at hA;cases hA) g_;have bY:=Aq hb l _ (by simp) g_;refine Ex hS cH hb fT _ 0 aR ai (by omega) l fv (λi=>by rw[aK i,ae];simp) (λpre j post he e gx _=>?_) iv env U ρ _ a h hH.drew hL (dD.ext hH (Ext.drew _ _ _)) (λa' w' hn=>?_)
  .rcases bY pre j post he e gx with h1|h1
   .rw[ae] at h1;cases h1
   .exact h1
  .obtain⟨af,ρ',U',n0,n1,n2,n3,n4,n5⟩:=hn;exact hQ a' w' ⟨af,ρ',U',n0,n1,n2,n3,n4,(Ext.drew _ _ _).trans n5⟩
 .cases ai
theorem LU (hm:P.follows .mixedOrders=true) (hS:OkSpecs P S) {ro:Option Nat}{n:Nat}{id:Nat}{ops:Array Oper}{vs:List VOper}(cH:ops.toList.mapM (Jn P ops)=some vs) (ai:G6 (KA ops.toList vs) vs=true)
  {env:Env}{U:Heap}{K:Env->Heap->Prop}{ρ:Plc}{w:World}{a:Act}(h:TA S vs env U K) (hH:HRel ρ U w) (hL:LRel ρ U.n env a.tmps.toList) (dD:Mks B a.defers w)
  {Q:Exit->Act->World->Prop}(hQ:∀ a' w',BX B (List.length env) ρ U w K a' w'->Q .normal a' w'):(Code.region id ops true).wpIn (FF ro) n P Q a w:=by
 simp only[G6,z8] at ai;obtain⟨hB,lP,ki⟩:=ai;have hb:=FG cH hB;have mL:vs.length=ops.size:=by have:=(Ws _ _ _ cH).1;simpa using this
 have av:∀ v∈vs,v.op.kind≠2:=λv hv=>by have:=zf.1 lP v hv;simpa using this
 have fT:∀ i v,vs[i]?=some v->(KA ops.toList vs).k i=v.op.kind:=λi v hv=>by simp[DInfo.k,KA,zd,hv]
 generalize qe:KA ops.toList vs=d0 at *
 refine wpIn_region_draw λt=>?_;simp only[Region.schedule,hm,Bool.true_or,zI];have gy:∀ (j:Nat) (o:Oper),ops[j]?=some o->∀ e∈BB o,e<j:=λj o ho e he=>hb.edge j (xc.1 ho).1 e (by rw[hb.ed j o ho];exact he);have ae:∀ i,(Array.replicate ops.size false).getD i false=false:=λi=>by rw[Array.getD_eq_getD_getElem?,Array.getElem?_replicate];split<;>rfl
 have g_:=Q2f gy ops.size t (Array.replicate ops.size false) (by simp) (by
  have:∀ m,cnt (λi=>(Array.replicate ops.size false).getD i false) m<=m:=by
   intro m;induction m with
   |zero=>exact ze _
   |succ m ih=>simp only[cnt];split<;>omega
  exact this _)
 change wpOpsIn _ _ _ _ _ (Region.linearise.go .any ops ops.size t (Array.replicate ops.size false) []) _ _;generalize Region.linearise.go .any ops ops.size t (Array.replicate ops.size false) []=l at *
 obtain⟨fv,aK⟩:=CD l _ (by simp) g_;have bY:=Aq hb l _ (by simp) g_;have ah:∀ i∈l,i<ops.size:=λi hi=>((aK i).1 hi).1;have iR:l.filter (λi=>d0.k i==2)=[]:=List.filter_eq_nil_iff.2 λi hi=>by have aP:=ah i hi;have rX:vs[i]?=some vs[i]:=z6 (by omega);rw[fT i _ rX];simpa using av _ (zK rX)
 have qy:Vk vs (List.range' 0 d0.ks.length)=vs:=by
  apply x3;intro i;unfold Vk;rw[zY];rcases zn i vs.length with hi|hi
  .rw[List.getElem?_range' (by rw[hb.size];omega),z6 hi];simp[zd,hi]
  .rw[zr (by simp[hb.size];omega),zr hi];rfl
 have hd:=Rv (S:=S) (CS d0 vs (List.range' 0 d0.ks.length)) vs 0 av env U [] K h;rw[<-xL l];refine PN hS cH hb fv ah (λi=>by rw[aK i,ae,List.mem_range'_1,hb.size];simp) (λpre j post he e gx _=>?_) (idx:=List.range' 0 d0.ks.length) (pm:=List.range' 0 d0.ks.length) (by rw[iR];exact ki) (by rw[qy];exact hd) hH.drew hL (dD.ext hH (Ext.drew _ _ _)) (λa' w' hn=>?_)
 .rcases bY pre j post he e gx with h1|h1
  .rw[ae] at h1;cases h1
  .exact h1
 .obtain⟨af,ρ',U',n0,n1,n2,n3,n4,n5⟩:=hn;exact hQ a' w' ⟨af,ρ',U',n0,n1,n2,n3,n4,(Ext.drew _ _ _).trans n5⟩
theorem SU (hS:OkSpecs P S) {id:Nat}{ops:Array Oper}{lv:List VOper}(bU:ops.toList.mapM (Jn P ops)=some lv):Sound P S (.region id ops false) (.region lv):=by intro B de ro n Q env U ρ w a h hH hL hd hR Q' hQ;simp only[vwp] at h;refine wpIn_region ?_;rw[List.range_eq_range',<-Array.length_toList,wpOpsIn_eq_wpListIn ops.toList 0 (by simp)];exact Ed hS ops Q' ops.toList lv bU env U _ ρ w a h hH hL hd (λa' w' hn=>hQ .normal a' w' hn)
theorem cond_true {v:Value}{A B:Prop}(h:IH v A B):∃ t,v=.bool t/\(t=true->A)/\(t=false->B):=by
 unfold IH at h;split at h
 .exact⟨_,rfl,h⟩
 .exact h.elim
theorem Em {c:Code}{vc:VCode}(ih:Sound P S c vc):Sound P S (.loop c) (.loop vc):=by
 intro B de ro n Q env U ρ w a h hH hL hd hR Q' hQ;simp only[vwp] at h;obtain⟨live,I,n0,h0,lQ⟩:=h;refine wpIn_loop_ghost (λk a' w'=>BX B (List.length env) ρ U w (λaf U'=>I k (H2 live af) U') a' w') n0 ⟨env,ρ,U,h0,rfl,hH,hL,hd,Ext.refl _ _ _⟩ ?_;rintro k a1 w1 ⟨bC,ρ1,σ1,k1,k0,k2,k3,k4,k5⟩;have hlen:List.length (XP live (H2 live bC) (List.replicate env.length poison))=List.length env:=by rw[RI];simp
 refine ih de ro n _ _ σ1 ρ1 w1 a1 (lQ k (H2 live bC) σ1 k1) k2 (EF live bC _ _ k3 (Eb _ (by rw[<-k3.1,k0]))) k4 (hR.ext k5) _ ?_;rintro e a2 w2 ⟨aT,ρ2,σ2,m1,m0,m2,m3,m4,m5⟩;rw[hlen] at m0;cases e with
 |normal =>obtain⟨n',px,hI⟩:=m1;exact⟨n',px,aT,ρ2,σ2,hI,m0,m2,m3,m4,k5.trans m5⟩
 |_=>exact hQ _ a2 w2 ⟨aT,ρ2,σ2,m1,m0,m2,m3,m4,k5.trans m5⟩
theorem Dv (c:Code):Sound P S c .bad:=by intro B de ro n Q env U ρ w a h;exact h.elim
theorem FA (hm:P.follows .mixedOrders=true) (hS:OkSpecs P S):∀ (c:Code) (vc:VCode),comp P c=some vc->Sound P S c vc:=by
 intro c;induction c with
 |skip =>intro vc hc;simp[comp] at hc;subst hc;intro B de ro n Q env U ρ w a h hH hL hd hR Q' hQ;exact wpIn_skip (hQ _ _ _ ⟨env,ρ,U,h,rfl,hH,hL,hd,Ext.refl _ _ _⟩)
 |region id ops dr =>
  intro vc hc;cases dr with
  |false =>simp only[comp,zT,xd] at hc;obtain⟨lv,bU,hc⟩:=hc;simp at hc;subst hc;exact SU hS bU
  |true =>
   simp only[comp,zT,xd] at hc;obtain⟨lv,bU,hc⟩:=hc;split at hc
   .rename_i ai;simp at hc;subst hc;intro B de ro n Q env U ρ w a h hH hL hd hR Q' hQ;exact LU hm hS bU ai h hH hL hd (λa' w' hn=>hQ .normal a' w' hn)
   split at hc
   .rename_i aR ai;simp at hc;subst hc;intro B de ro n Q env U ρ w a h hH hL hd hR Q' hQ;exact E9 hm hS bU ai h hH hL hd (λa' w' hn=>hQ .normal a' w' hn)
   .simp at hc;subst hc;exact Dv _
 |seq x y jU nY =>
  intro vc hc;simp only[comp,zT,xd] at hc;obtain⟨vx,hx,vy,hy,hc⟩:=hc;simp at hc;subst hc;intro B de ro n Q env U ρ w a h hH hL hd hR Q' hQ;simp only[vwp] at h;refine wpIn_seq (jU vx hx de ro n _ env U ρ w a h hH hL hd hR _ ?_);rintro e a1 w1 ⟨bC,ρ1,σ1,k1,k0,k2,k3,k4,k5⟩;cases e with
  |normal =>refine nY vy hy de ro n _ bC σ1 ρ1 w1 a1 k1 k2 k3 k4 (hR.ext k5) _ ?_;rintro e2 a2 w2 ⟨aT,ρ2,σ2,m1,m0,m2,m3,m4,m5⟩;exact hQ e2 a2 w2 ⟨aT,ρ2,σ2,m1,m0.trans k0,m2,m3,m4,k5.trans m5⟩
  |_=>exact hQ _ a1 w1 ⟨bC,ρ1,σ1,k1,k0,k2,k3,k4,k5⟩
 |cond c x y jU nY =>
  intro vc hc;simp only[comp] at hc;split at hc
  .rename_i ai;simp only[zT,xd] at hc;obtain⟨vx,hx,vy,hy,hc⟩:=hc;simp at hc;subst hc;intro B de ro n Q env U ρ w a h hH hL hd hR Q' hQ;simp only[vwp] at h;obtain⟨t,ht,h1,h2⟩:=cond_true h;have hv:=Wq hL ai;rw[ht] at hv;refine wpIn_cond_split hv.q1c (λe=>?_) (λe=>?_)
   .exact jU vx hx de ro n Q env U ρ w a (h1 e) hH hL hd hR Q' hQ
   .exact nY vy hy de ro n Q env U ρ w a (h2 e) hH hL hd hR Q' hQ
  .simp at hc;subst hc;exact Dv _
 |block id x jU =>
  intro vc hc;simp only[comp,zT,xd] at hc;obtain⟨vx,hx,hc⟩:=hc;simp at hc;subst hc;intro B de ro n Q env U ρ w a h hH hL hd hR Q' hQ;simp only[vwp] at h;refine wpIn_block (jU vx hx de ro n _ env U ρ w a h hH hL hd hR _ ?_);rintro e a1 w1 ⟨bC,ρ1,σ1,k1,k0,k2,k3,k4,k5⟩;cases e with
  |exit iD =>
   simp only[AA] at k1;simp only[Exit.inBlock];split at k1
   .rename_i he;rw[z7 he];exact hQ _ a1 w1 ⟨bC,ρ1,σ1,k1,k0,k2,k3,k4,k5⟩
   .rename_i he;rw[z1 he];exact hQ _ a1 w1 ⟨bC,ρ1,σ1,k1,k0,k2,k3,k4,k5⟩
  |_=>exact hQ _ a1 w1 ⟨bC,ρ1,σ1,k1,k0,k2,k3,k4,k5⟩
 |loop x jU =>intro vc hc;simp only[comp,zT,xd] at hc;obtain⟨vx,hx,hc⟩:=hc;simp at hc;subst hc;exact Em (jU vx hx)
 |rangeFunc g ps x y jU nY =>
  intro vc hc;simp only[comp] at hc;split at hc
  .rename_i ai;simp only[zT,xd] at hc;obtain⟨vx,hx,vy,hy,hc⟩:=hc;simp at hc;subst hc;exact C_ hS (jU vx hx) (nY vy hy) g ai ps
  .simp at hc;subst hc;exact Dv _
 |exit id =>intro vc hc;simp[comp] at hc;subst hc;intro B de ro n Q env U ρ w a h hH hL hd hR Q' hQ;exact wpIn_exit (hQ _ _ _ ⟨env,ρ,U,h,rfl,hH,hL,hd,Ext.refl _ _ _⟩)
 |ret =>intro vc hc;simp[comp] at hc;subst hc;intro B de ro n Q env U ρ w a h hH hL hd hR Q' hQ;exact wpIn_ret (hQ _ _ _ ⟨env,ρ,U,h,rfl,hH,hL,hd,Ext.refl _ _ _⟩)
 |_ =>intro vc hc;simp[comp] at hc;subst hc;exact Dv _
end
end Go.V
namespace Go.V
open Go
inductive Ren (n:Nat) (π:Nat->Nat):Value->Value->Prop
 |plain (v:Value) (h:QM v=true):Ren n π v v
 |poison (c:Value):Ren n π poison c
 |glob (g o s:Nat):Ren n π (.pointer (some ⟨g,o,some s⟩)) (.pointer (some ⟨g,o,some s⟩))
 |ptr (i o:Nat) (hi:i<n):Ren n π (.pointer (some ⟨i,o,none⟩)) (.pointer (some ⟨π i,o,none⟩))
 |sl (i o len cap:Nat) (hi:i<n):Ren n π (.slice (some ⟨i,o,none⟩) len cap) (.slice (some ⟨π i,o,none⟩) len cap)
 |slx (i o len cap:Nat) (hi:i<n):Ren n π (.slice (some ⟨i,o,some 0⟩) len cap) (.slice (some ⟨π i,o,some 0⟩) len cap)
 |map (i:Nat) (hi:i<n):Ren n π (.map (some i)) (.map (some (π i)))
 |iface (t:TypeId) (v c:Value) (h:Ren n π v c):Ren n π (.iface t v) (.iface t c)
 |yield (i:Nat) (hi:i<n):Ren n π (.func (.yield i) #[] #[]) (.func (.yield (π i)) #[] #[])
 |func (fn:FuncId) (fs gs cs ds:Array Value) (hf:fs.size=gs.size) (hc:cs.size=ds.size)
   (h1:∀ i (h1:i<fs.size) (h2:i<gs.size),Ren n π fs[i] gs[i]) (h2:∀ i (h1:i<cs.size) (h2:i<ds.size),Ren n π cs[i] ds[i]):Ren n π (.func (.func fn) fs cs) (.func (.func fn) gs ds)
 |agg (cs ds:Array Value) (hc:cs.size=ds.size) (h:∀ i (h1:i<cs.size) (h2:i<ds.size),Ren n π cs[i] ds[i]):Ren n π (.agg cs) (.agg ds)
 |tuple (cs ds:Array Value) (hc:cs.size=ds.size) (h:∀ i (h1:i<cs.size) (h2:i<ds.size),Ren n π cs[i] ds[i]):Ren n π (.tuple cs) (.tuple ds)
def LRen (n:Nat) (π:Nat->Nat) (vs cs:List Value):Prop:=vs.length=cs.length/\∀ (i:Nat) (v c:Value),vs[i]?=some v->cs[i]?=some c->Ren n π v c
theorem Ren.rel {ρ:Plc}{nf n':Nat}{π:Nat->Nat}{v' v:Value}(h:Ren n' π v' v):∀ {c:Value},VRel ρ nf v c->VRel (λi=>if i<n' then ρ (π i) else none) n' v' c:=by
 induction h with
 |plain v h =>intro c hv;have:c=v:=Y9 h hv;subst this;exact XF h
 |poison c=>intro c _;exact .poison _
 |glob g o s=>intro c hv;cases hv;exact .glob _ _ _
 |ptr i o hi =>intro c hv;obtain⟨a,rfl,_,h⟩:=hv.q1g;exact .ptr _ _ _ hi λp hp=>h p (by simpa [hi] using hp)
 |sl i o len cap hi =>intro c hv;obtain⟨a,aw,rfl,_,h⟩:=hv.q1a;exact .sl _ _ _ _ _ _ hi λp hp=>h p (by simpa [hi] using hp)
 |slx i o len cap hi =>
  intro c hv;cases hv with
  |slx _ _ _ _ a _ h=>exact .slx _ _ _ _ _ hi λp hp=>h p (by simpa [hi] using hp)
 |map i hi =>
  intro c hv;cases hv with
  |map _ r _ h=>exact .map _ _ hi λp hp=>h p (by simpa [hi] using hp)
 |yield i hi =>
  intro c hv;cases hv with
  |yield _ r _ h=>exact .yield _ _ hi λp hp=>h p (by simpa [hi] using hp)
 |iface t v c h ih =>
  intro c hv;cases hv with
  |iface _ _ _ h=>exact .iface _ _ _ (ih h)
 |func fn fs gs cs ds hf hc h1 h2 ln lq =>
  intro c hv;cases hv with
  |func _ _ vL _ ds' lR cO jz mR =>exact .func _ _ _ _ _ (hf.trans lR) (hc.trans cO) (λi k1 k2=>ln i k1 (by omega) (jz i (by omega) k2)) (λi k1 k2=>lq i k1 (by omega) (mR i (by omega) k2))
 |agg cs ds hc h ih =>
  intro c hv;cases hv with
  |agg _ ds' cO h'=>exact .agg _ _ (hc.trans cO) λi k1 k2=>ih i k1 (by omega) (h' i (by omega) k2)
 |tuple cs ds hc h ih =>
  intro c hv;cases hv with
  |tuple _ ds' cO h'=>exact .tuple _ _ (hc.trans cO) λi k1 k2=>ih i k1 (by omega) (h' i (by omega) k2)
theorem VRel.ren {ρ:Plc}{n n':Nat}{π:Nat->Nat}(hn:n<=n') (hπ:∀ i,i<n->π i=i) {v c:Value}(h:VRel ρ n v c):Ren n' π v v:=by
 induction h with
 |poison c=>exact .poison _
 |bool b=>exact .plain _ rfl
 |int k x=>exact .plain _ rfl
 |string s=>exact .plain _ rfl
 |nilPtr=>exact .plain _ rfl
 |nilSl=>exact .plain _ rfl
 |nilMap=>exact .plain _ rfl
 |nilFunc=>exact .plain _ rfl
 |nilIface=>exact .plain _ rfl
 |glob g o s=>exact .glob _ _ _
 |ptr i o a hi h=>have:=Ren.ptr (n:=n') (π:=π) i o (by omega);rwa [hπ i hi] at this
 |sl i o len cap a aw hi h=>have:=Ren.sl (n:=n') (π:=π) i o len cap (by omega);rwa [hπ i hi] at this
 |slx i o len cap a hi h=>have:=Ren.slx (n:=n') (π:=π) i o len cap (by omega);rwa [hπ i hi] at this
 |map i r hi h=>have:=Ren.map (n:=n') (π:=π) i (by omega);rwa [hπ i hi] at this
 |yield i r hi h=>have:=Ren.yield (n:=n') (π:=π) i (by omega);rwa [hπ i hi] at this
 |iface t v c _ ih=>exact .iface _ _ _ ih
 |func fn fs gs cs ds hf hc _ _ ln lq=>exact .func _ _ _ _ _ rfl rfl (λi k1 _=>ln i k1 (by omega)) (λi k1 _=>lq i k1 (by omega))
 |agg cs ds hc _ ih=>exact .agg _ _ rfl λi k1 _=>ih i k1 (by omega)
 |tuple cs ds hc _ ih=>exact .tuple _ _ rfl λi k1 _=>ih i k1 (by omega)
theorem LRen.rel {ρ:Plc}{nf n':Nat}{π:Nat->Nat}{vs' vs:List Value}(h:LRen n' π vs' vs) {cs:List Value}(hL:LRel ρ nf vs cs):LRel (λi=>if i<n' then ρ (π i) else none) n' vs' cs:=by
 refine⟨h.1.trans hL.1,λi v c hv hc=>?_⟩;have ah:i<vs.length:=by rw[<-h.1];exact(zg.1 hv).1
 exact(h.2 i v _ hv (z6 ah)).rel (hL.2 i _ c (z6 ah) hc)
theorem LRel.ren {ρ:Plc}{n n':Nat}{π:Nat->Nat}(hn:n<=n') (hπ:∀ i,i<n->π i=i) {vs cs:List Value}(h:LRel ρ n vs cs):LRen n' π vs vs :=
 ⟨rfl,λi v u hv hu=>by
  obtain rfl:v=u:=osj (hv.symm.trans hu);obtain⟨c,_,hc⟩:=h.get hv;exact hc.ren hn hπ⟩
def ORen (n:Nat) (π:Nat->Nat):VObj->VObj->Prop
 |.map es clock,.map fs lS=>clock=lS/\es.length=fs.length/\∀ (k:Nat) (a b:JD),es[k]?=some a->fs[k]?=some b->a.1=b.1/\a.2.2=b.2.2/\Ren n π a.2.1 b.2.1
 |.iter m since seen last,.iter m' lT nZ n9=>m'=π m/\m<n/\since=lT/\seen=nZ/\last=n9
 |.lp env r st pend,.lp af r' mP bW=>LRen n π env af/\r=r'/\st=mP/\pend=bW
 |_,_=>False
theorem ORen.rel {ρ:Plc}{nf n':Nat}{π:Nat->Nat}{o' o:VObj}(h:ORen n' π o' o) {O:Obj}(hO:ORel ρ nf o O):ORel (λi=>if i<n' then ρ (π i) else none) n' o' O:=by
 cases o'<;>cases o<;>try exact h.elim
 .obtain⟨rfl,hl,hk⟩:=h;obtain⟨entries,h1,h2,h3⟩:=hO;refine⟨entries,h1,by rw[hl];exact h2,λk a ha=>?_⟩;have bh:=(zg.1 ha).1;rw[hl] at bh;obtain⟨e,he,h4,h5,h6⟩:=h3 k _ (z6 bh);obtain⟨k1,k2,k3⟩:=hk k a _ ha (z6 bh);exact⟨e,he,h4.trans k1.symm,h5.trans k2.symm,k3.rel h6⟩
 .obtain⟨rfl,hm,rfl,rfl,rfl⟩:=h;obtain⟨rm,h1,h2⟩:=hO;exact⟨rm,h1,(Ren.map _ hm).rel h2⟩
 .obtain⟨hl,rfl,rfl,rfl⟩:=h;exact⟨hO.1,hl.rel hO.2⟩
theorem ORel.ren {ρ:Plc}{n n':Nat}{π:Nat->Nat}(hn:n<=n') (hπ:∀ i,i<n->π i=i) {o:VObj}{O:Obj}(h:ORel ρ n o O):ORen n' π o o:=by
 cases o with
 |map es clock =>obtain⟨entries,h1,h2,h3⟩:=h;refine⟨rfl,rfl,λk a b ha hb=>?_⟩;obtain rfl:a=b:=osj (ha.symm.trans hb);obtain⟨e,_,_,_,hv⟩:=h3 k a ha;exact⟨rfl,rfl,hv.ren hn hπ⟩
 |iter m since seen last =>
  obtain⟨rm,h1,h2⟩:=h;cases h2 with
  |map _ _ hi _=>exact⟨(hπ m hi).symm,by omega,rfl,rfl,rfl⟩
 |lp env r st pend=>exact⟨h.2.ren hn hπ,rfl,rfl,rfl⟩
def BRen (n:Nat) (π:Nat->Nat):Blk->Blk->Prop
 |.cells c esz wr tight,.cells d n_ lF iU=>esz=n_/\wr=lF/\tight=iU/\LRen n π c d
 |.obj o wr,.obj o' lF=>wr=lF/\ORen n π o o'
 |_,_=>False
theorem BRen.wr {n:Nat}{π:Nat->Nat}{b c:Blk}(h:BRen n π b c):b.wr=c.wr:=by cases b<;>cases c<;>first|(exact h.elim)|exact h.2.1|exact h.1
theorem BRen.rel {ρ:Plc}{nf n':Nat}{π:Nat->Nat}{p:Pl}{w:World}{b' b:Blk}(h:BRen n' π b' b) (hB:BRel ρ nf p w b):BRel (λi=>if i<n' then ρ (π i) else none) n' p w b':=by
 cases b' with
 |cells c esz wr tight =>
  cases b with
  |cells d n_ lF iU =>
   obtain⟨rfl,rfl,rfl,hl⟩:=h;obtain⟨h1,h2,h3,h4,h5,h6⟩:=hB;refine⟨h1,h2,by rw[hl.1];exact h3,h4,λk v hk=>?_,h6⟩;have bh:k<d.length:=by rw[<-hl.1];exact(zg.1 hk).1
   obtain⟨u,hu,hv⟩:=h5 k _ (z6 bh);exact⟨u,hu,(hl.2 k v _ hk (z6 bh)).rel hv⟩
  |obj _ _=>exact h.elim
 |obj o wr =>
  cases b with
  |cells _ _ _ _=>exact h.elim
  |obj o' lF =>obtain⟨rfl,ho⟩:=h;obtain⟨h0,O,h1,h2⟩:=hB;exact⟨h0,O,h1,ho.rel h2⟩
def VObj.plain:VObj->Bool
 |.map es _=>es.all λkv=>QM kv.2.1
 |_=>false
def Blk.plain:Blk->Bool
 |.cells c _ _ _=>c.all QM
 |.obj o _=>o.plain
theorem LRen.plain {n:Nat}{π:Nat->Nat}{c:List Value}(h:c.all QM=true):LRen n π c c :=
 ⟨rfl,λi v u hv hu=>by
  obtain rfl:v=u:=osj (hv.symm.trans hu);exact .plain _ (zf.1 h v (zK hv))⟩
theorem BRen.plain {n:Nat}{π:Nat->Nat}{b:Blk}(h:b.plain=true):BRen n π b b:=by
 cases b with
 |cells c esz wr tight=>exact⟨rfl,rfl,rfl,LRen.plain h⟩
 |obj o wr =>
  cases o with
  |map es clock =>refine⟨rfl,rfl,rfl,λk a b ha hb=>?_⟩;obtain rfl:a=b:=osj (ha.symm.trans hb);exact⟨rfl,rfl,.plain _ (zf.1 h a (zK ha))⟩
  |_=>cases h
theorem BRel.ren {ρ:Plc}{n n':Nat}{π:Nat->Nat}(hn:n<=n') (hπ:∀ i,i<n->π i=i) {p:Pl}{w:World}{b:Blk}(h:BRel ρ n p w b):BRen n' π b b:=by
 cases b with
 |cells c esz wr tight =>refine⟨rfl,rfl,rfl,rfl,λi v u hv hu=>?_⟩;obtain rfl:v=u:=osj (hv.symm.trans hu);obtain⟨_,_,tP⟩:=h.2.2.2.2.1 i v hv;exact tP.ren hn hπ
 |obj o wr =>obtain⟨_,O,_,ho⟩:=h;exact⟨rfl,ho.ren hn hπ⟩
def DropTo (σ0:Heap) (v:Value) (σf:Heap) (v':Value) (U':Heap):Prop :=
 ∀ ρ0 w0 ρ w c,HRel ρ0 σ0 w0->Ext ρ0 σ0 w0 ρ σf w->HRel ρ σf w->VRel ρ σf.n v c->∃ ρ',VRel ρ' U'.n v' c/\HRel ρ' U' w/\Ext ρ0 σ0 w0 ρ' U' w
theorem DropTo.refl (σ0:Heap) (v:Value) (σf:Heap):DropTo σ0 v σf v σf:=λ_ _ ρ _ _ _ hE hH hv=>⟨ρ,hv,hH,hE⟩
theorem DropTo.rename {σ0 σf U':Heap}{v v':Value}(π:Nat->Nat) (h1:σ0.n<=U'.n)
  (h2:∀ i,i<σ0.n->π i=i/\U'.get i=σf.get i/\(σf.get i=σ0.get i\/∃ b,σf.get i=some b/\b.plain=true))
  (h3:∀ i,σ0.n<=i->i<U'.n->σ0.n<=π i/\∃ b' b,U'.get i=some b'/\σf.get (π i)=some b/\BRen U'.n π b' b)
  (h4:∀ i j,σ0.n<=i->i<U'.n->σ0.n<=j->j<U'.n->π i=π j->i=j) (h5:Ren U'.n π v' v):DropTo σ0 v σf v' U':=by
 intro ρ0 w0 ρ w c gu hE hH hv;have hπ:∀ i,i<σ0.n->π i=i:=λi hi=>(h2 i hi).1;have hblk:∀ i b',U'.get i=some b'->∃ b,σf.get (π i)=some b/\BRen U'.n π b' b:=λi b' hb=>by
  have hi:=U'.lt hb;rcases zn i σ0.n with ah|bG
  .obtain⟨k1,k2,k3⟩:=h2 i ah;rw[k1];rw[k2] at hb;refine⟨b',hb,?_⟩;rcases k3 with k3|⟨b,k3,k4⟩
   .rw[k3] at hb;obtain⟨p,_,hB⟩:=gu.live i b' hb;exact hB.ren h1 hπ
   .rw[k3] at hb;obtain rfl:=osj hb;exact BRen.plain k4
  .obtain⟨_,b1,b,k1,k2,k3⟩:=h3 i bG hi;rw[k1] at hb;obtain rfl:=osj hb;exact⟨b,k2,k3⟩
 have e6:∀ i j,i<U'.n->j<U'.n->π i=π j->i=j:=λi j hi hj he=>by
  rcases zn i σ0.n with ah|bG<;>rcases zn j σ0.n with b8|iV
  .rw[hπ i ah,hπ j b8] at he;exact he
  .have:=(h3 j iV hj).1;rw[hπ i ah] at he;omega
  .have:=(h3 i bG hi).1;rw[hπ j b8] at he;omega
  .exact h4 i j bG hi iV hj he
 have hX:Ext ρ0 σ0 w0 (λi=>if i<U'.n then ρ (π i) else none) U' w:=by
  refine⟨hE.os,hE.tape,hE.output,hE.size,hE.keep,?_,h1,λi hi p hp=>?_⟩
  .rintro B hB ⟨i,p,b,hp,hb,hw,rfl⟩;change (if i<U'.n then ρ (π i) else none)=some p at hp;split at hp
   .obtain⟨b0,br,bB⟩:=hblk i b hb;exact hE.wr _ hB ⟨π i,p,b0,hp,br,by rw[<-bB.wr];exact hw,rfl⟩
   .cases hp
  .change (if i<U'.n then ρ (π i) else none)=some p at hp;split at hp
   .rw[hπ i hi] at hp;exact hE.pl i hi p hp
   .cases hp
 refine⟨λi=>if i<U'.n then ρ (π i) else none,h5.rel hv,gu.ext ⟨λi b' hb=>?_,λi hi=>?_,λi p hp=>?_,λi j p q b bN hp hq hb hw hx=>?_⟩ hX,hX⟩
 .obtain⟨b,br,bB⟩:=hblk i b' hb;obtain⟨p,hp,hB⟩:=hH.live _ b br;exact⟨p,by simp[U'.lt hb,hp],bB.rel hB⟩
 .show (if i<U'.n then ρ (π i) else none)=none;split
  .rename_i ah;rcases zn i σ0.n with b8|bG
   .obtain⟨k1,k2,_⟩:=h2 i b8;rw[k1];exact hH.dead i (by rw[<-k2];exact hi)
   .obtain⟨_,b1,b,k1,_⟩:=h3 i bG ah;rw[k1] at hi;cases hi
  .rfl
 .change (if i<U'.n then ρ (π i) else none)=some p at hp;split at hp
  .exact hH.lt _ p hp
  .cases hp
 .change (if i<U'.n then ρ (π i) else none)=some p at hp;change (if j<U'.n then ρ (π j) else none)=some q at hq;split at hp
  .rename_i hi;split at hq
   .rename_i hj;obtain⟨b0,br,bB⟩:=hblk i b hb;exact hH.sep (π i) (π j) p q b0 (λe=>bN (e6 i j hi hj e)) hp hq br (by rw[<-bB.wr];exact hw) hx
   .cases hq
  .cases hp
def Agree (σ0 σf:Heap):Prop:=∀ i,i<σ0.n->σf.get i=σ0.get i
theorem Agree.refl (U:Heap):Agree U U:=λ_ _=>rfl
theorem Agree.push {σ0 U:Heap}(h:Agree σ0 U) (hn:σ0.n<=U.n) (b:Blk):Agree σ0 (U.push b):=λi hi=>(Heap.q0i U b (by omega)).trans (h i hi)
theorem Agree.trans {σ0 σ1 σ2:Heap}(h:Agree σ0 σ1) (k:Agree σ1 σ2) (hn:σ0.n<=σ1.n):Agree σ0 σ2:=λi hi=>(k i (by omega)).trans (h i hi)
section
variable {P:Program}{S:VSpecs}
def Vp (tmps:Array Value):ResultVar->Sem Value
 |.tmp t=>pure (tmps.getD t undef)
 |.cell a t=>do loadVar t (<-asAddr (tmps.getD a undef))
theorem Rm (fn:Func) (tmps:Array Value):results fn tmps=(do
  let vs <-fn.results.mapM (Vp tmps)
  pure (if h:vs.size=1 then vs[0] else .tuple vs)):=by
 unfold results;congr 1
theorem RC {ρ:Plc}{U:Heap}{w:World}{env:Env}{tmps:Array Value}(hH:HRel ρ U w) (hL:LRel ρ U.n env tmps.toList) {r:ResultVar}{vr:VResult}
  (hc:JO P r=some vr) {v:Value}(h:JI env U vr=some v):∃ c,VRel ρ U.n v c/\(Vp tmps r).run P w=.ok c w:=by
 have ak:∀ t,VRel ρ U.n (env.getD t undef) (tmps.getD t undef):=λt=>Wq (a:=⟨tmps,[]⟩) hL (x:=.tmp t) rfl;cases r with
 |tmp t =>simp[JO] at hc;subst hc;simp only[JI,xi] at h;subst h;exact⟨_,ak t,rfl⟩
 |cell a t =>
  simp only[JO] at hc;split at hc
  .rename_i i d hi hu;simp at hc;subst hc;simp only[JI,zw] at h;obtain⟨p,hp,rfl⟩:=h;simp only[Qb,Q6] at hp;have ha:=ak a;split at hp
   .rename_i g o s h1;rw[h1] at ha;split at hp
    .rename_i c hb;split at hp
     .rename_i ae;split at hp
      .rename_i v0 hv;simp at hp;subst hp;obtain⟨u,cG,hr⟩:=LZ hH hi hu hb ae hv ha;refine⟨u,cG,?_⟩;have:=hr w (Like.refl ρ w);have oa:tmps.getD a undef=.pointer (some ⟨g,o,none⟩):=by
        generalize tmps.getD a undef=c at ha;cases ha;rfl
       rw[oa] at this;simp only[Instr.loadAt,Instr.sureAddr,zA,xe,zj] at this;simp only[Vp,oa,asAddr,zA,xe,zj];exact this
      .cases hp
     .cases hp
    .cases hp
   .rename_i i' o h1;rw[h1] at ha;split at hp
    .rename_i c esz wr tight hb;split at hp
     .rename_i v0 hv;simp at hp;subst hp;obtain⟨u,cG,hr⟩:=Az hH hi hu hb hv ha;refine⟨u,cG,?_⟩;have:=hr w (Like.refl ρ w);obtain⟨ad,oa,_⟩:=ha.q1g;rw[oa] at this;simp only[Instr.loadAt,Instr.sureAddr,zA,xe,zj] at this;simp only[Vp,oa,asAddr,zA,xe,zj];exact this
     .cases hp
    .cases hp
   .cases hp
  .cases hc
theorem Cp {α:Type}{ρ:Plc}{n:Nat}(g:α->Sem Value) (w:World) (f:α->Option Value):∀ (l:List α) (vs:List Value),l.mapM f=some vs ->
  (∀ a∈l,∀ v,f a=some v->∃ c,VRel ρ n v c/\(g a).run P w=.ok c w)->∃ cs,LRel ρ n vs cs/\(l.mapM g).run P w=.ok cs w:=by
 intro l;induction l with
 |nil=>intro vs h _;simp at h;subst h;exact⟨[],LRel.nil _ _,rfl⟩
 |cons a l ih =>
  intro vs h hg;rw[xx] at h;cases hf:f a with
  |none=>simp[hf] at h
  |some v =>
   cases hm:l.mapM f with
   |none=>simp[hf,hm] at h
   |some vs' =>simp[hf,hm] at h;subst h;obtain⟨c,fQ,iw⟩:=hg a (by simp) v hf;obtain⟨cs,qz,jV⟩:=ih vs' hm (λb hb=>hg b (by simp[hb]));refine⟨c::cs,LRel.cons fQ qz,?_⟩;rw[xx];simp[iw,jV]
theorem Te {ρ:Plc}{U:Heap}{w:World}{env:Env}{tmps:Array Value}(hH:HRel ρ U w) (hL:LRel ρ U.n env tmps.toList) {fn:Func}{rs:List VResult}
  (hc:U5 P fn.results.toList=some rs) {v:Value}(h:Jo env U rs=some v):∃ c,VRel ρ U.n v c/\(results fn tmps).run P w=.ok c w:=by
 unfold U5 at hc;have ae:∀ vs,rs.mapM (JI env U)=some vs->∃ cs,LRel ρ U.n vs cs/\(fn.results.mapM (Vp tmps)).run P w=.ok cs.toArray w:=by
  intro vs cH;have ob:fn.results.toList.mapM (λr=>(JO P r).bind (JI env U))=some vs:=by
   have:∀ (l:List ResultVar) (rs:List VResult) (vs:List Value),l.mapM (JO P)=some rs->rs.mapM (JI env U)=some vs->l.mapM (λr=>(JO P r).bind (JI env U))=some vs:=by
    intro l;induction l with
    |nil=>intro rs vs h1 h2;simp at h1;subst h1;simpa using h2
    |cons r l ih =>
     intro rs vs h1 h2;rw[xx] at h1;cases hg:JO P r with
     |none=>simp[hg] at h1
     |some x =>
      cases hm:l.mapM (JO P) with
      |none=>simp[hg,hm] at h1
      |some bu =>
       simp[hg,hm] at h1;subst h1;rw[xx] at h2;cases hx:JI env U x with
       |none=>simp[hx] at h2
       |some y =>
        cases iP:bu.mapM (JI env U) with
        |none=>simp[hx,iP] at h2
        |some vs' =>simp[hx,iP] at h2;subst h2;rw[xx];simp[hg,hx,ih bu vs' hm iP]
   exact this _ _ _ hc cH
  obtain⟨cs,k1,k2⟩:=Cp (P:=P) (ρ:=ρ) (n:=U.n) (Vp tmps) w _ _ _ ob (λr _ v hv=>by
   cases hr:JO P r with
   |none=>rw[hr] at hv;cases hv
   |some vr=>rw[hr] at hv;exact RC hH hL hr hv)
  refine⟨cs,k1,?_⟩;rw[Array.mapM_eq_mapM_toList];simp[k2]
 unfold Jo at h;split at h
 .rename_i r;obtain⟨cs,k1,k2⟩:=ae [v] (by simp[h]);have cq:cs.length=1:=by rw[<-k1.1];rfl
  obtain⟨c,rfl⟩:=x9.1 cq;refine⟨c,k1.2 0 v c rfl rfl,?_⟩;rw[Rm];simp only[zA];rw[k2];simp
 .rename_i az;simp only[zw] at h;obtain⟨vs,cH,rfl⟩:=h;obtain⟨cs,k1,k2⟩:=ae vs cH;refine⟨.tuple cs.toArray,VRel.q0j k1,?_⟩;have hl:cs.length≠1:=by
   rw[<-k1.1,(Ws _ _ _ cH).1];intro e;obtain⟨r,hr⟩:=x9.1 e;exact az r hr
  rw[Rm];simp only[zA];rw[k2];simp[hl]
theorem Lw {ρ:Plc}{n:Nat}(k:Nat):LRel ρ n (List.replicate k undef) (List.replicate k undef) :=
 ⟨rfl,λi v c hv hc=>by
  obtain rfl:v=c:=osj (hv.symm.trans hc);have:=zK hv;rw[List.mem_replicate] at this;rw[this.2];exact JM⟩
theorem BW {w:World}{D:Nat}{ds:List Deferred}(h:w.heap[D]?=some (.deferred (some ds))):(Instr.takeDeferred D).run P w=.ok ds (Pb w D (.deferred none)):=by simp[Instr.takeDeferred,QG h (λ_ _ _ e=>by cases e),Z2 h (λ_ _ _ e=>by cases e)]
theorem Ext.mark {ρ0 ρ:Plc}{σ0 U:Heap}{w0 w:World}(hE:Ext ρ0 σ0 w0 ρ U w) {D:Nat}(hD:w0.heap.size<=D) (O:Obj):Ext ρ0 σ0 w0 ρ U (Pb w D O) :=
 ⟨hE.os,hE.tape,hE.output,by rw[Dq];exact hE.size,λB hB hW=>(K1 w D O B (by omega)).trans (hE.keep B hB hW),hE.wr,hE.n,hE.pl⟩
theorem HRel.mark {ρ:Plc}{U:Heap}{w:World}(hH:HRel ρ U w) {D:Nat}{d:Option (List Deferred)}(hD:w.heap[D]?=some (.deferred d)) (O:Obj):HRel ρ U (Pb w D O) :=
 hH.world (by rw[Dq];exact ze _) (λi p hp=>K1 w D O p.blk (hH.q0l hD i p hp)) λg cs hg=>K1 w D O g λe=>by obtain⟨⟨e',f,h1⟩,_⟩:=hH.tab g cs hg;rw[e,hD] at h1;cases h1
theorem LV {fn:Func}{tmps:Array Value}{R:Ending->World->Prop}{ρ0:Plc}{σ0:Heap}{w0:World}{ρ:Plc}{U:Heap}
  (qA:∀ w,HRel ρ U w->Ext ρ0 σ0 w0 ρ U w->∃ v,(results fn tmps).run P w=.ok v w/\R (.returned v) w) :
  ∀ (Ds:List Nat) (w:World),Ds.Nodup->(∀ D∈Ds,w0.heap.size<=D/\w.heap[D]?=some (.deferred (some [])))->HRel ρ U w->Ext ρ0 σ0 w0 ρ U w ->
   LeavesInM Fence.wide 0 P fn tmps R (Ds.map λD=>⟨.collected D,#[]⟩) .returning w:=by
 intro Ds;induction Ds with
 |nil=>intro w _ _ hH hE;exact qA w hH hE
 |cons D Ds ih =>intro w fv ae hH hE;obtain⟨h1,h2⟩:=xn.1 fv;obtain⟨h3,h4⟩:=ae D (by simp);refine⟨by simp,.inl ⟨D,_,rfl,BW h4,ih _ h2 (λE b6=>?_) (hH.mark h4 _) (hE.mark h3 _)⟩⟩;obtain⟨k1,k2⟩:=ae E (by simp[b6]);exact⟨k1,by rw[K1 _ _ _ _ (by rintro rfl;exact h1 b6)];exact k2⟩
theorem Bu (hm:P.follows .mixedOrders=true) (hS:OkSpecs P S) {f:FuncId}{fn:Func}{c:Code}{vc:VCode}{rs:List VResult}(hf:P.funcs[f]?=some fn) (hb:fn.body=some c) (hc:comp P c=some vc) (hr:U5 P fn.results.toList=some rs)
  {args:List Value}{U:Heap}{R:Value->Heap->Prop}(h:vwp S vc none (Q9f rs λv σf=>∃ v' U',DropTo U v σf v' U'/\R v' U') (args++List.replicate (fn.ntmps-args.length) undef) U):VCallsTo P f args U R:=by
 intro ρ w ax hH hL;refine callsIn_wide.1 (callsIn_of_wp_marks (n:=0) hf hb trivial (FA hm hS c vc hc (B:=w.heap.size) none none 0 _ _ U ρ w _ h hH ?_ (Mks.nil (ze _)) (.inl ⟨rfl,rfl⟩) _ ?_) rfl)
 .have hl:args.length=ax.size:=by have:=hL.1;simpa using this
  have:=hL.append (Lw (ρ:=ρ) (n:=U.n) (fn.ntmps-args.length));simpa [hl] using this
 .intro e a' w' ⟨af,ρ',U',k1,_,k2,k3,⟨_,Ds,k4,k6,k7⟩,k5⟩;have fin:(Zf (Jo af U' rs) λv=>∃ v' aH,DropTo U v U' v' aH/\R v' aH)->LeavesInM Fence.wide 0 P fn a'.tmps (λe w'=>∃ c,e=.returned c/\Got ρ U w R c w') a'.defers .returning w':=by
   intro hk;rw[k4];refine LV (λw1 jo fm=>?_) Ds w' k6 k7 k2 k5;cases hv:Jo af U' rs with
   |none=>rw[hv] at hk;exact hk.elim
   |some v =>rw[hv] at hk;obtain⟨v',aH,hd,hR⟩:=hk;obtain⟨c,fQ,iw⟩:=Te jo k3 hr hv;obtain⟨eS,j1,j2,j3⟩:=hd ρ w ρ' w1 c hH fm jo fQ;exact⟨c,iw,c,rfl,v',eS,aH,hR,j1,j2,j3⟩
  cases e with
  |normal=>exact fin k1
  |ret=>exact fin k1
  |_=>exact k1.elim
end
end Go.V
namespace Go.V
open Go
def Fun (P:Program) (f:FuncId) (vc:VCode) (rs:List VResult) (nt:Nat):Prop :=
 ∃ fn,P.funcs[f]?=some fn/\fn.body.bind (comp P)=some vc/\U5 P fn.results.toList=some rs/\fn.ntmps=nt/\(fn.name=="runtime.NumGoroutine")=false
def Z1r (U:Heap) (rs:List VResult) (R:Value->Heap->Prop):Exit->Env->Heap->Prop:=Q9f rs λv σf=>∃ v' U',DropTo U v σf v' U'/\R v' U'
section
variable {P:Program}{S:VSpecs}{f:FuncId}{vc:VCode}{rs:List VResult}{nt:Nat}
theorem Fun.calls (h:Fun P f vc rs nt) (hm:P.follows .mixedOrders=true) (hS:OkSpecs P S) {args:List Value}{U:Heap}{R:Value->Heap->Prop}
  (hw:vwp S vc none (Z1r U rs R) (args++List.replicate (nt-args.length) undef) U):VCalled P f args U R:=by
 obtain⟨fn,h1,h2,h3,h4,h5⟩:=h;cases hb:fn.body with
 |none=>rw[hb] at h2;cases h2
 |some c =>rw[hb] at h2;exact VCallsTo.called ⟨fn,h1,by rw[hb];rfl,h5⟩ (Bu hm hS h1 hb h2 h3 (by rw[h4];exact hw))
theorem Fun.enterable (h:Fun P f vc rs nt):ZI P f:=by
 obtain⟨fn,h1,h2,h3,h4,h5⟩:=h;refine⟨fn,h1,?_,h5⟩;cases hb:fn.body with
 |none=>rw[hb] at h2;cases h2
 |some c=>rfl
theorem Fun.callsTo (h:Fun P f vc rs nt) (hm:P.follows .mixedOrders=true) (hS:OkSpecs P S) {args:List Value}{U:Heap}{R:Value->Heap->Prop}
  (hw:vwp S vc none (Z1r U rs R) (args++List.replicate (nt-args.length) undef) U):VCallsTo P f args U R:=by
 obtain⟨fn,h1,h2,h3,h4,h5⟩:=h;cases hb:fn.body with
 |none=>rw[hb] at h2;cases h2
 |some c =>rw[hb] at h2;exact Bu hm hS h1 hb h2 h3 (by rw[h4];exact hw)
def Q5 (P:Program):VSpecs where
 fn f:=some λargs U K=>VCalled P f args U K
 yl i:=some λargs U K=>HT P i args U K
 it f:=@ite _ (ZI P f) (Classical.propDecidable _) (some λi Y args U K=>Va P i Y->VCallsTo P f args U K) none
theorem HU:OkSpecs P (Q5 P) :=
  ⟨λf s h => by obtain rfl:=osj h; exactλargs U K h => h,
   λf s h => by obtain rfl:=osj h; exactλargs U K h => h,
   λf T h => by
    simp only [Q5] at h;split at h
    . rename_i he; obtain rfl:=osj h; exact ⟨he, λi Y hY args U K h => h hY⟩
    . cases h⟩
end
end Go.V
namespace Go.V
open Go
inductive EB where
 |cells (c:List Value) (esz:El) (wr tight:Bool)
 |map (es:List JD) (clock:Nat) (wr:Bool)
 |iter (m since:Nat) (seen:List Nat) (last:Nat)
 |lp (st:LoopState) (pend:Option Code)
inductive GT (α:Type) where
 |nil
 |node (v:α) (l r:GT α)
def GT.get {α:Type}(d:α) (t:GT α):Nat->α :=
 GT.rec (motive:=λ_=>Nat->α) (λ_=>d)
  (λv _ _ gl gr i=>Bool.rec (motive:=λ_=>α) (Bool.rec (motive:=λ_=>α) (gr (i / 2-1)) (gl (i / 2)) (Nat.beq (i % 2) 1)) v (Nat.beq i 0)) t
def GT.set {α:Type}(d:α) (f:Nat):GT α->Nat->α->GT α :=
 Nat.rec (motive:=λ_=>GT α->Nat->α->GT α) (λt _ _=>t)
  (λ_ ih t i b=>GT.rec (motive:=λ_=>GT α)
   (Bool.rec (motive:=λ_=>GT α) (Bool.rec (motive:=λ_=>GT α) (.node d .nil (ih .nil (i / 2-1) b)) (.node d (ih .nil (i / 2) b) .nil) (Nat.beq (i % 2) 1)) (.node b .nil .nil) (Nat.beq i 0))
   (λv l r _ _=>Bool.rec (motive:=λ_=>GT α) (Bool.rec (motive:=λ_=>GT α) (.node v l (ih r (i / 2-1) b)) (.node v (ih l (i / 2) b) r) (Nat.beq (i % 2) 1)) (.node b l r) (Nat.beq i 0)) t) f
theorem GT.q0x {α:Type}(d v:α) (l r:GT α) (k:Nat):(GT.node v l r).get d k=if k=0 then v else if k % 2=1 then l.get d (k / 2) else r.get d (k / 2-1):=by
 show (Bool.rec (motive:=λ_=>α) (Bool.rec (motive:=λ_=>α) (r.get d (k / 2-1)) (l.get d (k / 2)) (Nat.beq (k % 2) 1)) v (Nat.beq k 0))=_;by_cases h0:k=0
 .subst h0;rfl
 .have:Nat.beq k 0=false:=by
   cases h:Nat.beq k 0 with
   |false=>rfl
   |true=>exact absurd (zV h) h0
  rw[this,z1 h0];by_cases h1:k % 2=1
  .rw[z7 h1,h1];rfl
  .have:Nat.beq (k % 2) 1=false:=by
    cases h:Nat.beq (k % 2) 1 with
    |false=>rfl
    |true=>exact absurd (zV h) h1
   rw[this,z1 h1]
theorem GT.q2c {α:Type}(d v:α) (f:Nat) (l r:GT α) (i:Nat) (b:α):(GT.node v l r).set d (f+1) i b=if i=0 then .node b l r else if i % 2=1 then .node v (l.set d f (i / 2) b) r else .node v l (r.set d f (i / 2-1) b):=by
 show (Bool.rec (motive:=λ_=>GT α) (Bool.rec (motive:=λ_=>GT α) (.node v l (r.set d f (i / 2-1) b)) (.node v (l.set d f (i / 2) b) r) (Nat.beq (i % 2) 1)) (.node b l r) (Nat.beq i 0))=_;by_cases h0:i=0
 .subst h0;rfl
 .have:Nat.beq i 0=false:=by
   cases h:Nat.beq i 0 with
   |false=>rfl
   |true=>exact absurd (zV h) h0
  rw[this,z1 h0];by_cases h1:i % 2=1
  .rw[z7 h1,h1];rfl
  .have:Nat.beq (i % 2) 1=false:=by
    cases h:Nat.beq (i % 2) 1 with
    |false=>rfl
    |true=>exact absurd (zV h) h1
   rw[this,z1 h1]
theorem GT.set_nil {α:Type}(d:α) (f i:Nat) (b:α):(GT.nil:GT α).set d (f+1) i b=(GT.node d .nil .nil).set d (f+1) i b:=rfl
theorem GT.q1e {α:Type}(d:α):∀ (f:Nat) (t:GT α) (i:Nat) (b:α) (j:Nat),i+1<2 ^ f->(t.set d f i b).get d j=if j=i then b else t.get d j:=by
 intro f;induction f with
 |zero=>intro t i b j h;simp at h
 |succ f ih =>
  intro t i b j h;have hp:2 ^ (f+1)=2*2 ^ f:=by rw[Nat.pow_succ];omega
  have gS:∀ v l r,((GT.node v l r).set d (f+1) i b).get d j=if j=i then b else (GT.node v l r).get d j:=by
   intro v l r;rw[GT.q2c];by_cases hi:i=0
   .subst hi;rw[z7 rfl,GT.q0x,GT.q0x];split<;>rfl
   .rw[z1 hi];by_cases ho:i % 2=1
    .rw[z7 ho,GT.q0x,GT.q0x,ih _ _ _ _ (by omega)];by_cases fP:j=0
     .subst fP;rw[z7 rfl,z1 (Ne.symm hi),z7 rfl]
     .rw[z1 fP,z1 fP];by_cases iW:j % 2=1
      .rw[z7 iW,z7 iW];by_cases aN:j=i
       .subst aN;simp
       .rw[z1 aN,z1 (by omega)]
      .rw[z1 iW,z1 iW,z1 (by rintro rfl;exact iW ho)]
    .rw[z1 ho,GT.q0x,GT.q0x,ih _ _ _ _ (by omega)];by_cases fP:j=0
     .subst fP;rw[z7 rfl,z1 (Ne.symm hi),z7 rfl]
     .rw[z1 fP,z1 fP];by_cases iW:j % 2=1
      .rw[z7 iW,z7 iW,z1 (by rintro rfl;exact ho iW)]
      .rw[z1 iW,z1 iW];by_cases aN:j=i
       .subst aN;simp
       .rw[z1 aN,z1 (by omega)]
  cases t with
  |node v l r=>exact gS v l r
  |nil =>
   rw[GT.set_nil,gS d .nil .nil,GT.q0x];split
   .rfl
   .split
    .rfl
    .split<;>rfl
structure CH where
 t:GT (Option EB)
 n:Nat
def CH.get (h:CH) (i:Nat):Option EB:=Bool.rec (motive:=λ_=>Option EB) none (h.t.get none i) (Nat.blt i h.n)
def CH.upd (h:CH) (i:Nat) (b:EB):CH:=⟨h.t.set none 32 i (some b),h.n⟩
def CH.kill (h:CH) (i:Nat):CH:=⟨h.t.set none 32 i none,h.n⟩
def CH.push (h:CH) (b:EB):CH:=⟨h.t.set none 32 h.n (some b),h.n+1⟩
def CH.room (h:CH):Bool:=Nat.ble h.n 1000000000
def CH.empty:CH:=⟨.nil,0⟩
theorem CH.q0v {h:CH}{i:Nat}(hi:i<h.n):h.get i=h.t.get none i:=by unfold CH.get;rw[show Nat.blt i h.n=true from Nat.ble_eq_true_of_le hi]
theorem CH.q0u {h:CH}{i:Nat}(hi:h.n<=i):h.get i=none:=by
 unfold CH.get;cases hb:Nat.blt i h.n with
 |false=>rfl
 |true=>have:=zM hb;omega
theorem CH.q2j {h:CH}{i:Nat}{b:EB}(hi:i<h.n) (hs:h.n<=1000000001) (j:Nat):(h.upd i b).get j=if j=i then some b else h.get j:=by
 rcases zn j h.n with hj|hj
 .rw[CH.q0v (h:=h.upd i b) hj,CH.q0v hj];exact GT.q1e none 32 _ _ _ _ (by omega)
 .rw[CH.q0u (h:=h.upd i b) hj,CH.q0u hj,z1 (by omega)]
theorem CH.q2f {h:CH}{i:Nat}(hi:i<h.n) (hs:h.n<=1000000001) (j:Nat):(h.kill i).get j=if j=i then none else h.get j:=by
 rcases zn j h.n with hj|hj
 .rw[CH.q0v (h:=h.kill i) hj,CH.q0v hj];exact GT.q1e none 32 _ _ _ _ (by omega)
 .rw[CH.q0u (h:=h.kill i) hj,CH.q0u hj];simp
theorem CH.q1r {h:CH}{b:EB}(hs:h.n<=1000000001) (j:Nat):(h.push b).get j=if j=h.n then some b else h.get j:=by
 rcases zn j (h.n+1) with hj|hj
 .rw[CH.q0v (h:=h.push b) hj];show (h.t.set none 32 h.n (some b)).get none j=_;rw[GT.q1e none 32 _ _ _ _ (by omega)];split
  .rfl
  .rw[CH.q0v (by omega)]
 .rw[CH.q0u (h:=h.push b) hj,CH.q0u (by omega),z1 (by omega)]
def EB.to (q:Env×Loop):EB->Blk
 |.cells c e w t=>.cells c e w t
 |.map es cl w=>.obj (.map es cl) w
 |.iter m s sn l=>.obj (.iter m s sn l) true
 |.lp st pend=>.obj (.lp q.1 q.2 st pend) true
structure CSim (rs:Nat->Env×Loop) (h:CH) (U:Heap):Prop where
 n:h.n=U.n
 sm:h.n<=1000000001
 get:∀ i,U.get i=(h.get i).map (EB.to (rs i))
theorem CSim.cells {rs:Nat->Env×Loop}{h:CH}{U:Heap}(hs:CSim rs h U) {i:Nat}{c:List Value}{e:El}{w t:Bool}(hg:h.get i=some (.cells c e w t)):U.get i=some (.cells c e w t):=by rw[hs.get,hg];rfl
theorem CSim.map {rs:Nat->Env×Loop}{h:CH}{U:Heap}(hs:CSim rs h U) {i:Nat}{es:List JD}{cl:Nat}{w:Bool}(hg:h.get i=some (.map es cl w)):U.get i=some (.obj (.map es cl) w):=by rw[hs.get,hg];rfl
theorem CSim.iter {rs:Nat->Env×Loop}{h:CH}{U:Heap}(hs:CSim rs h U) {i m s:Nat}{sn:List Nat}{l:Nat}(hg:h.get i=some (.iter m s sn l)):U.get i=some (.obj (.iter m s sn l) true):=by rw[hs.get,hg];rfl
theorem CSim.lp {rs:Nat->Env×Loop}{h:CH}{U:Heap}(hs:CSim rs h U) {i:Nat}{st:LoopState}{pend:Option Code}(hg:h.get i=some (.lp st pend)):U.get i=some (.obj (.lp (rs i).1 (rs i).2 st pend) true):=by rw[hs.get,hg];rfl
theorem CSim.lt {rs:Nat->Env×Loop}{h:CH}{U:Heap}(hs:CSim rs h U) {i:Nat}{b:EB}(hg:h.get i=some b):i<h.n:=by
 have:U.get i=some (b.to (rs i)):=by rw[hs.get,hg];rfl
 rw[hs.n];exact U.lt this
theorem CSim.upd {rs:Nat->Env×Loop}{h:CH}{U:Heap}(hs:CSim rs h U) {i:Nat}(hi:i<h.n) {b:EB}{b':Blk}(hb:b.to (rs i)=b'):CSim rs (h.upd i b) (U.upd i b'):=by
 refine⟨hs.n,hs.sm,λj=>?_⟩;rw[CH.q2j hi hs.sm];show (if j=i/\i<U.n then some b' else U.get j)=_;by_cases hj:j=i
 .subst hj;rw[z7 ⟨rfl,by rw[<-hs.n];exact hi⟩,z7 rfl,<-hb];rfl
 .rw[z1 (λe=>hj e.1),z1 hj];exact hs.get j
theorem CSim.kill {rs:Nat->Env×Loop}{h:CH}{U:Heap}(hs:CSim rs h U) {i:Nat}(hi:i<h.n):CSim rs (h.kill i) (U.kill i):=by
 refine⟨hs.n,hs.sm,λj=>?_⟩;rw[CH.q2f hi hs.sm];show (if j=i then none else U.get j)=_;by_cases hj:j=i
 .rw[z7 hj,z7 hj];rfl
 .rw[z1 hj,z1 hj];exact hs.get j
theorem CSim.push {rs:Nat->Env×Loop}{h:CH}{U:Heap}(hs:CSim rs h U) (hr:h.room=true) {b:EB}{b':Blk}(hb:b.to (rs h.n)=b'):CSim rs (h.push b) (U.push b'):=by
 have hr:h.n<=1000000000:=zM hr;refine⟨by show h.n+1=U.n+1;rw[hs.n],by show h.n+1<=_;omega,λj=>?_⟩;rw[CH.q1r hs.sm];show (if j=U.n then some b' else U.get j)=_;rw[<-hs.n];by_cases hj:j=h.n
 .subst hj;rw[z7 rfl,z7 rfl,<-hb];rfl
 .rw[z1 hj,z1 hj];exact hs.get j
theorem CSim.rs {rs bu:Nat->Env×Loop}{h:CH}{U:Heap}(hs:CSim rs h U) (hr:∀ i,i<h.n->bu i=rs i):CSim bu h U :=
 ⟨hs.n,hs.sm,λi=>by
  rw[hs.get];cases hg:h.get i with
  |none=>rfl
  |some b=>rw[hr i (hs.lt hg)]⟩
def CH.sl (U:CH) (esz:Nat):Value->Option (List Value)
 |.slice none 0 0=>some []
 |.slice (some ⟨i,o,none⟩) n _ =>
  match U.get i with
  |some (.cells c e _ _)=>if e.sz=esz/\o+n*esz<=c.length then some ((c.drop o).take (n*esz)) else none
  |_=>none
 |_=>none
def CH.mapAt (U:CH) (m:Nat):Option (List JD×Nat×Bool):=match U.get m with
 |some (.map es clock wr)=>some (es,clock,wr)
 |_=>none
def US (U:CH) (b:EB) (v:Value):Option (Value×CH):=if U.room=true then some (v,U.push b) else none
def RG (esz:El) (bytes:Nat) (U:CH) (s:Value) (m:Nat) (xs:List Value):Option (Value×CH) :=
 match s with
 |.slice none 0 0 =>
  if m=0 then some (s,U) else
  if m*bytes<=2 ^ 46 then US U (.cells xs esz true false) (.slice (some ⟨U.n,0,none⟩) m m) else none
 |.slice (some ⟨i,o,none⟩) n cap =>
  match U.get i with
  |some (.cells c e wr tight) =>
   if e=esz/\n<=cap/\o+n*esz.sz<=c.length then
    if m=0 then some (s,U) else
    if n+m<=cap then
     (if wr=true/\o+(n+m)*esz.sz<=c.length then some (.slice (some ⟨i,o,none⟩) (n+m) cap,U.upd i (.cells (Yi c (o+n*esz.sz) xs) e wr tight)) else none)
    else if (n+m)*bytes<=2 ^ 46 then
     (if tight then US U (.cells ((c.drop o).take (n*esz.sz)++xs) esz true false) (.slice (some ⟨U.n,0,none⟩) (n+m) (n+m))
     else if wr then US (U.kill i) (.cells ((c.drop o).take (n*esz.sz)++xs) esz true false) (.slice (some ⟨U.n,0,none⟩) (n+m) (n+m))
     else none)
    else none
   else none
  |_=>none
 |.slice (some ⟨i,o,some 0⟩) n cap =>
  match U.get i with
  |some (.cells c e _ _) =>
   if e=esz/\n=cap/\o+n*esz.sz<=c.length/\m≠0/\(n+m)*bytes<=2 ^ 46 then
    US U (.cells ((c.drop o).take (n*esz.sz)++xs) esz true false) (.slice (some ⟨U.n,0,none⟩) (n+m) (n+m))
   else none
  |_=>none
 |_=>none
def AR (size:Nat) (U:CH) (s:Value) (l h:Nat) (m:Option Nat):Option (Value×CH) :=
 match s with
 |.slice none 0 0=>if l=0/\h=0/\(m.getD 0)=0 then some (.slice none 0 0,U) else none
 |.slice (some ⟨i,o,none⟩) _ cap =>
  match U.get i with
  |some (.cells _ e _ t) =>
   match m with
   |none=>if e.sz=size/\l<=h/\h<=cap then some (.slice (some ⟨i,o+l*size,none⟩) (h-l) (cap-l),U) else none
   |some m =>
    if e.sz=size/\l<=h/\h<=m/\m<=cap then
     if m=l then US U (.cells [] e false true) (.slice (some ⟨U.n,0,none⟩) 0 0)
     else if t=false/\h=m then some (.slice (some ⟨i,o+l*size,some 0⟩) (h-l) (m-l),U)
     else some (.slice (some ⟨i,o+l*size,none⟩) (h-l) (m-l),U)
    else none
  |_=>none
 |_=>none
def Q5d:Nat->Value->Value->CH->Option Bool
 |0,.pointer none,.pointer none,_=>some true
 |0,.pointer none,.pointer (some _),_=>some false
 |0,.pointer (some _),.pointer none,_=>some false
 |0,.pointer (some ⟨i,o,none⟩),.pointer (some ⟨j,q,none⟩),U=>if i=j/\o=q/\(U.get i).isSome=true then some true else none
 |1,.slice none _ _,.slice none _ _,_=>some true
 |1,.slice none _ _,.slice (some _) _ _,_=>some false
 |1,.slice (some _) _ _,.slice none _ _,_=>some false
 |2,.map none,.map none,_=>some true
 |2,.map none,.map (some _),_=>some false
 |2,.map (some _),.map none,_=>some false
 |3,.nilFunc,.nilFunc,_=>some true
 |3,.nilFunc,.func _ _ _,_=>some false
 |3,.func _ _ _,.nilFunc,_=>some false
 |_,_,_,_=>none
def XV (o:XOp) (ev:Operand->Value) (U:CH):Option (Value×CH) :=
 match o with
 |.eqAgg neg s x y=>match ev x,ev y with
  |.agg a,.agg b=>if fits s a.toList=true/\fits s b.toList=true then some (.bool (if neg then !(Qt a.toList b.toList) else Qt a.toList b.toList),U) else none
  |_,_=>none
 |.eqNil kd neg x y=>match Q5d kd (ev x) (ev y) U with|some b=>some (.bool (if neg then !b else b),U)|none=>none
 |.makeMap=>US U (.map [] 0 true) (.map (some U.n))
 |.lookup mk z ok x i =>
  let k:=ev i
  if ZC mk k then
   match ev x with
   |.map none=>some (if ok then .tuple #[z,.bool false] else z,U)
   |.map (some m)=>match U.mapAt m with
    |some (es,_,_)=>if es.all (λe=>ZC mk e.1) then
      (match Qp k es with
      |some e=>some (if ok then .tuple #[e.2.1,.bool true] else e.2.1,U)
      |none=>some (if ok then .tuple #[z,.bool false] else z,U)) else none
    |none=>none
   |_=>none
  else none
 |.mapUpdate mk m k v=>match ev m with
  |.map (some i)=>match U.mapAt i with
   |some (es,clock,true)=>if ZC mk (ev k)&&es.all (λe=>ZC mk e.1) then some (undef,U.upd i (.map (QC (ev k) (ev v) clock es).1 (QC (ev k) (ev v) clock es).2 true)) else none
   |_=>none
  |_=>none
 |.delete mk m k=>match ev m with
  |.map (some i)=>match U.mapAt i with
   |some (es,clock,true)=>if ZC mk (ev k)&&es.all (λe=>ZC mk e.1) then some (.tuple #[],U.upd i (.map (KI (ev k) es) clock true)) else none
   |_=>none
  |_=>none
 |.lenMap x=>match ev x with
  |.map none=>some (.int .i64 0,U)
  |.map (some m)=>match U.mapAt m with
   |some (es,_,_)=>some (.int .i64 es.length,U)
   |none=>none
  |_=>none
 |.rangeMap x=>match ev x with
  |.map (some m)=>match U.mapAt m with
   |some (_,clock,_)=>US U (.iter m clock [] clock) (.pointer (some ⟨U.n,0,none⟩))
   |none=>none
  |_=>none
 |.entry x=>match ev x with
  |.pointer (some ⟨i,0,none⟩)=>match U.get i with
   |some (.iter m _ seen last)=>match U.mapAt m,seen.getLast? with
    |some (es,clock,_),some b=>if clock=last then (match es.find? (λe=>e.2.2==b) with|some e=>if Vc e.1 then some (.tuple #[e.1,e.2.1],U) else none|none=>none) else none
    |_,_=>none
   |_=>none
  |_=>none
 |.copy size d s=>match ev d,ev s with
  |.slice db dn _,.slice sb sn sc =>
   if min sn dn=0 then some (.int .i64 0,U) else
   match db,U.sl size (.slice sb (min sn dn) sc) with
   |some ⟨i,o,none⟩,some xs=>match U.get i with
    |some (.cells c e wr tight)=>if wr=true/\e.sz=size/\o+xs.length<=c.length/\xs.all cellOk=true then some (.int .i64 (min sn dn:Nat),U.upd i (.cells (Yi c o xs) e wr tight)) else none
    |_=>none
   |_,_=>none
  |_,_=>none
 |.clear z x=>match ev x with
  |.slice b n _ =>
   if n=0 then some (.tuple #[],U) else
   match b with
   |some ⟨i,o,none⟩=>match U.get i with
    |some (.cells c e wr tight)=>if wr=true/\o+n*z.length<=c.length/\z.all cellOk=true then some (.tuple #[],U.upd i (.cells (Yi c o (H9 n z)) e wr tight)) else none
    |_=>none
   |_=>none
  |_=>none
 |.toUnsafe x=>match ev x with
  |.pointer none=>some (.pointer none,U)
  |.pointer (some ⟨i,o,none⟩)=>match U.get i with
   |some (.cells c _ _ _)=>if o<c.length then some (.pointer (some ⟨i,o,none⟩),U) else none
   |_=>none
  |_=>none
 |.fromUnsafe u size x=>match ev x with
  |.pointer none=>some (.pointer none,U)
  |.pointer (some ⟨i,o,none⟩)=>match U.get i with
   |some (.cells c e true true)=>if o=0/\e.ty=u/\size<=c.length then some (.pointer (some ⟨i,o,none⟩),U) else none
   |_=>none
  |_=>none
 |.sliceData x=>match ev x with
  |.slice none _ _=>some (.pointer none,U)
  |.slice (some ⟨i,o,none⟩) _ cap=>if cap≠0/\(U.get i).isSome=true then some (.pointer (some ⟨i,o,none⟩),U) else none
  |_=>none
 |.unsafeStr e x n=>match ev x,ev n with
  |.pointer p,.int .i64 k =>
   if k=0 then some (.string ⟨#[]⟩,U) else
   match p with
   |some ⟨i,o,none⟩=>match U.get i with
    |some (.cells c el true tight) =>
     if 0<k/\k<=2 ^ 62/\el.ty=e/\o+k.toNat<=c.length then
      (match BI ((c.drop o).take k.toNat) with
      |some s=>some (.string s,U.upd i (.cells c el false tight))
      |none=>none) else none
    |_=>none
   |_=>none
  |_,_=>none
 |.bytesStr x=>match ev x with
  |.slice a n c=>match U.sl 1 (.slice a n c) with
   |some xs=>match BI xs with|some s=>some (.string s,U)|none=>none
   |none=>none
  |_=>none
 |.strBytes e x=>match ev x with
  |.string s=>if s.size<=2 ^ 62 then US U (.cells (s.data.toList.map λb=>.int .u8 b.toNat) ⟨1,e⟩ true false) (.slice (some ⟨U.n,0,none⟩) s.size s.size) else none
  |_=>none
 |_=>none
def Heap.empty:Heap:=⟨λ_=>none,0,λ_ _=>rfl⟩
def Q07 (o:VOp) (ev:Operand->Value) (U:CH):Option (Value×CH) :=
 match o with
 |.alloc t z=>US U (.cells z ⟨z.length,t⟩ true true) (.pointer (some ⟨U.n,0,none⟩))
 |.box t x=>match Kh (ev x) with
  |some vs=>US U (.cells vs ⟨vs.length,t⟩ true true) (.pointer (some ⟨U.n,0,none⟩))
  |none=>none
 |.buildSlice esz z len parts=>match NK (H9 len z) (parts.map λp=>(p.1*esz.sz,esz.sz,ev p.2)) with
  |some cs=>US U (.cells cs esz true true) (.slice (some ⟨U.n,0,none⟩) len len)
  |none=>none
 |.load agg size a=>match ev a with
  |.pointer (some ⟨g,o,some _⟩)=>(match Q0h g with
   |some c=>if c.all QM then (match WB agg size c o with|some v=>some (v,U)|none=>none) else none
   |none=>none)
  |.pointer (some ⟨i,o,none⟩)=>match U.get i with
   |some (.cells c _ _ _)=>match WB agg size c o with|some v=>some (v,U)|none=>none
   |_=>none
  |_=>none
 |.store size a v=>match ev a,Kh (ev v) with
  |.pointer (some ⟨i,o,none⟩),some vs=>match U.get i with
   |some (.cells c e wr tight)=>if wr=true/\vs.length=size/\o+size<=c.length/\vs.all cellOk=true then some (undef,U.upd i (.cells (Yi c o vs) e wr tight)) else none
   |_=>none
  |_,_=>none
 |.slice size x lo hi mx =>
  match ev x with
  |.slice a n cap =>
   match Jh ev lo 0,Jh ev hi n,mx with
   |some l,some h,none=>AR size U (.slice a n cap) l h none
   |some l,some h,some _=>match Jh ev mx 0,hi with
    |some m,some _=>AR size U (.slice a n cap) l h (some m)
    |_,_=>none
   |_,_,_=>none
  |_=>none
 |.makeSlice esz bytes z l c =>
  match ev l,ev c with
  |.int _ a,.int _ b=>if 0<=a/\a<=b/\b*bytes<=2 ^ 46/\b<=2 ^ 46 then US U (.cells (H9 b.toNat z) esz true true) (.slice (some ⟨U.n,0,none⟩) a.toNat b.toNat) else none
  |_,_=>none
 |.append esz bytes s x =>
  match U.sl esz.sz (ev x),ev x with
  |some xs,.slice _ m _=>if xs.all cellOk then RG esz bytes U (ev s) m xs else none
  |_,_=>none
 |.ext o=>XV o ev U
 |o=>if o.kind=0 then (match Qb o ev Heap.empty with|some p=>some (p.1,U)|none=>none) else none
def ESnd (rs:Nat->Env×Loop) (h:CH) (_σ:Heap) (r:Option (Value×Heap)) (p:Value×CH):Prop:=h.n<=p.2.n/\∃ U',r=some (p.1,U')/\CSim rs p.2 U'
theorem ESnd.same {rs:Nat->Env×Loop}{h:CH}{U:Heap}(hs:CSim rs h U) {r:Option (Value×Heap)}{v:Value}(hr:r=some (v,U)):ESnd rs h U r (v,h):=⟨ze _,U,hr,hs⟩
theorem ESnd.upd {rs:Nat->Env×Loop}{h:CH}{U:Heap}(hs:CSim rs h U) {r:Option (Value×Heap)}{v:Value}{i:Nat}{b:EB}{b0:EB}(hg:h.get i=some b0) {b':Blk}(hb:b.to (rs i)=b') (hr:r=some (v,U.upd i b')):ESnd rs h U r (v,h.upd i b):=by have hi:=hs.lt hg;have mS:=hs.sm;exact⟨ze _,_,hr,hs.upd hi hb⟩
theorem ESnd.push {rs:Nat->Env×Loop}{h:CH}{U:Heap}(hs:CSim rs h U) {r:Option (Value×Heap)}{v:Value}{p:Value×CH}{b:EB}(hp:US h b v=some p) {b':Blk}(hb:b.to (rs h.n)=b') (hr:r=some (v,U.push b')):ESnd rs h U r p:=by
 unfold US at hp;split at hp
 .rename_i aZ;obtain rfl:=osj hp;have mS:=hs.sm;exact⟨Nat.le_succ _,_,hr,hs.push aZ hb⟩
 .cases hp
theorem CSim.sl {rs:Nat->Env×Loop}{h:CH}{U:Heap}(hs:CSim rs h U) {esz:Nat}{v:Value}{xs:List Value}(hx:h.sl esz v=some xs):U.sl esz v=some xs:=by
 unfold CH.sl at hx;unfold Heap.sl;split at hx
 .exact hx
 .rename_i i o n c;split at hx
  .rename_i cs e wr t hb;simp only[hs.cells hb];exact hx
  .cases hx
 .cases hx
theorem CSim.mapAt {rs:Nat->Env×Loop}{h:CH}{U:Heap}(hs:CSim rs h U) {m:Nat}{x:List JD×Nat×Bool}(hx:h.mapAt m=some x):U.mapAt m=some x/\h.get m=some (.map x.1 x.2.1 x.2.2):=by
 unfold CH.mapAt at hx;unfold Heap.mapAt;split at hx
 .rename_i es clock wr hb;obtain rfl:=osj hx;exact⟨by simp only[hs.map hb],hb⟩
 .cases hx
theorem CC {rs:Nat->Env×Loop}{h:CH}{U:Heap}(hs:CSim rs h U) {kd:Nat}{a b:Value}{r:Bool}(hx:Q5d kd a b h=some r):Jp kd a b U=some r:=by
 unfold Q5d at hx;unfold Jp
 split at hx<;>first
  |exact hx
  |(cases hx;done)
  |skip
 rename_i i o j q;split at hx
 .rename_i hc;obtain⟨h1,h2,h3⟩:=hc;have cO:i=j/\o=q/\(U.get i).isSome=true:=⟨h1,h2,by rw[hs.get];simpa using h3⟩;simp only[z7 cO];exact hx
 .cases hx
theorem RA {rs:Nat->Env×Loop}{h:CH}{U:Heap}(hs:CSim rs h U) {esz:El}{bytes:Nat}{s:Value}{m:Nat}{xs:List Value}{p:Value×CH}(hx:RG esz bytes h s m xs=some p):ESnd rs h U (Yz esz bytes U s m xs) p:=by
 unfold RG at hx;unfold Yz;split at hx
 .split at hx
  .rename_i hm;simp only[z7 hm];obtain rfl:=osj hx;exact .same hs rfl
  .rename_i hm;simp only[z1 hm];split at hx
   .rename_i hb;simp only[z7 hb];rw[hs.n] at hx;exact .push hs hx rfl rfl
   .cases hx
 .rename_i i o n cap;split at hx
  .rename_i c e wr tight hg;have mS:=hs.sm;have hi:=hs.lt hg;simp only[hs.cells hg];split at hx
   .rename_i h1;simp only[z7 h1];split at hx
    .rename_i h2;simp only[z7 h2];obtain rfl:=osj hx;exact .same hs rfl
    .rename_i h2;simp only[z1 h2];split at hx
     .rename_i h3;simp only[z7 h3];split at hx
      .rename_i h4;simp only[z7 h4];obtain rfl:=osj hx;exact .upd hs hg rfl rfl
      .cases hx
     .rename_i h3;simp only[z1 h3];split at hx
      .rename_i h4;simp only[z7 h4];split at hx
       .rename_i h5;simp only[z7 h5];rw[hs.n] at hx;exact .push hs hx rfl rfl
       .rename_i h5;simp only[z1 h5];split at hx
        .rename_i h6;simp only[z7 h6];rw[hs.n] at hx;have hk:=hs.kill hi;obtain⟨k1,U',k2,k3⟩:=ESnd.push (r:=some (.slice (some ⟨U.n,0,none⟩) (n+m) (n+m),(U.kill i).push (.cells ((c.drop o).take (n*esz.sz)++xs) esz true false))) hk hx rfl rfl;exact⟨k1,U',k2,k3⟩
        .cases hx
      .cases hx
   .cases hx
  .cases hx
 .rename_i i o n cap;split at hx
  .rename_i c e wr tight hg;simp only[hs.cells hg];split at hx
   .rename_i h1;simp only[z7 h1];rw[hs.n] at hx;exact .push hs hx rfl rfl
   .cases hx
  .cases hx
 .cases hx
theorem BN {rs:Nat->Env×Loop}{h:CH}{U:Heap}(hs:CSim rs h U) {size:Nat}{s:Value}{l k:Nat}{m:Option Nat}{p:Value×CH}(hx:AR size h s l k m=some p):ESnd rs h U (WM size U s l k m) p:=by
 unfold AR at hx;unfold WM;split at hx
 .split at hx
  .rename_i hm;simp only[z7 hm];obtain rfl:=osj hx;exact .same hs rfl
  .cases hx
 .rename_i i o n cap;split at hx
  .rename_i c e wr tight hg;simp only[hs.cells hg];split at hx
   .split at hx
    .rename_i h1;simp only[z7 h1];obtain rfl:=osj hx;exact .same hs rfl
    .cases hx
   .split at hx
    .rename_i h1;simp only[z7 h1];split at hx
     .rename_i h2;simp only[z7 h2];rw[hs.n] at hx;exact .push hs hx rfl rfl
     .rename_i h2;simp only[z1 h2];split at hx
      .rename_i h3;simp only[z7 h3];obtain rfl:=osj hx;exact .same hs rfl
      .rename_i h3;simp only[z1 h3];obtain rfl:=osj hx;exact .same hs rfl
    .cases hx
  .cases hx
 .cases hx
theorem PL {rs:Nat->Env×Loop}{h:CH}{U:Heap}(hs:CSim rs h U) {o:XOp}{ev:Operand->Value}{p:Value×CH}(hx:XV o ev h=some p):ESnd rs h U (ZA o ev U) p:=by
 cases o
 case eqAgg neg s x y =>
  simp only[XV] at hx;simp only[ZA];split at hx
  .rename_i a b ha hb;split at hx
   .rename_i hc;rw[ha,hb];simp only;rw[z7 hc];obtain rfl:=osj hx;exact .same hs rfl
   .cases hx
  .cases hx
 case eqNil kd neg x y =>
  simp only[XV] at hx;simp only[ZA];split at hx
  .rename_i b hb;rw[CC hs hb];obtain rfl:=osj hx;exact .same hs rfl
  .cases hx
 case makeMap =>
  simp only[XV] at hx;simp only[ZA];rw[hs.n] at hx;exact .push hs hx rfl rfl
 case lookup mk z ok x i =>
  simp only[XV] at hx;simp only[ZA];generalize ev x=q0 at hx |-;generalize ev i=q1 at hx |-;split at hx
  .rename_i hk;simp only[z7 hk];split at hx
   .obtain rfl:=osj hx;exact .same hs rfl
   .rename_i m hm;split at hx
    .rename_i es cl wr fF;obtain⟨k1,k2⟩:=hs.mapAt fF;simp only[k1];split at hx
     .rename_i ae;simp only[z7 ae];split at hx
      .rename_i e hf;simp only[hf];obtain rfl:=osj hx;exact .same hs rfl
      .rename_i hf;simp only[hf];obtain rfl:=osj hx;exact .same hs rfl
     .cases hx
    .cases hx
   .cases hx
  .cases hx
 case mapUpdate mk m k v =>
  simp only[XV] at hx;simp only[ZA];generalize ev m=q0 at hx |-;split at hx
  .rename_i i hi;split at hx
   .rename_i es cl fF;obtain⟨k1,k2⟩:=hs.mapAt fF;simp only[k1];split at hx
    .rename_i hc;simp only[z7 hc];obtain rfl:=osj hx;exact .upd hs k2 rfl rfl
    .cases hx
   .cases hx
  .cases hx
 case delete mk m k =>
  simp only[XV] at hx;simp only[ZA];generalize ev m=q0 at hx |-;split at hx
  .rename_i i hi;split at hx
   .rename_i es cl fF;obtain⟨k1,k2⟩:=hs.mapAt fF;simp only[k1];split at hx
    .rename_i hc;simp only[z7 hc];obtain rfl:=osj hx;exact .upd hs k2 rfl rfl
    .cases hx
   .cases hx
  .cases hx
 case mapEntry=>cases hx
 case entryStore=>cases hx
 case lenMap x =>
  simp only[XV] at hx;simp only[ZA];generalize ev x=q0 at hx |-;split at hx
  .obtain rfl:=osj hx;exact .same hs rfl
  .split at hx
   .rename_i es cl wr fF;obtain⟨k1,k2⟩:=hs.mapAt fF;simp only[k1];obtain rfl:=osj hx;exact .same hs rfl
   .cases hx
  .cases hx
 case rangeMap x =>
  simp only[XV] at hx;simp only[ZA];generalize ev x=q0 at hx |-;split at hx
  .split at hx
   .rename_i es cl wr fF;obtain⟨k1,k2⟩:=hs.mapAt fF;simp only[k1];rw[hs.n] at hx;exact .push hs hx rfl rfl
   .cases hx
  .cases hx
 case nextMap=>cases hx
 case entry x =>
  simp only[XV] at hx;simp only[ZA];generalize ev x=q0 at hx |-;split at hx
  .split at hx
   .rename_i m since seen last hg;simp only[hs.iter hg];split at hx
    .rename_i es clock wr b fF dU;obtain⟨k1,_⟩:=hs.mapAt fF;simp only[k1,dU];split at hx
     .rename_i hc;rw[z7 hc];split at hx
      .rename_i e hf;split at hx
       .rename_i hp;rw[hf];simp only[hp,zI];obtain rfl:=osj hx;exact .same hs rfl
       .cases hx
      .cases hx
     .cases hx
    .cases hx
   .cases hx
  .cases hx
 case copy size d s =>
  simp only[XV] at hx;simp only[ZA];generalize ev d=q0 at hx |-;generalize ev s=q1 at hx |-;split at hx
  .rename_i db dn dc sb sn sc h1 h2;split at hx
   .rename_i hm;simp only[z7 hm];obtain rfl:=osj hx;exact .same hs rfl
   .rename_i hm;simp only[z1 hm];split at hx
    .rename_i i o xs bE;simp only[hs.sl bE];split at hx
     .rename_i c e wr tight hg;simp only[hs.cells hg];split at hx
      .rename_i hc;simp only[z7 hc];obtain rfl:=osj hx;exact .upd hs hg rfl rfl
      .cases hx
     .cases hx
    .cases hx
  .cases hx
 case clear z x =>
  simp only[XV] at hx;simp only[ZA];generalize ev x=q0 at hx |-;split at hx
  .rename_i b n cap;split at hx
   .rename_i hm;simp only[z7 hm];obtain rfl:=osj hx;exact .same hs rfl
   .rename_i hm;simp only[z1 hm];split at hx
    .rename_i i o;split at hx
     .rename_i c e wr tight hg;simp only[hs.cells hg];split at hx
      .rename_i hc;simp only[z7 hc];obtain rfl:=osj hx;exact .upd hs hg rfl rfl
      .cases hx
     .cases hx
    .cases hx
  .cases hx
 case toUnsafe x =>
  simp only[XV] at hx;simp only[ZA];generalize ev x=q0 at hx |-;split at hx
  .obtain rfl:=osj hx;exact .same hs rfl
  .split at hx
   .rename_i c e wr tight hg;simp only[hs.cells hg];split at hx
    .rename_i hc;simp only[z7 hc];obtain rfl:=osj hx;exact .same hs rfl
    .cases hx
   .cases hx
  .cases hx
 case fromUnsafe u size x =>
  simp only[XV] at hx;simp only[ZA];generalize ev x=q0 at hx |-;split at hx
  .obtain rfl:=osj hx;exact .same hs rfl
  .split at hx
   .rename_i c e hg;simp only[hs.cells hg];split at hx
    .rename_i hc;simp only[z7 hc];obtain rfl:=osj hx;exact .same hs rfl
    .cases hx
   .cases hx
  .cases hx
 case sliceData x =>
  simp only[XV] at hx;simp only[ZA];generalize ev x=q0 at hx |-;split at hx
  .obtain rfl:=osj hx;exact .same hs rfl
  .rename_i i o n cap;split at hx
   .rename_i hc;simp only[z7 (show cap≠0/\(U.get i).isSome=true from ⟨hc.1,by rw[hs.get];simpa using hc.2⟩)];obtain rfl:=osj hx;exact .same hs rfl
   .cases hx
  .cases hx
 case unsafeStr e x n =>
  simp only[XV] at hx;simp only[ZA];generalize ev x=q0 at hx |-;generalize ev n=q1 at hx |-;split at hx
  .rename_i q k h1 h2;split at hx
   .rename_i hk;simp only[z7 hk];obtain rfl:=osj hx;exact .same hs rfl
   .rename_i hk;simp only[z1 hk];split at hx
    .rename_i i o;split at hx
     .rename_i c el tight hg;simp only[hs.cells hg];split at hx
      .rename_i hc;simp only[z7 hc];split at hx
       .rename_i u hu;simp only[hu];obtain rfl:=osj hx;exact .upd hs hg rfl rfl
       .cases hx
      .cases hx
     .cases hx
    .cases hx
  .cases hx
 case bytesStr x =>
  simp only[XV] at hx;simp only[ZA];generalize ev x=q0 at hx |-;split at hx
  .split at hx
   .rename_i xs bE;simp only[hs.sl bE];split at hx
    .rename_i u hu;simp only[hu];obtain rfl:=osj hx;exact .same hs rfl
    .cases hx
   .cases hx
  .cases hx
 case strBytes e x =>
  simp only[XV] at hx;simp only[ZA];generalize ev x=q0 at hx |-;split at hx
  .split at hx
   .rename_i h1;simp only[z7 h1];rw[hs.n] at hx;exact .push hs hx rfl rfl
   .cases hx
  .cases hx
theorem I9 {rs:Nat->Env×Loop}{h:CH}{U:Heap}(hs:CSim rs h U) {o:VOp}{ev:Operand->Value}{p:Value×CH}
  (hx:(if o.kind=0 then (match Qb o ev Heap.empty with|some p=>some (p.1,h)|none=>none) else none)=some p):ESnd rs h U (Qb o ev U) p:=by
 split at hx
 .rename_i hk;split at hx
  .rename_i q hq;obtain rfl:=osj hx;exact .same hs (Pd hk (v:=q.1) (σ1:=q.2) hq)
  .cases hx
 .cases hx
theorem WZ {rs:Nat->Env×Loop}{h:CH}{U:Heap}(hs:CSim rs h U) {o:VOp}{ev:Operand->Value}{p:Value×CH}(hx:Q07 o ev h=some p):ESnd rs h U (Qb o ev U) p:=by
 cases o
 case alloc t z =>
  simp only[Q07] at hx;simp only[Qb];rw[hs.n] at hx;exact .push hs hx rfl rfl
 case box t x =>
  simp only[Q07] at hx;simp only[Qb];generalize Kh (ev x)=q0 at hx |-;split at hx
  .rw[hs.n] at hx;exact .push hs hx rfl rfl
  .cases hx
 case buildSlice esz z len parts =>
  simp only[Q07] at hx;simp only[Qb];generalize NK (H9 len z) (parts.map λp=>(p.1*esz.sz,esz.sz,ev p.2))=q0 at hx |-;split at hx
  .rw[hs.n] at hx;exact .push hs hx rfl rfl
  .cases hx
 case load agg size a =>
  simp only[Q07] at hx;simp only[Qb];generalize ev a=q0 at hx |-;split at hx
  .split at hx
   .rename_i c hg;split at hx
    .rename_i ae;simp only[hg,z7 ae];split at hx
     .rename_i u hu;simp only[hu];obtain rfl:=osj hx;exact .same hs rfl
     .cases hx
    .cases hx
   .cases hx
  .split at hx
   .rename_i c e wr tight hg;simp only[hs.cells hg];split at hx
    .rename_i u hu;simp only[hu];obtain rfl:=osj hx;exact .same hs rfl
    .cases hx
   .cases hx
  .cases hx
 case store size a v =>
  simp only[Q07] at hx;simp only[Qb];generalize Kh (ev v)=q0 at hx |-;generalize ev a=q1 at hx |-;split at hx
  .rename_i i o vs h1 h2;split at hx
   .rename_i c e wr tight hg;simp only[hs.cells hg];split at hx
    .rename_i hc;simp only[z7 hc];obtain rfl:=osj hx;exact .upd hs hg rfl rfl
    .cases hx
   .cases hx
  .cases hx
 case slice size x lo hi mx =>
  simp only[Q07] at hx;simp only[Qb];generalize ev x=q0 at hx |-;split at hx
  .rename_i a n cap;dsimp only;generalize Jh ev lo 0=q1 at hx |-;generalize Jh ev hi n=q2 at hx |-;split at hx
   .exact BN hs hx
   .rename_i l k m;dsimp only;generalize Jh ev (some m) 0=q3 at hx |-;split at hx
    .exact BN hs hx
    .cases hx
   .cases hx
  .cases hx
 case makeSlice esz bytes z l c =>
  simp only[Q07] at hx;simp only[Qb];generalize ev l=q0 at hx |-;generalize ev c=q1 at hx |-;split at hx
  .split at hx
   .rename_i hc;simp only[z7 hc];rw[hs.n] at hx;exact .push hs hx rfl rfl
   .cases hx
  .cases hx
 case append esz bytes s x =>
  simp only[Q07] at hx;simp only[Qb];generalize ev x=q0 at hx |-;split at hx
  .rename_i bE;simp only[hs.sl bE];split at hx
   .rename_i hc;simp only[z7 hc];exact RA hs hx
   .cases hx
  .cases hx
 case ext o=>exact PL hs hx
 all_goals exact I9 hs hx
def EW (k:IntKind) (n:Int):Int:=match n with
 |.ofNat x=>match Nat.ble x 127 with
  |true=>.ofNat x
  |false=>k.wrap (.ofNat x)
 |.negSucc x=>k.wrap (.negSucc x)
theorem AM (k:IntKind) (n:Int):EW k n=k.wrap n:=by
 cases n with
 |negSucc x=>rfl
 |ofNat x =>
  simp only[EW];split
  .rename_i h;have hx:x<=127:=zM h;show (x:Int)=k.wrap (x:Int);cases k<;>simp[IntKind.wrap,IntKind.bits,IntKind.signed]<;>omega
  .rfl
def Z0u (c a b:Value):Option Value:=match c with|.bool t=>some (if t then a else b)|_=>none
def Q3o (op:BinOp) (x y:Value):Option Value:=match x,y with|.int k a,.int k' b=>if k=k' then some (.int k (match op with|.add=>EW k (a+b)|.sub=>EW k (a-b)|_=>EW k (a*b))) else none|_,_=>none
def Z5r (op:BinOp) (x y:Value):Option Value:=match x,y with|.int k a,.int k' b=>if k=k'/\b≠0 then some (.int k (Q7q op k a b)) else none|_,_=>none
def Z07 (op:BinOp) (x y:Value):Option Value:=match x,y with|.int k a,.int k' b=>if k=k' then some (.int k (Qd op k a b)) else none|_,_=>none
def Q4v (op:BinOp) (x y:Value):Option Value:=match x,y with|.int k a,.int _ b=>if 0<=b then some (.int k (TT op k a b)) else none|_,_=>none
def Z5p (op:BinOp) (x y:Value):Option Value:=match x,y with|.int k a,.int k' b=>if k=k' then some (.bool (Z1o op a b)) else none|_,_=>none
def Z59 (op:BinOp) (x y:Value):Option Value:=match x,y with
  |.string a,.string b=>match op with
   |.add=>if a.size+b.size<=2 ^ 62 then some (.string (a++b)) else none
   |.eql=>some (.bool (a.data.toList==b.data.toList))
   |.neq=>some (.bool (!(a.data.toList==b.data.toList)))
   |.lss=>some (.bool (Op.bytesLess a.data.toList b.data.toList))
   |_=>none
  |_,_=>none
def Z5d (neg:Bool) (x y:Value):Option Value:=match x,y with|.bool a,.bool b=>some (.bool (if neg then !(a==b) else (a==b)))|_,_=>none
def pUn (op:UnOp) (x:Value):Option Value:=match op,x with
  |.not,.bool b=>some (.bool (!b))
  |.neg,.int k n=>some (.int k (k.wrap (0-n)))
  |.xor,.int k n=>some (.int k (Qd .xor k (if k.signed then -1 else k.max) n))
  |_,_=>none
def Q4o (k:IntKind) (x:Value):Option Value:=match x with|.int _ n=>some (.int k (EW k n))|_=>none
def Q4d (x:Value):Option Value:=match x with|.string s=>some (.string s)|_=>none
def Q45 (z:List Value) (l:List (Nat×Nat×Value)):Option Value:=match NK z l with|some cs=>some (.agg cs.toArray)|none=>none
def Rj (off:Nat) (a:Value):Option Value:=match a with
  |.pointer (some ⟨i,o,none⟩)=>some (.pointer (some ⟨i,o+off,none⟩))
  |_=>none
def Q2w (agg:Bool) (off size:Nat) (x:Value):Option Value:=match x with
  |.agg cs=>WB agg size cs.toList off
  |_=>none
def TL (size:Nat) (x i:Value):Option Value:=match x,i with
  |.slice (some ⟨b,o,none⟩) n _,.int _ k=>if 0<=k/\k<n then some (.pointer (some ⟨b,o+k.toNat*size,none⟩)) else none
  |_,_=>none
def DB (len size:Nat) (x i:Value):Option Value:=match x,i with
  |.pointer (some ⟨g,o,some s⟩),.int _ k=>if 0<=k/\k<len then some (.pointer (some ⟨g,o+k.toNat*size,some s⟩)) else none
  |.pointer (some ⟨b,o,none⟩),.int _ k=>if 0<=k/\k<len then some (.pointer (some ⟨b,o+k.toNat*size,none⟩)) else none
  |_,_=>none
def L4 (x i:Value):Option Value:=match x,i with
  |.string s,.int _ k=>if 0<=k then (match s.data.toList[k.toNat]? with|some b=>some (.int .u8 b.toNat)|none=>none) else none
  |_,_=>none
def Ls (len:Nat) (agg:Bool) (size:Nat) (x i:Value):Option Value:=match x,i with
  |.agg cs,.int _ k=>if 0<=k/\k<len then WB agg size cs.toList (k.toNat*size) else none
  |_,_=>none
def Lr (ev:Operand->Value) (x:Value) (lo hi:Option Operand):Option Value:=match x with
  |.string s =>
   match Jh ev lo 0,Jh ev hi s.size with
   |some l,some h=>if l<=h/\h<=s.size then some (.string (s.extract l h)) else none
   |_,_=>none
  |_=>none
def Z5k (x:Value):Option Value:=match x with|.slice _ n _=>some (.int .i64 n)|_=>none
def Ii (x:Value):Option Value:=match x with|.string s=>some (.int .i64 s.size)|_=>none
def Q89 (x y z w:Value):Option Value:=match x,y,z,w with|.int k a,.int k2 b,.int k3 c,.int k4 d=>if k=k2/\k=k3/\k=k4 then some (.int k (FD (FD (FD a b) c) d)) else none|_,_,_,_=>none
def Z5l (x y:Value):Option Value:=match x,y with|.int k a,.int k' b=>if k=k' then some (.int k (if b > a then b else a)) else none|_,_=>none
def Z5v (x y:Value):Option Value:=match x,y with|.int k a,.int k' b=>if k=k' then some (.int k (if b<a then b else a)) else none|_,_=>none
def Q2k (t:TypeId) (x:Value):Option Value:=match x with|.chan _=>none|v=>some (.iface t v)
def A7 (i:Nat) (x:Value):Option Value:=match x with
  |.tuple vs=>vs.toList[i]?
  |_=>none
def LS (x:Value):Option Value:=match x with
  |.pointer (some a)=>some (.pointer (some a))
  |.func (.func f) first cap=>some (.func (.func f) first cap)
  |_=>none
def ppp (r:Option Value) (U:CH):Option (Value×CH):=match r with|some v=>some (v,U)|none=>none
def Z64 (t:Nat) (x:Value) (U:CH):Option (Value×CH):=match Kh x with
  |some vs=>US U (.cells vs ⟨vs.length,t⟩ true true) (.pointer (some ⟨U.n,0,none⟩))
  |none=>none
def Cg (esz:El) (z:List Value) (len:Nat) (l:List (Nat×Nat×Value)) (U:CH):Option (Value×CH):=match NK (H9 len z) l with
  |some cs=>US U (.cells cs esz true true) (.slice (some ⟨U.n,0,none⟩) len len)
  |none=>none
def Q9o (agg:Bool) (size:Nat) (a:Value) (U:CH):Option (Value×CH):=match a with
  |.pointer (some ⟨g,o,some _⟩)=>(match Q0h g with
   |some c=>if c.all QM then (match WB agg size c o with|some v=>some (v,U)|none=>none) else none
   |none=>none)
  |.pointer (some ⟨i,o,none⟩)=>match U.get i with
   |some (.cells c _ _ _)=>match WB agg size c o with|some v=>some (v,U)|none=>none
   |_=>none
  |_=>none
def stL (c:List Value) (o:Nat) (vs:List Value):List Value:=match vs with
 |[v]=>c.set o v
 |vs=>c.take o++(vs++c.drop (o+vs.length))
theorem E2:∀ (vs a b c:List Value),vs.length=b.length->Yi (a++(b++c)) a.length vs=a++(vs++c)
 |[],a,b,c,h=>by have:b=[]:=List.eq_nil_of_length_eq_zero (by simpa using h.symm);subst this;rfl
 |v::vs,a,[],c,h=>by simp at h
 |v::vs,a,x::b,c,h=>by
  simp only[Yi];have e:(a++(x::b++c)).set a.length v=(a++[v])++(b++c):=by simp
  rw[e];have:=E2 vs (a++[v]) b c (by simpa using h);rw[zJ,xq] at this;rw[this];simp
theorem Z0w {c:List Value}{o:Nat}{vs:List Value}(h:o+vs.length<=c.length):stL c o vs=Yi c o vs:=by
 unfold stL;split
 .rfl
 .have h1:c=c.take o++((c.drop o).take vs.length++c.drop (o+vs.length)):=by
   rw[<-List.drop_drop,wb,wb]
  have h2:(c.take o).length=o:=by simp;omega
  have:=E2 vs (c.take o) ((c.drop o).take vs.length) (c.drop (o+vs.length)) (by simp;omega);rw[h2,<-h1] at this;exact this.symm
def Q2m (size:Nat) (a v:Value) (U:CH):Option (Value×CH):=match a,Kh v with
  |.pointer (some ⟨i,o,none⟩),some vs=>match U.get i with
   |some (.cells c e wr tight)=>if wr=true/\vs.length=size/\o+size<=c.length/\vs.all cellOk=true then some (undef,U.upd i (.cells (stL c o vs) e wr tight)) else none
   |_=>none
  |_,_=>none
def Ev (esz:El) (bytes:Nat) (z:List Value) (l c:Value) (U:CH):Option (Value×CH) :=
  match l,c with
  |.int _ a,.int _ b=>if 0<=a/\a<=b/\b*bytes<=2 ^ 46/\b<=2 ^ 46 then US U (.cells (H9 b.toNat z) esz true true) (.slice (some ⟨U.n,0,none⟩) a.toNat b.toNat) else none
  |_,_=>none
def Z5y (esz:El) (bytes:Nat) (s x:Value) (U:CH):Option (Value×CH) :=
  match U.sl esz.sz x,x with
  |some xs,.slice _ m _=>if xs.all cellOk then RG esz bytes U s m xs else none
  |_,_=>none
def CG (o:VOp) (ev:Operand->Value) (U:CH):Option (Value×CH) :=
 match o with
 |.move x=>some (ev x,U)
 |.pick c a b=>ppp (Z0u (ev c) (ev a) (ev b)) U
 |.arith op x y=>ppp (Q3o op (ev x) (ev y)) U
 |.div op x y=>ppp (Z5r op (ev x) (ev y)) U
 |.bits op x y=>ppp (Z07 op (ev x) (ev y)) U
 |.shift op x y=>ppp (Q4v op (ev x) (ev y)) U
 |.cmp op x y=>ppp (Z5p op (ev x) (ev y)) U
 |.str op x y=>ppp (Z59 op (ev x) (ev y)) U
 |.eqB n x y=>ppp (Z5d n (ev x) (ev y)) U
 |.un op x=>ppp (pUn op (ev x)) U
 |.convI k x=>ppp (Q4o k (ev x)) U
 |.convS x=>ppp (Q4d (ev x)) U
 |.build z parts=>ppp (Q45 z (parts.map λp=>(p.1,p.2.1,ev p.2.2))) U
 |.fieldAddr off a=>ppp (Rj off (ev a)) U
 |.field agg off size x=>ppp (Q2w agg off size (ev x)) U
 |.indexAddr size x i=>ppp (TL size (ev x) (ev i)) U
 |.indexAddrArr len size x i=>ppp (DB len size (ev x) (ev i)) U
 |.indexStr x i=>ppp (L4 (ev x) (ev i)) U
 |.indexArr len agg size x i=>ppp (Ls len agg size (ev x) (ev i)) U
 |.sliceStr x lo hi=>ppp (Lr ev (ev x) lo hi) U
 |.len x=>ppp (Z5k (ev x)) U
 |.lenStr x=>ppp (Ii (ev x)) U
 |.max x y=>ppp (Z5l (ev x) (ev y)) U
 |.max4 x y z w=>ppp (Q89 (ev x) (ev y) (ev z) (ev w)) U
 |.min x y=>ppp (Z5v (ev x) (ev y)) U
 |.makeFunc fn first cap=>some (.func fn (first.map ev).toArray (cap.map ev).toArray,U)
 |.iface t x=>ppp (Q2k t (ev x)) U
 |.extract x i=>ppp (A7 i (ev x)) U
 |.nilCheck x=>ppp (LS (ev x)) U
 |.alloc t z=>US U (.cells z ⟨z.length,t⟩ true true) (.pointer (some ⟨U.n,0,none⟩))
 |.box t x=>Z64 t (ev x) U
 |.buildSlice esz z len parts=>Cg esz z len (parts.map λp=>(p.1*esz.sz,esz.sz,ev p.2)) U
 |.load agg size a=>Q9o agg size (ev a) U
 |.store size a v=>Q2m size (ev a) (ev v) U
 |.slice size x lo hi mx=>Q07 (.slice size x lo hi mx) ev U
 |.makeSlice esz bytes z l c=>Ev esz bytes z (ev l) (ev c) U
 |.append esz bytes s x=>Z5y esz bytes (ev s) (ev x) U
 |.ext o=>XV o ev U
 |_=>none
theorem Og {rs:Nat->Env×Loop}{h:CH}{U:Heap}(hs:CSim rs h U) {r:Option Value}{r':Option (Value×Heap)}{p:Value×CH}(hr:∀ v,r=some v->r'=some (v,U)) (hx:ppp r h=some p):ESnd rs h U r' p:=by
 unfold ppp at hx;split at hx
 .rename_i v;obtain rfl:=osj hx;exact .same hs (hr v rfl)
 .cases hx
theorem KB {rs:Nat->Env×Loop}{h:CH}{U:Heap}(hs:CSim rs h U) {o:VOp}{ev:Operand->Value}{p:Value×CH}(hx:CG o ev h=some p):ESnd rs h U (Qb o ev U) p:=by
 cases o
 case move x=>exact .same hs (by obtain rfl:=osj hx;rfl) |> λ(h:ESnd rs _ U (Qb (.move x) ev U) (ev x,_))=>by obtain rfl:=osj hx;exact h
 case makeFunc fn a b=>obtain rfl:=osj hx;exact .same hs rfl
 case alloc t z=>exact WZ (o:=.alloc t z) hs hx
 case box t x=>exact WZ (o:=.box t x) hs hx
 case buildSlice a b c d=>exact WZ (o:=.buildSlice a b c d) hs hx
 case load a b c=>exact WZ (o:=.load a b c) hs hx
 case store size a v =>
  simp only[CG] at hx;simp only[Qb];unfold Q2m at hx;generalize Kh (ev v)=q0 at hx |-;generalize ev a=q1 at hx |-;split at hx
  .rename_i i o vs;split at hx
   .rename_i c e wr tight hg;simp only[hs.cells hg];split at hx
    .rename_i hc;simp only[z7 hc];rw[Z0w (by omega)] at hx;obtain rfl:=osj hx;exact .upd hs hg rfl rfl
    .cases hx
   .cases hx
  .cases hx
 case slice a b c d e=>exact WZ (o:=.slice a b c d e) hs hx
 case makeSlice a b c d e=>exact WZ (o:=.makeSlice a b c d e) hs hx
 case append a b c d=>exact WZ (o:=.append a b c d) hs hx
 case ext o=>exact PL hs hx
 case callF=>cases hx
 case callV=>cases hx
 case bad=>cases hx
 all_goals refine Og hs (λv hv=>?_) hx
 case arith op x y =>
  simp only[Qb];generalize ev x=a at hv |-;generalize ev y=b at hv |-;unfold Q3o at hv;split at hv
  .split at hv
   .rename_i hk;simp only[z7 hk];obtain rfl:=osj hv;cases op<;>simp only[R0,AM]
   .cases hv
  .cases hv
 case convI k x =>
  simp only[Qb];generalize ev x=a at hv |-;unfold Q4o at hv;split at hv
  .obtain rfl:=osj hv;simp only[AM]
  .cases hv
 case pick c a b =>
  simp only[Qb];generalize ev c=q0 at hv |-;generalize ev a=q1 at hv |-;generalize ev b=q2 at hv |-;unfold Z0u at hv
  (repeat' split at hv)<;>first|(cases hv;done)|(obtain rfl:=osj hv;first|rfl|(simp_all;done)|(simp_all;intros;omega))
 case div op x y =>
  simp only[Qb];generalize ev x=q0 at hv |-;generalize ev y=q1 at hv |-;unfold Z5r at hv
  (repeat' split at hv)<;>first|(cases hv;done)|(obtain rfl:=osj hv;first|rfl|(simp_all;done)|(simp_all;intros;omega))
 case bits op x y =>
  simp only[Qb];generalize ev x=q0 at hv |-;generalize ev y=q1 at hv |-;unfold Z07 at hv
  (repeat' split at hv)<;>first|(cases hv;done)|(obtain rfl:=osj hv;first|rfl|(simp_all;done)|(simp_all;intros;omega))
 case shift op x y =>
  simp only[Qb];generalize ev x=q0 at hv |-;generalize ev y=q1 at hv |-;unfold Q4v at hv
  (repeat' split at hv)<;>first|(cases hv;done)|(obtain rfl:=osj hv;first|rfl|(simp_all;done)|(simp_all;intros;omega))
 case cmp op x y =>
  simp only[Qb];generalize ev x=q0 at hv |-;generalize ev y=q1 at hv |-;unfold Z5p at hv
  (repeat' split at hv)<;>first|(cases hv;done)|(obtain rfl:=osj hv;first|rfl|(simp_all;done)|(simp_all;intros;omega))
 case eqB n x y =>
  simp only[Qb];generalize ev x=q0 at hv |-;generalize ev y=q1 at hv |-;unfold Z5d at hv
  (repeat' split at hv)<;>first|(cases hv;done)|(obtain rfl:=osj hv;first|rfl|(simp_all;done)|(simp_all;intros;omega))
 case un op x =>
  simp only[Qb];generalize ev x=q0 at hv |-;unfold pUn at hv
  (repeat' split at hv)<;>first|(cases hv;done)|(obtain rfl:=osj hv;first|rfl|(simp_all;done)|(simp_all;intros;omega))
 case convS x =>
  simp only[Qb];generalize ev x=q0 at hv |-;unfold Q4d at hv
  (repeat' split at hv)<;>first|(cases hv;done)|(obtain rfl:=osj hv;first|rfl|(simp_all;done)|(simp_all;intros;omega))
 case fieldAddr off a =>
  simp only[Qb];generalize ev a=q0 at hv |-;unfold Rj at hv
  (repeat' split at hv)<;>first|(cases hv;done)|(obtain rfl:=osj hv;first|rfl|(simp_all;done)|(simp_all;intros;omega))
 case indexAddr size x i =>
  simp only[Qb];generalize ev x=q0 at hv |-;generalize ev i=q1 at hv |-;unfold TL at hv
  (repeat' split at hv)<;>first|(cases hv;done)|(obtain rfl:=osj hv;first|rfl|(simp_all;done)|(simp_all;intros;omega))
 case indexAddrArr len size x i =>
  simp only[Qb];generalize ev x=q0 at hv |-;generalize ev i=q1 at hv |-;unfold DB at hv
  (repeat' split at hv)<;>first|(cases hv;done)|(obtain rfl:=osj hv;first|rfl|(simp_all;done)|(simp_all;intros;omega))
 case len x =>
  simp only[Qb];generalize ev x=q0 at hv |-;unfold Z5k at hv
  (repeat' split at hv)<;>first|(cases hv;done)|(obtain rfl:=osj hv;first|rfl|(simp_all;done)|(simp_all;intros;omega))
 case lenStr x =>
  simp only[Qb];generalize ev x=q0 at hv |-;unfold Ii at hv
  (repeat' split at hv)<;>first|(cases hv;done)|(obtain rfl:=osj hv;first|rfl|(simp_all;done)|(simp_all;intros;omega))
 case max4 x y z w =>
  simp only[Qb];generalize ev x=q0 at hv |-;generalize ev y=q1 at hv |-;generalize ev z=q2 at hv |-;generalize ev w=q3 at hv |-;unfold Q89 at hv
  (repeat' split at hv)<;>first|(cases hv;done)|(rename_i qk;obtain⟨rfl,rfl,rfl⟩:=qk;obtain rfl:=osj hv;simp_all;done)
 case max x y =>
  simp only[Qb];generalize ev x=q0 at hv |-;generalize ev y=q1 at hv |-;unfold Z5l at hv
  (repeat' split at hv)<;>first|(cases hv;done)|(obtain rfl:=osj hv;first|rfl|(simp_all;done)|(simp_all;intros;omega))
 case min x y =>
  simp only[Qb];generalize ev x=q0 at hv |-;generalize ev y=q1 at hv |-;unfold Z5v at hv
  (repeat' split at hv)<;>first|(cases hv;done)|(obtain rfl:=osj hv;first|rfl|(simp_all;done)|(simp_all;intros;omega))
 case nilCheck x =>
  simp only[Qb];generalize ev x=q0 at hv |-;unfold LS at hv
  (repeat' split at hv)<;>first|(cases hv;done)|(obtain rfl:=osj hv;first|rfl|(simp_all;done)|(simp_all;intros;omega))
 case str op x y =>
  simp only[Qb];generalize ev x=q0 at hv |-;generalize ev y=q1 at hv |-;unfold Z59 at hv
  (repeat' split at hv)<;>first|(cases hv;done)|(obtain rfl:=osj hv;first|rfl|(simp_all;done)|(simp_all;intros;omega))
 case build z parts =>
  simp only[Qb];unfold Q45 at hv;split at hv
  .rename_i cs hc;rw[hc];obtain rfl:=osj hv;rfl
  .cases hv
 case field agg off size x =>
  simp only[Qb];generalize ev x=q0 at hv |-;unfold Q2w at hv;split at hv
  .dsimp only;rw[hv]
  .cases hv
 case indexStr x i =>
  simp only[Qb];generalize ev x=q0 at hv |-;generalize ev i=q1 at hv |-;unfold L4 at hv;split at hv
  .split at hv
   .rename_i hc;simp only[z7 hc];split at hv
    .rename_i b hb;simp only[hb];obtain rfl:=osj hv;rfl
    .cases hv
   .cases hv
  .cases hv
 case indexArr len agg size x i =>
  simp only[Qb];generalize ev x=q0 at hv |-;generalize ev i=q1 at hv |-;unfold Ls at hv;split at hv
  .split at hv
   .rename_i hc;simp only[z7 hc,hv]
   .cases hv
  .cases hv
 case sliceStr x lo hi =>
  simp only[Qb];generalize ev x=q0 at hv |-;unfold Lr at hv;split at hv
  .rename_i s;split at hv
   .rename_i l h h1 h2;split at hv
    .rename_i hc;simp only[h1,h2,z7 hc];obtain rfl:=osj hv;rfl
    .cases hv
   .cases hv
  .cases hv
 case iface t x =>
  simp only[Qb];generalize ev x=q0 at hv |-;unfold Q2k at hv;split at hv
  .cases hv
  .rename_i az;obtain rfl:=osj hv;split
   .exact absurd rfl (az _)
   .rfl
 case extract x i =>
  simp only[Qb];generalize ev x=q0 at hv |-;unfold A7 at hv;split at hv
  .dsimp only;rw[hv]
  .cases hv
inductive Sh (a m d:Nat):Value->Value->Prop
 |plain (v:Value) (h:QM v=true):Sh a m d v v
 |ptr (i o:Nat) (h:a<=i) (hi:i<m):Sh a m d (.pointer (some ⟨i,o,none⟩)) (.pointer (some ⟨d+(i-a),o,none⟩))
 |sl (i o len cap:Nat) (h:a<=i) (hi:i<m):Sh a m d (.slice (some ⟨i,o,none⟩) len cap) (.slice (some ⟨d+(i-a),o,none⟩) len cap)
 |agg (cs ds:Array Value) (hc:cs.size=ds.size) (h:∀ i (h1:i<cs.size) (h2:i<ds.size),Sh a m d cs[i] ds[i]):Sh a m d (.agg cs) (.agg ds)
 |tuple (cs ds:Array Value) (hc:cs.size=ds.size) (h:∀ i (h1:i<cs.size) (h2:i<ds.size),Sh a m d cs[i] ds[i]):Sh a m d (.tuple cs) (.tuple ds)
theorem Sh.rel {ρ ρ':Plc}{a m d n':Nat}(hn:d+(m-a)<=n') (hρ:∀ i,a<=i->i<m->ρ' (d+(i-a))=ρ i) {v v':Value}(h:Sh a m d v v') :
  ∀ {c:Value},VRel ρ m v c->VRel ρ' n' v' c:=by
 induction h with
 |plain v h =>intro c hv;have:c=v:=Y9 h hv;subst this;exact XF h
 |ptr i o h hi =>intro c hv;obtain⟨a',rfl,_,bt⟩:=hv.q1g;exact .ptr _ _ _ (by omega) λp hp=>bt p (by rw[<-hρ i h hi];exact hp)
 |sl i o len cap h hi =>intro c hv;obtain⟨a',aw,rfl,_,bt⟩:=hv.q1a;exact .sl _ _ _ _ _ _ (by omega) λp hp=>bt p (by rw[<-hρ i h hi];exact hp)
 |agg cs ds hc h ih =>
  intro c hv;cases hv with
  |agg _ ds' cO h'=>exact .agg _ _ (hc.symm.trans cO) λi k1 k2=>ih i (by omega) k1 (h' i (by omega) k2)
 |tuple cs ds hc h ih =>
  intro c hv;cases hv with
  |tuple _ ds' cO h'=>exact .tuple _ _ (hc.symm.trans cO) λi k1 k2=>ih i (by omega) k1 (h' i (by omega) k2)
theorem BRel.any {ρ ρ':Plc}{n n':Nat}{p:Pl}{w:World}{c:List Value}{esz:El}{wr tight:Bool}(hp:c.all QM=true) (h:BRel ρ n p w (.cells c esz wr tight)) :
  BRel ρ' n' p w (.cells c esz wr tight):=by
 obtain⟨h1,h2,h3,h4,h5,h6⟩:=h;refine⟨h1,h2,h3,h4,λk v hk=>?_,h6⟩;obtain⟨u,hu,hv⟩:=h5 k v hk;have aQ:QM v=true:=zf.1 hp v (zK hk);obtain rfl:u=v:=Y9 aQ hv;exact⟨u,hu,XF aQ⟩
theorem BRel.renRo {ρ:Plc}{nf n':Nat}{π:Nat->Nat}{p:Pl}{w:World}{c c':List Value}{esz:El}{wr tight:Bool}(hr:LRen n' π c c') (h:BRel ρ nf p w (.cells c' esz wr tight)) :
  BRel (λi=>if i<n' then ρ (π i) else none) n' p w (.cells c esz false tight):=by
 obtain⟨h1,h2,h3,h4,h5,h6⟩:=h;refine⟨h1,h2,by rw[hr.1];exact h3,h4,λk v hk=>?_,λh=>by cases h⟩;have ah:k<c'.length:=by rw[<-hr.1];exact(zg.1 hk).1
 obtain⟨u,hu,hv⟩:=h5 k _ (z6 ah);exact⟨u,hu,(hr.2 k v _ hk (z6 ah)).rel hv⟩
structure PB where
 c:List Value
 esz:El
 tight:Bool
def PB.blk (wr:Bool) (b:PB):Blk:=.cells b.c b.esz wr b.tight
def QE (bl fr:List PB):Heap where
 get i:=if i<bl.length then (bl[i]?).map (PB.blk false) else (fr[i-bl.length]?).map (PB.blk true)
 n:=bl.length+fr.length
 wf i h:=by rw[z1 (by omega),zr (by omega)];rfl
def XW (U:Heap) (fr:List PB):Heap where
 get i:=if i<U.n then U.get i else (fr[i-U.n]?).map (PB.blk true)
 n:=U.n+fr.length
 wf i h:=by rw[z1 (by omega),zr (by omega)];rfl
theorem VCalled.localize {P:Program}{f:FuncId}{iX args:List Value}{bl fr:List PB}{vm v:Value}{U:Heap}{π:Nat->Nat}{K:Value->Heap->Prop}
  (hm:VCalled P f iX (QE bl []) λu Z=>u=vm/\Z=QE bl fr)
  (cR:∀ b∈fr,b.c.all QM=true)
  (hπ:∀ i b,bl[i]?=some b->∃ wr c',U.get (π i)=some (.cells c' b.esz wr b.tight)/\LRen bl.length π b.c c')
  (aB:LRen bl.length π iX args) (hv:Sh bl.length (bl.length+fr.length) U.n vm v) (hK:K v (XW U fr)):VCalled P f args U K:=by
 intro ρ w ax hH hL;have bO:∀ B,¬ Wr (λi=>if i<bl.length then ρ (π i) else none) (QE bl []) B:=by
  rintro B ⟨i,p,b,_,hb,hw,_⟩;have hi:i<bl.length:=by have:=(QE bl []).lt hb;simpa [QE] using this
  simp only[QE,z7 hi] at hb;cases e_:bl[i]? with
  |none=>rw[e_] at hb;cases hb
  |some b0=>rw[e_] at hb;obtain rfl:=osj hb;cases hw
 have tQ:HRel (λi=>if i<bl.length then ρ (π i) else none) (QE bl []) w:=by
  refine⟨⟨λi b hb=>?_,λi hi=>?_,λi p hp=>?_,λi j p q b _ hp _ hb hw _=>(bO _ ⟨i,p,b,hp,hb,hw,rfl⟩).elim⟩,λg cs hg=>⟨(hH.tab g cs hg).1,bO g⟩⟩
  .have hi:i<bl.length:=by have:=(QE bl []).lt hb;simpa [QE] using this
   simp only[QE,z7 hi] at hb;cases e_:bl[i]? with
   |none=>rw[e_] at hb;cases hb
   |some b0 =>rw[e_] at hb;obtain rfl:=osj hb;obtain⟨wr,c',hg,qB⟩:=hπ i b0 e_;obtain⟨p,hp,hB⟩:=hH.live _ _ hg;exact⟨p,by simp[hi,hp],BRel.renRo qB hB⟩
  .by_cases h:i<bl.length
   .simp only[QE,z7 h,z6 h] at hi;cases hi
   .simp[h]
  .skip
   split at hp
   .exact hH.lt _ p hp
   .cases hp
 have tR:LRel (λi=>if i<bl.length then ρ (π i) else none) (QE bl []).n iX ax.toList:=by have:=aB.rel hL;simpa [QE] using this
 have lift:∀ c w',Got (λi=>if i<bl.length then ρ (π i) else none) (QE bl []) w (λu Z=>u=vm/\Z=QE bl fr) c w'->Got ρ U w K c w':=by
  rintro c w' ⟨_,ρm,_,⟨rfl,rfl⟩,cK,iY,hE⟩;have ek:∀ B,B<w.heap.size->w'.heap[B]?=w.heap[B]?:=λB hB=>hE.keep B hB (bO B);have gA:∀ i p,bl.length<=i->ρm i=some p->w.heap.size<=p.blk:=λi p hi hp=>by
   rcases zn p.blk w.heap.size with h|h
   .refine (bO _ (hE.wr p.blk h ?_)).elim;have gW:=iY.idlt hp;cases hb:(QE bl fr).get i with
    |none=>rw[iY.dead i hb] at hp;cases hp
    |some b =>
     refine⟨i,p,b,hp,hb,?_,rfl⟩;simp only[QE,z1 (wB.2 hi)] at hb;cases e_:fr[i-bl.length]? with
     |none=>rw[e_] at hb;cases hb
     |some b0=>rw[e_] at hb;obtain rfl:=osj hb;rfl
   .exact h
  have hρ:∀ i,U.n<=i->(if i<U.n then ρ i else if i<U.n+fr.length then ρm (bl.length+(i-U.n)) else none)=if i<U.n+fr.length then ρm (bl.length+(i-U.n)) else none:=λi hi=>z1 (by omega)
  have hX:Ext ρ U w (λi=>if i<U.n then ρ i else if i<U.n+fr.length then ρm (bl.length+(i-U.n)) else none) (XW U fr) w':=by
   refine⟨hE.os,hE.tape,hE.output,hE.size,λB hB _=>ek B hB,?_,by simp[XW],λi hi p hp=>?_⟩
   .rintro B hB ⟨i,p,b,hp,hb,hw,rfl⟩
    replace hp:(if i<U.n then ρ i else if i<U.n+fr.length then ρm (bl.length+(i-U.n)) else none)=some p:=hp
    by_cases hi:i<U.n
    .rw[z7 hi] at hp;simp only[XW,z7 hi] at hb;exact⟨i,p,b,hp,hb,hw,rfl⟩
    .rw[z1 hi] at hp;split at hp
     .have:=gA _ p (by omega) hp;omega
     .cases hp
   .skip
    rwa [z7 hi] at hp
  refine⟨v,λi=>if i<U.n then ρ i else if i<U.n+fr.length then ρm (bl.length+(i-U.n)) else none,XW U fr,hK,?_,hH.ext ⟨λi b hb=>?_,λi hi=>?_,λi p hp=>?_,λi j p q b bN hp hq hb hw hx=>?_⟩ hX,hX⟩
  .refine hv.rel (by simp[XW]) (λi h1 h2=>?_) cK;rw[z1 (by omega),z7 (by omega)];congr 1;omega
  .by_cases hi:i<U.n
   .simp only[XW,z7 hi] at hb;obtain⟨p,hp,hB⟩:=hH.live i b hb;exact⟨p,by simp[hi,hp],hB.mono (by simp[XW]) (λj hj q hq=>by simpa [hj] using hq) (ek _ (hH.lt i p hp))⟩
   .simp only[XW,z1 hi] at hb;cases e_:fr[i-U.n]? with
    |none=>rw[e_] at hb;cases hb
    |some b0 =>
     rw[e_] at hb;obtain rfl:=osj hb;have ah:i-U.n<fr.length:=(zg.1 e_).1;obtain⟨p,hp,hB⟩:=iY.live (bl.length+(i-U.n)) (b0.blk true) (by
      show (if _ then _ else _)=_;rw[z1 (by omega),show bl.length+(i-U.n)-bl.length=i-U.n by omega,e_];rfl)
     exact⟨p,by rw[z1 hi,z7 (by omega)];exact hp,BRel.any (cR b0 (zK e_)) hB⟩
  .by_cases h:i<U.n
   .simp only[XW,z7 h] at hi;rw[z7 h];exact hH.dead i hi
   .simp only[XW,z1 h] at hi;rw[z1 h];split
    .rename_i h2;have ah:i-U.n<fr.length:=by omega
     rw[z6 ah] at hi;cases hi
    .rfl
  .skip
   split at hp
   .exact xj (hH.lt i p hp) hE.size
   .split at hp
    .exact iY.lt _ p hp
    .cases hp
  .skip
   by_cases hi:i<U.n<;>by_cases hj:j<U.n
   .rw[z7 hi] at hp;rw[z7 hj] at hq;simp only[XW,z7 hi] at hb;exact hH.sep i j p q b bN hp hq hb hw hx
   .rw[z7 hi] at hp;rw[z1 hj] at hq;split at hq
    .have h1:=hH.lt i p hp;have h2:=gA _ q (by omega) hq;omega
    .cases hq
   .rw[z1 hi] at hp;rw[z7 hj] at hq;split at hp
    .have h1:=hH.lt j q hq;have h2:=gA _ p (by omega) hp;omega
    .cases hp
   .rw[z1 hi] at hp;rw[z1 hj] at hq;split at hp
    .split at hq
     .simp only[XW,z1 hi] at hb;refine iY.sep (bl.length+(i-U.n)) (bl.length+(j-U.n)) p q b (by omega) hp hq ?_ hw hx;show (if _ then _ else _)=_;rw[z1 (by omega),show bl.length+(i-U.n)-bl.length=i-U.n by omega];exact hb
     .cases hq
    .cases hp
 rcases hm _ w ax tQ tR with⟨h1,h2⟩|⟨c,h1,h2⟩
 .refine .inl ⟨h1,?_⟩;exact h2.mono λe w' he=>by
   obtain⟨c,rfl,hc⟩:=he;exact⟨c,rfl,lift c w' hc⟩
 .refine .inr ⟨c,lift c w h1,λw' dq=>h2 w' ⟨dq.1,λi p hp=>?_,dq.tab⟩⟩
  replace hp:(if i<bl.length then ρ (π i) else none)=some p:=hp
  split at hp
  .exact dq.2 _ p hp
  .cases hp
def FQ {α:Type}(p:α->α->Bool):List α->List α->Bool
 |[],[]=>true
 |a::l,b::m=>p a b&&FQ p l m
 |_,_=>false
theorem Ur {α:Type}{p:α->α->Bool}(hp:∀ a b,p a b=true->a=b):∀ l m,FQ p l m=true->l=m
 |[],[],_=>rfl
 |a::l,b::m,h=>by simp only[FQ,z8] at h;rw[hp a b h.1,Ur hp l m h.2]
 |[],_::_,h=>by cases h
 |_::_,[],h=>by cases h
def R7:Nat->Value->Value->Bool
 |0,_,_=>false
 |f+1,a,b=>match a,b with
  |.bool x,.bool y=>x==y
  |.int k x,.int k' y=>decide (k=k')&&decide (x=y)
  |.string s,.string t=>decide (s.data.toList=t.data.toList)
  |.pointer none,.pointer none=>true
  |.pointer (some ⟨i,o,none⟩),.pointer (some ⟨j,q,none⟩)=>Nat.beq i j&&Nat.beq o q
  |.slice none l c,.slice none l' c'=>Nat.beq l l'&&Nat.beq c c'
  |.slice (some ⟨i,o,none⟩) l c,.slice (some ⟨j,q,none⟩) l' c'=>Nat.beq i j&&(Nat.beq o q&&(Nat.beq l l'&&Nat.beq c c'))
  |.slice (some ⟨i,o,some 0⟩) l c,.slice (some ⟨j,q,some 0⟩) l' c'=>Nat.beq i j&&(Nat.beq o q&&(Nat.beq l l'&&Nat.beq c c'))
  |.map x,.map y=>decide (x=y)
  |.chan none,.chan none=>true
  |.nilFunc,.nilFunc=>true
  |.nilIface,.nilIface=>true
  |.func (.func g) fs cs,.func (.func g') rY cs'=>decide (g=g')&&(FQ (R7 f) fs.toList rY.toList&&FQ (R7 f) cs.toList cs'.toList)
  |.func (.yield i) ⟨[]⟩ ⟨[]⟩,.func (.yield j) ⟨[]⟩ ⟨[]⟩=>Nat.beq i j
  |.iface t v,.iface t' v'=>decide (t=t')&&R7 f v v'
  |.agg cs,.agg ds=>FQ (R7 f) cs.toList ds.toList
  |.tuple cs,.tuple ds=>FQ (R7 f) cs.toList ds.toList
  |_,_=>false
theorem R5 {α:Type}{a b:Array α}(h:a.toList=b.toList):a=b:=by cases a;cases b;simp at h;rw[h]
theorem Nv:∀ (f:Nat) (a b:Value),R7 f a b=true->a=b:=by
 intro f;induction f with
 |zero=>intro a b h;cases h
 |succ f ih =>
  intro a b h;unfold R7 at h
  split at h<;>first
   |(cases h;done)
   |rfl
   |(simp at h;subst h;rfl)
   |(simp at h;obtain⟨rfl,rfl⟩:=h;rfl)
   |(simp at h;obtain⟨rfl,rfl,rfl,rfl⟩:=h;rfl)
   |skip
  .rename_i s t;have h:=zo h;have:=R5 h;cases s;cases t;simp at this;rw[this]
  .rename_i g fs cs g' rY cs';simp only[z8,zC] at h;obtain⟨rfl,h1,h2⟩:=h;rw[R5 (Ur ih _ _ h1),R5 (Ur ih _ _ h2)]
  .rename_i t v t' v';simp only[z8,zC] at h;obtain⟨rfl,h1⟩:=h;rw[ih _ _ h1]
  .rw[R5 (Ur ih _ _ h)]
  .rw[R5 (Ur ih _ _ h)]
def EB.beq:EB->EB->Bool
 |.cells c e w t,.cells c' e' w' t'=>decide (e=e')&&(w==w'&&(t==t'&&FQ (R7 20) c c'))
 |.map es cl w,.map bV tS w'=>Nat.beq cl tS&&(w==w'&&FQ (λa b=>R7 20 a.1 b.1&&(R7 20 a.2.1 b.2.1&&Nat.beq a.2.2 b.2.2)) es bV)
 |.iter m s sn l,.iter m' s' tT l'=>Nat.beq m m'&&(Nat.beq s s'&&(Nat.beq l l'&&decide (sn=tT)))
 |.lp .ready none,.lp .ready none=>true
 |.lp .busy none,.lp .busy none=>true
 |_,_=>false
theorem EB.beq_eq {a b:EB}(h:a.beq b=true):a=b:=by
 unfold EB.beq at h
 split at h<;>first
  |(cases h;done)
  |rfl
  |skip
 .simp only[z8,zC,z_] at h;obtain⟨rfl,rfl,rfl,h⟩:=h;rw[Ur (Nv 20) _ _ h]
 .simp only[z8,z_,Nat.beq_eq] at h;obtain⟨rfl,rfl,h⟩:=h;rw[Ur (λa b h=>by
   simp only[z8,Nat.beq_eq] at h;obtain⟨a1,a2,a3⟩:=a;obtain⟨b1,b2,b3⟩:=b;obtain⟨h1,h2,h3⟩:=h;simp at h1 h2 h3;rw[Nv _ _ _ h1,Nv _ _ _ h2,h3]) _ _ h]
 .simp only[z8,zC,Nat.beq_eq] at h;obtain⟨rfl,rfl,rfl,rfl⟩:=h;rfl
def CH.newOk (h h':CH):Bool:=Nat.ble h.n h'.n&&(h'.room&&(List.range' h.n (h'.n-h.n)).all λi=>match h'.get i with
 |some (.lp _ _)=>false
 |_=>true)
structure AnsOps (A:Type) where
 fail:A
 both:A->A->A
structure Good {A:Type}(R:AnsOps A) (G:A->Prop):Prop where
 fail:¬ G R.fail
 both:∀ a b,G (R.both a b)->G a/\G b
def XR:AnsOps Bool:=⟨false,and⟩
theorem S5:Good XR (·=true):=⟨by simp[XR],λa b h=>by simpa [XR] using h⟩
def AG:AnsOps (Option (Value×CH)):=⟨none,λ_ _=>none⟩
theorem Q5z (x:Value×CH):Good AG (·=some x):=⟨by simp[AG],λa b h=>by simp[AG] at h⟩
def CH.same (h h':CH):Bool:=Nat.beq h.n h'.n&&(List.range h.n).all λi=>match h.get i,h'.get i with
 |none,none=>true
 |some a,some b=>a.beq b
 |_,_=>false
def EB.plainE:EB->Bool
 |.cells c _ _ _=>c.all QM
 |.map es _ _=>es.all λkv=>QM kv.2.1
 |_=>false
def CH.keepOk (h h':CH):Bool:=Nat.ble h.n h'.n&&(List.range h.n).all λi=>match h.get i,h'.get i with
 |none,none=>true
 |some a,some b=>b.plainE||a.beq b
 |_,_=>false
def gcI (n0:Nat) (refs:List Nat) (i:Nat):Nat×List Nat :=
 if i<n0 then (i,refs) else if refs.contains i=true then (n0+refs.idxOf i,refs) else (n0+refs.length,refs++[i])
def Q06 (g:List Nat->Value->Option (Value×List Nat)):List Value->List Nat->Option (List Value×List Nat)
 |[],refs=>some ([],refs)
 |v::vs,refs=>match g refs v with
  |none=>none
  |some p=>match Q06 g vs p.2 with
   |none=>none
   |some q=>some (p.1::q.1,q.2)
def gcX (n0:Nat):Nat->List Nat->Value->Option (Value×List Nat)
 |0,_,_=>none
 |f+1,refs,v=>match v with
  |.pointer (some ⟨i,o,none⟩)=>some (.pointer (some ⟨(gcI n0 refs i).1,o,none⟩),(gcI n0 refs i).2)
  |.slice (some ⟨i,o,none⟩) l c=>some (.slice (some ⟨(gcI n0 refs i).1,o,none⟩) l c,(gcI n0 refs i).2)
  |.slice (some ⟨i,o,some 0⟩) l c=>some (.slice (some ⟨(gcI n0 refs i).1,o,some 0⟩) l c,(gcI n0 refs i).2)
  |.map (some i)=>some (.map (some (gcI n0 refs i).1),(gcI n0 refs i).2)
  |.chan none=>some (.chan none,refs)
  |.iface t u=>match gcX n0 f refs u with
   |some p=>some (.iface t p.1,p.2)
   |none=>none
  |.agg cs=>match Q06 (gcX n0 f) cs.toList refs with
   |some p=>some (.agg p.1.toArray,p.2)
   |none=>none
  |.tuple cs=>match Q06 (gcX n0 f) cs.toList refs with
   |some p=>some (.tuple p.1.toArray,p.2)
   |none=>none
  |.func (.func g) fs cs=>match Q06 (gcX n0 f) fs.toList refs with
   |some p=>match Q06 (gcX n0 f) cs.toList p.2 with
    |some q=>some (.func (.func g) p.1.toArray q.1.toArray,q.2)
    |none=>none
   |none=>none
  |.func (.yield i) ⟨[]⟩ ⟨[]⟩=>if i<n0 then some (.func (.yield i) ⟨[]⟩ ⟨[]⟩,refs) else none
  |v=>if QM v=true then some (v,refs) else none
def Z1j (n0:Nat):List JD->List Nat->Option (List JD×List Nat)
 |[],refs=>some ([],refs)
 |e::es,refs=>match gcX n0 8 refs e.2.1 with
  |none=>none
  |some p=>match Z1j n0 es p.2 with
   |none=>none
   |some q=>some ((e.1,p.1,e.2.2)::q.1,q.2)
def gcB (n0:Nat) (refs:List Nat):EB->Option (EB×List Nat)
 |.cells c e w t=>match Q06 (gcX n0 8) c refs with
  |some p=>some (.cells p.1 e w t,p.2)
  |none=>none
 |.map es cl w=>match Z1j n0 es refs with
  |some p=>some (.map p.1 cl w,p.2)
  |none=>none
 |_=>none
def Q28 (h':CH) (n0:Nat):Nat->Nat->List Nat->CH->Option (CH×List Nat)
 |0,_,_,_=>none
 |f+1,k,refs,acc=>if refs.length<=k then (if k=refs.length then some (acc,refs) else none) else match h'.get (refs.getD k 0) with
  |none=>none
  |some b=>match gcB n0 refs b with
   |none=>none
   |some p=>if acc.room=true then Q28 h' n0 f (k+1) p.2 (acc.push p.1) else none
def Q2y (h h':CH) (refs:List Nat):Option (CH×List Nat) :=
 if h.keepOk h'=true then Q28 h' h.n 100000 0 refs ⟨h'.t,h.n⟩ else none
def L1 (h h':CH) (v:Value):Option (Value×CH):=match gcX h.n 8 [] v with
 |none=>none
 |some p=>match Q2y h h' p.2 with
  |none=>none
  |some q=>some (p.1,q.1)
def joinOps:AnsOps (Option (Value×CH)):=⟨none,λa b=>match a with
 |some x=>match b with
  |some y=>if R7 20 x.1 y.1=true/\x.2.same y.2=true then some x else none
  |none=>none
 |none=>none⟩
structure ET where
 t:GT Value
 m:Nat
def ET.get (e:ET) (i:Nat):Value:=Bool.rec (motive:=λ_=>Value) undef (e.t.get undef i) (Nat.blt i e.m)
def ET.set (e:ET) (i:Nat) (v:Value):ET:=Bool.rec (motive:=λ_=>ET) e ⟨e.t.set undef 32 i v,e.m⟩ (Nat.blt i e.m)
def ET.put (e:ET) (d:Option Nat) (v:Value):ET:=Option.rec (motive:=λ_=>ET) e (λd=>e.set d v) d
def etL (l:List Value):Nat->GT Value->GT Value:=List.rec (motive:=λ_=>Nat->GT Value->GT Value) (λ_ t=>t) (λv _ ih i t=>ih (i+1) (t.set undef 32 i v)) l
def ET.of (args:List Value) (nt:Nat):ET:=⟨etL args 0 .nil,args.length+(nt-args.length)⟩
def Gu (e:ET) (x:Operand):Value:=Operand.rec (motive:=λ_=>Value) (λt=>e.get t) (λv=>v) (λg=>.pointer (some ⟨g,0,some 0⟩)) (λf=>.func (.func f) #[] #[]) x
def Q3a (e:ET) (ps:List Nat):List Value->ET:=List.rec (motive:=λ_=>ET->List Value->ET) (λe _=>e) (λp _ ih e vs=>List.rec (motive:=λ_=>ET) e (λv vs _=>ih (e.set p v) vs) vs) ps e
def ON (e:ET) (g:Option (Nat×Bool)):Option Bool:=match g with
 |none=>some true
 |some (d,want)=>match e.get d with
  |.bool b=>some (b==want)
  |.tuple _=>some false
  |_=>none
def ET.list (e:ET):List Value:=(List.range e.m).map e.get
def Q8c (h h':CH) (e:ET):Option (Value×CH):=L1 h h' (.tuple e.list.toArray)
structure RCtx where
 ps:List Nat
 a:VCode
 b:VCode
 env:ET
abbrev Ys:=List (Nat×RCtx)
def Ys.find:Ys->Nat->Option RCtx
 |[],_=>none
 |(j,c)::l,i=>if Nat.beq i j=true then some c else Ys.find l i
structure Memo where
 args:List Value
 bl:List PB
 v:Value
 fr:List PB
def Z12 (g:Value->Option Value):List Value->Option (List Value)
 |[]=>some []
 |v::vs=>match g v with
  |none=>none
  |some u=>match Z12 g vs with
   |none=>none
   |some us=>some (u::us)
def shX (a m d:Nat):Nat->Value->Option Value
 |0,_=>none
 |f+1,v=>match v with
  |.pointer (some ⟨i,o,none⟩)=>if a<=i/\i<m then some (.pointer (some ⟨d+(i-a),o,none⟩)) else none
  |.slice (some ⟨i,o,none⟩) l c=>if a<=i/\i<m then some (.slice (some ⟨d+(i-a),o,none⟩) l c) else none
  |.agg cs=>match Z12 (shX a m d f) cs.toList with
   |some p=>some (.agg p.toArray)
   |none=>none
  |.tuple cs=>match Z12 (shX a m d f) cs.toList with
   |some p=>some (.tuple p.toArray)
   |none=>none
  |v=>if QM v=true then some v else none
def TZ (h:CH):Nat->List Nat->List PB->Option (List Nat)
 |k,refs,[]=>if refs.length=k then some refs else none
 |k,refs,b::m=>if k<refs.length then
   match h.get (refs.getD k 0) with
   |some (.cells c e _ t)=>(match Q06 (gcX 0 8) c refs with
    |some p=>if (decide (e=b.esz)&&(t==b.tight&&FQ (R7 20) p.1 b.c))=true then TZ h (k+1) p.2 m else none
    |none=>none)
   |_=>none
  else none
def Xm:List PB->CH->CH
 |[],h=>h
 |b::l,h=>Xm l (h.push (.cells b.c b.esz true b.tight))
def Ah (h:CH) (args:List Value) (refs:List Nat):List Memo->Option Memo
 |[]=>none
 |m::ms=>if (FQ (R7 20) args m.args&&(TZ h 0 refs m.bl).isSome)=true then some m else Ah h args refs ms
def Ry (h:CH) (args:List Value) (ms:List Memo):Option (Value×CH) :=
 match Q06 (gcX 0 8) args [] with
 |none=>none
 |some p=>match Ah h p.1 p.2 ms with
  |none=>none
  |some m=>match Nat.ble (h.n+m.fr.length) 1000000000 with
   |false=>none
   |true=>match shX m.bl.length (m.bl.length+m.fr.length) h.n 8 m.v with
    |some v=>some (v,Xm m.fr h)
    |none=>none
inductive FEnt where
 |code (vc:VCode) (rs:List VResult) (nt:Nat)
 |codeJ (vc:VCode) (rs:List VResult) (nt:Nat)
 |codeM (vc:VCode) (rs:List VResult) (nt:Nat) (ms:List Memo)
 |same
abbrev Tab:=FuncId->Option FEnt
abbrev Q7h:=∀ {A:Type},AnsOps A->Ys->VCode->Option Nat->ET->CH->(Exit->ET->CH->A)->A
def P4 (env:ET) (U:CH):VResult->Option Value
 |.tmp t=>some (env.get t)
 |.cell a agg size=>match Q9o agg size (env.get a) U with|some p=>some p.1|none=>none
def GD (env:ET) (U:CH):List VResult->Option (List Value)
 |[]=>some []
 |r::rs=>match P4 env U r with
  |none=>none
  |some v=>match GD env U rs with
   |none=>none
   |some vs=>some (v::vs)
def Me (env:ET) (U:CH) (rs:List VResult):Option Value :=
 match rs with
 |[r]=>P4 env U r
 |rs=>match GD env U rs with|some vs=>some (.tuple vs.toArray)|none=>none
section
variable (T:Tab) (ev:Q7h) {A:Type}(R:AnsOps A) (ys:Ys)
def Q55 (fail:A) (rs:List VResult) (k:Value->CH->A):Exit->ET->CH->A:=λe env h'=>match e with
  |.normal=>(match Me env h' rs with|some v=>k v h'|none=>fail)
  |.ret=>(match Me env h' rs with|some v=>k v h'|none=>fail)
  |_=>fail
def Bf (f:FuncId) (args:List Value) (h:CH) (k:Value->CH->A):A :=
 match T f with
 |some (.code vc rs nt)=>match Nat.ble (ET.of args nt).m 1000000 with
  |true=>ev R ys vc none (ET.of args nt) h (Q55 R.fail rs k)
  |false=>R.fail
 |some (.codeJ vc rs nt)=>match Nat.ble (ET.of args nt).m 1000000 with
  |true=>(match ev joinOps ys vc none (ET.of args nt) h (Q55 none rs λv h'=>L1 h h' v) with
   |some x=>if x.2.room=true/\Nat.ble h.n x.2.n=true then k x.1 x.2 else R.fail
   |none=>R.fail)
  |false=>R.fail
 |some (.codeM vc rs nt ms)=>match Ry h args ms with
  |some p=>k p.1 p.2
  |none=>match Nat.ble (ET.of args nt).m 1000000 with
   |true=>ev R ys vc none (ET.of args nt) h (Q55 R.fail rs k)
   |false=>R.fail
 |some .same=>match args with
  |[v]=>k v h
  |_=>R.fail
 |none=>R.fail
def I3 (i:Nat) (k:Value->CH->A):Exit->ET->CH->A:=λe _ h =>
 match h.get i with
 |some (.lp .busy none)=>match e with
  |.normal=>k (.bool true) (h.upd i (.lp .ready none))
  |.ret=>k (.bool false) (h.upd i (.lp .done (some .ret)))
  |.exit id=>k (.bool false) (h.upd i (.lp .done (some (.exit id))))
  |_=>R.fail
 |_=>R.fail
def Q2z (c:RCtx) (i:Nat) (k:Value->CH->A):Exit->ET->CH->A:=λe bC h1=>match e with
 |.normal=>(match h1.get i with
  |some (.lp .ready none)=>ev R ys c.b (some i) bC (h1.upd i (.lp .busy none)) (I3 R i k)
  |_=>R.fail)
 |_=>R.fail
def OX (i:Nat) (args:List Value) (h:CH) (k:Value->CH->A):A :=
 match ys.find i with
 |some c=>match h.get i with
  |some (.lp .ready none)=>if args.length=c.ps.length then ev R ys c.a (some i) (Q3a c.env c.ps args) h (Q2z ev R ys c i k) else R.fail
  |_=>R.fail
 |none=>R.fail
def MV (i m since clock:Nat) (seen:List Nat) (h:CH) (k:Value->CH->A):List JD->Option A
 |[]=>none
 |e::es=>if seen.contains e.2.2=true then MV i m since clock seen h k es
  else match MV i m since clock seen h k es with
   |none=>some (k (.tuple #[.bool true,e.1,e.2.1]) (h.upd i (.iter m since (seen++[e.2.2]) clock)))
   |some a=>some (R.both (k (.tuple #[.bool true,e.1,e.2.1]) (h.upd i (.iter m since (seen++[e.2.2]) clock))) a)
def Q6k (x:Value) (h:CH) (k:Value->CH->A):A :=
 match x with
 |.pointer (some ⟨i,0,none⟩)=>match h.get i with
  |some (.iter m since seen last)=>match h.mapAt m with
   |some (es,clock,_) =>
    if (seen.isEmpty||es.isEmpty||es.any (λe=>decide (e.2.2<last)))=true/\es.all (λe=>Vc e.1)=true then
     (match MV R i m since clock seen h k es with
     |none=>if es.all (λe=>seen.contains e.2.2||decide (since<=e.2.2))=true then k (.tuple #[.bool false]) h else R.fail
     |some a=>if es.all (λe=>seen.contains e.2.2||decide (since<=e.2.2))=true then R.both (k (.tuple #[.bool false]) h) a else a)
    else R.fail
   |none=>R.fail
  |_=>R.fail
 |_=>R.fail
def Q4n (f:Value) (args:List Value) (h:CH) (k:Value->CH->A):A:=match f with
  |.func (.func g) first cap=>Bf T ev R ys g (first.toList++args++cap.toList) h k
  |.func (.yield i) _ _=>OX ev R ys i args h k
  |_=>R.fail
def OE (r:Option (Value×CH)) (k:Value->CH->A):A:=match r with
  |some p=>k p.1 p.2
  |none=>R.fail
def Q69 (o:VOp) (env:ET) (h:CH) (k:Value->CH->A):A :=
 match o with
 |.callF f args=>Bf T ev R ys f (args.map (Gu env)) h k
 |.callV f args=>Q4n T ev R ys (Gu env f) (args.map (Gu env)) h k
 |.ext (.nextMap x)=>Q6k R (Gu env x) h k
 |o=>OE R (CG o (Gu env) h) k
def FN (l:List VOper):ET->CH->(ET->CH->A)->A :=
 List.rec (motive:=λ_=>ET->CH->(ET->CH->A)->A) (λenv h k=>k env h)
  (λo _ ih env h k=>match ON env o.guard with
   |none=>R.fail
   |some true=>Q69 T ev R ys o.op env h λv h'=>ih (env.put o.dst v) h' k
   |some false=>ih (env.put o.dst undef) h k) l
def E8 (op:VOp) (ev:Operand->Value) (v:Value) (h:CH):Bool:=match CG op ev h with
 |some q=>R7 20 q.1 v
 |none=>false
def IS (r:Nat) (h:CH):List (Nat×(CH->Bool))->Bool
 |[]=>true
 |c::l=>(!(Nat.ble r c.1)||c.2 h)&&IS r h l
def MA:List DOper->ET->List CH->CH->List (Nat×(CH->Bool))->(ET->CH->A)->A
 |[],env,_,h,_,k=>k env h
 |o::rest,env,hs,h,pend,k=>match ON env o.guard with
  |none=>R.fail
  |some true=>if o.kind=2 then
    (match Q69 T ev AG ys o.op env h (λv h'=>some (v,h')) with
    |some p=>if h.newOk p.2=true/\IS hs.length p.2 pend=true then MA rest (env.put o.dst p.1) (hs++[p.2]) p.2 pend k else R.fail
    |none=>R.fail)
   else if o.kind=1 then
    (match CG o.op (Gu env) h with
    |some p=>if (hs.drop o.kmin).all (E8 o.op (Gu env) p.1)=true then
      MA rest (env.put o.dst p.1) hs h (if hs.length<=o.kmax then (o.kmax,E8 o.op (Gu env) p.1)::pend else pend) k else R.fail
    |none=>R.fail)
   else match CG o.op (Gu env) h with
    |some p=>MA rest (env.put o.dst p.1) hs h pend k
    |none=>R.fail
  |some false=>if o.kind=2 then
    (if IS hs.length h pend=true then MA rest (env.put o.dst undef) (hs++[h]) h pend k else R.fail)
   else MA rest (env.put o.dst undef) hs h pend k
def Q6o (env:ET) (h:CH) (a:List DOper):Option (Value×CH):=MA T ev joinOps ys a env [h] h [] λenv h'=>Q8c h h' env
def AN (env:ET) (h:CH):List (List DOper)->Option (Value×CH)
 |[]=>none
 |[a]=>Q6o T ev ys env h a
 |a::b::r=>joinOps.both (Q6o T ev ys env h a) (AN env h (b::r))
def HJ:List DSeg->ET->CH->(ET->CH->A)->A
 |[],env,h,k=>k env h
 |.one o::rest,env,h,k=>FN T ev R ys [o] env h λenv h=>HJ rest env h k
 |.alts [a]::rest,env,h,k=>MA T ev R ys a env [h] h [] λenv h=>HJ rest env h k
 |.alts l::rest,env,h,k=>match AN T ev ys env h l with
  |some x=>(match x.1 with
   |.tuple vs=>if x.2.room=true/\Nat.ble h.n x.2.n=true/\vs.toList.length=env.m then HJ rest (ET.of vs.toList 0) x.2 k else R.fail
   |_=>R.fail)
  |none=>R.fail
def Q3y (h:CH):Option Nat->Bool
 |none=>true
 |some i=>match h.get i with
  |some (.lp _ _)=>true
  |_=>false
def Q65:LoopState->Bool
 |.busy=>false
 |_=>true
def Q9d (env:ET) (i:Nat) (k:Exit->ET->CH->A):Value->CH->A:=λ_ h =>
 match h.get i with
 |some (.lp st pend)=>if Q65 st=true then (match pend with
   |none=>k .normal env (h.kill i)
   |some .ret=>k .ret env (h.kill i)
   |some (.exit id)=>k (.exit id) env (h.kill i)
   |some _=>R.fail) else R.fail
 |_=>R.fail
def Q8p (kb k:Exit->ET->CH->A):Exit->ET->CH->A:=λe env h=>match e with
 |.normal=>kb .normal env h
 |e=>k e env h
def I0 (id:Nat) (k:Exit->ET->CH->A):Exit->ET->CH->A:=λe env h=>match e with
 |.exit iD=>if iD=id then k .normal env h else k (.exit iD) env h
 |e=>k e env h
def Q5u (v:Value) (a b:A):A:=match v with
 |.bool true=>a
 |.bool false=>b
 |_=>R.fail
def FX (g:Value) (ps:List Nat) (a b:VCode) (ro:Option Nat) (env:ET) (h:CH) (k:Exit->ET->CH->A):A:=match g with
 |.func (.func f) first cap=>match T f with
  |some (.code _ _ _)=>if Q3y h ro=true/\h.room=true then
    Bf T ev R ((h.n,⟨ps,a,b,env⟩)::ys) f (first.toList++[.func (.yield h.n) #[] #[]]++cap.toList) (h.push (.lp .ready none)) (Q9d R env h.n k)
   else R.fail
  |_=>R.fail
 |_=>R.fail
def LG (c:VCode):Option Nat->ET->CH->(Exit->ET->CH->A)->A :=
 VCode.rec (motive:=λ_=>Option Nat->ET->CH->(Exit->ET->CH->A)->A)
  (λ_ env h k=>k .normal env h)
  (λops _ env h k=>FN T ev R ys ops env h (k .normal))
  (λaR _ env h k=>HJ T ev R ys aR env h (k .normal))
  (λg ps a b _ _ ro env h k=>FX T ev R ys (Gu env g) ps a b ro env h k)
  (λ_ _ fG fb ro env h k=>fG ro env h (Q8p (λ_ af h'=>fb ro af h' k) k))
  (λc _ _ fG fb ro env h k=>Q5u R (Gu env c) (fG ro env h k) (fb ro env h k))
  (λid _ ih ro env h k=>ih ro env h (I0 id k))
  (λb ih ro env h k=>ih ro env h (Q8p (λ_ af h'=>ev R ys (.loop b) ro af h' k) k))
  (λid _ env h k=>k (.exit id) env h)
  (λ_ env h k=>k .ret env h)
  (λ_ _ _ _=>R.fail) c
end
def Dt (T:Tab) (n:Nat):Q7h :=
 Nat.rec (motive:=λ_=>Q7h) (λR _ _ _ _ _ _=>R.fail) (λ_ ih {_} R ys c ro env h k=>LG T ih R ys c ro env h k) n
end Go.V