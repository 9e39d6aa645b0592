/- A framework for walks, contracts of functions, and their proofs: part 2. -/
import Derived.RangeFuncLeaves
import Derived.RangeFuncCalls
import Derived.OrdersIn
import Derived.TacticsIn
import Derived.Sort.LoopGhostIn
import Derived.Deep.LoopGhost
import Derived.Test.YtfblnfcecfjbpaaGreatT1
noncomputable section
namespace Go.V
open Go
section
variable {P:Program}{S:VSpecs}{B:Nat}
def FF:Option Nat->Fence
 |none=>Fence.wide
 |some l=>Fence.wide.inRound l
theorem EP (ro:Option Nat) (f:FuncId):(FF ro).fn f:=by cases ro<;>trivial
theorem RU (ro:Option Nat):(FF ro).depth=none:=by cases ro<;>rfl
theorem Q00 (ro:Option Nat):(FF ro).round=ro:=by cases ro<;>rfl
theorem Ah {ro:Option Nat}{n:Nat}{f:FuncId}{args:Array Value}{w:World}{R:Ending->World->Prop}(h:Calls P f args w R):CallsIn (FF ro) n P f args w R:=by
 cases ro with
 |none=>exact callsIn_wide.2 h
 |some l=>exact CallsIn.inRound l (callsIn_wide.2 h)
theorem CN {ro:Option Nat}{n m:Nat}{l:Nat}{f:FuncId}{tmps:Array Value}{eS body:Code}{w:World}{R:Ending->World->Prop}(h:RoundIn Fence.wide m P l f tmps eS body w R):RoundIn (FF ro) n P l f tmps eS body w R:=by refine⟨EP _ _,λc cs _=>?_⟩;obtain⟨e,w',r,s⟩:=h.2 c cs (room_wide _);refine⟨e,w',r,?_⟩;cases ro<;>exact s
def Got (ρ:Plc) (M:Heap) (w:World) (R:Value->Heap->Prop) (c:Value) (w':World):Prop :=
 ∃ v ρ' M',R v M'/\VRel ρ' M'.n v c/\HRel ρ' M' w'/\Ext ρ M w ρ' M' w'
def VCallsTo (P:Program) (f:FuncId) (args:List Value) (M:Heap) (R:Value->Heap->Prop):Prop :=
 ∀ ρ w (aw:Array Value),HRel ρ M w->LRel ρ M.n args aw.toList->Calls P f aw w λe w'=>∃ c,e=.returned c/\Got ρ M w R c w'
def VCalled (P:Program) (f:FuncId) (args:List Value) (M:Heap) (R:Value->Heap->Prop):Prop :=
 ∀ ρ w (aw:Array Value),HRel ρ M w->LRel ρ M.n args aw.toList ->
  ((∀ w,(callFunc f aw).run P w=.ok (.enter f aw) w)/\Calls P f aw w λe w'=>∃ c,e=.returned c/\Got ρ M w R c w') \/
  (∃ c,Got ρ M w R c w/\∀ w',Like ρ w w'->(callFunc f aw).run P w'=.ok (.value c) w')
def VYields (P:Program) (i:Nat) (args:List Value) (M:Heap) (R:Value->Heap->Prop):Prop :=
 ∀ ρ w (aw:Array Value),HRel ρ M w->LRel ρ M.n args aw.toList ->
  ∃ p,ρ i=some p/\∃ fn tmps eS body,(Instr.yield p.blk aw).run P w=.ok (.round p.blk fn tmps eS body) w /\
   RoundIn Fence.wide 0 P p.blk fn tmps eS body w λe w'=>∃ c,e=.returned c/\Got ρ M w R c w'
def Jh (P:Program) (f:FuncId):Prop:=∃ fn,P.funcs[f]?=some fn/\fn.body.isSome=true/\(fn.name=="runtime.NumGoroutine")=false
def Q90 (P:Program) (f:FuncId) (s:HX):Prop:=∀ args M K,s args M K->VCalled P f args M K
def KE (P:Program) (i:Nat) (s:HX):Prop:=∀ args M K,s args M K->VYields P i args M K
def Q81 (P:Program) (f:FuncId) (T:Nat->HX->HX):Prop:=Jh P f/\∀ i Y,KE P i Y->∀ args M K,T i Y args M K->VCallsTo P f args M K
structure OkSpecs (P:Program) (S:VSpecs):Prop where
 fn:∀ f s,S.fn f=some s->Q90 P f s
 yl:∀ i s,S.yl i=some s->KE P i s
 it:∀ f T,S.it f=some T->Q81 P f T
theorem Yp {f:FuncId}(h:Jh P f) (args:Array Value) (w:World):(callFunc f args).run P w=.ok (.enter f args) w:=by
 obtain⟨fn,h1,h2,h3⟩:=h;have h4:¬ fn.body=none:=λe=>by rw[e] at h2;cases h2
 have h5:¬ fn.name="runtime.NumGoroutine":=λe=>by rw[e] at h3;simp at h3
 simp[callFunc,h1,h4,h5]
theorem VCallsTo.called {f:FuncId}{args:List Value}{M:Heap}{R:Value->Heap->Prop}(he:Jh P f) (h:VCallsTo P f args M R):VCalled P f args M R :=
 fun ρ w aw hH hL=>.inl ⟨λw=>Yp he aw w,h ρ w aw hH hL⟩
theorem Got.mono {ρ:Plc}{M:Heap}{w:World}{R R':Value->Heap->Prop}{c:Value}{w':World}(h:Got ρ M w R c w') (hr:∀ v M',R v M'->R' v M'):Got ρ M w R' c w' :=
 let ⟨v,ρ',M',h1,h2⟩:=h;⟨v,ρ',M',hr _ _ h1,h2⟩
theorem VCallsTo.mono {f:FuncId}{args:List Value}{M:Heap}{R R':Value->Heap->Prop}(h:VCallsTo P f args M R) (hr:∀ v M',R v M'->R' v M'):VCallsTo P f args M R' :=
 fun ρ w aw hH hL=>(h ρ w aw hH hL).mono λ_ _ ⟨c,he,hg⟩=>⟨c,he,hg.mono hr⟩
theorem YR {ρ:Plc}{n:Nat}{env:Env}{a:Act}(h:LRel ρ n env a.tmps.toList) {v c:Value}(hv:VRel ρ n v c) (d:Option Nat):LRel ρ n (Xe env d v) (a.put d c).tmps.toList:=by
 cases d with
 |none=>exact h
 |some d=>simp only[Xe,Act.put,Array.toList_setIfInBounds];exact h.set d hv
theorem Zs (env:Env) (d:Option Nat) (v:Value):List.length (Xe env d v)=List.length env:=by cases d<;>simp[Xe]
theorem Xd (a:Act) (d:Option Nat) (c:Value):(a.put d c).defers=a.defers:=by cases d<;>rfl
theorem Dk {ρ:Plc}{n:Nat}{env:Env}{a:Act}{ops:Array Oper}{o:Oper}{vo:VOper}(hc:Jc P ops o=some vo) (hL:LRel ρ n env a.tmps.toList) {b:Bool}(h:Ja env vo.guard=some b) :
  Region.wanted o (yielded ops a.tmps)=b/\vo.dst=o.dst/\Kh P o.op=vo.op:=by
 unfold Jc at hc;simp only[zN] at hc;cases hg:o.guard with
 |none =>simp[hg] at hc;subst hc;simp[Ja] at h;subst h;simp[Region.wanted,hg]
 |some jw =>
  obtain⟨j,want⟩:=jw;simp[hg] at hc;cases hj:ops[j]? with
  |none=>simp[hj] at hc
  |some oj =>
   cases hd:oj.dst with
   |none=>simp[hj,hd] at hc
   |some d =>
    simp[hj,hd] at hc;subst hc;refine⟨?_,rfl,rfl⟩;simp only[Ja] at h;simp only[Region.wanted,hg,yielded,hj,xw,hd];have hlen:List.length env=a.tmps.size:=by have:=hL.1;rw[Array.length_toList] at this;exact this
    rcases zl d (List.length env) with ah|bj
    .have b8:d<a.tmps.size:=by rw[<-hlen];exact ah
     have hr:=hL.2 d env[d] a.tmps[d] (z1 ah) (by simp[b8]);have he:env.getD d undef=env[d]:=by simp[List.getD,ah]
     rw[he] at h;simp only[xg b8];split at h
     .rename_i b' heq;rw[heq] at hr;rw[hr.q1d];simp at h;simp[<-h]
     .rename_i vs heq;rw[heq] at hr;obtain⟨ds,hds,_⟩:=hr.q1m;rw[hds];simp at h;subst h;simp
     .cases h
    .have he:env.getD d undef=undef:=by simp[List.getD,zk bj]
     rw[he] at h;have:a.tmps[d]?=none:=Array.getElem?_eq_none (by rw[<-hlen];exact bj);simp only[this];simp[undef] at h;subst h;simp
theorem Q1h {o:Oper}{vo:VOp}(hc:Uf P o.op=some vo) {ρ:Plc}{M:Heap}{env:Env}{a:Act}(hL:LRel ρ M.n env a.tmps.toList) {K:Value->Heap->Prop}
  (aG:(∃ f bQ,vo=.callF f bQ)\/(∃ f bQ,vo=.callV f bQ)) {σ0:Heap}(h:vop S vo env σ0 K) :
  (∃ f args aw,vcall S f args σ0 K/\LRel ρ M.n args aw.toList/\∀ w,(execOp a.eval o).run P w=(callFunc f aw).run P w) \/
  (∃ i r args aw,Ad S i args σ0 K/\VRel ρ M.n (.func (.yield i) #[] #[]) (.func (.yield r) #[] #[])/\LRel ρ M.n args aw.toList/\∀ w,(execOp a.eval o).run P w=(Instr.yield r aw).run P w):=by
 have bg:=hc;cases dB:Uf P o.op with
 |none=>rw[dB] at hc;cases hc
 |some tS =>
  clear dB hc tS;obtain⟨dst,op,ty,pos,after,guard⟩:=o;simp only at bg;unfold Uf at bg;split at bg
  .cases bg
  rename_i ai;simp only[xC,xm] at ai;cases op
  case call c =>
   simp only[Op.operands] at ai bg;split at bg
   .rename_i f aK;simp at bg;subst bg;simp only[vop] at h;have ax:(c.args.toList).all X8=true:=by
     simp only[Call.operands,aK,Array.toList_append,List.all_append,z6] at ai;exact ai.2
    refine .inl ⟨f,_,c.args.map a.eval,h,by have:=Ru (λx hx=>Wa hL hx) ax;simpa using this,λw=>?_⟩;simp[execOp,resolve,aK,Act.eval,Deferred.ofValue,invoke]
   .rename_i fo az aK;simp at bg;subst bg;simp only[vop] at h;simp only[Call.operands,aK,Array.toList_append,List.all_append,z6] at ai;have hf:=Wa hL (x:=fo) (by simpa using ai.1);have has:=Ru (λx hx=>Wa hL hx) ai.2;split at h
    .rename_i g first cap heq
     rw[heq] at hf;cases kW:a.eval fo with
     |func fn gs ds =>
      rw[kW] at hf;cases hf with
      |func _ _ _ _ _ h1 h2 h3 h4 =>
       refine .inl ⟨g,_,gs++c.args.map a.eval++ds,h,?_,λw=>?_⟩
       .have fb:=LRel.of_array h1 h3;have ck:=LRel.of_array h2 h4;have:=(fb.append has).append ck;simpa using this
       .simp[execOp,resolve,aK,kW,Deferred.ofValue,invoke]
     |_=>rw[kW] at hf;cases hf
    .rename_i i first cap heq
     rw[heq] at hf;have hinv:∀ c,VRel ρ M.n (.func (.yield i) first cap) c->∃ r,c=.func (.yield r) #[] #[]/\VRel ρ M.n (.func (.yield i) #[] #[]) (.func (.yield r) #[] #[]):=by
      intro c h;cases h with
      |yield _ r hi hr=>exact⟨r,rfl,.yield i r hi hr⟩
     obtain⟨r,kW,hv⟩:=hinv _ hf;refine .inr ⟨i,r,_,c.args.map a.eval,h,hv,by simpa using has,λw=>?_⟩;simp[execOp,resolve,aK,kW,Deferred.ofValue,invoke]
    .cases h
   all_goals
    repeat' first
     |(cases bg;done)
     |(simp at bg;subst bg;rcases aG with⟨f,bQ,h⟩|⟨f,bQ,h⟩<;>cases h;done)
     |split at bg
   all_goals
    simp only[zN,xd] at bg;obtain⟨_,_,_,_,bg⟩:=bg;split at bg<;>simp at bg;subst bg;rcases aG with⟨f,bQ,h⟩|⟨f,bQ,h⟩<;>cases h
  all_goals simp only[Op.operands] at ai bg
  all_goals
   repeat' first
    |(cases bg;done)
    |(simp at bg;subst bg;rcases aG with⟨f,bQ,h⟩|⟨f,bQ,h⟩<;>cases h;done)
    |split at bg
  all_goals simp only[zN,xd,reduceCtorEq,and_false,exists_false] at bg
  all_goals first
   |(obtain⟨_,_,bg⟩:=bg;simp at bg;subst bg;rcases aG with⟨f,bQ,h⟩|⟨f,bQ,h⟩<;>cases h;done)
   |(obtain⟨_,_,_,_,bg⟩:=bg;simp at bg;subst bg;rcases aG with⟨f,bQ,h⟩|⟨f,bQ,h⟩<;>cases h;done)
   |(obtain⟨_,_,_,_,_,_,bg⟩:=bg;simp at bg;subst bg;rcases aG with⟨f,bQ,h⟩|⟨f,bQ,h⟩<;>cases h;done)
   |(obtain⟨d,_,bg⟩:=bg;cases d<;>simp at bg<;>subst bg<;>rcases aG with⟨f,bQ,h⟩|⟨f,bQ,h⟩<;>cases h;done)
   |(obtain⟨_,_,_,_,bg⟩:=bg;split at bg<;>simp at bg;subst bg;rcases aG with⟨f,bQ,h⟩|⟨f,bQ,h⟩<;>cases h;done)
   |(obtain⟨_,_,bg⟩:=bg;split at bg<;>simp at bg;subst bg;rcases aG with⟨f,bQ,h⟩|⟨f,bQ,h⟩<;>cases h;done)
theorem NG {o:Op}{vo:VOp}(h:Kh P o=vo) (hv:vo≠.bad):Uf P o=some vo\/∃ x,Te P o=some x/\vo=.ext x:=by
 unfold Kh at h;split at h
 .rename_i v gP;subst h;exact .inl gP
 .split at h
  .rename_i x hx;exact .inr ⟨x,hx,h.symm⟩
  .exact absurd h.symm hv
theorem EN {o:Op}{x:XOp}(h:Uf P o=some (.ext x)):False:=by
 unfold Uf at h
 repeat' first
  |contradiction
  |(cases h;done)
  |(simp at h;done)
  |(rw[zN,xd] at h;obtain⟨_,_,h⟩:=h)
  |split at h
theorem RW {o:Op}{vo:VOp}(h:Kh P o=vo) (hv:vo≠.bad) (c:Call):o≠.defer c:=by
 rintro rfl;rcases NG h hv with h|⟨x,h,_⟩
 .unfold Uf at h;split at h<;>simp at h
 .unfold Te at h;split at h<;>simp at h
theorem EF {o:Oper}{x:Operand}(hc:Te P o.op=some (.nextMap x)) {ρ:Plc}{M:Heap}{w:World}{env:Env}{ev:Operand->Value}(hH:HRel ρ M w) (hE:∀ x,X8 x=true->VRel ρ M.n (Q3 env x) (ev x))
  {K:Value->Heap->Prop}(h:Cg (Q3 env x) M K):∃ c w',(execOp ev o).run P w=.ok (.value c) w'/\Got ρ M w K c w':=by
 obtain⟨dst,op,ty,pos,after,guard⟩:=o;simp only at hc;unfold Te at hc;split at hc
 .cases hc
 rename_i ai;simp only[xC,xm] at ai;have bJ:op=.next x false:=by
  cases op
  case next y b=>cases b<;>simp at hc;subst hc;rfl
  all_goals
   simp only at hc
   repeat' first
    |contradiction
    |(obtain⟨_,h⟩:=ER hc;cases h;done)
    |(cases hc;done)
    |(simp at hc;done)
    |(rw[zN,xd] at hc;obtain⟨_,_,hc⟩:=hc)
    |split at hc
 subst bJ;clear hc;simp[Op.operands] at ai;have hx:=hE x ai;unfold Cg at h;split at h
 .rename_i i bp;rw[bp] at hx;split at h
  .rename_i m since seen last hb;split at h
   .rename_i es clock wr aH;obtain⟨h1,ae,h2,h3⟩:=h;obtain⟨p,hp,⟨_,ff⟩,O,hO,rm,rfl,pz⟩:=hH.live i _ hb;obtain⟨q,entries,iK,cO,aC,aI⟩:=Xz hH aH pz;simp at iK;subst iK;obtain⟨_,_,cC⟩:=hx.q0x hp;rw[ff,x3] at cC;have iq:(getObj p.blk).run P w=.ok (.mapIter (some q.blk) since seen.toArray last) w:=Qw hO (λ_ _ _ e=>by cases e);have cR:(getObj q.blk).run P w=.ok (.map entries clock) w:=Qw aC (λ_ _ _ e=>by cases e);let left:=entries.filter λe=>!seen.toArray.contains e.born;let aW:=left.filter (·.born<since);let new:=left.filter (·.born>=since);let bK:Array (Option MapEntry):=(if aW.isEmpty then #[none] else #[])++(aW++new).map some;have bq:0<bK.size:=by
     by_cases ho:aW.isEmpty=true
     .simp only[bK,ho,zB,Array.size_append];show 0<1+_;omega
     .have:aW.size≠0:=λe=>ho (by simp[Array.isEmpty,e]);simp only[bK,Array.size_append,Array.size_map];omega
    obtain⟨k,w1,hk,fg,qB⟩:∃ k w1,k<bK.size/\(choose (.mapNext bK.size)).run P w=.ok k w1/\(w1=w\/w1=w.drew):=by
     rw[run_choose_drew];by_cases hf:(Question.mapNext bK.size).forced=true
     .exact⟨0,w,bq,by rw[z7 hf],.inl rfl⟩
     .refine⟨_,w.drew,?_,by rw[z8 hf],.inr rfl⟩;exact wE _ bq
    have jr:HRel ρ M w1:=by rcases qB with rfl|rfl;exact hH;exact hH.drew
    have fX:Ext ρ M w ρ M w1:=by rcases qB with rfl|rfl;exact Ext.refl _ _ _;exact Ext.drew _ _ _
    have tT:w1.heap[p.blk]?=some (.mapIter (some q.blk) since seen.toArray last):=by rcases qB with rfl|rfl<;>exact hO
    have ak:¬ ((!seen.toArray.isEmpty&&!entries.isEmpty&&entries.all (λe=>decide (e.born>=last)))=true):=by
     intro hh;simp only[z6] at hh;obtain⟨⟨h4,h5⟩,h6⟩:=hh;simp only[zy] at h1;rcases h1 with (h1|h1)|h1
     .rw[List.isEmpty_iff] at h1;subst h1;simp at h4
     .rw[List.isEmpty_iff] at h1;subst h1;have:entries=#[]:=by have:=aI.1;simpa using this
      subst this;simp at h5
     .obtain⟨kv,dC,ah⟩:=xu.1 h1;obtain⟨j,hj⟩:=xl.1 dC;have bV:j<entries.toList.length:=by rw[aI.1];exact(zg.1 hj).1
      have he:=aI.2 j entries.toList[j] kv (z1 bV) hj;have:=Array.all_eq_true'.1 h6 entries.toList[j] (by rw[<-Array.mem_toList_iff];exact zp bV);have h7:=he.2.1;simp at this ah;simp at h7;omega
    have aT:∀ r,(match bK[k]? with
      |some (some e)=>(do setObj p.blk (.mapIter (some q.blk) since (seen.toArray.push e.born) clock);pure (Value.tuple #[.bool true,e.key,e.val]):Sem Value)
      |some none=>pure (.tuple #[.bool false])
      |none=>stuck "Next: no such candidate").run P w1=r->(Instr.next (ev x) false ty).run P w=r:=by
     intro r hr;rw[<-hr];simp only[Instr.next,cC,zA,iq,cR,zh];rw[z8 ak];simp only[zA];change ((choose (Question.mapNext bK.size)).run P w).andThen _=_;rw[fg];rfl
    have hval:∀ c w',(Instr.next (ev x) false ty).run P w=.ok c w'->(execOp ev ⟨dst,.next x false,ty,pos,after,guard⟩).run P w=.ok (.value c) w':=λc w' h=>by simp[execOp,h]
    have fz:bK[k]?=some bK[k]:=xg hk;cases hx:bK[k] with
    |none =>
     rw[hx] at fz;have aN:none∈bK:=hx▸Array.getElem_mem hk;have hold:aW.isEmpty=true:=by
      cases ho:aW.isEmpty with
      |true=>rfl
      |false=>simp[bK,ho] at aN
     refine⟨_,w1,hval _ _ (aT _ (by rw[fz];rfl)),_,ρ,M,h2 ?_,VRel.q0j (LRel.cons (.bool _) (LRel.nil _ _)),jr,fX⟩;refine zf.2 λkv dC=>?_;obtain⟨j,hj⟩:=xl.1 dC;have bV:j<entries.toList.length:=by rw[aI.1];exact(zg.1 hj).1
     have he:=aI.2 j entries.toList[j] kv (z1 bV) hj;cases tU:seen.contains kv.2.2 with
     |true=>rfl
     |false =>
      simp only[Bool.false_or,zm];rcases zl kv.2.2 since with ah|bj
      .exfalso;have:entries.toList[j]∈aW:=by
        simp only[aW,left,Array.mem_filter,zm];refine⟨⟨by rw[<-Array.mem_toList_iff];exact zp bV,?_⟩,by rw[he.2.1];exact ah⟩;rw[he.2.1];simpa using tU
       rw[Array.isEmpty_iff] at hold;rw[hold] at this;simp at this
      .exact bj
    |some e =>
     rw[hx] at fz;have aN:some e∈bK:=hx▸Array.getElem_mem hk;have nR:e∈left:=by
      have h4:e∈aW++new:=by
       simp only[bK,Array.mem_append,Array.mem_map] at aN;rcases aN with aN|⟨a,ha,py⟩
       .split at aN<;>simp at aN
       .simp at py;subst py;simpa using ha
      rcases Array.mem_append.1 h4 with h4|h4
      .exact(Array.mem_filter.1 h4).1
      .exact(Array.mem_filter.1 h4).1
     obtain⟨hel,mZ⟩:=Array.mem_filter.1 nR;rw[<-Array.mem_toList_iff] at hel;obtain⟨j,hj⟩:=xl.1 hel;have bV:j<es.length:=by rw[<-aI.1];exact(zg.1 hj).1
     have he:=aI.2 j e es[j] hj (z1 bV);have jk:=h3 es[j] (zp bV) (by rw[<-he.2.1];simpa using mZ);obtain⟨k1,k2⟩:=jr.setObj (o':=.iter m since (seen++[es[j].2.2]) clock) (O':=.mapIter (some q.blk) since (seen.toArray.push e.born) clock) hp hb ⟨q.blk,by rw[he.2.1];simp,pz⟩;have bG:VRel ρ M.n es[j].1 e.key:=by rw[he.1];exact Ug (zf.1 ae _ (zp bV))
     refine⟨_,_,hval _ _ (aT _ (by
      rw[fz];simp only[zA,QQ tT (λ_ _ _ e=>by cases e),zh,xe])),_,ρ,_,jk,VRel.q0j (LRel.cons (.bool _) (LRel.cons bG (LRel.cons he.2.2 (LRel.nil _ _)))),k1,fX.trans k2⟩
   .exact h.elim
  .exact h.elim
 .exact h.elim
theorem Ib (hS:OkSpecs P S) {f:FuncId}{args:List Value}{M:Heap}{K:Value->Heap->Prop}(h:vcall S f args M K):VCalled P f args M K:=by
 unfold vcall at h;split at h
 .rename_i s hs;exact hS.fn f s hs _ _ _ h
 .exact h.elim
theorem Ev (hS:OkSpecs P S) {i:Nat}{args:List Value}{M:Heap}{K:Value->Heap->Prop}(h:Ad S i args M K):VYields P i args M K:=by
 unfold Ad at h;split at h
 .rename_i s hs;exact hS.yl i s hs _ _ _ h
 .exact h.elim
theorem I2 {o:Oper}{vo:VOp}(hc:Kh P o.op=vo) {ρ:Plc}{M:Heap}{w:World}{env:Env}{a:Act}(hH:HRel ρ M w) (hL:LRel ρ M.n env a.tmps.toList) {v:Value}{M':Heap}
  (h:Q7 vo (Q3 env) M=some (v,M')):S5 P ρ M w v M' (execOp a.eval o):=by
 cases hq:vo.quiet with
 |false=>exact Q0k hc hq hH (λx hx=>Wa hL hx) h
 |true =>obtain⟨rfl,c,eL,hr⟩:=Ob hc hq hH (λx hx=>Wa hL hx) h;exact⟨c,w,ρ,.inl (hr w (Like.refl ρ w)),eL,hH,Ext.refl _ _ _⟩
theorem VV (hS:OkSpecs P S) {ro:Option Nat}{n:Nat}{o:Oper}{vo:VOp}(bJ:Kh P o.op=vo) {ρ:Plc}{M:Heap}{w:World}{env:Env}{a:Act}(hH:HRel ρ M w) (hL:LRel ρ M.n env a.tmps.toList)
  {K:Value->Heap->Prop}(h:vop S vo env M K) {next:Act->World->Prop}{Q':Exit->Act->World->Prop}(hn:∀ c w',Got ρ M w K c w'->next (a.put o.dst c) w'):o.wpIn (FF ro) n P a w next Q':=by
 refine⟨λf _=>EP _ _,?_⟩;have cN:vo≠.bad:=by rintro rfl;exact h.elim
 rw[Oper.semAt_eq _ _ _ (RW bJ cN)];by_cases aG:(∃ f bQ,vo=.callF f bQ)\/(∃ f bQ,vo=.callV f bQ)
 .have hc:Uf P o.op=some vo:=by
   rcases NG bJ cN with hc|⟨x,_,hx⟩
   .exact hc
   .subst hx;rcases aG with⟨f,bQ,hh⟩|⟨f,bQ,hh⟩<;>cases hh
  rcases Q1h (S:=S) hc hL aG h with⟨f,args,aw,hv,nK,hr⟩|⟨i,r,args,aw,hv,bW,nK,hr⟩
  .rcases Ib hS hv ρ w aw hH nK with⟨h1,h2⟩|⟨c,hg,h2⟩
   .rw[hr,h1];exact⟨(λhd=>by rw[RU] at hd;cases hd),(Ah h2).mono λe w' ⟨c,he,hg⟩=>by subst he;exact hn c w' hg⟩
   .rw[hr,h2 w (Like.refl ρ w)];exact hn c w hg
  .obtain⟨p,hp,fn,tmps,eS,body,h1,h2⟩:=Ev hS hv ρ w aw hH nK;have tV:r=p.blk:=by
    cases bW with
    |yield _ _ _ hh=>exact hh p hp
   rw[hr,tV,h1];exact⟨(λhd=>by rw[RU] at hd;cases hd),(CN h2).mono λe w' ⟨c,he,hg⟩=>by subst he;exact hn c w' hg⟩
 .by_cases eT:∃ x,vo=.ext (.nextMap x)
  .obtain⟨x,rfl⟩:=eT;have hc:Te P o.op=some (.nextMap x):=by
    rcases NG bJ cN with hc|⟨y,hy,hx⟩
    .have:=EN hc;exact this.elim
    .cases hx;exact hy
   obtain⟨c,w',hr,hg⟩:=EF hc hH (λx hx=>Wa hL hx) h;rw[hr];exact hn c w' hg
  .have gA:∃ v M',Q7 vo (Q3 env) M=some (v,M')/\K v M':=by
    unfold vop at h;split at h
    .exact absurd (.inl ⟨_,_,rfl⟩) aG
    .exact absurd (.inr ⟨_,_,rfl⟩) aG
    .exact absurd ⟨_,rfl⟩ eT
    .cases dX:Q7 vo (Q3 env) M with
     |none=>rw[dX] at h;exact h.elim
     |some p=>rw[dX] at h;exact⟨p.1,p.2,rfl,h⟩
   obtain⟨v,M',dX,hK⟩:=gA;obtain⟨c,w',ρ',aT,eL,gT,hE⟩:=I2 bJ hH hL dX;have hg:Got ρ M w K c w':=⟨v,ρ',M',hK,eL,gT,hE⟩;rcases aT with aT|⟨aT,rfl⟩
   .rw[aT];exact hn c w' hg
   .rw[aT];exact hn undef w' hg
def Mks (B:Nat) (ds:List Deferred) (w:World):Prop:=B<=w.heap.size/\∃ Ds:List Nat,ds=Ds.map (λD=>⟨.collected D,#[]⟩)/\Ds.Nodup/\∀ D∈Ds,B<=D/\w.heap[D]?=some (.deferred (some []))
theorem Mks.nil {w:World}(h:B<=w.heap.size):Mks B [] w:=⟨h,[],rfl,List.nodup_nil,λ_ h=>by cases h⟩
theorem Mks.ext {ds:List Deferred}{ρ ρ':Plc}{M M':Heap}{w w':World}(h:Mks B ds w) (hH:HRel ρ M w) (hE:Ext ρ M w ρ' M' w'):Mks B ds w':=by
 obtain⟨h0,Ds,h1,h2,h3⟩:=h;refine⟨zY h0 hE.size,Ds,h1,h2,λD hD=>⟨(h3 D hD).1,?_⟩⟩;have hb:=(h3 D hD).2;have ah:D<w.heap.size:=by
  rcases zl D w.heap.size with h'|h'
  .exact h'
  .rw[Array.getElem?_eq_none h'] at hb;cases hb
 rw[hE.keep D ah (λ⟨i,p,b,hp,_,_,tW⟩=>hH.q0m hb i p hp tW)];exact hb
def Ho (B m:Nat) (ρ:Plc) (M:Heap) (w:World) (K:Env->Heap->Prop) (a':Act) (w':World):Prop :=
 ∃ af ρ' M',K af M'/\List.length af=m/\HRel ρ' M' w'/\LRel ρ' M'.n af a'.tmps.toList/\Mks B a'.defers w'/\Ext ρ M w ρ' M' w'
theorem E9 (hS:OkSpecs P S) {ro:Option Nat}{n:Nat}(ops:Array Oper) (Q:Exit->Act->World->Prop):∀ (l:List Oper) (lv:List VOper),l.mapM (Jc P ops)=some lv ->
  ∀ (env:Env) (M:Heap) (K:Env->Heap->Prop) (ρ:Plc) (w:World) (a:Act),BH S lv env M K->HRel ρ M w->LRel ρ M.n env a.tmps.toList->Mks B a.defers w ->
  (∀ a' w',Ho B (List.length env) ρ M w K a' w'->Q .normal a' w')->wpListIn (FF ro) n P ops Q l a w:=by
 intro l;induction l with
 |nil =>intro lv bU env M K ρ w a h hH hL hd hQ;simp at bU;subst bU;exact hQ a w ⟨env,ρ,M,h,rfl,hH,hL,hd,Ext.refl _ _ _⟩
 |cons o l ih =>
  intro lv bU env M K ρ w a h hH hL hd hQ;rw[xp] at bU;cases bg:Jc P ops o with
  |none=>simp[bg] at bU
  |some vo =>
   cases iJ:l.mapM (Jc P ops) with
   |none=>simp[bg,iJ] at bU
   |some r_ =>
    simp[bg,iJ] at bU;subst bU;simp only[BH] at h;cases hw:Ja env vo.guard with
    |none=>rw[hw] at h;exact h.elim
    |some b =>
     rw[hw] at h;obtain⟨dF,bH,bJ⟩:=Dk bg hL hw;obtain⟨ht,hf⟩:=h;simp only[wpListIn];rw[dF];cases b with
     |false =>rw[z8 (by simp)];exact⟨λf _=>EP _ _,ih r_ iJ (Xe env vo.dst undef) M K ρ w _ (hf rfl) hH (by rw[bH];exact YR hL JB o.dst) (by rw[Xd];exact hd) (λa' w' hn=>hQ a' w' (by rw[Zs] at hn;exact hn))⟩
     |true =>
      rw[z7 rfl];refine VV hS bJ hH hL (ht rfl) λc w' ⟨v,ρ',M',hK,eL,gT,hE⟩=>?_
      exact ih r_ iJ (Xe env vo.dst v) M' K ρ' w' _ hK gT (by rw[bH];exact YR (hE.lrel hL) eL o.dst) (by rw[Xd];exact hd.ext hH hE)
       (λa' pq ⟨nS,eZ,aE,k1,k0,k2,k3,k4,k5⟩=>hQ a' pq ⟨nS,eZ,aE,k1,by rw[k0,Zs],k2,k3,k4,hE.trans k5⟩)
theorem Sf:∀ (l:List Nat) (vs:List Value) (env:Env),(Xj l vs env).length=env.length:=by
 intro l;induction l with
 |nil=>intro vs env;cases vs<;>rfl
 |cons i l ih =>
  intro vs env;cases vs with
  |nil=>rfl
  |cons v vs=>simp only[Xj];rw[ih];simp
theorem EY {ρ:Plc}{n:Nat}:∀ (l:List Nat) (env base:Env) (cs:List Value),LRel ρ n env cs->LRel ρ n base cs->LRel ρ n (Xj l (D8 l env) base) cs:=by
 intro l;induction l with
 |nil=>intro env base cs _ hb;exact hb
 |cons i l ih =>
  intro env base cs he hb;simp only[D8,zJ,Xj];refine ih env _ cs he ?_;refine⟨by simp[hb.1],λj v c hv hc=>?_⟩;by_cases cj:i=j
  .subst cj;rcases zl i (List.length base) with ah|bj
   .rw[List.getElem?_set_self ah] at hv;obtain rfl:=osj hv;have b8:i<List.length env:=by rw[he.1,<-hb.1];exact ah
    have:env.getD i poison=env[i]:=by simp[List.getD,b8]
    rw[this];exact he.2 i _ c (z1 b8) hc
   .rw[zk (by simp;exact bj)] at hv;cases hv
  .rw[List.getElem?_set_ne cj] at hv;exact hb.2 j v c hv hc
theorem Ee {ρ:Plc}{n:Nat}(cs:List Value) {m:Nat}(h:m=cs.length):LRel ρ n (List.replicate m poison) cs :=
 ⟨by simp[h],λi v c hv _=>by
  have:=zF hv;rw[List.mem_replicate] at this;rw[this.2];exact .poison c⟩
def RoRel (dh ro:Option Nat) (ρ:Plc) (n:Nat):Prop:=(dh=none/\ro=none)\/∃ i l,dh=some i/\ro=some l/\i<n/\∀ p,ρ i=some p->p.blk=l
theorem RoRel.ext {dh ro:Option Nat}{ρ ρ':Plc}{M M':Heap}{w w':World}(h:RoRel dh ro ρ M.n) (hE:Ext ρ M w ρ' M' w'):RoRel dh ro ρ' M'.n:=by
 rcases h with h|⟨i,l,h1,h2,h3,h4⟩
 .exact .inl h
 .exact .inr ⟨i,l,h1,h2,xi h3 hE.n,λp hp=>h4 p (hE.pl i h3 p hp)⟩
def Sound (P:Program) (S:VSpecs) (c:Code) (vc:VCode):Prop :=
 ∀ ⦃B:Nat⦄ (dh ro:Option Nat) (n:Nat) (Q:Exit->Env->Heap->Prop) (env:Env) (M:Heap) (ρ:Plc) (w:World) (a:Act),vwp S vc dh Q env M->HRel ρ M w->LRel ρ M.n env a.tmps.toList->Mks B a.defers w->RoRel dh ro ρ M.n ->
  ∀ (Q':Exit->Act->World->Prop),(∀ e a' w',Ho B (List.length env) ρ M w (Q e) a' w'->Q' e a' w')->c.wpIn (FF ro) n P Q' a w
theorem O9 {ρ:Plc}{n:Nat}:∀ (ps:List Nat) (vs cs:List Value) (env:Env) (tmps:Array Value),LRel ρ n env tmps.toList->LRel ρ n vs cs ->
  LRel ρ n (PA env ps vs) ((ps.zip cs).foldl (λ(tmps:Array Value) (q:Nat×Value)=>tmps.setIfInBounds q.1 q.2) tmps).toList:=by
 intro ps;induction ps with
 |nil=>intro vs cs env tmps h _;cases vs<;>exact h
 |cons p ps ih =>
  intro vs cs env tmps h hv;cases vs with
  |nil =>
   cases cs with
   |nil=>exact h
   |cons _ _=>have:=hv.1;simp at this
  |cons v vs =>
   cases cs with
   |nil=>have:=hv.1;simp at this
   |cons c cs =>simp only[PA,List.zip_cons_cons,w5];refine ih vs cs _ _ ?_ ⟨by have:=hv.1;simpa using this,λi a b ha hb=>hv.2 (i+1) a b (by simpa using ha) (by simpa using hb)⟩;rw[Array.toList_setIfInBounds];exact h.set p (hv.2 0 v c rfl rfl)
theorem XJ {w:World}{l:Nat}{r:Loop}(h:w.heap[l]?=some (.loop r)):(Instr.getLoop l).run P w=.ok r w:=by simp[Instr.getLoop,Qw h (λ_ _ _ e=>by cases e)]
theorem MG {ρ:Plc}{M:Heap}{w:World}(hH:HRel ρ M w) {i:Nat}{env:Env}{r:Loop}{st:LoopState}{pend:Option Code}{wr:Bool}(h:M.get i=some (.obj (.lp env r st pend) wr)) :
  ∃ p,ρ i=some p/\w.heap[p.blk]?=some (.loop {r with state:=st,pending:=pend})/\LRel ρ M.n env r.tmps.toList:=by
 obtain⟨p,hp,_,O,h1,rfl,h2⟩:=hH.live i _ h;exact⟨p,hp,h1,h2⟩
theorem Ld {ρ:Plc}{M:Heap}{w:World}(hH:HRel ρ M w) {i:Nat}{env:Env}{r:Loop}{st:LoopState}{pend:Option Code}{p:Pl}(hp:ρ i=some p) (h:M.get i=some (.obj (.lp env r st pend) true)) (m8:LoopState) (bX:Option Code) :
  HRel ρ (M.upd i (.obj (.lp env r m8 bX) true)) (HM w p.blk (.loop {r with state:=m8,pending:=bX})) /\
  Ext ρ M w ρ (M.upd i (.obj (.lp env r m8 bX) true)) (HM w p.blk (.loop {r with state:=m8,pending:=bX})):=by
 obtain⟨p',bw,h1,h2⟩:=MG hH h;exact hH.setObj hp h ⟨rfl,h2⟩
theorem Cc {eS body:Code}{va vb:VCode}(ha:Sound P S eS va) (hb:Sound P S body vb) (ps:List Nat) (env:Env) (r:Loop) (f_:r.assign=eS) (dY:r.body=body) (jZ:r.params.toList=ps) (i:Nat) :
  KE P i (Aj (vwp S va (some i)) (vwp S vb (some i)) ps env r i):=by
 intro args M K h ρ w aw hH hL;obtain⟨h1,h2,h3⟩:=h;obtain⟨p,hp,aC,lZ⟩:=MG hH h1;refine⟨p,hp,r.fn,(r.params.zip aw).foldl (λtmps (t,a)=>tmps.setIfInBounds t a) r.tmps,r.assign,r.body,?_,?_⟩
 .have aF:aw.size=r.params.size:=by
   have h4:=hL.1;have:r.params.size=ps.length:=by rw[<-jZ];simp
   simp at h4;omega
  simp[Instr.yield,XJ aC,aF]
 .refine roundIn_of_wpIn (F:=Fence.wide) trivial ?_;rw[f_,dY];refine ha (some i) (some p.blk) 0 _ _ M ρ w _ h3 hH ?_ (Mks.nil (ze _)) (.inr ⟨i,p.blk,rfl,rfl,M.lt h1,λq hq=>by rw[hp] at hq;obtain rfl:=osj hq;rfl⟩) _ ?_
  .have:=O9 ps args aw.toList env r.tmps lZ hL;rw[<-jZ,<-Array.toList_zip,Array.foldl_toList] at this;rw[jZ] at this;exact this
  .intro e a1 w1 ⟨bA,ρ1,σ1,k1,k0,k2,k3,k4,k5⟩;cases e with
   |normal =>
    obtain⟨k6,k7⟩:=k1;obtain⟨p1,j5,kX,sd⟩:=MG k2 k6;have mV:p1=p:=by have:=k5.pl i (M.lt h1) p1 j5;rw[hp] at this;exact(osj this).symm
    subst mV;obtain⟨j1,j2⟩:=Ld k2 j5 k6 .busy none;refine⟨_,by simp[Instr.beginRound,XJ kX,QQ kX (λ_ _ _ e=>by cases e)];rfl,?_⟩;refine hb (some i) (some p1.blk) 0 _ _ _ ρ1 _ a1 k7 j1 k3 (k4.ext k2 j2) (.inr ⟨i,p1.blk,rfl,rfl,σ1.lt k6,λq hq=>by rw[j5] at hq;obtain rfl:=osj hq;rfl⟩) _ ?_;intro e2 a2 w2 ⟨aU,ρ2,M2,m1,m0,m2,m3,m4,m5⟩;obtain⟨m6,m7⟩:=m1;obtain⟨p2,dD,eU,sg⟩:=MG m2 m6;have mV:p2=p1:=by have h8:=m5.pl i (by rw[Heap.q2q];exact σ1.lt k6) p2 dD;rw[j5] at h8;exact(osj h8).symm
    subst mV;cases e2 with
    |normal =>obtain⟨q1,q2⟩:=Ld m2 dD m6 .ready none;refine⟨.bool true,_,?_,_,rfl,.bool true,ρ2,_,m7,.bool _,q1,k5.trans (j2.trans (m5.trans q2))⟩;simp[Instr.endRound,XJ eU,QQ eU (λ_ _ _ e=>by cases e)]
    |ret =>obtain⟨q1,q2⟩:=Ld m2 dD m6 .done (some .ret);refine⟨.bool false,_,?_,_,rfl,.bool false,ρ2,_,m7,.bool _,q1,k5.trans (j2.trans (m5.trans q2))⟩;simp[Instr.endRound,XJ eU,QQ eU (λ_ _ _ e=>by cases e)]
    |exit id =>obtain⟨q1,q2⟩:=Ld m2 dD m6 .done (some (.exit id));refine⟨.bool false,_,?_,_,rfl,.bool false,ρ2,_,m7,.bool _,q1,k5.trans (j2.trans (m5.trans q2))⟩;simp[Instr.endRound,XJ eU,QQ eU (λ_ _ _ e=>by cases e)]
    |goto l=>exact m7.elim
    |panic ch=>exact m7.elim
    |outgrown=>exact m7.elim
   |exit id=>exact k1.elim
   |goto l=>exact k1.elim
   |ret=>exact k1.elim
   |panic ch=>exact k1.elim
   |outgrown=>exact k1.elim
theorem Heap.ext' {M M':Heap}(h:∀ j,M.get j=M'.get j) (hn:M.n=M'.n):M=M':=by obtain⟨g,n,wf⟩:=M;obtain⟨g',n',vU⟩:=M';have hg:g=g':=funext h;have pC:n=n':=hn;subst hg;subst pC;rfl
theorem Mks.push {ds:List Deferred}{w:World}(h:Mks B ds w):Mks B ({target:=.collected w.heap.size,args:=#[]}::ds) (w.alloc (.deferred (some []))):=by
 obtain⟨h0,Ds,h1,h2,h3⟩:=h;have ah:∀ D∈Ds,D<w.heap.size:=λD hD=>by
  rcases zl D w.heap.size with h'|h'
  .exact h'
  .have:=(h3 D hD).2;rw[Array.getElem?_eq_none h'] at this;cases this
 refine⟨by rw[World.size_alloc];omega,w.heap.size::Ds,by rw[h1];rfl,xt.2 ⟨λhh=>wL _ (ah _ hh),h2⟩,λD hD=>?_⟩;rcases zn.1 hD with rfl|hD
 .refine⟨h0,?_⟩;show (w.heap.push _)[w.heap.size]?=_;simp
 .refine⟨(h3 D hD).1,?_⟩;show (w.heap.push _)[D]?=_;rw[Array.getElem?_push,z8 (by have:=ah D hD;omega)];exact(h3 D hD).2
theorem Ext.q1f {ρ:Plc}{M:Heap}(w:World) (O:Obj):Ext ρ M w ρ M (w.alloc O) :=
 ⟨rfl,rfl,rfl,by have:=World.size_alloc w O;omega,λB hB _=>by show (w.heap.push _)[B]?=_;rw[Array.getElem?_push,z8 (by omega)],λ_ _ h=>h,ze _,λ_ _ _ h=>h⟩
theorem HRel.q1f {ρ:Plc}{M:Heap}{w:World}(h:HRel ρ M w) (O:Obj):HRel ρ M (w.alloc O) :=
 h.world (by have:=World.size_alloc w O;omega) (λi p hp=>by show (w.heap.push _)[p.blk]?=_;rw[Array.getElem?_push,z8 (by have:=h.lt i p hp;omega)]) λg cs hg=>by show (w.heap.push _)[g]?=_;rw[Array.getElem?_push,z8 (by have:=h.tab.lt hg;omega)]
theorem Cp {dh ro:Option Nat}{ρ:Plc}{M:Heap}{w:World}{a:Act}{env:Env}(hH:HRel ρ M w) (hL:LRel ρ M.n env a.tmps.toList) (hd:Mks B a.defers w) (hR:RoRel dh ro ρ M.n) (aO:Z5q M dh) (fn:FuncId) (ps:Array Nat) (eS body:Code) :
  ∃ (r:Loop) (mark:List Deferred) (w1:World) (ρ1:Plc),(Instr.enterLoop fn a.tmps ps eS body ro).run P w=.ok (w1.heap.size-1,mark) w1/\r.assign=eS/\r.body=body/\r.params=ps /\
   HRel ρ1 (M.push (.obj (.lp env r .ready none) true)) w1/\Ext ρ M w ρ1 (M.push (.obj (.lp env r .ready none) true)) w1/\Mks B (mark++a.defers) w1 /\
   (∀ p,ρ1 M.n=some p->p.blk=w1.heap.size-1):=by
 rcases hR with⟨rfl,rfl⟩|⟨i,l,rfl,rfl,hi,hZ⟩
 .let w0:=w.alloc (.deferred (some []));have gB:HRel ρ M w0:=hH.q1f _;have qC:Ext ρ M w ρ M w0:=Ext.q1f _ _;let r:Loop:={state:=.ready,pending:=none,fn,tmps:=a.tmps,params:=ps,assign:=eS,body:=body,defers:=w.heap.size};obtain⟨ρ1,h1,h2,h3⟩:=gB.newObj (.lp env r .ready none) (.loop r) ⟨rfl,hL⟩;have aF:(w0.alloc (.loop r)).heap.size-1=w0.heap.size:=by have:=World.size_alloc w0 (.loop r);omega
  refine⟨r,[{target:=.collected w.heap.size,args:=#[]}],w0.alloc (.loop r),ρ1,?_,rfl,rfl,rfl,h2,qC.trans h3,?_,λp hp=>?_⟩
  .rw[aF];simp[Instr.enterLoop];exact⟨(World.size_alloc w _).symm,rfl⟩
  .exact(hd.push).ext gB h3
  .rw[h1] at hp;obtain rfl:=osj hp;rw[aF]
 .obtain⟨tX,r0,st,pend,hb⟩:=aO;obtain⟨p,hp,aC,_⟩:=MG hH hb;have aQ:=hZ p hp;subst aQ;let r:Loop:={state:=.ready,pending:=none,fn,tmps:=a.tmps,params:=ps,assign:=eS,body:=body,defers:=r0.defers};obtain⟨ρ1,h1,h2,h3⟩:=hH.newObj (.lp env r .ready none) (.loop r) ⟨rfl,hL⟩;have aF:(w.alloc (.loop r)).heap.size-1=w.heap.size:=by have:=World.size_alloc w (.loop r);omega
  refine⟨r,[],w.alloc (.loop r),ρ1,?_,rfl,rfl,rfl,h2,h3,?_,λp hp=>?_⟩
  .rw[aF];simp[Instr.enterLoop,XJ aC];rfl
  .exact hd.ext hH h3
  .rw[h1] at hp;obtain rfl:=osj hp;rw[aF]
theorem Cr (hS:OkSpecs P S) {eS body:Code}{va vb:VCode}(ha:Sound P S eS va) (hb:Sound P S body vb) (g:Operand) (hg:X8 g=true) (ps:Array Nat):Sound P S (.rangeFunc g ps eS body) (.rangeF g ps.toList va vb):=by
 intro B dh ro n Q env M ρ w a h hH hL hd hR Q' hQ;simp only[vwp,Lc] at h;have gC:=Wa hL hg;split at h
 .rename_i f first cap bj
  rw[bj] at gC;split at h
  .rename_i T hT;obtain⟨aO,h⟩:=h;refine wpIn_rangeFunc λfn _=>?_;obtain⟨r,mark,w1,ρ1,he,f_,dY,jZ,jr,fX,tY,fb⟩:=Cp (P:=P) hH hL hd hR aO fn ps eS body;obtain⟨iN,gU⟩:=hS.it f T hT;obtain⟨gs,ds,pD,lP,kL⟩:∃ gs ds,a.eval g=.func (.func f) gs ds/\LRel ρ M.n first.toList gs.toList/\LRel ρ M.n cap.toList ds.toList:=by
    cases pD:a.eval g with
    |func vV gs ds =>
     rw[pD] at gC;cases gC with
     |func _ _ _ _ _ k1 k2 k3 k4=>exact⟨gs,ds,rfl,LRel.of_array k1 k3,LRel.of_array k2 k4⟩
    |_=>rw[pD] at gC;cases gC
   have hY:KE P M.n (Aj (vwp S va (some M.n)) (vwp S vb (some M.n)) ps.toList env r M.n):=Cc ha hb ps.toList env r f_ dY (by rw[jZ]) M.n;have l4:=gU M.n _ hY _ _ _ (h r) ρ1 w1 (gs++#[.func (.yield (w1.heap.size-1)) #[] #[]]++ds) jr (by
    have k1:=fX.lrel lP;have k2:=fX.lrel kL;have k3:LRel ρ1 (M.push (.obj (.lp env r .ready none) true)).n [.func (.yield M.n) #[] #[]] [.func (.yield (w1.heap.size-1)) #[] #[]] :=
     LRel.cons (.yield _ _ (by simp) (λp hp=>(fb p hp).symm)) (LRel.nil _ _)
    have:=(k1.append k3).append k2;simpa using this)
   refine⟨w1.heap.size-1,mark,w1,{target:=.fn (.func f) ds,args:=gs++#[.func (.yield (w1.heap.size-1)) #[] #[]]},w1,f,gs++#[.func (.yield (w1.heap.size-1)) #[] #[]]++ds,w1,?_,?_,λ_ _=>EP _ _,?_,(λhh=>by rw[RU] at hh;cases hh),?_⟩
   .rw[Q00];exact he
   .simp[resolve,pD,Deferred.ofValue];rfl
   .simp only[invoke];exact Yp iN _ _
   .refine (Ah l4).mono λe w3 ⟨c,tZ,v,ρ3,σ3,k1,k2,k3,k4⟩=>?_;subst tZ;unfold Q0d at k1;split at k1
    .rename_i af r' st pend nF;obtain⟨a_,k1⟩:=k1;obtain⟨p3,sh,iO,sj⟩:=MG k3 nF;have aQ:p3.blk=w1.heap.size-1:=fb p3 (k4.pl M.n (by simp) p3 sh);obtain⟨q1,q2⟩:=Ld k3 sh nF .exhausted pend;rw[aQ] at iO q1 q2;obtain⟨q3,q4⟩:=q1.kill M.n;have fZ:(σ3.upd M.n (.obj (.lp af r' .exhausted pend) true)).kill M.n=σ3.kill M.n:=by
      apply Heap.ext'
      .intro j;by_cases hj:j=M.n
       .subst hj;rw[Heap.q0g,Heap.q0g]
       .rw[Heap.q0d _ hj,Heap.q0d _ hj,Heap.q0b _ _ hj]
      .rfl
     rw[fZ] at q3 q4;have kY:=fX.trans (k4.trans (q2.trans q4));have cD:=tY.ext jr (k4.trans (q2.trans q4));refine⟨pend,_,by simp[Instr.endLoop,XJ iO,QQ iO (λ_ _ _ e=>by cases e),a_];rfl,?_⟩;have eT:∀ K:Env->Heap->Prop,K env (σ3.kill M.n)->Ho B (List.length env) ρ M w K {a with defers:=mark++a.defers} (HM w3 (w1.heap.size-1) (.loop {r' with state:=.exhausted,pending:=pend})):=λK hK =>
      ⟨env,_,_,hK,rfl,q3,kY.lrel hL,cD,kY⟩
     cases pend with
     |none=>exact hQ _ _ _ (eT _ k1)
     |some c =>
      cases c with
      |ret=>exact wpIn_ret (hQ _ _ _ (eT _ k1))
      |exit id=>exact wpIn_exit (hQ _ _ _ (eT _ k1))
      |_=>exact k1.elim
    .exact k1.elim
  .exact h.elim
 .exact h.elim
end
end Go.V
namespace Go.V
open Go
theorem Yy {ev ga:Operand->Value}(x:Option Operand) (d:Nat) (h:∀ y∈x.toList,ev y=ga y):J8 ev x d=J8 ga x d:=by
 cases x with
 |none=>rfl
 |some y=>simp only[J8];rw[h y (by simp)]
theorem Ew {o:XOp}{ev ga:Operand->Value}{M:Heap}(h:∀ x∈o.opds,ev x=ga x):Zg o ev M=Zg o ga M:=by cases o<;>simp only[XOp.opds,zn,List.not_mem_nil,or_false,forall_eq_or_imp,forall_eq] at h<;>simp only[Zg]<;>(try simp only[h])
theorem Bg {o:VOp}{ev ga:Operand->Value}{M:Heap}(h:∀ x∈o.opds,ev x=ga x):Q7 o ev M=Q7 o ga M:=by
 cases o
 case build z ps =>
  have:(ps.map λp=>(p.1,p.2.1,ev p.2.2))=ps.map λp=>(p.1,p.2.1,ga p.2.2):=xc λp hp=>by rw[h p.2.2 (zE.2 ⟨p,hp,rfl⟩)]
  simp only[Q7,this]
 case buildSlice e z n ps =>
  have:(ps.map λp=>(p.1*e.sz,e.sz,ev p.2))=ps.map λp=>(p.1*e.sz,e.sz,ga p.2):=xc λp hp=>by rw[h p.2 (zE.2 ⟨p,hp,rfl⟩)]
  simp only[Q7,this]
 case makeFunc fn a b =>
  have h1:a.map ev=a.map ga:=xc λx hx=>h x (xX _ hx);have h2:b.map ev=b.map ga:=xc λx hx=>h x (xV _ hx);simp only[Q7,h1,h2]
 case slice size x lo hi mx =>
  have h1:=Yy lo 0 (λy hy=>h y (by simp[VOp.opds] at *;exact .inr (.inl hy)));have h2:∀ n,J8 ev hi n=J8 ga hi n:=λn=>Yy hi n (λy hy=>h y (by simp[VOp.opds] at *;exact .inr (.inr (.inl hy))));have h3:=Yy mx 0 (λy hy=>h y (by simp[VOp.opds] at *;exact .inr (.inr (.inr hy))));have h4:=h x (by simp[VOp.opds]);simp only[Q7,h4];cases ga x<;>simp only[h1,h2,h3]
 case sliceStr x lo hi =>
  have h1:=Yy lo 0 (λy hy=>h y (by simp[VOp.opds] at *;exact .inr (.inl hy)));have h2:∀ n,J8 ev hi n=J8 ga hi n:=λn=>Yy hi n (λy hy=>h y (by simp[VOp.opds] at *;exact .inr (.inr hy)));have h4:=h x (by simp[VOp.opds]);simp only[Q7,h4];cases ga x<;>simp only[h1,h2]
 case ext o=>exact Ew h
 all_goals
  simp only[VOp.opds,zn,List.not_mem_nil,or_false,forall_eq_or_imp,forall_eq] at h;simp only[Q7];try simp only[h]
theorem LC {S:VSpecs}{o:VOp}{env af:Env}{M:Heap}{K:Value->Heap->Prop}(h:∀ x∈o.opds,Q3 env x=Q3 af x):vop S o env M K=vop S o af M K:=by
 cases o
 case callF f bQ =>
  have:bQ.map (Q3 env)=bQ.map (Q3 af):=xc h;simp only[vop,this]
 case callV f bQ =>
  have h1:Q3 env f=Q3 af f:=h f (by simp[VOp.opds]);have h2:bQ.map (Q3 env)=bQ.map (Q3 af):=xc λx hx=>h x (by simp[VOp.opds,hx]);simp only[vop,h1,h2]
 case ext o =>
  by_cases hx:∃ x,o=.nextMap x
  .obtain⟨x,rfl⟩:=hx;have h1:Q3 env x=Q3 af x:=h x (by simp[VOp.opds,XOp.opds]);simp only[vop,h1]
  .have e1:=Bg (M:=M) h;cases o<;>first|exact absurd ⟨_,rfl⟩ hx|(simp only[vop];rw[e1])
 all_goals
  have e1:=Bg (M:=M) h;simp only[vop];rw[e1]
theorem Heap.Le.refl (M:Heap):M.Le M:=⟨ze _,λ_ _ h=>h⟩
theorem Heap.Le.trans {M M' aE:Heap}(h:M.Le M') (k:M'.Le aE):M.Le aE:=⟨zY h.1 k.1,λi b hb=>k.2 i b (h.2 i b hb)⟩
theorem Z3l {M M':Heap}(h:M.Le M') {esz:Nat}{v:Value}{xs:List Value}(hx:M.sl esz v=some xs):M'.sl esz v=some xs:=by
 unfold Heap.sl at hx |-;split at hx
 .exact hx
 .rename_i i o n c;split at hx
  .rename_i cs e wr t hb;simp only[h.2 i _ hb];exact hx
  .cases hx
 .cases hx
theorem RR {M M':Heap}(h:M.Le M') {m:Nat}{x:List JD×Nat×Bool}(hx:M.mapAt m=some x):M'.mapAt m=some x:=by
 unfold Heap.mapAt at hx |-;split at hx
 .rename_i es clock wr hb;simp only[h.2 m _ hb];exact hx
 .cases hx
theorem ED {M M':Heap}(h:M.Le M') {kd:Nat}{a b:Value}{r:Bool}(hx:Jf kd a b M=some r):Jf kd a b M'=some r:=by
 unfold Jf at hx |-
 split at hx<;>first
  |exact hx
  |(cases hx;done)
  |skip
 rename_i i o j q;split at hx
 .rename_i hc;obtain⟨h1,h2,h3⟩:=hc;obtain⟨b,hb⟩:=Option.isSome_iff_exists.1 h3;rw[z7 ⟨h1,h2,by rw[h.2 _ _ hb];rfl⟩];exact hx
 .cases hx
theorem SE {neg:Bool}{s:List MK}{x y:Operand}{ev:Operand->Value}{M M' σ1:Heap}{v:Value}(h:Zg (.eqAgg neg s x y) ev M=some (v,σ1)):Zg (.eqAgg neg s x y) ev M'=some (v,M'):=by
 simp only[Zg] at h |-;split at h
 .split at h
  .rename_i hc;rw[z7 hc];simp at h;obtain⟨rfl,_⟩:=h;rfl
  .cases h
 .cases h
theorem FX {o:XOp}{ev:Operand->Value}{M M' σ1:Heap}{v:Value}(hk:(VOp.ext o).kind≠2) (h:Zg o ev M=some (v,σ1)) (hl:M.Le M'):Zg o ev M'=some (v,M'):=by
 cases o<;>simp only[VOp.kind,VOp.quiet,XOp.quiet] at hk<;>try (exact absurd rfl hk)
 case eqAgg neg s x y=>exact SE h
 case eqNil kd neg x y =>
  simp only[Zg] at h |-;split at h
  .rename_i r hr;rw[ED hl hr];simp at h;obtain⟨rfl,_⟩:=h;rfl
  .cases h
 case lookup mk z ok x i =>
  simp only[Zg] at h |-;split at h
  .rename_i bR;rw[z7 bR];split at h
   .simp at h;obtain⟨rfl,_⟩:=h;rfl
   .rename_i m vW;split at h
    .rename_i es clock wr hm;simp only[RR hl hm];split at h
     .rename_i ae;rw[z7 ae];split at h<;>(rename_i hf;simp at h;obtain⟨rfl,_⟩:=h;rfl)
     .cases h
    .cases h
   .cases h
  .cases h
 case lenMap x =>
  simp only[Zg] at h |-;split at h
  .simp at h;obtain⟨rfl,_⟩:=h;rfl
  .split at h
   .rename_i es clock wr hm;simp only[RR hl hm];simp at h;obtain⟨rfl,_⟩:=h;rfl
   .cases h
  .cases h
 case entry x =>
  simp only[Zg] at h |-;split at h
  .rename_i i hx;split at h
   .rename_i m since seen last wr hb;simp only[hl.2 i _ hb];split at h
    .rename_i es clock kT b hm dV;simp only[RR hl hm,dV];split at h
     .rename_i b9;rw[z7 b9];split at h
      .rename_i e hf;split at h
       .rename_i hp;rw[z7 hp];simp at h;obtain⟨rfl,_⟩:=h;rfl
       .cases h
      .cases h
     .cases h
    .cases h
   .cases h
  .cases h
 case toUnsafe x =>
  simp only[Zg] at h |-;split at h
  .simp at h;obtain⟨rfl,_⟩:=h;rfl
  .rename_i i o hx;split at h
   .rename_i c e wr t hb;simp only[hl.2 i _ hb];split at h
    .rename_i hc;rw[z7 hc];simp at h;obtain⟨rfl,_⟩:=h;rfl
    .cases h
   .cases h
  .cases h
 case fromUnsafe u sz x =>
  simp only[Zg] at h |-;split at h
  .simp at h;obtain⟨rfl,_⟩:=h;rfl
  .rename_i i o hx;split at h
   .rename_i c e hb;simp only[hl.2 i _ hb];split at h
    .rename_i hc;rw[z7 hc];simp at h;obtain⟨rfl,_⟩:=h;rfl
    .cases h
   .cases h
  .cases h
 case sliceData x =>
  simp only[Zg] at h |-;split at h
  .simp at h;obtain⟨rfl,_⟩:=h;rfl
  .rename_i i o n cap hx;split at h
   .rename_i hc;obtain⟨h1,h2⟩:=hc;obtain⟨b,hb⟩:=Option.isSome_iff_exists.1 h2;rw[z7 ⟨h1,by rw[hl.2 _ _ hb];rfl⟩];simp at h;obtain⟨rfl,_⟩:=h;rfl
   .cases h
  .cases h
 case bytesStr x =>
  simp only[Zg] at h |-;split at h
  .rename_i a n c hx;split at h
   .rename_i xs br;simp only[Z3l hl br];split at h
    .rename_i s hs;simp at h;obtain⟨rfl,_⟩:=h;rfl
    .cases h
   .cases h
  .cases h
theorem PE {o:VOp}{ev:Operand -> Value}{M M' σ1:Heap}{v:Value}(hk:o.kind = 0) (h:Q7 o ev M = some (v, σ1)):Q7 o ev M' = some (v, M'):=by
  cases o
  case ext o =>
    cases o <;> first | (simp [VOp.kind, VOp.quiet, XOp.quiet] at hk; done) | skip
    case eqAgg neg s x y => exact SE h
  case slice size x lo hi mx => cases mx <;> simp [VOp.kind, VOp.quiet] at hk
  case build z ps =>
    simp only [Q7] at h |-;split at h
    . simp at h; obtain ⟨rfl, _⟩:=h; rfl
    . cases h
  all_goals first
    | (simp [VOp.kind, VOp.quiet] at hk; done)
    | skip
  all_goals
    simp only [Q7] at h |-
    (repeat' split at h) <;> first
      | (cases h; done)
      | (rename_i qD; obtain ⟨rfl, rfl, rfl⟩:=qD; simp_all; done)
      | (simp_all; done)
      | (simp_all
         obtain ⟨rfl, _⟩:=h
         first
          | rw [z8 (by omega)]
          | rw [z7 (by omega)])
theorem HL {o:VOp}{ev:Operand->Value}{M M' σ1:Heap}{v:Value}(hk:o.kind≠2) (h:Q7 o ev M=some (v,σ1)) (hl:M.Le M'):Q7 o ev M'=some (v,M'):=by
 cases o
 case ext o=>exact FX hk h hl
 case load agg size a =>
  simp only[Q7] at h |-;split at h
  .split at h
   .split at h
    .rename_i ae;rw[z7 ae];split at h
     .simp at h;obtain⟨rfl,_⟩:=h;rfl
     .cases h
    .cases h
   .cases h
  .rename_i i o hx;split at h
   .rename_i c e wr t hb;simp only[hl.2 i _ hb];split at h
    .rename_i u hu;simp at h;obtain⟨rfl,_⟩:=h;rfl
    .cases h
   .cases h
  .cases h
 case slice size x lo hi mx =>
  cases mx with
  |some m=>simp[VOp.kind,VOp.quiet] at hk
  |none =>
   simp only[Q7] at h |-;split at h
   .rename_i a n cap hx;split at h
    .rename_i l k fb ck;unfold WU at h |-;split at h
     .rename_i heq;split at h
      .rename_i hc;rw[z7 hc];simp at h;obtain⟨rfl,_⟩:=h;rfl
      .cases h
     .rename_i i o n' au heq;split at h
      .rename_i c e wr t hb;simp only[hl.2 i _ hb];simp only at h;split at h
       .rename_i hc;rw[z7 hc];simp at h;obtain⟨rfl,_⟩:=h;rfl
       .cases h
      .cases h
     .cases h
    .rename_i hm;cases hm
    .cases h
   .cases h
 all_goals first
  |(exact absurd rfl hk)
  |(exact PE rfl h)
section
variable {P:Program}{S:VSpecs}{B:Nat}
def EL (lv:List VOper) (env:Env) (tr:Nat->Value) (A:Nat->Bool):Nat->Env
 |0=>env
 |i+1=>if A i then Xe (EL lv env tr A i) ((lv[i]?).bind (·.dst)) (tr i) else EL lv env tr A i
theorem Kn (lv:List VOper) (env:Env) (tr:Nat->Value) (A:Nat->Bool):∀ i,List.length (EL lv env tr A i)=List.length env
 |0=>rfl
 |i+1=>by
  simp only[EL];split
  .rw[Zs];exact Kn lv env tr A i
  .exact Kn lv env tr A i
theorem V9 (lv:List VOper) (env:Env) {tr tr':Nat->Value}{A B:Nat->Bool}:∀ i,(∀ l,l<i->tr l=tr' l)->(∀ l,l<i->A l=B l)->EL lv env tr A i=EL lv env tr' B i
 |0,_,_=>rfl
 |i+1,h,h'=>by simp only[EL];rw[V9 lv env i (λl hl=>h l (by omega)) (λl hl=>h' l (by omega)),h i (by omega),h' i (by omega)]
theorem Kz (env:Env) (d:Option Nat) (v:Value) {x:Nat}(h:d≠some x):(Xe env d v)[x]?=env[x]?:=by
 cases d with
 |none=>rfl
 |some d=>simp only[Xe];rw[List.getElem?_set_ne (by rintro rfl;exact h rfl)]
theorem Z0v (lv:List VOper) (env:Env) {tr tr':Nat->Value}{A:Nat->Bool}:∀ i,(∀ l,l<i->A l=true->tr l=tr' l)->EL lv env tr A i=EL lv env tr' A i
 |0,_=>rfl
 |i+1,h=>by
  simp only[EL];rw[Z0v lv env i λl hl hA=>h l (by omega) hA];split
  .rename_i hA;rw[h i (by omega) hA]
  .rfl
theorem Gw (lv:List VOper) (env:Env) (tr:Nat->Value) {A B:Nat->Bool}(x:Nat):∀ i,(∀ l,l<i->(lv[l]?).bind (·.dst)=some x->A l=B l)->(EL lv env tr A i)[x]?=(EL lv env tr B i)[x]?
 |0,_=>rfl
 |i+1,h=>by
  have ih:=Gw lv env tr x i (λl hl hd=>h l (by omega) hd);by_cases hd:(lv[i]?).bind (·.dst)=some x
  .have l5:=h i (by omega) hd;simp only[EL];rw[l5];split
   .rw[hd];simp only[Xe,xH];rw[Kn,Kn];rfl
   .exact ih
  .simp only[EL]
   split<;>split<;>first
    |exact ih
    |(rw[Kz _ _ _ hd];exact ih)
    |(rw[Kz _ _ _ hd,Kz _ _ _ hd];exact ih)
theorem B6 (lv:List VOper) (env:Env) (tr:Nat->Value) (j:Nat):∀ i,j<=i->EL lv env tr (λl=>decide (l<j)) i=EL lv env tr (λ_=>true) j
 |0,h=>by
  obtain rfl:j=0:=by omega
  rfl
 |i+1,h=>by
  by_cases hj:j=i+1
  .subst hj;exact V9 lv env _ (λ_ _=>rfl) (λl hl=>by simp[hl])
  .simp only[EL];rw[z8 (by simp;omega)];exact B6 lv env tr j i (by omega)
def DFact (S:VSpecs) (d:DInfo) (lv:List VOper) (env:Env) (tr:Nat->Value) (hp:Nat->Heap) (u:Nat) (i:Nat):Prop :=
 ∀ v,lv[i]?=some v->∃ b,Ja (EL lv env tr (λ_=>true) i) v.guard=some b /\
  (b=true->v.op.kind=2->vop S v.op (EL lv env tr (λ_=>true) i) (hp (d.rank i)) (λv' M'=>v'=tr i/\M'=hp (d.rank i+1))) /\
  (b=true->v.op.kind=1->∀ r,d.kmin i<=r->r<=d.kmax i->r<=u->∃ M',Q7 v.op (Q3 (EL lv env tr (λ_=>true) i)) (hp r)=some (tr i,M')) /\
  (b=true->v.op.kind≠1->v.op.kind≠2->∃ M',Q7 v.op (Q3 (EL lv env tr (λ_=>true) i)) (hp (d.rank i))=some (tr i,M')) /\
  (b=false->tr i=undef/\(v.op.kind=2->hp (d.rank i+1)=hp (d.rank i)))
def Q8g (d:DInfo) (lv:List VOper) (env:Env) (tr:Nat->Value) (i:Nat) (pend:List (Nat×(Heap->Prop))):Prop :=
 ∀ l,l<i->∀ v,lv[l]?=some v->Ja (EL lv env tr (λ_=>true) l) v.guard=some true->v.op.kind=1->d.rank i+1<=d.kmax l->(d.kmax l,JW v.op (Q3 (EL lv env tr (λ_=>true) l)) (tr l))∈pend
inductive Know (S:VSpecs) (d:DInfo) (lv:List VOper) (env:Env) (K:Env->Heap->Prop):List Nat->Nat->(Nat->Value)->(Nat->Heap)->Prop
 |full {nd:List Nat}{tr:Nat->Value}{hp:Nat->Heap}(hF:∀ l,l<lv.length->l∉nd->DFact S d lv env tr hp (d.rank lv.length) l) (hK:K (EL lv env tr (λ_=>true) lv.length) (hp (d.rank lv.length))):Know S d lv env K nd lv.length tr hp
 |part {nd:List Nat}{i:Nat}{tr:Nat->Value}{hp:Nat->Heap}{v:VOper}(hv:lv[i]?=some v) (hk:v.op.kind=2) (hw:Ja (EL lv env tr (λ_=>true) i) v.guard=some true)
   (hF:∀ l,l<i->l∉nd->DFact S d lv env tr hp (d.rank i) l) (kZ:∀ j,i<j->j<lv.length->∃ e u,i<=e/\e<j/\lv[e]?=some u/\((∃ x,u.dst=some x/\∀ v,lv[j]?=some v->x∈Vj v)\/(u.op.kind=2/\∀ v,lv[j]?=some v->v.op.kind=2)))
   (R:Value->Heap->Prop) (gF:vop S v.op (EL lv env tr (λ_=>true) i) (hp (d.rank i)) R)
   (I:∀ u M',R u M'->Nat) (T:∀ u M',R u M'->Nat->Value) (H:∀ u M',R u M'->Nat->Heap)
   (hT:∀ u M' h,i<I u M' h/\(∀ l,l<i->T u M' h l=tr l)/\T u M' h i=u/\(∀ r,r<=d.rank i->H u M' h r=hp r)/\H u M' h (d.rank i+1)=M')
   (next:∀ u M' h,Know S d lv env K (i::nd) (I u M' h) (T u M' h) (H u M' h)):Know S d lv env K nd i tr hp
theorem LI {r:Nat}{M:Heap}:∀ {l:List (Nat×(Heap->Prop))},JX r M l->∀ c∈l,r<=c.1->c.2 M
 |[],_,_,h=>by cases h
 |x::l,h,c,hc=>by
  rcases zn.1 hc with rfl|hc
  .exact h.1
  .exact LI h.2 c hc
theorem P8 {op:VOp}{ev:Operand->Value}{v:Value}{U:Heap}(h:JW op ev v U):∃ M',Q7 op ev U=some (v,M'):=by
 unfold JW at h;cases hv:Q7 op ev U with
 |none=>rw[hv] at h;exact h.elim
 |some q =>rw[hv] at h;have h:q.1=v:=h;exact⟨q.2,by rw[<-h]⟩
theorem DFact.congr {d:DInfo}{lv:List VOper}{env:Env}{tr tr':Nat->Value}{hp bw:Nat->Heap}{u u' l:Nat}(h:DFact S d lv env tr hp u l) (ht:∀ k,k<=l->tr' k=tr k) (hh:∀ r,r<=u->bw r=hp r) (hr:d.rank l<=u) (h2:∀ v,lv[l]?=some v->v.op.kind=2->d.rank l+1<=u)
  (hu:∀ v,lv[l]?=some v->Ja (EL lv env tr (λ_=>true) l) v.guard=some true->v.op.kind=1->∀ r,u<r->r<=u'->r<=d.kmax l->∃ M',Q7 v.op (Q3 (EL lv env tr (λ_=>true) l)) (bw r)=some (tr l,M')):DFact S d lv env tr' bw u' l:=by
 intro v hv;obtain⟨b,f1,f2,f3,f4,f5⟩:=h v hv;have e:=V9 lv env (tr:=tr') (tr':=tr) (A:=λ_=>true) (B:=λ_=>true) l (λk hk=>ht k (by omega)) (λ_ _=>rfl);rw[e,ht l (ze _),hh _ hr];refine⟨b,f1,λhb hk=>?_,λhb hk r r1 r2 r3=>?_,f4,λhb=>⟨(f5 hb).1,λhk=>?_⟩⟩
 .rw[hh _ (h2 v hv hk)];exact f2 hb hk
 .rcases zl u r with ah|bj
  .subst hb;exact hu v hv f1 hk r ah r3 r2
  .rw[hh r bj];exact f3 hb hk r r1 r2 bj
 .rw[hh _ (h2 v hv hk)];exact(f5 hb).2 hk
theorem R6:∀ (d:DInfo) (rest:List VOper) (i:Nat) (xs:List Nat),waits xs (d.opers rest i)=true->∀ (k:Nat) (v:VOper),rest[k]?=some v->v.op.kind=2\/(∃ x∈xs,x∈Vj v)\/∃ (e:Nat) (u:VOper) (x:Nat),e<k/\rest[e]?=some u/\u.dst=some x/\x∈Vj v
 |d,[],i,xs,_,k,v,hv=>by simp at hv
 |d,o::rest,i,xs,h,k,v,hv=>by
  simp only[DInfo.opers,waits,z6,zy,xu,zT] at h;obtain⟨h1,h2⟩:=h;cases k with
  |zero =>
   obtain rfl:o=v:=by simpa using hv
   rcases h1 with h1|⟨x,hx,br⟩
   .exact .inl h1
   refine .inr (.inl ⟨x,by simpa using br,?_⟩);simp only[Vj,zQ] at hx |-;rcases hx with hx|hx
   .exact .inl (.inr hx)
   .exact .inr hx
  |succ k =>
   rcases R6 d rest (i+1) _ h2 k v (by simpa using hv) with h3|⟨y,hy,sk⟩|⟨e,u,y,he,hu,hd,hn⟩
   .exact .inl h3
   .rcases zQ.1 hy with hy|hy
    .exact .inr (.inr ⟨0,o,y,by omega,rfl,by simpa using hy,sk⟩)
    .exact .inr (.inl ⟨y,hy,sk⟩)
   .exact .inr (.inr ⟨e+1,u,y,by omega,by simpa using hu,hd,hn⟩)
theorem Lr (d:DInfo) {i j:Nat}(h:i<=j):d.rank i<=d.rank j:=by
 induction j with
 |zero =>
  obtain rfl:i=0:=by omega
  exact ze _
 |succ j ih =>
  by_cases cj:i=j+1
  .subst cj;exact ze _
  .have:=ih (by omega);simp only[DInfo.rank];split<;>omega
theorem Q88 (d:DInfo) (lv:List VOper) (jy:∀ i v,lv[i]?=some v->d.k i=v.op.kind) (env:Env) (K:Env->Heap->Prop):∀ (rest:List VOper) (i:Nat),i<=lv.length->lv.drop i=rest->∀ (nd:List Nat) (tp:Nat->Value) (hq:Nat->Heap) (pend:List (Nat×(Heap->Prop))),
  (∀ l,l<i->l∉nd->DFact S d lv env tp hq (d.rank i) l)->Q8g d lv env tp i pend ->
  Zq S (d.opers rest i) (EL lv env tp (λ_=>true) i) ((List.range (d.rank i+1)).map hq) (hq (d.rank i)) pend K ->
  ∃ k tr hp,i<=k/\(∀ l,l<i->tr l=tp l)/\(∀ r,r<=d.rank i->hp r=hq r)/\Know S d lv env K nd k tr hp:=by
 intro rest;induction rest with
 |nil =>
  intro i hZ hi nd tp hq pend hF hP h;have hl:lv.length<=i:=by simpa using hi
  obtain rfl:i=lv.length:=by omega
  simp only[DInfo.opers,Zq] at h;exact⟨_,tp,hq,ze _,λ_ _=>rfl,λ_ _=>rfl,.full hF h⟩
 |cons v rest ih =>
  intro i hZ hi nd tp hq pend hF hP h;have ah:i<lv.length:=by
   rcases zl i lv.length with h'|h'
   .exact h'
   .rw[List.drop_eq_nil_of_le h'] at hi;cases hi
  have hv:lv[i]?=some v:=by have:=congrArg List.head? hi;rw[List.head?_drop] at this;simpa using this
  have dZ:lv.drop (i+1)=rest:=by have:=congrArg List.tail hi;simpa using this
  have hk:=jy i v hv;have f_:v.op.kind=2->d.rank (i+1)=d.rank i+1:=λe=>by simp only[DInfo.rank,hk,e,zB]
  have jt:v.op.kind≠2->d.rank (i+1)=d.rank i:=λe=>by simp only[DInfo.rank,hk,e,if_false]
  have dE:∀ l,l<i->d.rank l<=d.rank i/\∀ w,lv[l]?=some w->w.op.kind=2->d.rank l+1<=d.rank i:=λl hl=>by have h1:=Lr d (show l+1<=i by omega);refine⟨by simp only[DInfo.rank] at h1;split at h1<;>omega,λw hw h2=>?_⟩;simp only[DInfo.rank,jy l w hw,h2,zB] at h1;exact h1
  simp only[DInfo.opers,Zq] at h;have hlen:((List.range (d.rank i+1)).map hq).length=d.rank i+1:=by simp
  cases hw:Ja (EL lv env tp (λ_=>true) i) v.guard with
  |none=>rw[hw] at h;exact h.elim
  |some b =>
   rw[hw] at h;obtain⟨ht,hf⟩:=h
   have go:∀ (jz:List Nat) (u:Value) (M':Heap) (bX:List (Nat×(Heap->Prop))),(∀ l,l∈nd->l∈jz) ->
     Zq S (d.opers rest (i+1)) (Xe (EL lv env tp (λ_=>true) i) v.dst u) (if v.op.kind=2 then (List.range (d.rank i+1)).map hq++[M'] else (List.range (d.rank i+1)).map hq) (if v.op.kind=2 then M' else hq (d.rank i)) bX K ->
     (v.op.kind=2->JX (d.rank i+1) M' pend)->(∀ c∈pend,c∈bX) ->
     (b=true->v.op.kind=1->d.rank i+1<=d.kmax i->(d.kmax i,JW v.op (Q3 (EL lv env tp (λ_=>true) i)) u)∈bX) ->
     (i∉jz->∀ tr hp,(∀ l,l<i->tr l=tp l)->tr i=u->(∀ r,r<=d.rank i->hp r=hq r)->(v.op.kind=2->hp (d.rank i+1)=M')->DFact S d lv env tr hp (d.rank (i+1)) i) ->
     ∃ k tr hp,i<k/\(∀ l,l<i->tr l=tp l)/\tr i=u/\(∀ r,r<=d.rank i->hp r=hq r)/\(v.op.kind=2->hp (d.rank i+1)=M')/\Know S d lv env K jz k tr hp:=by
    intro jz u M' bX j6 h k_ gG jA nT;let iw:Nat->Value:=λl=>if l=i then u else tp l
    let cO:Nat->Heap:=λr=>if v.op.kind=2/\r=d.rank i+1 then M' else hq r
    have et:∀ l,l<i->iw l=tp l:=λl hl=>by simp[iw];intro e;omega
    have ei:iw i=u:=by simp[iw]
    have eh:∀ r,r<=d.rank i->cO r=hq r:=λr hr=>by simp only[cO];rw[z8 (by omega)]
    have qE:v.op.kind=2->cO (d.rank i+1)=M':=λav=>by simp[cO,av]
    have e1:EL lv env iw (λ_=>true) (i+1)=Xe (EL lv env tp (λ_=>true) i) v.dst u:=by simp only[EL,zB];rw[V9 lv env (tr:=iw) (tr':=tp) i et (λ_ _=>rfl),hv,ei];rfl
    have e2:(List.range (d.rank (i+1)+1)).map cO=if v.op.kind=2 then (List.range (d.rank i+1)).map hq++[M'] else (List.range (d.rank i+1)).map hq:=by
     simp only[DInfo.rank,hk];split
     .rename_i av;rw[List.range_succ,xN];congr 1
      .exact xc λr hr=>eh r (by have:=zD.1 hr;omega)
      .simp[cO,av]
     .rename_i av;exact xc λr hr=>by simp[cO,av]
    have e3:cO (d.rank (i+1))=if v.op.kind=2 then M' else hq (d.rank i):=by simp only[DInfo.rank,hk];split<;>rename_i av<;>simp[cO,av]
    have t_:∀ l,l<i+1->l∉jz->DFact S d lv env iw cO (d.rank (i+1)) l:=λl hl gH=>by
     by_cases iP:l=i
     .subst iP;exact nT gH iw cO et ei eh qE
     .have iP:l<i:=by omega
      refine (hF l iP λh=>gH (j6 l h)).congr (λk hk=>et k (by omega)) eh (dE l iP).1 (dE l iP).2 λw dq l6 bt r r1 r2 r3=>?_;by_cases av:v.op.kind=2
      .rw[f_ av] at r2;obtain rfl:r=d.rank i+1:=by omega
       rw[qE av];exact P8 (LI (k_ av) _ (hP l iP w dq l6 bt (by omega)) (by simpa using r3))
      .rw[jt av] at r2;omega
    have ua:Q8g d lv env iw (i+1) bX:=λl hl w dq l6 bt pB=>by
     by_cases iP:l=i
     .subst iP;rw[hv] at dq;obtain rfl:=osj dq;have e:=V9 lv env (tr:=iw) (tr':=tp) (A:=λ_=>true) (B:=λ_=>true) l et (λ_ _=>rfl);rw[e] at l6 |-;rw[hw] at l6;obtain rfl:b=true:=by simpa using l6
      rw[ei];exact jA rfl bt (by rw[jt (by omega)] at pB;exact pB)
     .have iP:l<i:=by omega
      have e:=V9 lv env (tr:=iw) (tr':=tp) (A:=λ_=>true) (B:=λ_=>true) l (λk hk=>et k (by omega)) (λ_ _=>rfl);rw[e] at l6 |-;rw[et l iP];have hle:d.rank i<=d.rank (i+1):=by simp only[DInfo.rank];split<;>omega
      exact gG _ (hP l iP w dq l6 bt (by omega))
    obtain⟨k,tr,hp,k0,k1,k2,k3⟩:=ih (i+1) (by omega) dZ jz iw cO bX t_ ua (by rw[e1,e2,e3];exact h);have hle:d.rank i<=d.rank (i+1):=by simp only[DInfo.rank];split<;>omega
    exact⟨k,tr,hp,by omega,λl hl=>by rw[k1 l (by omega),et l hl],by rw[k1 i (by omega),ei],λr hr=>by rw[k2 r (by omega),eh r hr],λav=>by rw[k2 _ (by rw[f_ av];exact ze _),qE av],k3⟩
   have weak:∀ {jz:List Nat}{u:Value}{M':Heap},(∃ k tr hp,i<k/\(∀ l,l<i->tr l=tp l)/\tr i=u/\(∀ r,r<=d.rank i->hp r=hq r)/\(v.op.kind=2->hp (d.rank i+1)=M')/\Know S d lv env K jz k tr hp)->∃ k tr hp,i<=k/\(∀ l,l<i->tr l=tp l)/\(∀ r,r<=d.rank i->hp r=hq r)/\Know S d lv env K jz k tr hp:=by rintro jz u M' ⟨k,tr,hp,h0,h1,_,h2,_,h3⟩;exact⟨k,tr,hp,by omega,h1,h2,h3⟩
   have fact:∀ {u:Value}{M':Heap},(b=true->v.op.kind=1->∀ r,d.kmin i<=r->r<=d.rank i->JW v.op (Q3 (EL lv env tp (λ_=>true) i)) u (hq r))->(b=true->v.op.kind≠1->v.op.kind≠2->∃ aE,Q7 v.op (Q3 (EL lv env tp (λ_=>true) i)) (hq (d.rank i))=some (u,aE))->(b=false->u=undef/\(v.op.kind=2->M'=hq (d.rank i)))->(b=true->v.op.kind=2->vop S v.op (EL lv env tp (λ_=>true) i) (hq (d.rank i)) (λv' aE=>v'=u/\aE=M')) ->
     ∀ tr hp,(∀ l,l<i->tr l=tp l)->tr i=u->(∀ r,r<=d.rank i->hp r=hq r)->(v.op.kind=2->hp (d.rank i+1)=M')->DFact S d lv env tr hp (d.rank (i+1)) i:=by
    intro u M' g1 g2 g3 k5 tr hp k1 k2 k3 k4 v' gP;rw[hv] at gP;obtain rfl:=osj gP;have e:=V9 lv env (tr:=tr) (tr':=tp) (A:=λ_=>true) (B:=λ_=>true) i k1 (λ_ _=>rfl);rw[e,k2,k3 _ (ze _)];refine⟨b,hw,λhb av=>by rw[k4 av];exact k5 hb av,λhb bt r r1 r2 r3=>?_,g2,λhb=>⟨(g3 hb).1,λav=>by rw[k4 av];exact(g3 hb).2 av⟩⟩;rw[jt (by omega)] at r3;rw[k3 r r3];exact P8 (g1 hb bt r r1 r3)
   cases b with
   |false =>
    have hf:=hf rfl;by_cases av:v.op.kind=2
    .rw[z7 av] at hf;obtain⟨j5,hf⟩:=hf;exact weak (go nd undef (hq (d.rank i)) pend (λ_ h=>h) (by rw[z7 av,ite_self];exact hf) (λ_=>by rw[hlen] at j5;exact j5) (λ_ h=>h) (λh=>by cases h) (λ_=>fact (λh=>by cases h) (λh=>by cases h) (λ_=>⟨rfl,λ_=>rfl⟩) (λh=>by cases h)))
    .rw[z8 av] at hf;exact weak (go nd undef (hq (d.rank i)) pend (λ_ h=>h) (by rw[z8 av,ite_self];exact hf) (λh=>absurd h av) (λ_ h=>h) (λh=>by cases h) (λ_=>fact (λh=>by cases h) (λh=>by cases h) (λ_=>⟨rfl,λ_=>rfl⟩) (λh=>by cases h)))
   |true =>
    have ht:=ht rfl;by_cases av:v.op.kind=2
    .rw[z7 av] at ht;rw[hlen] at ht;rcases ht with⟨u,M',h1,h2,h3⟩|⟨h_,gF⟩
     .exact weak (go nd u M' pend (λ_ h=>h) (by rw[z7 av,z7 av];exact h3) (λ_=>h2) (λ_ h=>h) (λ_ hk=>by omega) (λ_=>fact (λ_ hk=>by omega) (λ_ _ hk=>absurd av hk) (λh=>by cases h) (λ_ _=>h1)))
     .have nx:∀ u M',(JX (d.rank i+1) M' pend/\Zq S (d.opers rest (i+1)) (Xe (EL lv env tp (λ_=>true) i) v.dst u) ((List.range (d.rank i+1)).map hq++[M']) M' pend K) ->
        ∃ k tr hp,i<k/\(∀ l,l<i->tr l=tp l)/\tr i=u/\(∀ r,r<=d.rank i->hp r=hq r)/\(v.op.kind=2->hp (d.rank i+1)=M')/\Know S d lv env K (i::nd) k tr hp:=λu M' ⟨h2,h3⟩ =>
       go (i::nd) u M' pend (λ_ h=>zi _ h) (by rw[z7 av,z7 av];exact h3) (λ_=>h2) (λ_ h=>h) (λ_ hk=>by omega) (λh=>absurd zu h)
      refine⟨i,tp,hq,ze _,λ_ _=>rfl,λ_ _=>rfl,.part hv av hw hF (λj hj aP=>?_) _ gF (λu M' h=>(nx u M' h).choose) (λu M' h=>(nx u M' h).choose_spec.choose) (λu M' h=>(nx u M' h).choose_spec.choose_spec.choose) (λu M' h=>?_) (λu M' h=>?_)⟩
      .obtain⟨n,hn⟩:∃ n,j=i+1+n:=⟨j-(i+1),by omega⟩;subst hn;have ub:∀ k w,lv[i+1+k]?=some w->rest[k]?=some w:=λk w dq=>by
        rw[<-dZ,zz];exact dq
       have qF:∀ k w,rest[k]?=some w->lv[i+1+k]?=some w:=λk w dq=>by rw[<-dZ,zz] at dq;exact dq
       have pE:=z1 aP;rcases R6 d rest (i+1) _ h_ n _ (ub n _ pE) with nU|⟨x,hx,j7⟩|⟨e,u,x,he,hu,hd,j7⟩
       .exact⟨i,v,ze _,by omega,hv,.inr ⟨av,λw dq=>by rw[pE] at dq;obtain rfl:=osj dq;exact nU⟩⟩
       .exact⟨i,v,ze _,by omega,hv,.inl ⟨x,by simpa using hx,λw dq=>by rw[pE] at dq;obtain rfl:=osj dq;exact j7⟩⟩
       .exact⟨i+1+e,u,by omega,by omega,qF e u hu,.inl ⟨x,hd,λw dq=>by rw[pE] at dq;obtain rfl:=osj dq;exact j7⟩⟩
      .obtain⟨q1,q2,q3,q4,q5,_⟩:=(nx u M' h).choose_spec.choose_spec.choose_spec;exact⟨q1,q2,q3,q4,q5 av⟩
      .exact(nx u M' h).choose_spec.choose_spec.choose_spec.2.2.2.2.2
    .rw[z8 av] at ht;by_cases bt:v.op.kind=1
     .rw[z7 bt] at ht;cases dX:Q7 v.op (Q3 (EL lv env tp (λ_=>true) i)) (hq (d.rank i)) with
      |none=>rw[dX] at ht;exact ht.elim
      |some p =>
       rw[dX] at ht;obtain⟨g1,g2⟩:=ht;refine weak (go nd p.1 (hq (d.rank i)) _ (λ_ h=>h) (by rw[z8 av,ite_self];exact g2) (λh=>absurd h av) (λc hc=>?_) (λ_ _ hr=>?_) (λ_=>fact (λ_ _ r uc ud=>?_) (λ_ hk=>absurd bt hk) (λh=>by cases h) (λ_ hk=>absurd hk av)))
       .split
        .exact zi _ hc
        .exact hc
       .rw[z7 (by rw[hlen];exact hr)];simp
       .refine g1 _ ?_;rw[xl];refine⟨r-d.kmin i,?_⟩;rw[zz,zU,List.getElem?_range (by omega)];simp;congr 1;omega
     .rw[z8 bt] at ht;cases dX:Q7 v.op (Q3 (EL lv env tp (λ_=>true) i)) (hq (d.rank i)) with
      |none=>rw[dX] at ht;exact ht.elim
      |some p =>rw[dX] at ht;exact weak (go nd p.1 (hq (d.rank i)) pend (λ_ h=>h) (by rw[z8 av,ite_self];exact ht) (λh=>absurd h av) (λ_ h=>h) (λ_ hk=>absurd hk bt) (λ_=>fact (λ_ hk=>absurd hk bt) (λ_ _ _=>⟨p.2,dX⟩) (λh=>by cases h) (λ_ hk=>absurd hk av)))
structure DOk (d:DInfo) (n:Nat):Prop where
 edge:∀ j,j<n->∀ e∈d.ed.getD j [],e<j
 path:∀ j,j<n->∀ i,i<j->d.lt i j=true->∃ e∈d.ed.getD j [],e=i\/(i<e/\d.lt i e=true)
 free:∀ j,j<n->∀ i,i<j->d.lt i j=false->d.touch i j=false/\¬(d.k i=2/\d.k j=2)
 kmin:∀ j,j<n->d.k j=1->(d.kmin j<=d.rank j/\d.rank j<=d.kmax j)/\d.kmax j<=d.rank n/\∀ l,l<n->d.k l=2->((d.lt l j=true<->d.rank l<d.kmin j)/\(d.lt j l=true<->d.kmax j<=d.rank l))
theorem DOk.of {d:DInfo}(h:d.ok=true):DOk d d.ks.length:=by
 have h0:∀ j,j<d.ks.length->d.okE j=true/\d.okP j=true/\d.okK j=true:=λj hj=>by have:=zf.1 h j (zD.2 hj);simpa [z6] using this
 refine⟨λj hj e he=>?_,λj hj i hi ah=>?_,λj hj i hi ah=>?_,λj hj hk=>?_⟩
 .have:=zf.1 (h0 j hj).1 e he;simpa using this
 .have:=zf.1 (h0 j hj).2.1 i (zD.2 hi);simp only[ah,zB,xu,zy,z6,zm,zT] at this;exact this
 .have:=zf.1 (h0 j hj).2.1 i (zD.2 hi);simp[ah] at this;exact⟨this.1,λhk=>this.2.elim (λh=>h hk.1) (λh=>h hk.2)⟩
 .have:=(h0 j hj).2.2;simp only[DInfo.okK,hk,BEq.rfl,wA,Bool.false_or,z6,zm] at this;refine⟨this.1,this.2.1,λl hl av=>?_⟩;have h1:=zf.1 this.2.2 l (zD.2 hl);simp only[av,BEq.rfl,wA,Bool.false_or,z6,zT] at h1;rw[h1.1,h1.2];simp
theorem GK (d:DInfo) {i j:Nat}(h:i<j) (hk:d.k i=2):d.rank i<d.rank j:=by have:=Lr d (show i+1<=j from h);simp only[DInfo.rank,hk,zB] at this;omega
theorem UQ (d:DInfo):∀ j r,r<d.rank j->∃ l,l<j/\d.k l=2/\d.rank l=r
 |0,r,h=>by simp[DInfo.rank] at h
 |j+1,r,h=>by
  simp only[DInfo.rank] at h;split at h
  .rename_i hk;rcases zl r (d.rank j) with h'|h'
   .obtain⟨l,h1,h2⟩:=UQ d j r h';exact⟨l,by omega,h2⟩
   .exact⟨j,by omega,hk,by omega⟩
  .obtain⟨l,h1,h2⟩:=UQ d j r h;exact⟨l,by omega,h2⟩
theorem NW {d:DInfo}{n:Nat}(hd:DOk d n) {A:Nat->Bool}(hc:∀ j,j<n->A j=true->∀ e∈d.ed.getD j [],A e=true):∀ j,j<n->A j=true->∀ i,i<j->d.lt i j=true->A i=true:=by
 intro j;induction j using Nat.strongRecOn with
 |ind j ih =>
  intro hj hA i hi ah;obtain⟨e,he,h⟩:=hd.path j hj i hi ah;have nV:=hd.edge j hj e he;have gV:=hc j hj hA e he;rcases h with rfl|⟨h1,h2⟩
  .exact gV
  .exact ih e nV (by omega) gV i h1 h2
def cnt (A:Nat->Bool):Nat->Nat
 |0=>0
 |i+1=>cnt A i+if A i then 0 else 1
theorem CY {A:Nat->Bool}:∀ {n},cnt A n=0->∀ i,i<n->A i=true
 |0,_,i,h=>by omega
 |n+1,hc,i,h=>by
  simp only[cnt] at hc;by_cases hi:i=n
  .subst hi;split at hc
   .assumption
   .omega
  .exact CY (n:=n) (by omega) i (by omega)
theorem IS {A B:Nat->Bool}{j:Nat}(hA:A j=false) (hB:B j=true) (h:∀ i,i≠j->A i=B i):∀ n,j<n->cnt A n=cnt B n+1
 |0,hj=>by omega
 |n+1,hj=>by
  simp only[cnt];by_cases aP:j=n
  .subst aP;have:cnt A j=cnt B j:=by
    have key:∀ m,m<=j->cnt A m=cnt B m:=by
     intro m;induction m with
     |zero=>intro _;rfl
     |succ m ih=>intro hm;simp only[cnt];rw[ih (by omega),h m (by omega)]
    exact key j (ze _)
   simp[hA,hB,this]
  .have:=IS hA hB h n (by omega);rw[h n (by omega)];omega
theorem Q68 (o:VOp):o.kind<=2:=by
 unfold VOp.kind;split<;>try omega
 split<;>omega
theorem Q5d {o:VOp}{env:Env}{M:Heap}{p:Value×Heap}{K:Value->Heap->Prop}(hk:o.kind≠2) (h:Q7 o (Q3 env) M=some p) (hK:K p.1 p.2):vop S o env M K:=by
 cases o
 case callF=>exact absurd rfl hk
 case callV=>exact absurd rfl hk
 case ext x =>
  cases x
  case nextMap=>exact absurd rfl hk
  all_goals (simp only[vop];rw[h];exact hK)
 all_goals (simp only[vop];rw[h];exact hK)
theorem Dv {o:VOp}{ev:Operand->Value}{M M':Heap}{v:Value}(hk:o.kind≠2) (h:Q7 o ev M=some (v,M')):M'=M:=by have:=HL hk h (Heap.Le.refl M);rw[h] at this;simp at this;exact this
theorem Rh {env af:Env}{g:Option (Nat×Bool)}(h:∀ x b,g=some (x,b)->env[x]?=af[x]?):Ja env g=Ja af g:=by
 cases g with
 |none=>rfl
 |some p =>obtain⟨x,b⟩:=p;simp only[Ja,zd];rw[h x b rfl]
theorem T_ {env af:Env}{x:Operand}(h:∀ t,x=.tmp t->env[t]?=af[t]?):Q3 env x=Q3 af x:=by
 cases x<;>try rfl
 rename_i t;simp only[Q3,zd];rw[h t rfl]
structure DInv (B:Nat) (d:DInfo) (lv:List VOper) (env:Env) (tr:Nat->Value) (hp:Nat->Heap) (ρ0:Plc) (σ0:Heap) (w0:World) (A:Nat->Bool) (a:Act) (w:World):Prop where
 closed:∀ j,j<lv.length->A j=true->∀ e∈d.ed.getD j [],A e=true
 run:∃ m ρ,(∀ l,l<lv.length->d.k l=2->(A l=true<->d.rank l<m))/\m<=d.rank lv.length/\HRel ρ (hp m) w/\LRel ρ (hp m).n (EL lv env tr A lv.length) a.tmps.toList/\Mks B a.defers w/\Ext ρ0 σ0 w0 ρ (hp m) w
structure DLink (P:Program) (ops:Array Oper) (pm:List Nat) (d:DInfo) (lv:List VOper):Prop where
 comp:∀ (p:Nat) (v:VOper),lv[p]?=some v->∃ o,ops[pm.getD p 0]?=some o/\Jc P ops o=some v/\d.k p=v.op.kind
 touch:∀ (i j:Nat) (u v:VOper),lv[i]?=some u->lv[j]?=some v->d.touch i j=false->(∀ x,u.dst=some x->x∉Vj v)/\(∀ x,v.dst=some x->x∉Vj u)
 size:pm.length=lv.length
theorem DLink.of {ops:Array Oper}{vs:List VOper}(h:ops.toList.mapM (Jc P ops)=some vs) {d0:DInfo}{pm:List Nat}(kK:∀ i∈pm,i<vs.length):DLink P ops pm (Ce d0 vs pm) (VX vs pm):=by
 obtain⟨h1,h2⟩:=Wb _ _ _ h;refine⟨λp v hv=>?_,λi j u v hu hv ht=>?_,by simp[VX]⟩
 .simp only[VX,zU,zw] at hv;obtain⟨i,hi,rfl⟩:=hv;have aO:=kK i (zF hi);have j8:i<ops.toList.length:=by omega
  obtain⟨v,hv,hc⟩:=h2 i _ (z1 j8);have hg:vs.getD i default=v:=by simp[zd,hv]
  have hp:pm.getD p 0=i:=by simp[zd,hi]
  refine⟨ops.toList[i],?_,by rw[hg];exact hc,?_⟩
  .rw[hp];simp
  .simp[DInfo.k,Ce,VX,zd,hi]
 .simp only[DInfo.touch,Ce,Q3q,zd,zU,hu,hv,z_,Option.getD_some,Bool.or_eq_false_iff] at ht;refine⟨λx hx hm=>?_,λx hx hm=>?_⟩
  .have:=ht.1;rw[hx] at this;simp at this;exact this hm
  .have:=ht.2;rw[hx] at this;simp at this;exact this hm
theorem As {v:VOper}{x:Nat}(h:v.dst=some x):x∈Vj v:=by simp[Vj,h]
theorem Ai {v:VOper}{x:Nat}(h:Operand.tmp x∈v.op.opds):x∈Vj v:=by refine xX _ (xV _ ?_);exact List.mem_filterMap.2 ⟨_,h,rfl⟩
theorem TZ {v:VOper}{x:Nat}{b:Bool}(h:v.guard=some (x,b)):x∈Vj v:=by refine xV _ ?_;simp[h]
theorem HJ (hS:OkSpecs P S) {ro:Option Nat}{n:Nat}{ops:Array Oper}{pm:List Nat}{d:DInfo}{lv:List VOper}(hl:DLink P ops pm d lv) (hd:DOk d lv.length) {env:Env}{tr:Nat->Value}{hp:Nat->Heap}
  {bd j:Nat}(hF:DFact S d lv env tr hp bd j)
  {Q:Exit->Act->World->Prop}{ρ0:Plc}{σ0:Heap}{w0:World}{A:Nat->Bool}{a:Act}{w:World}(ld:∀ m,(∀ l,l<lv.length->d.k l=2->(A l=true<->d.rank l<m))->m<=d.rank lv.length->m<=bd) (hI:DInv B d lv env tr hp ρ0 σ0 w0 A a w)
  (aP:j<lv.length) (d_:A j=false) (ec:∀ e∈d.ed.getD j [],A e=true) {A':Nat->Bool}(a7:∀ i,A' i=if i=j then true else A i) {K:Act->World->Prop}(hK:∀ a' w',DInv B d lv env tr hp ρ0 σ0 w0 A' a' w'->K a' w'):wpOpIn (FF ro) n P ops Q (pm.getD j 0) K a w:=by
 obtain⟨v,hv⟩:∃ v,lv[j]?=some v:=⟨_,z1 aP⟩;obtain⟨o,ho,hc,hk⟩:=hl.comp j v hv;obtain⟨bP,m,ρ,hm,j9,hH,hL,dJ,hE⟩:=hI;have dG:∀ i,i<j->d.lt i j=true->A i=true:=by
  intro i hi ah;obtain⟨e,he,h⟩:=hd.path j aP i hi ah;have nV:=hd.edge j aP e he;have gV:A e=true:=ec e he;rcases h with rfl|⟨h1,h2⟩
  .exact gV
  .exact NW hd bP e (by omega) gV i h1 h2
 have eX:∀ i,i<lv.length->j<i->d.lt j i=true->A i=false:=by
  intro i hi aM ah;cases hA:A i with
  |false=>rfl
  |true=>rw[NW hd bP i hi hA j aM ah] at d_;cases d_
 have fJ:∀ x,x∈Vj v->(EL lv env tr A lv.length)[x]?=(EL lv env tr (λ_=>true) j)[x]?:=by
  intro x hx;rw[<-B6 lv env tr j lv.length (by omega)];refine Gw lv env tr x lv.length λl aR bH=>?_;cases bU:lv[l]? with
  |none=>rw[bU] at bH;cases bH
  |some u =>
   rw[bU] at bH;rcases Nat.lt_trichotomy l j with h|h|h
   .have ah:d.lt l j=true:=by
     cases ah:d.lt l j with
     |true=>rfl
     |false=>exact absurd hx ((hl.touch l j u v bU hv (hd.free j aP l h ah).1).1 x bH)
    simp only[h,decide_true];exact dG l h ah
   .subst h;simp only[wL,decide_false];exact d_
   .have ah:d.lt j l=true:=by
     cases ah:d.lt j l with
     |true=>rfl
     |false=>exact absurd hx ((hl.touch j l v u hv bU (hd.free l aR j h ah).1).2 x bH)
    have:¬ l<j:=by omega
    simp only[this,decide_false];exact eX l aR h ah
 obtain⟨b,f1,f2,f3,uf,f4⟩:=hF v hv;have hw:Ja (EL lv env tr A lv.length) v.guard=some b:=by rw[Rh (λx b' hg=>fJ x (TZ hg))];exact f1
 have j_:∀ x∈v.op.opds,Q3 (EL lv env tr A lv.length) x=Q3 (EL lv env tr (λ_=>true) j) x:=λx hx=>T_ λt ht=>fJ t (Ai (ht▸hx));obtain⟨dF,bH,bJ⟩:=Dk hc hL hw;have dt:EL lv env tr A' lv.length=Xe (EL lv env tr A lv.length) v.dst (tr j):=by
  apply zV;intro x;by_cases hx:v.dst=some x
  .have h1:(EL lv env tr A' lv.length)[x]?=(EL lv env tr (λl=>decide (l<j+1)) lv.length)[x]?:=by
    refine Gw lv env tr x lv.length λl aR bu=>?_;rw[a7];by_cases ia:l=j
    .subst ia;simp
    .rw[z8 ia];cases bU:lv[l]? with
     |none=>rw[bU] at bu;cases bu
     |some u =>
      rw[bU] at bu;have ka:=As hx;rcases zl l j with h|h
      .have ah:d.lt l j=true:=by
        cases ah:d.lt l j with
        |true=>rfl
        |false=>exact absurd ka ((hl.touch l j u v bU hv (hd.free j aP l h ah).1).1 x bu)
       have:l<j+1:=by omega
       simp only[this,decide_true];exact dG l h ah
      .have h':j<l:=by omega
       have ah:d.lt j l=true:=by
        cases ah:d.lt j l with
        |true=>rfl
        |false=>exact absurd ka ((hl.touch j l v u hv bU (hd.free l aR j h' ah).1).2 x bu)
       have:¬ l<j+1:=by omega
       simp only[this,decide_false];exact eX l aR h' ah
   rw[h1,B6 lv env tr (j+1) lv.length (by omega)];simp only[EL,zB,hv,xw,hx,Xe];rw[xH,xH];simp only[zB,Kn]
  .rw[Kz _ _ _ hx];refine Gw lv env tr x lv.length λl aR bu=>?_;rw[a7];split
   .rename_i h;subst h;rw[hv] at bu;exact absurd bu hx
   .rfl
 have cE:∀ i,i<lv.length->A' i=true->∀ e∈d.ed.getD i [],A' e=true:=by
  intro i hi hA e he;rw[a7] at hA |-;split
  .rfl
  .by_cases cj:i=j
   .subst cj;exact ec e he
   .rw[z8 cj] at hA;exact bP i hi hA e he
 have lf:d.k j=2->d.rank j=m:=by
  intro av;have h1:¬ d.rank j<m:=λh=>by rw[(hm j aP av).2 h] at d_;cases d_
  by_cases h2:d.rank j=m
  .exact h2
  .obtain⟨l,ia,bn,dE⟩:=UQ d j m (by omega);have ah:d.lt l j=true:=by
    cases ah:d.lt l j with
    |true=>rfl
    |false=>exact absurd ⟨bn,av⟩ (hd.free j aP l ia ah).2
   have:=(hm l (by omega) bn).1 (dG l ia ah);omega
 have iQ:d.k j=2->∀ l,l<lv.length->d.k l=2->(A' l=true<->d.rank l<m+1):=by
  intro av l aR bn;rw[a7];have fA:=lf av;split
  .rename_i h;subst h;simp;omega
  .rename_i h;rw[hm l aR bn];have:d.rank l≠m:=by
    rcases zl l j with h'|h'
    .have:=GK d h' bn;omega
    .have:=GK d (show j<l by omega) av;omega
   omega
 have nW:d.k j≠2->∀ l,l<lv.length->d.k l=2->(A' l=true<->d.rank l<m):=by intro av l aR bn;rw[a7,z8 (by rintro rfl;exact av bn)];exact hm l aR bn
 have ke:d.k j=2->m+1<=d.rank lv.length:=λav=>by have:=GK d aP av;have:=lf av;omega
 unfold wpOpIn;simp only[ho];cases b with
 |false =>
  rw[dF,z8 (by simp)];obtain⟨g1,g2⟩:=f4 rfl;refine⟨λf _=>EP _ _,hK _ _ ⟨cE,?_⟩⟩;by_cases av:d.k j=2
  .have fA:=lf av;have hh:hp (m+1)=hp m:=by rw[<-fA];exact g2 (hk▸av)
   refine⟨m+1,ρ,iQ av,ke av,by rw[hh];exact hH,?_,by rw[Xd];exact dJ,by rw[hh];exact hE⟩;rw[hh,dt,g1,bH];exact YR hL JB o.dst
  .refine⟨m,ρ,nW av,j9,hH,?_,by rw[Xd];exact dJ,hE⟩;rw[dt,g1,bH];exact YR hL JB o.dst
 |true =>
  rw[dF,z7 rfl];by_cases av:d.k j=2
  .have fA:=lf av;have g1:=f2 rfl (hk▸av);rw[fA] at g1;rw[<-LC j_] at g1;refine VV hS bJ hH hL g1 λc w' ⟨u,ρ',M',⟨hu,hσ⟩,eL,gT,b7⟩=>hK _ _ ⟨cE,?_⟩;subst hu;subst hσ;refine⟨m+1,ρ',iQ av,ke av,gT,?_,by rw[Xd];exact dJ.ext hH b7,hE.trans b7⟩;rw[dt,bH];exact YR (b7.lrel hL) eL o.dst
  .have g2:∃ σ1,Q7 v.op (Q3 (EL lv env tr A lv.length)) (hp m)=some (tr j,σ1):=by
    rw[Bg j_];by_cases bt:d.k j=1
    .obtain⟨⟨k1,k4⟩,k3,k2⟩:=hd.kmin j aP bt;refine f3 rfl (hk▸bt) m ?_ ?_ (ld m hm j9)
     .rcases zl m (d.kmin j) with h|h
      .obtain⟨l,aR,bn,dE⟩:=UQ d j m (by omega);have ah:=(k2 l (by omega) bn).1.2 (by omega);have:=(hm l (by omega) bn).1 (dG l aR ah);omega
      .exact h
     .rcases zl (d.kmax j) m with h|h
      .obtain⟨l,aR,bn,dE⟩:=UQ d lv.length (d.kmax j) (by omega);have ah:=(k2 l aR bn).2.2 (by omega);have lg:=(hm l aR bn).2 (by omega);rcases Nat.lt_trichotomy j l with h'|h'|h'
       .rw[eX l aR h' ah] at lg;cases lg
       .subst h';omega
       .exfalso;have f_:d.rank l<d.rank j:=GK d h' bn;omega
      .exact h
    .have jv:v.op.kind=0:=by
      have h2:v.op.kind<=2:=Q68 v.op;omega
     obtain⟨σ1,g1⟩:=uf rfl (by omega) (by omega);exact⟨hp m,PE jv g1⟩
   obtain⟨σ1,g2⟩:=g2;have hq:=Dv (hk▸av) g2;subst hq;refine VV hS (K:=λv' M'=>v'=tr j/\M'=hp m) bJ hH hL (Q5d (hk▸av) g2 ⟨rfl,rfl⟩) λc w' ⟨u,ρ',M',⟨hu,hσ⟩,eL,gT,b7⟩=>hK _ _ ⟨cE,?_⟩;subst hu;subst hσ;refine⟨m,ρ',nW av,j9,gT,?_,by rw[Xd];exact dJ.ext hH b7,hE.trans b7⟩;rw[dt,bH];exact YR (b7.lrel hL) eL o.dst
theorem Ci (hS:OkSpecs P S) {ro:Option Nat}{n:Nat}{ops:Array Oper}{pm:List Nat}{d:DInfo}{lv:List VOper}(hl:DLink P ops pm d lv) (hd:DOk d lv.length) {env:Env}{tr:Nat->Value}{hp:Nat->Heap}
  {j:Nat}{v:VOper}(hv:lv[j]?=some v) (qG:v.op.kind=2) (ug:Ja (EL lv env tr (λ_=>true) j) v.guard=some true) {R:Value->Heap->Prop}(gF:vop S v.op (EL lv env tr (λ_=>true) j) (hp (d.rank j)) R)
  {Q:Exit->Act->World->Prop}{ρ0:Plc}{σ0:Heap}{w0:World}{A:Nat->Bool}{a:Act}{w:World}(hI:DInv B d lv env tr hp ρ0 σ0 w0 A a w) (nX:∀ l,j<=l->l<lv.length->A l=false)
  (aP:j<lv.length) (d_:A j=false) (ec:∀ e∈d.ed.getD j [],A e=true) {A':Nat->Bool}(a7:∀ i,A' i=if i=j then true else A i) {K:Act->World->Prop}
  (hK:∀ u M' a' w',R u M'->(∀ tr' bw,(∀ l,l<j->tr' l=tr l)->tr' j=u->(∀ r,r<=d.rank j->bw r=hp r)->bw (d.rank j+1)=M'->DInv B d lv env tr' bw ρ0 σ0 w0 A' a' w')->K a' w'):wpOpIn (FF ro) n P ops Q (pm.getD j 0) K a w:=by
 obtain⟨o,ho,hc,hk⟩:=hl.comp j v hv;obtain⟨bP,m,ρ,hm,j9,hH,hL,dJ,hE⟩:=hI;have dG:∀ i,i<j->d.lt i j=true->A i=true:=by
  intro i hi ah;obtain⟨e,he,h⟩:=hd.path j aP i hi ah;have nV:=hd.edge j aP e he;have gV:A e=true:=ec e he;rcases h with rfl|⟨h1,h2⟩
  .exact gV
  .exact NW hd bP e (by omega) gV i h1 h2
 have eX:∀ i,i<lv.length->j<i->d.lt j i=true->A i=false:=by
  intro i hi aM ah;cases hA:A i with
  |false=>rfl
  |true=>rw[NW hd bP i hi hA j aM ah] at d_;cases d_
 have fJ:∀ x,x∈Vj v->(EL lv env tr A lv.length)[x]?=(EL lv env tr (λ_=>true) j)[x]?:=by
  intro x hx;rw[<-B6 lv env tr j lv.length (by omega)];refine Gw lv env tr x lv.length λl aR bH=>?_;cases bU:lv[l]? with
  |none=>rw[bU] at bH;cases bH
  |some u =>
   rw[bU] at bH;rcases Nat.lt_trichotomy l j with h|h|h
   .have ah:d.lt l j=true:=by
     cases ah:d.lt l j with
     |true=>rfl
     |false=>exact absurd hx ((hl.touch l j u v bU hv (hd.free j aP l h ah).1).1 x bH)
    simp only[h,decide_true];exact dG l h ah
   .subst h;simp only[wL,decide_false];exact d_
   .have ah:d.lt j l=true:=by
     cases ah:d.lt j l with
     |true=>rfl
     |false=>exact absurd hx ((hl.touch j l v u hv bU (hd.free l aR j h ah).1).2 x bH)
    have:¬ l<j:=by omega
    simp only[this,decide_false];exact eX l aR h ah
 have hw:Ja (EL lv env tr A lv.length) v.guard=some true:=by rw[Rh (λx b' hg=>fJ x (TZ hg))];exact ug
 have j_:∀ x∈v.op.opds,Q3 (EL lv env tr A lv.length) x=Q3 (EL lv env tr (λ_=>true) j) x:=λx hx=>T_ λt ht=>fJ t (Ai (ht▸hx));obtain⟨dF,bH,bJ⟩:=Dk hc hL hw;have dt:∀ tr:Nat->Value,EL lv env tr A' lv.length=Xe (EL lv env tr A lv.length) v.dst (tr j):=λtr=>by
  apply zV;intro x;by_cases hx:v.dst=some x
  .have h1:(EL lv env tr A' lv.length)[x]?=(EL lv env tr (λl=>decide (l<j+1)) lv.length)[x]?:=by
    refine Gw lv env tr x lv.length λl aR bu=>?_;rw[a7];by_cases ia:l=j
    .subst ia;simp
    .rw[z8 ia];cases bU:lv[l]? with
     |none=>rw[bU] at bu;cases bu
     |some u =>
      rw[bU] at bu;have ka:=As hx;rcases zl l j with h|h
      .have ah:d.lt l j=true:=by
        cases ah:d.lt l j with
        |true=>rfl
        |false=>exact absurd ka ((hl.touch l j u v bU hv (hd.free j aP l h ah).1).1 x bu)
       have:l<j+1:=by omega
       simp only[this,decide_true];exact dG l h ah
      .have h':j<l:=by omega
       have ah:d.lt j l=true:=by
        cases ah:d.lt j l with
        |true=>rfl
        |false=>exact absurd ka ((hl.touch j l v u hv bU (hd.free l aR j h' ah).1).2 x bu)
       have:¬ l<j+1:=by omega
       simp only[this,decide_false];exact eX l aR h' ah
   rw[h1,B6 lv env tr (j+1) lv.length (by omega)];simp only[EL,zB,hv,xw,hx,Xe];rw[xH,xH];simp only[zB,Kn]
  .rw[Kz _ _ _ hx];refine Gw lv env tr x lv.length λl aR bu=>?_;rw[a7];split
   .rename_i h;subst h;rw[hv] at bu;exact absurd bu hx
   .rfl
 have cE:∀ i,i<lv.length->A' i=true->∀ e∈d.ed.getD i [],A' e=true:=by
  intro i hi hA e he;rw[a7] at hA |-;split
  .rfl
  .by_cases cj:i=j
   .subst cj;exact ec e he
   .rw[z8 cj] at hA;exact bP i hi hA e he
 have lf:d.k j=2->d.rank j=m:=by
  intro av;have h1:¬ d.rank j<m:=λh=>by rw[(hm j aP av).2 h] at d_;cases d_
  by_cases h2:d.rank j=m
  .exact h2
  .obtain⟨l,ia,bn,dE⟩:=UQ d j m (by omega);have ah:d.lt l j=true:=by
    cases ah:d.lt l j with
    |true=>rfl
    |false=>exact absurd ⟨bn,av⟩ (hd.free j aP l ia ah).2
   have:=(hm l (by omega) bn).1 (dG l ia ah);omega
 have iQ:d.k j=2->∀ l,l<lv.length->d.k l=2->(A' l=true<->d.rank l<m+1):=by
  intro av l aR bn;rw[a7];have fA:=lf av;split
  .rename_i h;subst h;simp;omega
  .rename_i h;rw[hm l aR bn];have:d.rank l≠m:=by
    rcases zl l j with h'|h'
    .have:=GK d h' bn;omega
    .have:=GK d (show j<l by omega) av;omega
   omega
 have nW:d.k j≠2->∀ l,l<lv.length->d.k l=2->(A' l=true<->d.rank l<m):=by intro av l aR bn;rw[a7,z8 (by rintro rfl;exact av bn)];exact hm l aR bn
 have ke:d.k j=2->m+1<=d.rank lv.length:=λav=>by have:=GK d aP av;have:=lf av;omega
 unfold wpOpIn;simp only[ho];rw[dF,z7 rfl];have av:d.k j=2:=hk.trans qG;have fA:=lf av;rw[fA,<-LC j_] at gF;refine VV hS bJ hH hL gF λc w' ⟨u,ρ',M',hR,eL,gT,b7⟩=>hK u M' _ _ hR λtr' bw t1 t2 t3 t4=>⟨cE,m+1,ρ',iQ av,ke av,?_,?_,?_,?_⟩
 .rw[<-fA,t4];exact gT
 .have e0:EL lv env tr' A lv.length=EL lv env tr A lv.length:=Z0v lv env lv.length λl aR hA=>t1 l (by
   rcases zl l j with h|h
   .exact h
   .rw[nX l h aR] at hA;cases hA)
  rw[<-fA,t4,dt tr',e0,bH,t2];exact YR (b7.lrel hL) eL o.dst
 .rw[Xd];exact dJ.ext hH b7
 .rw[<-fA,t4];exact hE.trans b7
theorem Z60 {ops:Array Oper}{pm:List Nat}{d:DInfo}{lv:List VOper}(_hl:DLink P ops pm d lv) {env:Env}{tr:Nat->Value}{hp:Nat->Heap}{ρ0:Plc}{σ0:Heap}{w0:World}{A:Nat->Bool}{a:Act}{w:World}
  (hI:DInv B d lv env tr hp ρ0 σ0 w0 A a w) (ae:∀ j,j<lv.length->A j=true):Ho B (List.length env) ρ0 σ0 w0 (λaf M'=>af=EL lv env tr (λ_=>true) lv.length/\M'=hp (d.rank lv.length)) a w:=by
 obtain⟨bP,m,ρ,hm,j9,hH,hL,dJ,hE⟩:=hI;have fL:m=d.rank lv.length:=by
  rcases zl m (d.rank lv.length) with h|h
  .obtain⟨l,h1,h2,h3⟩:=UQ d _ _ h;have:=(hm l h1 h2).1 (ae l h1);omega
  .omega
 subst fL;have e:=V9 lv env (tr:=tr) (tr':=tr) (A:=A) (B:=λ_=>true) lv.length (λ_ _=>rfl) (λl hl=>ae l hl);exact⟨_,ρ,_,⟨rfl,rfl⟩,Kn _ _ _ _ _,hH,by rw[<-e];exact hL,dJ,hE⟩
def Oj (pm:List Nat) (d:DInfo) (n:Nat):(Nat->Bool)->List Nat->Prop
 |A,[]=>∀ p,p<n->A p=true
 |A,j::rest=>∃ p,p<n/\pm.getD p 0=j/\A p=false/\(∀ e∈d.ed.getD p [],A e=true)/\Oj pm d n (λq=>if q=p then true else A q) rest
theorem F8 (hS:OkSpecs P S) {ro:Option Nat}{n:Nat}{ops:Array Oper}{pm:List Nat}{d:DInfo}{lv:List VOper}(hl:DLink P ops pm d lv) (hd:DOk d lv.length) {env:Env}{K:Env->Heap->Prop}
  {Q:Exit->Act->World->Prop}{ρ0:Plc}{σ0:Heap}{w0:World}{l2:List Nat}(hQ:∀ a w,Ho B (List.length env) ρ0 σ0 w0 K a w->wpOpsIn (FF ro) n P ops Q l2 a w) {nd:List Nat}{i:Nat}{tr:Nat->Value}{hp:Nat->Heap}(uh:Know S d lv env K nd i tr hp) :
  ∀ (l:List Nat) (A:Nat->Bool) (a:Act) (w:World),Oj pm d lv.length A l->DInv B d lv env tr hp ρ0 σ0 w0 A a w->(∀ j,i<=j->j<lv.length->A j=false)->(∀ j,j∈nd->j<lv.length->A j=true)->wpOpsIn (FF ro) n P ops Q (l++l2) a w:=by
 induction uh with
 |full hF hK =>
  intro l;induction l with
  |nil =>intro A a w hs hI _ _;obtain⟨af,ρ',M',⟨e1,e2⟩,n1⟩:=Z60 hl hI hs;exact hQ a w ⟨af,ρ',M',by rw[e1,e2];exact hK,n1⟩
  |cons j rest ih =>
   intro A a w hs hI hA hN;obtain⟨p,bw,rfl,lh,he,aY⟩:=hs;rw[xB,wpOpsIn_cons];refine HJ hS hl hd (hF p bw λh=>?_) (λm _ h=>h) hI bw lh he (λ_=>rfl) λa' w' nY=>ih _ a' w' aY nY (λj h1 h2=>by omega) (λj hj dA=>?_)
   .rw[hN p h bw] at lh;cases lh
   .split
    .rfl
    .exact hN j hj dA
 |part hv hk hw hF kZ R gF I T H hT next pF =>
  rename_i nd i tr hp v;have aO:i<lv.length:=by
   rcases zl i lv.length with h|h
   .exact h
   .rw[zk h] at hv;cases hv
  intro l;induction l with
  |nil =>intro A a w hs hI hA _;have:=hs i aO;rw[hA i (ze _) aO] at this;cases this
  |cons j rest ih =>
   intro A a w hs hI hA hN;obtain⟨p,bw,rfl,lh,he,aY⟩:=hs;rw[xB,wpOpsIn_cons];have kJ:d.k i=2:=by obtain⟨_,_,_,h⟩:=hl.comp i v hv;exact h.trans hk
   rcases Nat.lt_trichotomy p i with jB|rfl|jB
   .refine HJ hS hl hd (hF p jB λh=>?_) (λm hm _=>?_) hI bw lh he (λ_=>rfl) λa' w' nY=>ih _ a' w' aY nY (λj h1 h2=>?_) (λj hj dA=>?_)
    .rw[hN p h bw] at lh;cases lh
    .have h1:¬ d.rank i<m:=λh=>by
      have:=(hm i aO kJ).2 h;rw[hA i (ze _) aO] at this;cases this
     omega
    .rw[z8 (by omega)];exact hA j h1 h2
    .split
     .rfl
     .exact hN j hj dA
   .refine Ci hS hl hd hv hk hw gF hI hA bw lh he (λ_=>rfl) λu M' a' w' hR nY=>?_;obtain⟨q1,q2,q3,q4,q5⟩:=hT u M' hR;refine pF u M' hR _ _ a' w' aY (nY _ _ q2 q3 q4 q5) (λj h1 h2=>?_) (λj hj dA=>?_)
    .rw[z8 (by omega)];exact hA j (by omega) h2
    .split
     .rfl
     .rename_i az;rcases zn.1 hj with h|h
      .exact absurd h az
      .exact hN j h dA
   .exfalso;obtain⟨e,u,h1,h2,hu,hn⟩:=kZ p jB bw;have k_:=z1 bw;have ah:d.lt e p=true:=by
     cases h:d.lt e p with
     |true=>rfl
     |false =>
      rcases hn with⟨x,hx,hn⟩|⟨fG,dQ⟩
      .exact absurd (hn _ k_) ((hl.touch e p u _ hu k_ (hd.free p bw e h2 h).1).1 x hx)
      .obtain⟨_,_,_,q1⟩:=hl.comp e u hu;obtain⟨_,_,_,q2⟩:=hl.comp p _ k_;exact absurd ⟨q1.trans fG,q2.trans (dQ _ k_)⟩ (hd.free p bw e h2 h).2
    have gV:A e=true:=by
     obtain⟨e',sq,h3⟩:=hd.path p bw e h2 ah;have nZ:=he e' sq;rcases h3 with rfl|⟨h3,h4⟩
     .exact nZ
     .exact NW hd hI.closed e' (by have:=hd.edge p bw e' sq;omega) nZ e h3 h4
    rw[hA e h1 (by omega)] at gV;cases gV
def V2 (ops:Array Oper):Array Bool->List Nat->Prop
 |L,[]=>∀ j,j<ops.size->L.getD j false=true
 |L,j::rest=>j∈Region.ready .any ops L/\V2 ops (L.setIfInBounds j true) rest
theorem V1 (L:Array Bool) (j i:Nat) (hj:j<L.size):(L.setIfInBounds j true).getD i false=if i=j then true else L.getD i false:=by
 by_cases h:i=j
 .subst h;simp[hj]
 .simp[h,Array.getElem?_setIfInBounds_ne (Ne.symm h)]
theorem FH {ops:Array Oper}(iR:∀ (j:Nat) (o:Oper),ops[j]?=some o->∀ e∈Ha o,e<j) {L:Array Bool}(hs:L.size=ops.size) (h:Region.ready .any ops L=[]):∀ j,j<ops.size->L.getD j false=true:=by
 intro j;induction j using Nat.strongRecOn with
 |ind j ih =>
  intro hj;cases hA:L.getD j false with
  |true=>rfl
  |false =>
   exfalso;have:j∈Region.ready .any ops L:=by
    refine mem_ready.2 ⟨?_,ops[j],xg hj,λe he hb=>?_⟩
    .have h1:L.getD j true=L[j]:=by simp[hs,hj]
     have h2:L.getD j false=L[j]:=by simp[hs,hj]
     rw[h1,<-h2];exact hA
    .have:=iR j ops[j] (xg hj) e.on (zE.2 ⟨e,zX.2 ⟨by simpa using he,hb⟩,rfl⟩);exact ih _ this (by omega)
   rw[h] at this;cases this
theorem Hw {ops:Array Oper}{L:Array Bool}(hs:L.size=ops.size) {j:Nat}(h:j∈Region.ready .any ops L):j<ops.size/\L.getD j false=false/\∃ o,ops[j]?=some o/\∀ e∈Ha o,L.getD e false=true:=by obtain⟨h1,o,ho,h2⟩:=mem_ready.1 h;have aP:j<ops.size:=(x9.1 ho).1;refine⟨aP,by simp[hs,aP] at h1 |-;exact h1,o,ho,λe he=>?_⟩;obtain⟨x,hx,rfl⟩:=zE.1 he;obtain⟨ui,uj⟩:=zX.1 hx;exact h2 x (by simpa using ui) uj
theorem Q4k {ops:Array Oper}(iR:∀ (j:Nat) (o:Oper),ops[j]?=some o->∀ e∈Ha o,e<j):∀ (fuel t:Nat) (L:Array Bool),L.size=ops.size->cnt (λi=>L.getD i false) ops.size<=fuel ->
  V2 ops L (Region.linearise.go .any ops fuel t L []):=by
 intro fuel;induction fuel with
 |zero =>intro t L hs hc;simp only[Region.linearise.go,List.reverse_nil,V2];exact CY (by omega)
 |succ fuel ih =>
  intro t L hs hc;simp only[Region.linearise.go]
  change V2 ops L (match (Region.ready .any ops L)[t % (Region.ready .any ops L).length]? with
   |some i=>Region.linearise.go .any ops fuel (t / (Region.ready .any ops L).length) (L.setIfInBounds i true) [i]
   |none=>[].reverse)
  cases hi:(Region.ready .any ops L)[t % (Region.ready .any ops L).length]? with
  |none =>
   have iS:Region.ready .any ops L=[]:=by
    cases hr:Region.ready .any ops L with
    |nil=>rfl
    |cons x xs =>rw[hr] at hi;have ah:t % (x::xs).length<(x::xs).length:=wE _ (by simp);simp at hi;simp at ah;omega
   simp only[List.reverse_nil,V2];exact FH iR hs iS
  |some i =>
   simp only[];rw[linearise_go_acc,List.reverse_singleton,List.singleton_append];have lj:=zF hi;obtain⟨aO,n6,_⟩:=Hw hs lj;refine⟨lj,ih _ _ (by simp[hs]) ?_⟩;have iT:i<L.size:=by rw[hs];exact aO
   have:=IS (A:=λi=>L.getD i false) (B:=λk=>(L.setIfInBounds i true).getD k false) (j:=i) n6 (by simp only[V1 L i i iT,zB]) (λk hk=>by simp only[V1 L i k iT,z8 hk]) ops.size aO;omega
theorem CP {ops:Array Oper}:∀ (l:List Nat) (L:Array Bool),L.size=ops.size->V2 ops L l->l.Nodup/\∀ j,j∈l<->(j<ops.size/\L.getD j false=false):=by
 intro l;induction l with
 |nil=>intro L hs h;exact⟨List.nodup_nil,λj=>⟨λh=>(by cases h),λ⟨h1,h2⟩=>by rw[h j h1] at h2;cases h2⟩⟩
 |cons i l ih =>
  intro L hs h;obtain⟨lj,h'⟩:=h;obtain⟨aO,n6,_⟩:=Hw hs lj;have iT:i<L.size:=by rw[hs];exact aO
  obtain⟨k1,k2⟩:=ih _ (by simp[hs]) h';refine⟨xt.2 ⟨λhm=>?_,k1⟩,λj=>?_⟩
  .have:=((k2 i).1 hm).2;rw[V1 L i i iT,z7 rfl] at this;cases this
  .rw[zn,k2 j,V1 L i j iT];by_cases aM:j=i
   .subst aM;simp[aO,n6]
   .simp[aM]
structure DBase (ops:Array Oper) (d:DInfo):Prop where
 ed:∀ (j:Nat) (o:Oper),ops[j]?=some o->d.ed.getD j []=Ha o
 edge:∀ j,j<ops.size->∀ e∈d.ed.getD j [],e<j
 path:∀ j,j<ops.size->∀ i,i<j->d.lt i j=true->∃ e∈d.ed.getD j [],e=i\/(i<e/\d.lt i e=true)
 up:∀ i j,d.lt i j=true->i<j
 size:d.ks.length=ops.size
theorem C7 {ops:Array Oper}{d:DInfo}(hb:DBase ops d) {A:Nat->Bool}(hc:∀ j,j<ops.size->A j=true->∀ e∈d.ed.getD j [],A e=true):∀ j,j<ops.size->A j=true->∀ i,i<j->d.lt i j=true->A i=true:=by
 intro j;induction j using Nat.strongRecOn with
 |ind j ih =>
  intro hj hA i hi ah;obtain⟨e,he,h⟩:=hb.path j hj i hi ah;have nV:=hb.edge j hj e he;have gV:=hc j hj hA e he;rcases h with rfl|⟨h1,h2⟩
  .exact gV
  .exact ih e nV (by omega) gV i h1 h2
theorem Q9u {ops:Array Oper}{d:DInfo}(hb:DBase ops d):∀ (l:List Nat) (L:Array Bool),L.size=ops.size->(∀ j,j<ops.size->L.getD j false=true->∀ e∈d.ed.getD j [],L.getD e false=true)->V2 ops L l ->
  l.Pairwise λj i=>d.lt i j=false:=by
 intro l;induction l with
 |nil=>intro L _ _ _;exact List.Pairwise.nil
 |cons j l ih =>
  intro L hs hc h;obtain⟨lj,h'⟩:=h;obtain⟨aO,n6,o,ho,iR⟩:=Hw hs lj;have iT:j<L.size:=by rw[hs];exact aO
  have cI:∀ k,k<ops.size->(L.setIfInBounds j true).getD k false=true->∀ e∈d.ed.getD k [],(L.setIfInBounds j true).getD e false=true:=by
   intro k hk hA e he;rw[V1 L j e iT];split
   .rfl
   .rw[V1 L j k iT] at hA;split at hA
    .rename_i uk;subst uk;rw[hb.ed _ o ho] at he;exact iR e he
    .exact hc k hk hA e he
  obtain⟨k1,k2⟩:=CP l _ (by simp[hs]) h';refine List.Pairwise.cons (λi hi=>?_) (ih _ (by simp[hs]) cI h');cases ah:d.lt i j with
  |false=>rfl
  |true =>
   exfalso;have cj:=hb.up i j ah;have hA:(L.setIfInBounds j true).getD j false=true:=by rw[V1 L j j iT,z7 rfl]
   have:=C7 hb cI j aO hA i cj ah;rw[((k2 i).1 hi).2] at this;cases this
theorem Sa (lt:Nat->Nat->Bool):∀ (s l:List Nat) (n:Nat),s.Perm l->l.length<=n->s.Pairwise (λj i=>lt i j=false)->s∈exts lt n l:=by
 intro s;induction s with
 |nil =>intro l n hp hn _;have:l=[]:=hp.symm.eq_nil;subst this;cases n<;>simp[exts]
 |cons k s ih =>
  intro l n hp hn hs;have hk:k∈l:=hp.mem_iff.1 (by simp);cases l with
  |nil=>cases hk
  |cons x xs =>
   cases n with
   |zero=>simp at hn
   |succ n =>
    simp only[exts];refine List.mem_flatMap.2 ⟨k,hk,?_⟩;obtain⟨h1,h2⟩:=wN.1 hs;have ae:((x::xs).all λi=>i==k||!lt i k)=true:=by
     refine zf.2 λi hi=>?_;have:i∈k::s:=hp.mem_iff.2 hi;rcases zn.1 this with rfl|h
     .simp
     .simp[h1 i h]
    rw[z7 ae];refine zE.2 ⟨s,ih _ n ?_ ?_ h2,rfl⟩
    .exact(List.cons_perm_iff_perm_erase.1 hp).2
    .rw[List.length_erase_of_mem hk];simp at hn |-;omega
theorem OZ {j:Nat}:∀ (a a' b b':List Nat),j∉a->j∉a'->a++j::b=a'++j::b'->a=a':=by
 intro a;induction a with
 |nil =>
  intro a' b b' _ h' h;cases a' with
  |nil=>rfl
  |cons x a'=>simp at h;exact absurd h.1 (by rintro rfl;exact h' (by simp))
 |cons x a ih =>
  intro a' b b' h1 h2 h;cases a' with
  |nil=>simp at h;exact absurd h.1 (by rintro rfl;exact h1 (by simp))
  |cons y a' =>simp at h;obtain⟨rfl,h⟩:=h;rw[ih a' b b' (λhm=>h1 (by simp[hm])) (λhm=>h2 (by simp[hm])) h]
theorem Al {ops:Array Oper}{d:DInfo}(hb:DBase ops d):∀ (l:List Nat) (L:Array Bool),L.size=ops.size->V2 ops L l->∀ pre j post,l=pre++j::post->∀ e∈d.ed.getD j [],L.getD e false=true\/e∈pre:=by
 intro l;induction l with
 |nil=>intro L _ _ pre j post h;simp at h
 |cons i l ih =>
  intro L hs h pre j post he e gI;obtain⟨lj,h'⟩:=h;obtain⟨aO,n6,o,ho,iR⟩:=Hw hs lj;have iT:i<L.size:=by rw[hs];exact aO
  cases pre with
  |nil =>simp at he;obtain⟨rfl,_⟩:=he;rw[hb.ed _ o ho] at gI;exact .inl (iR e gI)
  |cons x pre =>
   simp at he;obtain⟨rfl,he⟩:=he;rcases ih _ (by simp[hs]) h' pre j post he e gI with h1|h1
   .rw[V1 L i e iT] at h1;split at h1
    .rename_i cH;subst cH;exact .inr (by simp)
    .exact .inl h1
   .exact .inr (by simp[h1])
theorem Lz {d0 d:DInfo}{pm l:List Nat}(N:Nat) (hN:∀ i∈l,i<N) (jA:pm.Nodup) (gH:l.Nodup) (aN:∀ i,i∈pm<->i∈l) (bY:∀ pre j post,l=pre++j::post->∀ e∈d0.ed.getD j [],e∈l->e∈pre)
  (iR:∀ p,p<pm.length->d.ed.getD p []=Q6g d0 pm p) (hf:pm.filter (λi=>d0.k i==2)=l.filter (λi=>d0.k i==2)) :
  ∀ (post pre:List Nat),l=pre++post->Oj pm d pm.length (λq=>pre.contains (pm.getD q N)) post:=by
 intro post;induction post with
 |nil =>
  intro pre hl p hp;have hm:pm.getD p N∈pm:=by simp[zd,hp]
  have:=(aN _).1 hm;rw[hl,xJ] at this;simpa using this
 |cons j post ih =>
  intro pre hl;have bV:j∈l:=by rw[hl];simp
  have fA:=(aN j).2 bV;have hp:pm.idxOf j<pm.length:=List.idxOf_lt_length_of_mem fA;have su:pm[pm.idxOf j]'hp=j:=List.getElem_idxOf hp;have hg:∀ z,pm.getD (pm.idxOf j) z=j:=λz=>by simp[zd,hp]
  have lk:j∉pre:=λhm=>by rw[hl] at gH;exact(List.nodup_append.1 gH).2.2 j hm j (by simp) rfl
  refine⟨pm.idxOf j,hp,hg 0,by simp only[hg];simpa using lk,λe he=>?_,?_⟩
  .rw[iR _ hp] at he;rcases zQ.1 he with he|he
   .obtain⟨e0,lY,rfl⟩:=zE.1 he;rw[hg] at lY;obtain⟨iv,gS⟩:=zX.1 lY;have gS:e0∈pm:=by simpa using gS
    have um:pm.idxOf e0<pm.length:=List.idxOf_lt_length_of_mem gS;have:pm.getD (pm.idxOf e0) N=e0:=by simp[zd,um]
    simp only[this];have:=bY pre j post hl e0 iv ((aN e0).1 gS);simpa using this
   .split at he
    .rename_i av;rw[hg] at av;obtain⟨hq,hk⟩:=zX.1 (List.mem_of_getLast? (Option.mem_toList.1 he));have cO:e<pm.idxOf j:=zD.1 hq;have hel:e<pm.length:=by omega
     have heq:pm.getD e N=pm[e]'hel:=by simp[zd,hel]
     have qH:pm.getD e 0=pm[e]'hel:=by simp[zd,hel]
     rw[qH] at hk;simp only[heq];have du:pm=pm.take (pm.idxOf j)++j::pm.drop (pm.idxOf j+1):=by conv=>lhs;rw[<-xT (pm.idxOf j) pm,wH hp,su]
     have n7:j∉pm.take (pm.idxOf j):=by intro hm;have hn:=jA;rw[du] at hn;exact(List.nodup_append.1 hn).2.2 j hm j (by simp) rfl
     have uo:(pm.take (pm.idxOf j)).filter (λi=>d0.k i==2)++j::(pm.drop (pm.idxOf j+1)).filter (λi=>d0.k i==2)=pre.filter (λi=>d0.k i==2)++j::post.filter (λi=>d0.k i==2):=by have h1:=hf;rw[du,hl] at h1;simp only[List.filter_append,wR,av,zB] at h1;exact h1
     have:=OZ _ _ _ _ (λhm=>n7 (zX.1 hm).1) (λhm=>lk (zX.1 hm).1) uo;have aO:pm[e]∈(pm.take (pm.idxOf j)).filter (λi=>d0.k i==2):=zX.2 ⟨List.mem_take_iff_getElem.2 ⟨e,by omega,rfl⟩,hk⟩;rw[this] at aO;have:=(zX.1 aO).1;simpa using this
    .cases he
  .have qI:(λq=>if q=pm.idxOf j then true else pre.contains (pm.getD q N))=λq=>(pre++[j]).contains (pm.getD q N):=by
    funext q
    by_cases hq:q=pm.idxOf j
    .subst hq;simp only[zB,hg];simp
    .rw[z8 hq];have az:pm.getD q N≠j:=by
      intro he;rcases zl q pm.length with m9|m9
      .have h1:pm[q]=j:=by simpa [zd,m9] using he
       exact hq ((List.getElem_inj (h₀:=m9) (h₁:=hp) jA).1 (h1.trans su.symm))
      .simp[zd,zk m9] at he;have:=hN j bV;omega
     rw[Bool.eq_iff_iff];simp only[List.contains_iff_mem,zQ,zo,az,or_false]
   rw[qI];exact ih (pre++[j]) (by rw[hl];simp)
theorem F_ {ops:Array Oper}{vs:List VOper}(h:ops.toList.mapM (Jc P ops)=some vs) (ai:(Kp ops.toList vs).okB=true):DBase ops (Kp ops.toList vs):=by
 have hlen:vs.length=ops.size:=by have:=(Wb _ _ _ h).1;simpa using this
 have jy:(Kp ops.toList vs).ks.length=ops.size:=by simp[Kp,hlen]
 have dg:=ai;unfold DInfo.okB at dg;rw[z6,zm] at dg;obtain⟨uq,lT⟩:=dg;have h0:∀ j,j<ops.size->(Kp ops.toList vs).okE j=true/\(Kp ops.toList vs).an.getD j 0<2 ^ j/\((List.range j).all λi=>!((Kp ops.toList vs).lt i j)||((Kp ops.toList vs).ed.getD j []).any (λe=>e==i||decide (i<e)&&(Kp ops.toList vs).lt i e))=true:=λj hj=>by have:=zf.1 lT j (zD.2 (by rw[jy];exact hj));rw[z6,z6,zm] at this;exact this
 have n8:∀ j,j<ops.size->∀ e∈(Kp ops.toList vs).ed.getD j [],e<j:=λj hj e he=>by have:=zf.1 (h0 j hj).1 e he;simpa using this
 refine⟨λj o ho=>by simp[Kp,zd,ho],n8,λj hj i hi ah=>?_,λi j ah=>?_,jy⟩
 .have:=zf.1 (h0 j hj).2.2 i (zD.2 hi);simp only[ah,wA,Bool.false_or,xu,zy,z6,zm,zT] at this;exact this
 .rcases zl i j with h|h
  .exact h
  .exfalso;unfold DInfo.lt at ah;rcases zl j ops.size with hj|hj
   .have h1:=(h0 j hj).2.1;have h2:(Kp ops.toList vs).an.getD j 0<2 ^ i:=xi h1 (Nat.pow_le_pow_right (by omega) h);rw[Nat.testBit_lt_two_pow h2] at ah;cases ah
   .have:(Kp ops.toList vs).an.getD j 0=0:=by
     rw[zd,zk (by rw[uq,jy];exact hj)];rfl
    rw[this,Nat.zero_testBit] at ah;cases ah
theorem Ab {t:Nat}:∀ (l:List Nat),l.Pairwise (λj i=>¬ (i<t/\t<=j))->l=l.filter (λi=>decide (i<t))++l.filter (λi=>decide (t<=i))
 |[],_=>rfl
 |x::l,h=>by
  obtain⟨h1,h2⟩:=wN.1 h;have ih:=Ab l h2;by_cases hx:x<t
  .have nu:¬ t<=x:=by omega
   simp only[wR,hx,decide_true,zB,nu,decide_false,xB,zC,if_false];rw[<-ih]
  .have nu:t<=x:=by omega
   have iS:l.filter (λi=>decide (i<t))=[]:=List.filter_eq_nil_iff.2 λi hi=>by have:=h1 i hi;simp;omega
   have ae:l.filter (λi=>decide (t<=i))=l:=List.filter_eq_self.2 λi hi=>by have:=h1 i hi;simp;omega
   simp only[wR,hx,decide_false,nu,decide_true,zB,iS,ae];simp
theorem P_ (hS:OkSpecs P S) {ro:Option Nat}{n:Nat}{ops:Array Oper}{vs:List VOper}(cK:ops.toList.mapM (Jc P ops)=some vs) {d0:DInfo}(_hb:DBase ops d0) {l l2 idx pm:List Nat}(gH:l.Nodup) (ah:∀ i∈l,i<ops.size) (qJ:∀ i,i∈l<->i∈idx)
  (bY:∀ pre j post,l=pre++j::post->∀ e∈d0.ed.getD j [],e∈l->e∈pre) (fL:Z1b d0 vs idx (l.filter λi=>d0.k i==2) pm=true)
  {env:Env}{M:Heap}{K:Env->Heap->Prop}{ρ:Plc}{w:World}{a:Act}(qK:Zq S ((Ce d0 vs pm).opers (VX vs pm) 0) env [M] M [] K) (hH:HRel ρ M w) (hL:LRel ρ M.n env a.tmps.toList) (dJ:Mks B a.defers w)
  {Q:Exit->Act->World->Prop}(hQ:∀ a' w',Ho B (List.length env) ρ M w K a' w'->wpOpsIn (FF ro) n P ops Q l2 a' w'):wpOpsIn (FF ro) n P ops Q (l++l2) a w:=by
 have nD:vs.length=ops.size:=by have:=(Wb _ _ _ cK).1;simpa using this
 simp only[Z1b,z6,zm,zf,List.contains_iff_mem] at fL;obtain⟨m1,m2,m3,m4,m5⟩:=fL;have ll:∀ i,i∈pm<->i∈l:=λi=>by rw[qJ i];exact⟨λhi=>m2 i hi,λhi=>m1 i hi⟩
 have jB:∀ i∈pm,i<vs.length:=λi hi=>by have:=ah i ((ll i).1 hi);omega
 have hl:DLink P ops pm (Ce d0 vs pm) (VX vs pm):=DLink.of cK jB;have qL:(VX vs pm).length=pm.length:=by simp[VX]
 have jy:(Ce d0 vs pm).ks.length=(VX vs pm).length:=by simp[Ce]
 have hd:=DOk.of m5;rw[jy] at hd;have iR:∀ p,p<pm.length->(Ce d0 vs pm).ed.getD p []=Q6g d0 pm p:=λp hp=>by simp[Ce,zd,hp]
 have iU:=Lz (d:=Ce d0 vs pm) ops.size ah m3 gH ll bY iR m4 l [] (by simp);have fZ:∀ i v,(VX vs pm)[i]?=some v->(Ce d0 vs pm).k i=v.op.kind:=λi v hv=>(hl.comp i v hv).choose_spec.2.2;obtain⟨k,tr,hp,_,_,k2,k3⟩:=Q88 (Ce d0 vs pm) (VX vs pm) fZ env K (VX vs pm) 0 (by omega) rfl [] (λ_=>undef) (λ_=>M) [] (λl hl=>by omega) (λl hl=>by omega) (by simpa [DInfo.rank,EL] using qK);have qM:hp 0=M:=k2 0 (by omega);have n9:(λq=>([]:List Nat).contains (pm.getD q ops.size))=λ_=>false:=by funext q;rfl
 rw[n9] at iU;refine F8 (B:=B) (pm:=pm) hS hl hd hQ k3 l (λ_=>false) a w (by rw[qL];exact iU) ?_ (λ_ _ _=>rfl) (λj hj=>by cases hj) (ρ0:=ρ) (σ0:=M) (w0:=w)
 .refine⟨λj hj hA=>(by cases hA),0,ρ,λl aR hk=>by simp,by omega,by rw[qM];exact hH,?_,dJ,by rw[qM];exact Ext.refl _ _ _⟩;have e:EL (VX vs pm) env tr (λ_=>false) (VX vs pm).length=env:=by
   have:∀ m,EL (VX vs pm) env tr (λ_=>false) m=env:=by
    intro m;induction m with
    |zero=>rfl
    |succ m ih=>simp only[EL,zC,if_false];exact ih
   exact this _
  rw[e,qM];exact hL
theorem Rv (d:DInfo):∀ (lv:List VOper) (i:Nat),(∀ v∈lv,v.op.kind≠2)->∀ (env:Env) (M:Heap) (pend:List (Nat×(Heap->Prop))) (K:Env->Heap->Prop),BH S lv env M K->Zq S (d.opers lv i) env [M] M pend K:=by
 intro lv;induction lv with
 |nil=>intro i _ env M pend K h;exact h
 |cons v rest ih =>
  intro i hk env M pend K h;have av:v.op.kind≠2:=hk v (by simp);have dZ:∀ u∈rest,u.op.kind≠2:=λu hu=>hk u (by simp[hu]);simp only[BH] at h;simp only[DInfo.opers,Zq];cases hw:Ja env v.guard with
  |none=>rw[hw] at h;exact h.elim
  |some b =>
   rw[hw] at h;obtain⟨ht,hf⟩:=h;refine⟨λe=>?_,λe=>?_⟩
   .have ht:=ht e;have gA:∃ p,Q7 v.op (Q3 env) M=some p/\BH S rest (Xe env v.dst p.1) p.2 K:=by
     have cN:∀ x:XOp,v.op=.ext x->(∀ y,x≠.nextMap y):=λx hx y hy=>by rw[hx,hy] at av;exact av rfl
     have:=ht;unfold vop at this;split at this
     .rename_i f bQ heq;rw[heq] at av;exact absurd rfl av
     .rename_i f bQ heq;rw[heq] at av;exact absurd rfl av
     .rename_i x heq;rw[heq] at av;exact absurd rfl av
     .cases dX:Q7 v.op (Q3 env) M with
      |none=>rw[dX] at this;exact this.elim
      |some p=>rw[dX] at this;exact⟨p,rfl,this⟩
    obtain⟨p,hp,hr⟩:=gA;have hq:p.2=M:=Dv av (v:=p.1) (M':=p.2) hp;rw[hq] at hr;rw[z8 av];split
    .rw[hp];refine⟨λU hτ=>?_,ih (i+1) dZ _ _ _ _ hr⟩;have:U=M:=by
      have:=List.mem_of_mem_drop hτ;simpa using this
     subst this;show QX (Q7 v.op (Q3 env) U) _;rw[hp];rfl
    .rw[hp];exact ih (i+1) dZ _ _ _ _ hr
   .rw[z8 av];exact ih (i+1) dZ _ _ _ _ (hf e)
theorem FC (hS:OkSpecs P S) {ro:Option Nat}{n:Nat}{ops:Array Oper}{vs:List VOper}(cK:ops.toList.mapM (Jc P ops)=some vs) {d0:DInfo}(hb:DBase ops d0) (_hk0:∀ i v,vs[i]?=some v->d0.k i=v.op.kind) {s len:Nat}(hlen:0<len) (fe:s+len<=ops.size) {x:DSeg}(hx:Z2w d0 vs s len=some x)
  {l l2:List Nat}(gH:l.Nodup) (aN:∀ i,i∈l<->(s<=i/\i<s+len)) (bY:∀ pre j post,l=pre++j::post->∀ e∈d0.ed.getD j [],e∈l->e∈pre) (ln:l.Pairwise λj i=>d0.lt i j=false)
  {rest:List DSeg}{env:Env}{M:Heap}{K:Env->Heap->Prop}{ρ:Plc}{w:World}{a:Act}(h:M_ S (x::rest) env M K) (hH:HRel ρ M w) (hL:LRel ρ M.n env a.tmps.toList) (dJ:Mks B a.defers w)
  {Q:Exit->Act->World->Prop}(hQ:∀ a' w',Ho B (List.length env) ρ M w (λenv M=>M_ S rest env M K) a' w'->wpOpsIn (FF ro) n P ops Q l2 a' w'):wpOpsIn (FF ro) n P ops Q (l++l2) a w:=by
 have nD:vs.length=ops.size:=by have:=(Wb _ _ _ cK).1;simpa using this
 unfold Z2w at hx;split at hx
 .rename_i h1;subst h1;obtain rfl:=osj hx;have hs:s<ops.size:=by omega
  have fb:l=[s]:=by
   have hm:∀ i,i∈l<->i=s:=λi=>by rw[aN i];omega
   have hp:l.Perm [s]:=(w6 gH (by simp)).2 λi=>by rw[hm i];simp
   exact List.perm_singleton.1 hp
  subst fb;obtain⟨v,hv,hc⟩:=(Wb _ _ _ cK).2 s ops[s] (by simp[hs]);have hg:vs.getD s default=v:=by simp[zd,hv]
  simp only[M_,hg] at h;simp only[BH] at h;rw[List.singleton_append,wpOpsIn_cons];unfold wpOpIn;rw[xg hs];simp only;cases hw:Ja env v.guard with
  |none=>rw[hw] at h;exact h.elim
  |some b =>
   rw[hw] at h;obtain⟨ht,hf⟩:=h;obtain⟨dF,bH,bJ⟩:=Dk hc hL hw;rw[dF];cases b with
   |false =>rw[z8 (by simp)];refine⟨λf _=>EP _ _,hQ _ _ ⟨_,ρ,M,hf rfl,Zs _ _ _,hH,by rw[bH];exact YR hL JB _,by rw[Xd];exact dJ,Ext.refl _ _ _⟩⟩
   |true =>rw[z7 rfl];refine VV hS bJ hH hL (ht rfl) λc w' ⟨u,ρ',M',hK,eL,gT,hE⟩=>?_;exact hQ _ _ ⟨_,ρ',M',hK,Zs _ _ _,gT,by rw[bH];exact YR (hE.lrel hL) eL _,by rw[Xd];exact dJ.ext hH hE,hE⟩
 .rename_i fG;simp only at hx;split at hx
  .rename_i hP;obtain rfl:=osj hx;simp only[M_] at h;have n_:(l.filter λi=>d0.k i==2).Perm ((List.range' s len).filter λi=>d0.k i==2):=by
    refine (List.Perm.filter _ ?_);refine (w6 gH List.nodup_range').2 λj=>?_;rw[aN j,List.mem_range'_1]
   have hs:=Sa d0.lt _ _ len n_ (by
    refine zY (List.length_filter_le _ _) (by simp)) (ln.filter _)
   have fL:=zf.1 hP _ (zE.2 ⟨_,hs,rfl⟩);have qK:=h _ (zE.2 ⟨_,zE.2 ⟨_,hs,rfl⟩,rfl⟩);exact P_ hS cK hb gH (λi hi=>by have:=(aN i).1 hi;omega) (λi=>by rw[aN i,List.mem_range'_1]) bY fL qK hH hL dJ (λa' w' hn=>by
    obtain⟨af,ρ',M',⟨aU,M2,hD,hR⟩,n1,n2,n3,n4,n5⟩:=hn;obtain⟨ρ2,d1,d2,d3⟩:=hD ρ w ρ' w' a'.tmps.toList hH n5 n2 n3;exact hQ a' w' ⟨aU,ρ2,M2,hR,(d1.1.trans n3.1.symm).trans n1,d2,d1,n4,d3⟩)
  .cases hx
theorem E4 (hS:OkSpecs P S) {ro:Option Nat}{n:Nat}{ops:Array Oper}{vs:List VOper}(cK:ops.toList.mapM (Jc P ops)=some vs) {d0:DInfo}(hb:DBase ops d0) (jv:∀ i v,vs[i]?=some v->d0.k i=v.op.kind)
  {Q:Exit->Act->World->Prop}{K:Env->Heap->Prop}:∀ (f s:Nat) (aS:List DSeg),OD d0 vs f s=some aS->s<=ops.size->∀ (l:List Nat),l.Nodup->(∀ i,i∈l<->(s<=i/\i<ops.size)) ->
   (∀ pre j post,l=pre++j::post->∀ e∈d0.ed.getD j [],e∈l->e∈pre)->(l.Pairwise λj i=>d0.lt i j=false) ->
   ∀ (env:Env) (M:Heap) (ρ:Plc) (w:World) (a:Act),M_ S aS env M K->HRel ρ M w->LRel ρ M.n env a.tmps.toList->Mks B a.defers w->(∀ a' w',Ho B (List.length env) ρ M w K a' w'->Q .normal a' w') ->
   wpOpsIn (FF ro) n P ops Q l a w:=by
 intro f
 have fin:∀ (s:Nat) (aS:List DSeg),s=d0.ks.length->[]=aS->∀ (l:List Nat),(∀ i,i∈l<->(s<=i/\i<ops.size))->∀ (env:Env) (M:Heap) (ρ:Plc) (w:World) (a:Act),M_ S aS env M K->HRel ρ M w->LRel ρ M.n env a.tmps.toList->Mks B a.defers w->(∀ a' w',Ho B (List.length env) ρ M w K a' w'->Q .normal a' w') ->
   wpOpsIn (FF ro) n P ops Q l a w:=by
  intro s aS hs fh l aN env M ρ w a h hH hL dJ hQ;subst fh;have:l=[]:=by
   cases l with
   |nil=>rfl
   |cons x l =>have:=(aN x).1 (by simp);rw[hs,hb.size] at this;omega
  subst this;exact hQ a w ⟨env,ρ,M,h,rfl,hH,hL,dJ,Ext.refl _ _ _⟩
 induction f with
 |zero =>
  intro s aS fh hs l gH aN bY ln env M ρ w a h hH hL dJ hQ;simp only[OD] at fh;split at fh
  .rename_i he;exact fin s aS he (osj fh) l aN env M ρ w a h hH hL dJ hQ
  .cases fh
 |succ f ih =>
  intro s aS fh hs l gH aN bY ln env M ρ w a h hH hL dJ hQ;simp only[OD] at fh;split at fh
  .rename_i he;exact fin s aS he (osj fh) l aN env M ρ w a h hH hL dJ hQ
  .rename_i az;split at fh
   .cases fh
   .rename_i t ht;have qN:=List.find?_some ht;have oa:=List.mem_range'_1.1 (List.mem_of_find?_eq_some ht);rw[hb.size] at oa;split at fh
    .rename_i x r hx hr;obtain rfl:=osj fh;have ah:∀ i p,i<t->t<=p->p<ops.size->d0.lt i p=true:=λi p hi hp jA=>by
      have h1:=zf.1 qN p (List.mem_range'_1.2 ⟨hp,by rw[hb.size];omega⟩);exact zf.1 h1 i (zD.2 hi)
     have qO:l.Pairwise (λj i=>¬ (i<t/\t<=j)):=by refine (List.pairwise_iff_forall_sublist.2 λ{j i} gG=>?_);rintro⟨h1,h2⟩;have hj:j∈l:=gG.subset (by simp);have h3:=(List.pairwise_iff_forall_sublist.1 ln) gG;rw[ah i j h1 h2 ((aN j).1 hj).2] at h3;cases h3
     have du:=Ab l qO;have nW:∀ i,i∈l.filter (λi=>decide (i<t))<->(s<=i/\i<s+(t-s)):=λi=>by rw[zX,aN i,zm];omega
     have iQ:∀ i,i∈l.filter (λi=>decide (t<=i))<->(t<=i/\i<ops.size):=λi=>by rw[zX,aN i,zm];omega
     rw[du];refine FC hS cK hb jv (by omega) (by omega) hx (gH.filter _) nW ?_ (ln.filter _) h hH hL dJ ?_
     .intro pre j post he e gI hel;refine bY pre j (post++l.filter (λi=>decide (t<=i))) ?_ e gI (zX.1 hel).1;exact du.trans (by rw[he,zZ];rfl)
     .intro a' w' ⟨af,ρ',M',k1,k0,k2,k3,k4,k5⟩;refine ih t r hr (by omega) _ (gH.filter _) iQ ?_ (ln.filter _) af M' ρ' w' a' k1 k2 k3 k4 ?_
      .intro pre j post he e gI hel;have:=bY (l.filter (λi=>decide (i<t))++pre) j post (du.trans (by rw[he,zZ])) e gI (zX.1 hel).1;rcases zQ.1 this with h1|h1
       .have h2:=(zX.1 h1).2;have h3:=(zX.1 hel).2;simp at h2 h3;omega
       .exact h1
      .intro a2 w2 ⟨aU,ρ2,M2,m1,m0,m2,m3,m4,m5⟩;exact hQ a2 w2 ⟨aU,ρ2,M2,m1,m0.trans k0,m2,m3,m4,k5.trans m5⟩
    .cases fh
theorem F2 (hm:P.follows .mixedOrders=true) (hS:OkSpecs P S) {ro:Option Nat}{n:Nat}{id:Nat}{ops:Array Oper}{vs:List VOper}(cK:ops.toList.mapM (Jc P ops)=some vs) {aS:List DSeg}(ai:Q5i (Kp ops.toList vs) vs=some aS)
  {env:Env}{M:Heap}{K:Env->Heap->Prop}{ρ:Plc}{w:World}{a:Act}(h:M_ S aS env M K) (hH:HRel ρ M w) (hL:LRel ρ M.n env a.tmps.toList) (dJ:Mks B a.defers w)
  {Q:Exit->Act->World->Prop}(hQ:∀ a' w',Ho B (List.length env) ρ M w K a' w'->Q .normal a' w'):(Code.region id ops true).wpIn (FF ro) n P Q a w:=by
 unfold Q5i at ai;split at ai
 .rename_i hB;have hb:=F_ cK hB;have fZ:∀ i v,vs[i]?=some v->(Kp ops.toList vs).k i=v.op.kind:=λi v hv=>by
   simp[DInfo.k,Kp,zd,hv]
  generalize qy:Kp ops.toList vs=d0 at *
  refine wpIn_region_draw λt=>?_;simp only[Region.schedule,hm,Bool.true_or,zB];have gJ:∀ (j:Nat) (o:Oper),ops[j]?=some o->∀ e∈Ha o,e<j:=λj o ho e he=>hb.edge j (x9.1 ho).1 e (by rw[hb.ed j o ho];exact he);have ae:∀ i,(Array.replicate ops.size false).getD i false=false:=λi=>by rw[Array.getD_eq_getD_getElem?,Array.getElem?_replicate];split<;>rfl
  have ib:=Q4k gJ ops.size t (Array.replicate ops.size false) (by simp) (by
   have:∀ m,cnt (λi=>(Array.replicate ops.size false).getD i false) m<=m:=by
    intro m;induction m with
    |zero=>exact ze _
    |succ m ih=>simp only[cnt];split<;>omega
   exact this _)
  change wpOpsIn _ _ _ _ _ (Region.linearise.go .any ops ops.size t (Array.replicate ops.size false) []) _ _;generalize Region.linearise.go .any ops ops.size t (Array.replicate ops.size false) []=l at *
  obtain⟨j6,aN⟩:=CP l _ (by simp) ib;have ln:=Q9u hb l _ (by simp) (λj _ hA=>by rw[ae] at hA;cases hA) ib;have bY:=Al hb l _ (by simp) ib;refine E4 hS cK hb fZ _ 0 aS ai (by omega) l j6 (λi=>by rw[aN i,ae];simp) (λpre j post he e gI _=>?_) ln env M ρ _ a h hH.drew hL (dJ.ext hH (Ext.drew _ _ _)) (λa' w' hn=>?_)
  .rcases bY pre j post he e gI with h1|h1
   .rw[ae] at h1;cases h1
   .exact h1
  .obtain⟨af,ρ',M',n0,n1,n2,n3,n4,n5⟩:=hn;exact hQ a' w' ⟨af,ρ',M',n0,n1,n2,n3,n4,(Ext.drew _ _ _).trans n5⟩
 .cases ai
theorem Ll (hm:P.follows .mixedOrders=true) (hS:OkSpecs P S) {ro:Option Nat}{n:Nat}{id:Nat}{ops:Array Oper}{vs:List VOper}(cK:ops.toList.mapM (Jc P ops)=some vs) (ai:GV (Kp ops.toList vs) vs=true)
  {env:Env}{M:Heap}{K:Env->Heap->Prop}{ρ:Plc}{w:World}{a:Act}(h:BH S vs env M K) (hH:HRel ρ M w) (hL:LRel ρ M.n env a.tmps.toList) (dJ:Mks B a.defers w)
  {Q:Exit->Act->World->Prop}(hQ:∀ a' w',Ho B (List.length env) ρ M w K a' w'->Q .normal a' w'):(Code.region id ops true).wpIn (FF ro) n P Q a w:=by
 simp only[GV,z6] at ai;obtain⟨hB,l7,kK⟩:=ai;have hb:=F_ cK hB;have nD:vs.length=ops.size:=by have:=(Wb _ _ _ cK).1;simpa using this
 have av:∀ v∈vs,v.op.kind≠2:=λv hv=>by have:=zf.1 l7 v hv;simpa using this
 have fZ:∀ i v,vs[i]?=some v->(Kp ops.toList vs).k i=v.op.kind:=λi v hv=>by simp[DInfo.k,Kp,zd,hv]
 generalize qy:Kp ops.toList vs=d0 at *
 refine wpIn_region_draw λt=>?_;simp only[Region.schedule,hm,Bool.true_or,zB];have gJ:∀ (j:Nat) (o:Oper),ops[j]?=some o->∀ e∈Ha o,e<j:=λj o ho e he=>hb.edge j (x9.1 ho).1 e (by rw[hb.ed j o ho];exact he);have ae:∀ i,(Array.replicate ops.size false).getD i false=false:=λi=>by rw[Array.getD_eq_getD_getElem?,Array.getElem?_replicate];split<;>rfl
 have ib:=Q4k gJ ops.size t (Array.replicate ops.size false) (by simp) (by
  have:∀ m,cnt (λi=>(Array.replicate ops.size false).getD i false) m<=m:=by
   intro m;induction m with
   |zero=>exact ze _
   |succ m ih=>simp only[cnt];split<;>omega
  exact this _)
 change wpOpsIn _ _ _ _ _ (Region.linearise.go .any ops ops.size t (Array.replicate ops.size false) []) _ _;generalize Region.linearise.go .any ops ops.size t (Array.replicate ops.size false) []=l at *
 obtain⟨j6,aN⟩:=CP l _ (by simp) ib;have bY:=Al hb l _ (by simp) ib;have ah:∀ i∈l,i<ops.size:=λi hi=>((aN i).1 hi).1;have iS:l.filter (λi=>d0.k i==2)=[]:=List.filter_eq_nil_iff.2 λi hi=>by have aO:=ah i hi;have sw:vs[i]?=some vs[i]:=z1 (by omega);rw[fZ i _ sw];simpa using av _ (zF sw)
 have qP:VX vs (List.range' 0 d0.ks.length)=vs:=by
  apply zV;intro i;unfold VX;rw[zU];rcases zl i vs.length with hi|hi
  .rw[List.getElem?_range' (by rw[hb.size];omega),z1 hi];simp[zd,hi]
  .rw[zk (by simp[hb.size];omega),zk hi];rfl
 have hd:=Rv (S:=S) (Ce d0 vs (List.range' 0 d0.ks.length)) vs 0 av env M [] K h;rw[<-xJ l];refine P_ hS cK hb j6 ah (λi=>by rw[aN i,ae,List.mem_range'_1,hb.size];simp) (λpre j post he e gI _=>?_) (idx:=List.range' 0 d0.ks.length) (pm:=List.range' 0 d0.ks.length) (by rw[iS];exact kK) (by rw[qP];exact hd) hH.drew hL (dJ.ext hH (Ext.drew _ _ _)) (λa' w' hn=>?_)
 .rcases bY pre j post he e gI with h1|h1
  .rw[ae] at h1;cases h1
  .exact h1
 .obtain⟨af,ρ',M',n0,n1,n2,n3,n4,n5⟩:=hn;exact hQ a' w' ⟨af,ρ',M',n0,n1,n2,n3,n4,(Ext.drew _ _ _).trans n5⟩
theorem Lq (hS:OkSpecs P S) {id:Nat}{ops:Array Oper}{lv:List VOper}(bU:ops.toList.mapM (Jc P ops)=some lv):Sound P S (.region id ops false) (.region lv):=by intro B dh ro n Q env M ρ w a h hH hL hd hR Q' hQ;simp only[vwp] at h;refine wpIn_region ?_;rw[List.range_eq_range',<-Array.length_toList,wpOpsIn_eq_wpListIn ops.toList 0 (by simp)];exact E9 hS ops Q' ops.toList lv bU env M _ ρ w a h hH hL hd (λa' w' hn=>hQ .normal a' w' hn)
theorem cond_true {v:Value}{A B:Prop}(h:Ln v A B):∃ t,v=.bool t/\(t=true->A)/\(t=false->B):=by
 unfold Ln at h;split at h
 .exact⟨_,rfl,h⟩
 .exact h.elim
theorem Eu {c:Code}{vc:VCode}(ih:Sound P S c vc):Sound P S (.loop c) (.loop vc):=by
 intro B dh ro n Q env M ρ w a h hH hL hd hR Q' hQ;simp only[vwp] at h;obtain⟨live,I,n0,h0,ef⟩:=h;refine wpIn_loop_ghost (λk a' w'=>Ho B (List.length env) ρ M w (λaf M'=>I k (D8 live af) M') a' w') n0 ⟨env,ρ,M,h0,rfl,hH,hL,hd,Ext.refl _ _ _⟩ ?_;rintro k a1 w1 ⟨bA,ρ1,σ1,k1,k0,k2,k3,k4,k5⟩;have hlen:List.length (Xj live (D8 live bA) (List.replicate env.length poison))=List.length env:=by rw[Sf];simp
 refine ih dh ro n _ _ σ1 ρ1 w1 a1 (ef k (D8 live bA) σ1 k1) k2 (EY live bA _ _ k3 (Ee _ (by rw[<-k3.1,k0]))) k4 (hR.ext k5) _ ?_;rintro e a2 w2 ⟨aU,ρ2,M2,m1,m0,m2,m3,m4,m5⟩;rw[hlen] at m0;cases e with
 |normal =>obtain⟨n',pC,hI⟩:=m1;exact⟨n',pC,aU,ρ2,M2,hI,m0,m2,m3,m4,k5.trans m5⟩
 |_=>exact hQ _ a2 w2 ⟨aU,ρ2,M2,m1,m0,m2,m3,m4,k5.trans m5⟩
theorem Dp (c:Code):Sound P S c .bad:=by intro B dh ro n Q env M ρ w a h;exact h.elim
theorem EU (hm:P.follows .mixedOrders=true) (hS:OkSpecs P S):∀ (c:Code) (vc:VCode),comp P c=some vc->Sound P S c vc:=by
 intro c;induction c with
 |skip =>intro vc hc;simp[comp] at hc;subst hc;intro B dh ro n Q env M ρ w a h hH hL hd hR Q' hQ;exact wpIn_skip (hQ _ _ _ ⟨env,ρ,M,h,rfl,hH,hL,hd,Ext.refl _ _ _⟩)
 |region id ops dr =>
  intro vc hc;cases dr with
  |false =>simp only[comp,zN,xd] at hc;obtain⟨lv,bU,hc⟩:=hc;simp at hc;subst hc;exact Lq hS bU
  |true =>
   simp only[comp,zN,xd] at hc;obtain⟨lv,bU,hc⟩:=hc;split at hc
   .rename_i ai;simp at hc;subst hc;intro B dh ro n Q env M ρ w a h hH hL hd hR Q' hQ;exact Ll hm hS bU ai h hH hL hd (λa' w' hn=>hQ .normal a' w' hn)
   split at hc
   .rename_i aS ai;simp at hc;subst hc;intro B dh ro n Q env M ρ w a h hH hL hd hR Q' hQ;exact F2 hm hS bU ai h hH hL hd (λa' w' hn=>hQ .normal a' w' hn)
   .simp at hc;subst hc;exact Dp _
 |seq x y kf ob =>
  intro vc hc;simp only[comp,zN,xd] at hc;obtain⟨vx,hx,vy,hy,hc⟩:=hc;simp at hc;subst hc;intro B dh ro n Q env M ρ w a h hH hL hd hR Q' hQ;simp only[vwp] at h;refine wpIn_seq (kf vx hx dh ro n _ env M ρ w a h hH hL hd hR _ ?_);rintro e a1 w1 ⟨bA,ρ1,σ1,k1,k0,k2,k3,k4,k5⟩;cases e with
  |normal =>refine ob vy hy dh ro n _ bA σ1 ρ1 w1 a1 k1 k2 k3 k4 (hR.ext k5) _ ?_;rintro e2 a2 w2 ⟨aU,ρ2,M2,m1,m0,m2,m3,m4,m5⟩;exact hQ e2 a2 w2 ⟨aU,ρ2,M2,m1,m0.trans k0,m2,m3,m4,k5.trans m5⟩
  |_=>exact hQ _ a1 w1 ⟨bA,ρ1,σ1,k1,k0,k2,k3,k4,k5⟩
 |cond c x y kf ob =>
  intro vc hc;simp only[comp] at hc;split at hc
  .rename_i ai;simp only[zN,xd] at hc;obtain⟨vx,hx,vy,hy,hc⟩:=hc;simp at hc;subst hc;intro B dh ro n Q env M ρ w a h hH hL hd hR Q' hQ;simp only[vwp] at h;obtain⟨t,ht,h1,h2⟩:=cond_true h;have hv:=Wa hL ai;rw[ht] at hv;refine wpIn_cond_split hv.q1d (λe=>?_) (λe=>?_)
   .exact kf vx hx dh ro n Q env M ρ w a (h1 e) hH hL hd hR Q' hQ
   .exact ob vy hy dh ro n Q env M ρ w a (h2 e) hH hL hd hR Q' hQ
  .simp at hc;subst hc;exact Dp _
 |block id x kf =>
  intro vc hc;simp only[comp,zN,xd] at hc;obtain⟨vx,hx,hc⟩:=hc;simp at hc;subst hc;intro B dh ro n Q env M ρ w a h hH hL hd hR Q' hQ;simp only[vwp] at h;refine wpIn_block (kf vx hx dh ro n _ env M ρ w a h hH hL hd hR _ ?_);rintro e a1 w1 ⟨bA,ρ1,σ1,k1,k0,k2,k3,k4,k5⟩;cases e with
  |exit iG =>
   simp only[SC] at k1;simp only[Exit.inBlock];split at k1
   .rename_i he;rw[z7 he];exact hQ _ a1 w1 ⟨bA,ρ1,σ1,k1,k0,k2,k3,k4,k5⟩
   .rename_i he;rw[z8 he];exact hQ _ a1 w1 ⟨bA,ρ1,σ1,k1,k0,k2,k3,k4,k5⟩
  |_=>exact hQ _ a1 w1 ⟨bA,ρ1,σ1,k1,k0,k2,k3,k4,k5⟩
 |loop x kf =>intro vc hc;simp only[comp,zN,xd] at hc;obtain⟨vx,hx,hc⟩:=hc;simp at hc;subst hc;exact Eu (kf vx hx)
 |rangeFunc g ps x y kf ob =>
  intro vc hc;simp only[comp] at hc;split at hc
  .rename_i ai;simp only[zN,xd] at hc;obtain⟨vx,hx,vy,hy,hc⟩:=hc;simp at hc;subst hc;exact Cr hS (kf vx hx) (ob vy hy) g ai ps
  .simp at hc;subst hc;exact Dp _
 |exit id =>intro vc hc;simp[comp] at hc;subst hc;intro B dh ro n Q env M ρ w a h hH hL hd hR Q' hQ;exact wpIn_exit (hQ _ _ _ ⟨env,ρ,M,h,rfl,hH,hL,hd,Ext.refl _ _ _⟩)
 |ret =>intro vc hc;simp[comp] at hc;subst hc;intro B dh ro n Q env M ρ w a h hH hL hd hR Q' hQ;exact wpIn_ret (hQ _ _ _ ⟨env,ρ,M,h,rfl,hH,hL,hd,Ext.refl _ _ _⟩)
 |_ =>intro vc hc;simp[comp] at hc;subst hc;exact Dp _
end
end Go.V
namespace Go.V
open Go
inductive Ren (n:Nat) (π:Nat->Nat):Value->Value->Prop
 |plain (v:Value) (h:QN v=true):Ren n π v v
 |poison (c:Value):Ren n π poison c
 |glob (g o s:Nat):Ren n π (.pointer (some ⟨g,o,some s⟩)) (.pointer (some ⟨g,o,some s⟩))
 |ptr (i o:Nat) (hi:i<n):Ren n π (.pointer (some ⟨i,o,none⟩)) (.pointer (some ⟨π i,o,none⟩))
 |sl (i o len cap:Nat) (hi:i<n):Ren n π (.slice (some ⟨i,o,none⟩) len cap) (.slice (some ⟨π i,o,none⟩) len cap)
 |slx (i o len cap:Nat) (hi:i<n):Ren n π (.slice (some ⟨i,o,some 0⟩) len cap) (.slice (some ⟨π i,o,some 0⟩) len cap)
 |map (i:Nat) (hi:i<n):Ren n π (.map (some i)) (.map (some (π i)))
 |iface (t:TypeId) (v c:Value) (h:Ren n π v c):Ren n π (.iface t v) (.iface t c)
 |yield (i:Nat) (hi:i<n):Ren n π (.func (.yield i) #[] #[]) (.func (.yield (π i)) #[] #[])
 |func (fn:FuncId) (fs gs cs ds:Array Value) (hf:fs.size=gs.size) (hc:cs.size=ds.size)
   (h1:∀ i (h1:i<fs.size) (h2:i<gs.size),Ren n π fs[i] gs[i]) (h2:∀ i (h1:i<cs.size) (h2:i<ds.size),Ren n π cs[i] ds[i]):Ren n π (.func (.func fn) fs cs) (.func (.func fn) gs ds)
 |agg (cs ds:Array Value) (hc:cs.size=ds.size) (h:∀ i (h1:i<cs.size) (h2:i<ds.size),Ren n π cs[i] ds[i]):Ren n π (.agg cs) (.agg ds)
 |tuple (cs ds:Array Value) (hc:cs.size=ds.size) (h:∀ i (h1:i<cs.size) (h2:i<ds.size),Ren n π cs[i] ds[i]):Ren n π (.tuple cs) (.tuple ds)
def LRen (n:Nat) (π:Nat->Nat) (vs cs:List Value):Prop:=vs.length=cs.length/\∀ (i:Nat) (v c:Value),vs[i]?=some v->cs[i]?=some c->Ren n π v c
theorem Ren.rel {ρ:Plc}{nf n':Nat}{π:Nat->Nat}{v' v:Value}(h:Ren n' π v' v):∀ {c:Value},VRel ρ nf v c->VRel (λi=>if i<n' then ρ (π i) else none) n' v' c:=by
 induction h with
 |plain v h =>intro c hv;have:c=v:=YV h hv;subst this;exact Wc h
 |poison c=>intro c _;exact .poison _
 |glob g o s=>intro c hv;cases hv;exact .glob _ _ _
 |ptr i o hi =>intro c hv;obtain⟨a,rfl,_,h⟩:=hv.q1h;exact .ptr _ _ _ hi λp hp=>h p (by simpa [hi] using hp)
 |sl i o len cap hi =>intro c hv;obtain⟨a,au,rfl,_,h⟩:=hv.q1b;exact .sl _ _ _ _ _ _ hi λp hp=>h p (by simpa [hi] using hp)
 |slx i o len cap hi =>
  intro c hv;cases hv with
  |slx _ _ _ _ a _ h=>exact .slx _ _ _ _ _ hi λp hp=>h p (by simpa [hi] using hp)
 |map i hi =>
  intro c hv;cases hv with
  |map _ r _ h=>exact .map _ _ hi λp hp=>h p (by simpa [hi] using hp)
 |yield i hi =>
  intro c hv;cases hv with
  |yield _ r _ h=>exact .yield _ _ hi λp hp=>h p (by simpa [hi] using hp)
 |iface t v c h ih =>
  intro c hv;cases hv with
  |iface _ _ _ h=>exact .iface _ _ _ (ih h)
 |func fn fs gs cs ds hf hc h1 h2 lK lL =>
  intro c hv;cases hv with
  |func _ _ vX _ ds' l8 cI jC m_ =>exact .func _ _ _ _ _ (hf.trans l8) (hc.trans cI) (λi k1 k2=>lK i k1 (by omega) (jC i (by omega) k2)) (λi k1 k2=>lL i k1 (by omega) (m_ i (by omega) k2))
 |agg cs ds hc h ih =>
  intro c hv;cases hv with
  |agg _ ds' cI h'=>exact .agg _ _ (hc.trans cI) λi k1 k2=>ih i k1 (by omega) (h' i (by omega) k2)
 |tuple cs ds hc h ih =>
  intro c hv;cases hv with
  |tuple _ ds' cI h'=>exact .tuple _ _ (hc.trans cI) λi k1 k2=>ih i k1 (by omega) (h' i (by omega) k2)
theorem VRel.ren {ρ:Plc}{n n':Nat}{π:Nat->Nat}(hn:n<=n') (hπ:∀ i,i<n->π i=i) {v c:Value}(h:VRel ρ n v c):Ren n' π v v:=by
 induction h with
 |poison c=>exact .poison _
 |bool b=>exact .plain _ rfl
 |int k x=>exact .plain _ rfl
 |string s=>exact .plain _ rfl
 |nilPtr=>exact .plain _ rfl
 |nilSl=>exact .plain _ rfl
 |nilMap=>exact .plain _ rfl
 |nilFunc=>exact .plain _ rfl
 |nilIface=>exact .plain _ rfl
 |glob g o s=>exact .glob _ _ _
 |ptr i o a hi h=>have:=Ren.ptr (n:=n') (π:=π) i o (by omega);rwa [hπ i hi] at this
 |sl i o len cap a au hi h=>have:=Ren.sl (n:=n') (π:=π) i o len cap (by omega);rwa [hπ i hi] at this
 |slx i o len cap a hi h=>have:=Ren.slx (n:=n') (π:=π) i o len cap (by omega);rwa [hπ i hi] at this
 |map i r hi h=>have:=Ren.map (n:=n') (π:=π) i (by omega);rwa [hπ i hi] at this
 |yield i r hi h=>have:=Ren.yield (n:=n') (π:=π) i (by omega);rwa [hπ i hi] at this
 |iface t v c _ ih=>exact .iface _ _ _ ih
 |func fn fs gs cs ds hf hc _ _ lK lL=>exact .func _ _ _ _ _ rfl rfl (λi k1 _=>lK i k1 (by omega)) (λi k1 _=>lL i k1 (by omega))
 |agg cs ds hc _ ih=>exact .agg _ _ rfl λi k1 _=>ih i k1 (by omega)
 |tuple cs ds hc _ ih=>exact .tuple _ _ rfl λi k1 _=>ih i k1 (by omega)
theorem LRen.rel {ρ:Plc}{nf n':Nat}{π:Nat->Nat}{cS vs:List Value}(h:LRen n' π cS vs) {cs:List Value}(hL:LRel ρ nf vs cs):LRel (λi=>if i<n' then ρ (π i) else none) n' cS cs:=by
 refine⟨h.1.trans hL.1,λi v c hv hc=>?_⟩;have ah:i<vs.length:=by rw[<-h.1];exact(zg.1 hv).1
 exact(h.2 i v _ hv (z1 ah)).rel (hL.2 i _ c (z1 ah) hc)
theorem LRel.ren {ρ:Plc}{n n':Nat}{π:Nat->Nat}(hn:n<=n') (hπ:∀ i,i<n->π i=i) {vs cs:List Value}(h:LRel ρ n vs cs):LRen n' π vs vs :=
 ⟨rfl,λi v u hv hu=>by
  obtain rfl:v=u:=osj (hv.symm.trans hu);obtain⟨c,_,hc⟩:=h.get hv;exact hc.ren hn hπ⟩
def ORen (n:Nat) (π:Nat->Nat):VObj->VObj->Prop
 |.map es clock,.map fs l9=>clock=l9/\es.length=fs.length/\∀ (k:Nat) (a b:JD),es[k]?=some a->fs[k]?=some b->a.1=b.1/\a.2.2=b.2.2/\Ren n π a.2.1 b.2.1
 |.iter m since seen last,.iter m' l_ oc od=>m'=π m/\m<n/\since=l_/\seen=oc/\last=od
 |.lp env r st pend,.lp af r' m8 bX=>LRen n π env af/\r=r'/\st=m8/\pend=bX
 |_,_=>False
theorem ORen.rel {ρ:Plc}{nf n':Nat}{π:Nat->Nat}{o' o:VObj}(h:ORen n' π o' o) {O:Obj}(hO:ORel ρ nf o O):ORel (λi=>if i<n' then ρ (π i) else none) n' o' O:=by
 cases o'<;>cases o<;>try exact h.elim
 .obtain⟨rfl,hl,hk⟩:=h;obtain⟨entries,h1,h2,h3⟩:=hO;refine⟨entries,h1,by rw[hl];exact h2,λk a ha=>?_⟩;have bn:=(zg.1 ha).1;rw[hl] at bn;obtain⟨e,he,h4,h5,h6⟩:=h3 k _ (z1 bn);obtain⟨k1,k2,k3⟩:=hk k a _ ha (z1 bn);exact⟨e,he,h4.trans k1.symm,h5.trans k2.symm,k3.rel h6⟩
 .obtain⟨rfl,hm,rfl,rfl,rfl⟩:=h;obtain⟨rm,h1,h2⟩:=hO;exact⟨rm,h1,(Ren.map _ hm).rel h2⟩
 .obtain⟨hl,rfl,rfl,rfl⟩:=h;exact⟨hO.1,hl.rel hO.2⟩
theorem ORel.ren {ρ:Plc}{n n':Nat}{π:Nat->Nat}(hn:n<=n') (hπ:∀ i,i<n->π i=i) {o:VObj}{O:Obj}(h:ORel ρ n o O):ORen n' π o o:=by
 cases o with
 |map es clock =>obtain⟨entries,h1,h2,h3⟩:=h;refine⟨rfl,rfl,λk a b ha hb=>?_⟩;obtain rfl:a=b:=osj (ha.symm.trans hb);obtain⟨e,_,_,_,hv⟩:=h3 k a ha;exact⟨rfl,rfl,hv.ren hn hπ⟩
 |iter m since seen last =>
  obtain⟨rm,h1,h2⟩:=h;cases h2 with
  |map _ _ hi _=>exact⟨(hπ m hi).symm,by omega,rfl,rfl,rfl⟩
 |lp env r st pend=>exact⟨h.2.ren hn hπ,rfl,rfl,rfl⟩
def BRen (n:Nat) (π:Nat->Nat):Blk->Blk->Prop
 |.cells c esz wr tight,.cells d oe kT iV=>esz=oe/\wr=kT/\tight=iV/\LRen n π c d
 |.obj o wr,.obj o' kT=>wr=kT/\ORen n π o o'
 |_,_=>False
theorem BRen.wr {n:Nat}{π:Nat->Nat}{b c:Blk}(h:BRen n π b c):b.wr=c.wr:=by cases b<;>cases c<;>first|(exact h.elim)|exact h.2.1|exact h.1
theorem BRen.rel {ρ:Plc}{nf n':Nat}{π:Nat->Nat}{p:Pl}{w:World}{b' b:Blk}(h:BRen n' π b' b) (hB:BRel ρ nf p w b):BRel (λi=>if i<n' then ρ (π i) else none) n' p w b':=by
 cases b' with
 |cells c esz wr tight =>
  cases b with
  |cells d oe kT iV =>
   obtain⟨rfl,rfl,rfl,hl⟩:=h;obtain⟨h1,h2,h3,h4,h5,h6⟩:=hB;refine⟨h1,h2,by rw[hl.1];exact h3,h4,λk v hk=>?_,h6⟩;have bn:k<d.length:=by rw[<-hl.1];exact(zg.1 hk).1
   obtain⟨u,hu,hv⟩:=h5 k _ (z1 bn);exact⟨u,hu,(hl.2 k v _ hk (z1 bn)).rel hv⟩
  |obj _ _=>exact h.elim
 |obj o wr =>
  cases b with
  |cells _ _ _ _=>exact h.elim
  |obj o' kT =>obtain⟨rfl,ho⟩:=h;obtain⟨h0,O,h1,h2⟩:=hB;exact⟨h0,O,h1,ho.rel h2⟩
def VObj.plain:VObj->Bool
 |.map es _=>es.all λkv=>QN kv.2.1
 |_=>false
def Blk.plain:Blk->Bool
 |.cells c _ _ _=>c.all QN
 |.obj o _=>o.plain
theorem LRen.plain {n:Nat}{π:Nat->Nat}{c:List Value}(h:c.all QN=true):LRen n π c c :=
 ⟨rfl,λi v u hv hu=>by
  obtain rfl:v=u:=osj (hv.symm.trans hu);exact .plain _ (zf.1 h v (zF hv))⟩
theorem BRen.plain {n:Nat}{π:Nat->Nat}{b:Blk}(h:b.plain=true):BRen n π b b:=by
 cases b with
 |cells c esz wr tight=>exact⟨rfl,rfl,rfl,LRen.plain h⟩
 |obj o wr =>
  cases o with
  |map es clock =>refine⟨rfl,rfl,rfl,λk a b ha hb=>?_⟩;obtain rfl:a=b:=osj (ha.symm.trans hb);exact⟨rfl,rfl,.plain _ (zf.1 h a (zF ha))⟩
  |_=>cases h
theorem BRel.ren {ρ:Plc}{n n':Nat}{π:Nat->Nat}(hn:n<=n') (hπ:∀ i,i<n->π i=i) {p:Pl}{w:World}{b:Blk}(h:BRel ρ n p w b):BRen n' π b b:=by
 cases b with
 |cells c esz wr tight =>refine⟨rfl,rfl,rfl,rfl,λi v u hv hu=>?_⟩;obtain rfl:v=u:=osj (hv.symm.trans hu);obtain⟨_,_,ur⟩:=h.2.2.2.2.1 i v hv;exact ur.ren hn hπ
 |obj o wr =>obtain⟨_,O,_,ho⟩:=h;exact⟨rfl,ho.ren hn hπ⟩
def DropTo (σ0:Heap) (v:Value) (σf:Heap) (v':Value) (M':Heap):Prop :=
 ∀ ρ0 w0 ρ w c,HRel ρ0 σ0 w0->Ext ρ0 σ0 w0 ρ σf w->HRel ρ σf w->VRel ρ σf.n v c->∃ ρ',VRel ρ' M'.n v' c/\HRel ρ' M' w/\Ext ρ0 σ0 w0 ρ' M' w
theorem DropTo.refl (σ0:Heap) (v:Value) (σf:Heap):DropTo σ0 v σf v σf:=λ_ _ ρ _ _ _ hE hH hv=>⟨ρ,hv,hH,hE⟩
theorem DropTo.rename {σ0 σf M':Heap}{v v':Value}(π:Nat->Nat) (h1:σ0.n<=M'.n)
  (h2:∀ i,i<σ0.n->π i=i/\M'.get i=σf.get i/\(σf.get i=σ0.get i\/∃ b,σf.get i=some b/\b.plain=true))
  (h3:∀ i,σ0.n<=i->i<M'.n->σ0.n<=π i/\∃ b' b,M'.get i=some b'/\σf.get (π i)=some b/\BRen M'.n π b' b)
  (h4:∀ i j,σ0.n<=i->i<M'.n->σ0.n<=j->j<M'.n->π i=π j->i=j) (h5:Ren M'.n π v' v):DropTo σ0 v σf v' M':=by
 intro ρ0 w0 ρ w c gB hE hH hv;have hπ:∀ i,i<σ0.n->π i=i:=λi hi=>(h2 i hi).1;have aC:∀ i b',M'.get i=some b'->∃ b,σf.get (π i)=some b/\BRen M'.n π b' b:=λi b' hb=>by
  have hi:=M'.lt hb;rcases zl i σ0.n with ah|bj
  .obtain⟨k1,k2,k3⟩:=h2 i ah;rw[k1];rw[k2] at hb;refine⟨b',hb,?_⟩;rcases k3 with k3|⟨b,k3,k4⟩
   .rw[k3] at hb;obtain⟨p,_,hB⟩:=gB.live i b' hb;exact hB.ren h1 hπ
   .rw[k3] at hb;obtain rfl:=osj hb;exact BRen.plain k4
  .obtain⟨_,b1,b,k1,k2,k3⟩:=h3 i bj hi;rw[k1] at hb;obtain rfl:=osj hb;exact⟨b,k2,k3⟩
 have eg:∀ i j,i<M'.n->j<M'.n->π i=π j->i=j:=λi j hi hj he=>by
  rcases zl i σ0.n with ah|bj<;>rcases zl j σ0.n with b8|iW
  .rw[hπ i ah,hπ j b8] at he;exact he
  .have:=(h3 j iW hj).1;rw[hπ i ah] at he;omega
  .have:=(h3 i bj hi).1;rw[hπ j b8] at he;omega
  .exact h4 i j bj hi iW hj he
 have hX:Ext ρ0 σ0 w0 (λi=>if i<M'.n then ρ (π i) else none) M' w:=by
  refine⟨hE.os,hE.tape,hE.output,hE.size,hE.keep,?_,h1,λi hi p hp=>?_⟩
  .rintro B hB ⟨i,p,b,hp,hb,hw,rfl⟩;change (if i<M'.n then ρ (π i) else none)=some p at hp;split at hp
   .obtain⟨b0,bz,cw⟩:=aC i b hb;exact hE.wr _ hB ⟨π i,p,b0,hp,bz,by rw[<-cw.wr];exact hw,rfl⟩
   .cases hp
  .change (if i<M'.n then ρ (π i) else none)=some p at hp;split at hp
   .rw[hπ i hi] at hp;exact hE.pl i hi p hp
   .cases hp
 refine⟨λi=>if i<M'.n then ρ (π i) else none,h5.rel hv,gB.ext ⟨λi b' hb=>?_,λi hi=>?_,λi p hp=>?_,λi j p q b cj hp hq hb hw hx=>?_⟩ hX,hX⟩
 .obtain⟨b,bz,cw⟩:=aC i b' hb;obtain⟨p,hp,hB⟩:=hH.live _ b bz;exact⟨p,by simp[M'.lt hb,hp],cw.rel hB⟩
 .show (if i<M'.n then ρ (π i) else none)=none;split
  .rename_i ah;rcases zl i σ0.n with b8|bj
   .obtain⟨k1,k2,_⟩:=h2 i b8;rw[k1];exact hH.dead i (by rw[<-k2];exact hi)
   .obtain⟨_,b1,b,k1,_⟩:=h3 i bj ah;rw[k1] at hi;cases hi
  .rfl
 .change (if i<M'.n then ρ (π i) else none)=some p at hp;split at hp
  .exact hH.lt _ p hp
  .cases hp
 .change (if i<M'.n then ρ (π i) else none)=some p at hp;change (if j<M'.n then ρ (π j) else none)=some q at hq;split at hp
  .rename_i hi;split at hq
   .rename_i hj;obtain⟨b0,bz,cw⟩:=aC i b hb;exact hH.sep (π i) (π j) p q b0 (λe=>cj (eg i j hi hj e)) hp hq bz (by rw[<-cw.wr];exact hw) hx
   .cases hq
  .cases hp
def Agree (σ0 σf:Heap):Prop:=∀ i,i<σ0.n->σf.get i=σ0.get i
theorem Agree.refl (M:Heap):Agree M M:=λ_ _=>rfl
theorem Agree.push {σ0 M:Heap}(h:Agree σ0 M) (hn:σ0.n<=M.n) (b:Blk):Agree σ0 (M.push b):=λi hi=>(Heap.q0i M b (by omega)).trans (h i hi)
theorem Agree.trans {σ0 σ1 M2:Heap}(h:Agree σ0 σ1) (k:Agree σ1 M2) (hn:σ0.n<=σ1.n):Agree σ0 M2:=λi hi=>(k i (by omega)).trans (h i hi)
section
variable {P:Program}{S:VSpecs}
def VZ (tmps:Array Value):ResultVar->Sem Value
 |.tmp t=>pure (tmps.getD t undef)
 |.cell a t=>do loadVar t (<-asAddr (tmps.getD a undef))
theorem TS (fn:Func) (tmps:Array Value):results fn tmps=(do
  let vs <-fn.results.mapM (VZ tmps)
  pure (if h:vs.size=1 then vs[0] else .tuple vs)):=by
 unfold results;congr 1
theorem S3 {ρ:Plc}{M:Heap}{w:World}{env:Env}{tmps:Array Value}(hH:HRel ρ M w) (hL:LRel ρ M.n env tmps.toList) {r:ResultVar}{vr:VResult}
  (hc:JC P r=some vr) {v:Value}(h:Ju env M vr=some v):∃ c,VRel ρ M.n v c/\(VZ tmps r).run P w=.ok c w:=by
 have aj:∀ t,VRel ρ M.n (env.getD t undef) (tmps.getD t undef):=λt=>Wa (a:=⟨tmps,[]⟩) hL (x:=.tmp t) rfl;cases r with
 |tmp t =>simp[JC] at hc;subst hc;simp only[Ju,x6] at h;subst h;exact⟨_,aj t,rfl⟩
 |cell a t =>
  simp only[JC] at hc;split at hc
  .rename_i i d hi hu;simp at hc;subst hc;simp only[Ju,zw] at h;obtain⟨p,hp,rfl⟩:=h;simp only[Q7,Q3] at hp;have ha:=aj a;split at hp
   .rename_i g o s h1;rw[h1] at ha;split at hp
    .rename_i c hb;split at hp
     .rename_i ae;split at hp
      .rename_i v0 hv;simp at hp;subst hp;obtain⟨u,cJ,hr⟩:=L0 hH hi hu hb ae hv ha;refine⟨u,cJ,?_⟩;have:=hr w (Like.refl ρ w);have og:tmps.getD a undef=.pointer (some ⟨g,o,none⟩):=by
        generalize tmps.getD a undef=c at ha;cases ha;rfl
       rw[og] at this;simp only[Instr.loadAt,Instr.sureAddr,zA,xe,zh] at this;simp only[VZ,og,asAddr,zA,xe,zh];exact this
      .cases hp
     .cases hp
    .cases hp
   .rename_i i' o h1;rw[h1] at ha;split at hp
    .rename_i c esz wr tight hb;split at hp
     .rename_i v0 hv;simp at hp;subst hp;obtain⟨u,cJ,hr⟩:=CT hH hi hu hb hv ha;refine⟨u,cJ,?_⟩;have:=hr w (Like.refl ρ w);obtain⟨ad,og,_⟩:=ha.q1h;rw[og] at this;simp only[Instr.loadAt,Instr.sureAddr,zA,xe,zh] at this;simp only[VZ,og,asAddr,zA,xe,zh];exact this
     .cases hp
    .cases hp
   .cases hp
  .cases hc
theorem CM {α:Type}{ρ:Plc}{n:Nat}(g:α->Sem Value) (w:World) (f:α->Option Value):∀ (l:List α) (vs:List Value),l.mapM f=some vs ->
  (∀ a∈l,∀ v,f a=some v->∃ c,VRel ρ n v c/\(g a).run P w=.ok c w)->∃ cs,LRel ρ n vs cs/\(l.mapM g).run P w=.ok cs w:=by
 intro l;induction l with
 |nil=>intro vs h _;simp at h;subst h;exact⟨[],LRel.nil _ _,rfl⟩
 |cons a l ih =>
  intro vs h hg;rw[xp] at h;cases hf:f a with
  |none=>simp[hf] at h
  |some v =>
   cases hm:l.mapM f with
   |none=>simp[hf,hm] at h
   |some cS =>simp[hf,hm] at h;subst h;obtain⟨c,fU,iz⟩:=hg a (by simp) v hf;obtain⟨cs,qQ,kg⟩:=ih cS hm (λb hb=>hg b (by simp[hb]));refine⟨c::cs,LRel.cons fU qQ,?_⟩;rw[xp];simp[iz,kg]
theorem Ti {ρ:Plc}{M:Heap}{w:World}{env:Env}{tmps:Array Value}(hH:HRel ρ M w) (hL:LRel ρ M.n env tmps.toList) {fn:Func}{rs:List VResult}
  (hc:UD P fn.results.toList=some rs) {v:Value}(h:Zv env M rs=some v):∃ c,VRel ρ M.n v c/\(results fn tmps).run P w=.ok c w:=by
 unfold UD at hc;have ae:∀ vs,rs.mapM (Ju env M)=some vs->∃ cs,LRel ρ M.n vs cs/\(fn.results.mapM (VZ tmps)).run P w=.ok cs.toArray w:=by
  intro vs cK;have oh:fn.results.toList.mapM (λr=>(JC P r).bind (Ju env M))=some vs:=by
   have:∀ (l:List ResultVar) (rs:List VResult) (vs:List Value),l.mapM (JC P)=some rs->rs.mapM (Ju env M)=some vs->l.mapM (λr=>(JC P r).bind (Ju env M))=some vs:=by
    intro l;induction l with
    |nil=>intro rs vs h1 h2;simp at h1;subst h1;simpa using h2
    |cons r l ih =>
     intro rs vs h1 h2;rw[xp] at h1;cases hg:JC P r with
     |none=>simp[hg] at h1
     |some x =>
      cases hm:l.mapM (JC P) with
      |none=>simp[hg,hm] at h1
      |some bk =>
       simp[hg,hm] at h1;subst h1;rw[xp] at h2;cases hx:Ju env M x with
       |none=>simp[hx] at h2
       |some y =>
        cases iQ:bk.mapM (Ju env M) with
        |none=>simp[hx,iQ] at h2
        |some cS =>simp[hx,iQ] at h2;subst h2;rw[xp];simp[hg,hx,ih bk cS hm iQ]
   exact this _ _ _ hc cK
  obtain⟨cs,k1,k2⟩:=CM (P:=P) (ρ:=ρ) (n:=M.n) (VZ tmps) w _ _ _ oh (λr _ v hv=>by
   cases hr:JC P r with
   |none=>rw[hr] at hv;cases hv
   |some vr=>rw[hr] at hv;exact S3 hH hL hr hv)
  refine⟨cs,k1,?_⟩;rw[Array.mapM_eq_mapM_toList];simp[k2]
 unfold Zv at h;split at h
 .rename_i r;obtain⟨cs,k1,k2⟩:=ae [v] (by simp[h]);have b9:cs.length=1:=by rw[<-k1.1];rfl
  obtain⟨c,rfl⟩:=x8.1 b9;refine⟨c,k1.2 0 v c rfl rfl,?_⟩;rw[TS];simp only[zA];rw[k2];simp
 .rename_i az;simp only[zw] at h;obtain⟨vs,cK,rfl⟩:=h;obtain⟨cs,k1,k2⟩:=ae vs cK;refine⟨.tuple cs.toArray,VRel.q0j k1,?_⟩;have hl:cs.length≠1:=by
   rw[<-k1.1,(Wb _ _ _ cK).1];intro e;obtain⟨r,hr⟩:=x8.1 e;exact az r hr
  rw[TS];simp only[zA];rw[k2];simp[hl]
theorem Lj {ρ:Plc}{n:Nat}(k:Nat):LRel ρ n (List.replicate k undef) (List.replicate k undef) :=
 ⟨rfl,λi v c hv hc=>by
  obtain rfl:v=c:=osj (hv.symm.trans hc);have:=zF hv;rw[List.mem_replicate] at this;rw[this.2];exact JB⟩
theorem Hf {w:World}{D:Nat}{ds:List Deferred}(h:w.heap[D]?=some (.deferred (some ds))):(Instr.takeDeferred D).run P w=.ok ds (HM w D (.deferred none)):=by simp[Instr.takeDeferred,Qw h (λ_ _ _ e=>by cases e),QQ h (λ_ _ _ e=>by cases e)]
theorem Ext.mark {ρ0 ρ:Plc}{σ0 M:Heap}{w0 w:World}(hE:Ext ρ0 σ0 w0 ρ M w) {D:Nat}(hD:w0.heap.size<=D) (O:Obj):Ext ρ0 σ0 w0 ρ M (HM w D O) :=
 ⟨hE.os,hE.tape,hE.output,by rw[D7];exact hE.size,λB hB hW=>(K7 w D O B (by omega)).trans (hE.keep B hB hW),hE.wr,hE.n,hE.pl⟩
theorem HRel.mark {ρ:Plc}{M:Heap}{w:World}(hH:HRel ρ M w) {D:Nat}{d:Option (List Deferred)}(hD:w.heap[D]?=some (.deferred d)) (O:Obj):HRel ρ M (HM w D O) :=
 hH.world (by rw[D7];exact ze _) (λi p hp=>K7 w D O p.blk (hH.q0m hD i p hp)) λg cs hg=>K7 w D O g λe=>by obtain⟨⟨e',f,h1⟩,_⟩:=hH.tab g cs hg;rw[e,hD] at h1;cases h1
theorem L4 {fn:Func}{tmps:Array Value}{R:Ending->World->Prop}{ρ0:Plc}{σ0:Heap}{w0:World}{ρ:Plc}{M:Heap}
  (qR:∀ w,HRel ρ M w->Ext ρ0 σ0 w0 ρ M w->∃ v,(results fn tmps).run P w=.ok v w/\R (.returned v) w) :
  ∀ (Ds:List Nat) (w:World),Ds.Nodup->(∀ D∈Ds,w0.heap.size<=D/\w.heap[D]?=some (.deferred (some [])))->HRel ρ M w->Ext ρ0 σ0 w0 ρ M w ->
   LeavesInM Fence.wide 0 P fn tmps R (Ds.map λD=>⟨.collected D,#[]⟩) .returning w:=by
 intro Ds;induction Ds with
 |nil=>intro w _ _ hH hE;exact qR w hH hE
 |cons D Ds ih =>intro w j6 ae hH hE;obtain⟨h1,h2⟩:=xt.1 j6;obtain⟨h3,h4⟩:=ae D (by simp);refine⟨by simp,.inl ⟨D,_,rfl,Hf h4,ih _ h2 (λE b7=>?_) (hH.mark h4 _) (hE.mark h3 _)⟩⟩;obtain⟨k1,k2⟩:=ae E (by simp[b7]);exact⟨k1,by rw[K7 _ _ _ _ (by rintro rfl;exact h1 b7)];exact k2⟩
theorem BY (hm:P.follows .mixedOrders=true) (hS:OkSpecs P S) {f:FuncId}{fn:Func}{c:Code}{vc:VCode}{rs:List VResult}(hf:P.funcs[f]?=some fn) (hb:fn.body=some c) (hc:comp P c=some vc) (hr:UD P fn.results.toList=some rs)
  {args:List Value}{M:Heap}{R:Value->Heap->Prop}(h:vwp S vc none (Q9e rs λv σf=>∃ v' M',DropTo M v σf v' M'/\R v' M') (args++List.replicate (fn.ntmps-args.length) undef) M):VCallsTo P f args M R:=by
 intro ρ w aw hH hL;refine callsIn_wide.1 (callsIn_of_wp_marks (n:=0) hf hb trivial (EU hm hS c vc hc (B:=w.heap.size) none none 0 _ _ M ρ w _ h hH ?_ (Mks.nil (ze _)) (.inl ⟨rfl,rfl⟩) _ ?_) rfl)
 .have hl:args.length=aw.size:=by have:=hL.1;simpa using this
  have:=hL.append (Lj (ρ:=ρ) (n:=M.n) (fn.ntmps-args.length));simpa [hl] using this
 .intro e a' w' ⟨af,ρ',M',k1,_,k2,k3,⟨_,Ds,k4,k6,k7⟩,k5⟩;have fin:(QX (Zv af M' rs) λv=>∃ v' aE,DropTo M v M' v' aE/\R v' aE)->LeavesInM Fence.wide 0 P fn a'.tmps (λe w'=>∃ c,e=.returned c/\Got ρ M w R c w') a'.defers .returning w':=by
   intro hk;rw[k4];refine L4 (λw1 jr fX=>?_) Ds w' k6 k7 k2 k5;cases hv:Zv af M' rs with
   |none=>rw[hv] at hk;exact hk.elim
   |some v =>rw[hv] at hk;obtain⟨v',aE,hd,hR⟩:=hk;obtain⟨c,fU,iz⟩:=Ti jr k3 hr hv;obtain⟨eZ,j1,j2,j3⟩:=hd ρ w ρ' w1 c hH fX jr fU;exact⟨c,iz,c,rfl,v',eZ,aE,hR,j1,j2,j3⟩
  cases e with
  |normal=>exact fin k1
  |ret=>exact fin k1
  |_=>exact k1.elim
end
end Go.V
namespace Go.V
open Go
def Fun (P:Program) (f:FuncId) (vc:VCode) (rs:List VResult) (nt:Nat):Prop :=
 ∃ fn,P.funcs[f]?=some fn/\fn.body.bind (comp P)=some vc/\UD P fn.results.toList=some rs/\fn.ntmps=nt/\(fn.name=="runtime.NumGoroutine")=false
def Z20 (M:Heap) (rs:List VResult) (R:Value->Heap->Prop):Exit->Env->Heap->Prop:=Q9e rs λv σf=>∃ v' M',DropTo M v σf v' M'/\R v' M'
section
variable {P:Program}{S:VSpecs}{f:FuncId}{vc:VCode}{rs:List VResult}{nt:Nat}
theorem Fun.calls (h:Fun P f vc rs nt) (hm:P.follows .mixedOrders=true) (hS:OkSpecs P S) {args:List Value}{M:Heap}{R:Value->Heap->Prop}
  (hw:vwp S vc none (Z20 M rs R) (args++List.replicate (nt-args.length) undef) M):VCalled P f args M R:=by
 obtain⟨fn,h1,h2,h3,h4,h5⟩:=h;cases hb:fn.body with
 |none=>rw[hb] at h2;cases h2
 |some c =>rw[hb] at h2;exact VCallsTo.called ⟨fn,h1,by rw[hb];rfl,h5⟩ (BY hm hS h1 hb h2 h3 (by rw[h4];exact hw))
theorem Fun.enterable (h:Fun P f vc rs nt):Jh P f:=by
 obtain⟨fn,h1,h2,h3,h4,h5⟩:=h;refine⟨fn,h1,?_,h5⟩;cases hb:fn.body with
 |none=>rw[hb] at h2;cases h2
 |some c=>rfl
theorem Fun.callsTo (h:Fun P f vc rs nt) (hm:P.follows .mixedOrders=true) (hS:OkSpecs P S) {args:List Value}{M:Heap}{R:Value->Heap->Prop}
  (hw:vwp S vc none (Z20 M rs R) (args++List.replicate (nt-args.length) undef) M):VCallsTo P f args M R:=by
 obtain⟨fn,h1,h2,h3,h4,h5⟩:=h;cases hb:fn.body with
 |none=>rw[hb] at h2;cases h2
 |some c =>rw[hb] at h2;exact BY hm hS h1 hb h2 h3 (by rw[h4];exact hw)
def Q2 (P:Program):VSpecs where
 fn f:=some λargs M K=>VCalled P f args M K
 yl i:=some λargs M K=>VYields P i args M K
 it f:=@ite _ (Jh P f) (Classical.propDecidable _) (some λi Y args M K=>KE P i Y->VCallsTo P f args M K) none
theorem Dw:OkSpecs P (Q2 P) :=
  ⟨λf s h => by obtain rfl:=osj h; exactλargs M K h => h,
   λf s h => by obtain rfl:=osj h; exactλargs M K h => h,
   λf T h => by
    simp only [Q2] at h;split at h
    . rename_i he; obtain rfl:=osj h; exact ⟨he, λi Y hY args M K h => h hY⟩
    . cases h⟩
end
theorem SW {x:Int}(h:-9223372036854775808<=x/\x<=9223372036854775807):IntKind.i64.wrap x=x:=IntWalk.i64_in x (by omega)
end Go.V
namespace Go.V
open Go
inductive EB where
 |cells (c:List Value) (esz:El) (wr tight:Bool)
 |map (es:List JD) (clock:Nat) (wr:Bool)
 |iter (m since:Nat) (seen:List Nat) (last:Nat)
 |lp (st:LoopState) (pend:Option Code)
inductive GT (α:Type) where
 |nil
 |node (v:α) (l r:GT α)
def GT.get {α:Type}(d:α) (t:GT α):Nat->α :=
 GT.rec (motive:=λ_=>Nat->α) (λ_=>d)
  (λv _ _ gl gr i=>Bool.rec (motive:=λ_=>α) (Bool.rec (motive:=λ_=>α) (gr (i / 2-1)) (gl (i / 2)) (Nat.beq (i % 2) 1)) v (Nat.beq i 0)) t
def GT.set {α:Type}(d:α) (f:Nat):GT α->Nat->α->GT α :=
 Nat.rec (motive:=λ_=>GT α->Nat->α->GT α) (λt _ _=>t)
  (λ_ ih t i b=>GT.rec (motive:=λ_=>GT α)
   (Bool.rec (motive:=λ_=>GT α) (Bool.rec (motive:=λ_=>GT α) (.node d .nil (ih .nil (i / 2-1) b)) (.node d (ih .nil (i / 2) b) .nil) (Nat.beq (i % 2) 1)) (.node b .nil .nil) (Nat.beq i 0))
   (λv l r _ _=>Bool.rec (motive:=λ_=>GT α) (Bool.rec (motive:=λ_=>GT α) (.node v l (ih r (i / 2-1) b)) (.node v (ih l (i / 2) b) r) (Nat.beq (i % 2) 1)) (.node b l r) (Nat.beq i 0)) t) f
theorem GT.q0z {α:Type}(d v:α) (l r:GT α) (k:Nat):(GT.node v l r).get d k=if k=0 then v else if k % 2=1 then l.get d (k / 2) else r.get d (k / 2-1):=by
 show (Bool.rec (motive:=λ_=>α) (Bool.rec (motive:=λ_=>α) (r.get d (k / 2-1)) (l.get d (k / 2)) (Nat.beq (k % 2) 1)) v (Nat.beq k 0))=_;by_cases h0:k=0
 .subst h0;rfl
 .have:Nat.beq k 0=false:=by
   cases h:Nat.beq k 0 with
   |false=>rfl
   |true=>exact absurd (zM h) h0
  rw[this,z8 h0];by_cases h1:k % 2=1
  .rw[z7 h1,h1];rfl
  .have:Nat.beq (k % 2) 1=false:=by
    cases h:Nat.beq (k % 2) 1 with
    |false=>rfl
    |true=>exact absurd (zM h) h1
   rw[this,z8 h1]
theorem GT.q2e {α:Type}(d v:α) (f:Nat) (l r:GT α) (i:Nat) (b:α):(GT.node v l r).set d (f+1) i b=if i=0 then .node b l r else if i % 2=1 then .node v (l.set d f (i / 2) b) r else .node v l (r.set d f (i / 2-1) b):=by
 show (Bool.rec (motive:=λ_=>GT α) (Bool.rec (motive:=λ_=>GT α) (.node v l (r.set d f (i / 2-1) b)) (.node v (l.set d f (i / 2) b) r) (Nat.beq (i % 2) 1)) (.node b l r) (Nat.beq i 0))=_;by_cases h0:i=0
 .subst h0;rfl
 .have:Nat.beq i 0=false:=by
   cases h:Nat.beq i 0 with
   |false=>rfl
   |true=>exact absurd (zM h) h0
  rw[this,z8 h0];by_cases h1:i % 2=1
  .rw[z7 h1,h1];rfl
  .have:Nat.beq (i % 2) 1=false:=by
    cases h:Nat.beq (i % 2) 1 with
    |false=>rfl
    |true=>exact absurd (zM h) h1
   rw[this,z8 h1]
theorem GT.set_nil {α:Type}(d:α) (f i:Nat) (b:α):(GT.nil:GT α).set d (f+1) i b=(GT.node d .nil .nil).set d (f+1) i b:=rfl
theorem GT.q1e {α:Type}(d:α):∀ (f:Nat) (t:GT α) (i:Nat) (b:α) (j:Nat),i+1<2 ^ f->(t.set d f i b).get d j=if j=i then b else t.get d j:=by
 intro f;induction f with
 |zero=>intro t i b j h;simp at h
 |succ f ih =>
  intro t i b j h;have hp:2 ^ (f+1)=2*2 ^ f:=by rw[Nat.pow_succ];omega
  have gW:∀ v l r,((GT.node v l r).set d (f+1) i b).get d j=if j=i then b else (GT.node v l r).get d j:=by
   intro v l r;rw[GT.q2e];by_cases hi:i=0
   .subst hi;rw[z7 rfl,GT.q0z,GT.q0z];split<;>rfl
   .rw[z8 hi];by_cases ho:i % 2=1
    .rw[z7 ho,GT.q0z,GT.q0z,ih _ _ _ _ (by omega)];by_cases jl:j=0
     .subst jl;rw[z7 rfl,z8 (Ne.symm hi),z7 rfl]
     .rw[z8 jl,z8 jl];by_cases iX:j % 2=1
      .rw[z7 iX,z7 iX];by_cases aM:j=i
       .subst aM;simp
       .rw[z8 aM,z8 (by omega)]
      .rw[z8 iX,z8 iX,z8 (by rintro rfl;exact iX ho)]
    .rw[z8 ho,GT.q0z,GT.q0z,ih _ _ _ _ (by omega)];by_cases jl:j=0
     .subst jl;rw[z7 rfl,z8 (Ne.symm hi),z7 rfl]
     .rw[z8 jl,z8 jl];by_cases iX:j % 2=1
      .rw[z7 iX,z7 iX,z8 (by rintro rfl;exact ho iX)]
      .rw[z8 iX,z8 iX];by_cases aM:j=i
       .subst aM;simp
       .rw[z8 aM,z8 (by omega)]
  cases t with
  |node v l r=>exact gW v l r
  |nil =>
   rw[GT.set_nil,gW d .nil .nil,GT.q0z];split
   .rfl
   .split
    .rfl
    .split<;>rfl
structure CH where
 t:GT (Option EB)
 n:Nat
def CH.get (h:CH) (i:Nat):Option EB:=Bool.rec (motive:=λ_=>Option EB) none (h.t.get none i) (Nat.blt i h.n)
def CH.upd (h:CH) (i:Nat) (b:EB):CH:=⟨h.t.set none 32 i (some b),h.n⟩
def CH.kill (h:CH) (i:Nat):CH:=⟨h.t.set none 32 i none,h.n⟩
def CH.push (h:CH) (b:EB):CH:=⟨h.t.set none 32 h.n (some b),h.n+1⟩
def CH.room (h:CH):Bool:=Nat.ble h.n 1000000000
def CH.empty:CH:=⟨.nil,0⟩
theorem CH.q0v {h:CH}{i:Nat}(hi:i<h.n):h.get i=h.t.get none i:=by unfold CH.get;rw[show Nat.blt i h.n=true from Nat.ble_eq_true_of_le hi]
theorem CH.q0t {h:CH}{i:Nat}(hi:h.n<=i):h.get i=none:=by
 unfold CH.get;cases hb:Nat.blt i h.n with
 |false=>rfl
 |true=>have:=zG hb;omega
theorem CH.q2l {h:CH}{i:Nat}{b:EB}(hi:i<h.n) (hs:h.n<=1000000001) (j:Nat):(h.upd i b).get j=if j=i then some b else h.get j:=by
 rcases zl j h.n with hj|hj
 .rw[CH.q0v (h:=h.upd i b) hj,CH.q0v hj];exact GT.q1e none 32 _ _ _ _ (by omega)
 .rw[CH.q0t (h:=h.upd i b) hj,CH.q0t hj,z8 (by omega)]
theorem CH.q2g {h:CH}{i:Nat}(hi:i<h.n) (hs:h.n<=1000000001) (j:Nat):(h.kill i).get j=if j=i then none else h.get j:=by
 rcases zl j h.n with hj|hj
 .rw[CH.q0v (h:=h.kill i) hj,CH.q0v hj];exact GT.q1e none 32 _ _ _ _ (by omega)
 .rw[CH.q0t (h:=h.kill i) hj,CH.q0t hj];simp
theorem CH.q1s {h:CH}{b:EB}(hs:h.n<=1000000001) (j:Nat):(h.push b).get j=if j=h.n then some b else h.get j:=by
 rcases zl j (h.n+1) with hj|hj
 .rw[CH.q0v (h:=h.push b) hj];show (h.t.set none 32 h.n (some b)).get none j=_;rw[GT.q1e none 32 _ _ _ _ (by omega)];split
  .rfl
  .rw[CH.q0v (by omega)]
 .rw[CH.q0t (h:=h.push b) hj,CH.q0t (by omega),z8 (by omega)]
def EB.to (q:Env×Loop):EB->Blk
 |.cells c e w t=>.cells c e w t
 |.map es cl w=>.obj (.map es cl) w
 |.iter m s sn l=>.obj (.iter m s sn l) true
 |.lp st pend=>.obj (.lp q.1 q.2 st pend) true
structure CSim (rs:Nat->Env×Loop) (h:CH) (M:Heap):Prop where
 n:h.n=M.n
 sm:h.n<=1000000001
 get:∀ i,M.get i=(h.get i).map (EB.to (rs i))
theorem CSim.cells {rs:Nat->Env×Loop}{h:CH}{M:Heap}(hs:CSim rs h M) {i:Nat}{c:List Value}{e:El}{w t:Bool}(hg:h.get i=some (.cells c e w t)):M.get i=some (.cells c e w t):=by rw[hs.get,hg];rfl
theorem CSim.map {rs:Nat->Env×Loop}{h:CH}{M:Heap}(hs:CSim rs h M) {i:Nat}{es:List JD}{cl:Nat}{w:Bool}(hg:h.get i=some (.map es cl w)):M.get i=some (.obj (.map es cl) w):=by rw[hs.get,hg];rfl
theorem CSim.iter {rs:Nat->Env×Loop}{h:CH}{M:Heap}(hs:CSim rs h M) {i m s:Nat}{sn:List Nat}{l:Nat}(hg:h.get i=some (.iter m s sn l)):M.get i=some (.obj (.iter m s sn l) true):=by rw[hs.get,hg];rfl
theorem CSim.lp {rs:Nat->Env×Loop}{h:CH}{M:Heap}(hs:CSim rs h M) {i:Nat}{st:LoopState}{pend:Option Code}(hg:h.get i=some (.lp st pend)):M.get i=some (.obj (.lp (rs i).1 (rs i).2 st pend) true):=by rw[hs.get,hg];rfl
theorem CSim.lt {rs:Nat->Env×Loop}{h:CH}{M:Heap}(hs:CSim rs h M) {i:Nat}{b:EB}(hg:h.get i=some b):i<h.n:=by
 have:M.get i=some (b.to (rs i)):=by rw[hs.get,hg];rfl
 rw[hs.n];exact M.lt this
theorem CSim.upd {rs:Nat->Env×Loop}{h:CH}{M:Heap}(hs:CSim rs h M) {i:Nat}(hi:i<h.n) {b:EB}{b':Blk}(hb:b.to (rs i)=b'):CSim rs (h.upd i b) (M.upd i b'):=by
 refine⟨hs.n,hs.sm,λj=>?_⟩;rw[CH.q2l hi hs.sm];show (if j=i/\i<M.n then some b' else M.get j)=_;by_cases hj:j=i
 .subst hj;rw[z7 ⟨rfl,by rw[<-hs.n];exact hi⟩,z7 rfl,<-hb];rfl
 .rw[z8 (λe=>hj e.1),z8 hj];exact hs.get j
theorem CSim.kill {rs:Nat->Env×Loop}{h:CH}{M:Heap}(hs:CSim rs h M) {i:Nat}(hi:i<h.n):CSim rs (h.kill i) (M.kill i):=by
 refine⟨hs.n,hs.sm,λj=>?_⟩;rw[CH.q2g hi hs.sm];show (if j=i then none else M.get j)=_;by_cases hj:j=i
 .rw[z7 hj,z7 hj];rfl
 .rw[z8 hj,z8 hj];exact hs.get j
theorem CSim.push {rs:Nat->Env×Loop}{h:CH}{M:Heap}(hs:CSim rs h M) (hr:h.room=true) {b:EB}{b':Blk}(hb:b.to (rs h.n)=b'):CSim rs (h.push b) (M.push b'):=by
 have hr:h.n<=1000000000:=zG hr;refine⟨by show h.n+1=M.n+1;rw[hs.n],by show h.n+1<=_;omega,λj=>?_⟩;rw[CH.q1s hs.sm];show (if j=M.n then some b' else M.get j)=_;rw[<-hs.n];by_cases hj:j=h.n
 .subst hj;rw[z7 rfl,z7 rfl,<-hb];rfl
 .rw[z8 hj,z8 hj];exact hs.get j
theorem CSim.rs {rs bk:Nat->Env×Loop}{h:CH}{M:Heap}(hs:CSim rs h M) (hr:∀ i,i<h.n->bk i=rs i):CSim bk h M :=
 ⟨hs.n,hs.sm,λi=>by
  rw[hs.get];cases hg:h.get i with
  |none=>rfl
  |some b=>rw[hr i (hs.lt hg)]⟩
def CH.sl (M:CH) (esz:Nat):Value->Option (List Value)
 |.slice none 0 0=>some []
 |.slice (some ⟨i,o,none⟩) n _ =>
  match M.get i with
  |some (.cells c e _ _)=>if e.sz=esz/\o+n*esz<=c.length then some ((c.drop o).take (n*esz)) else none
  |_=>none
 |_=>none
def CH.mapAt (M:CH) (m:Nat):Option (List JD×Nat×Bool):=match M.get m with
 |some (.map es clock wr)=>some (es,clock,wr)
 |_=>none
def NB (M:CH) (b:EB) (v:Value):Option (Value×CH):=if M.room=true then some (v,M.push b) else none
def RZ (esz:El) (bytes:Nat) (M:CH) (s:Value) (m:Nat) (xs:List Value):Option (Value×CH) :=
 match s with
 |.slice none 0 0 =>
  if m=0 then some (s,M) else
  if m*bytes<=2 ^ 46 then NB M (.cells xs esz true false) (.slice (some ⟨M.n,0,none⟩) m m) else none
 |.slice (some ⟨i,o,none⟩) n cap =>
  match M.get i with
  |some (.cells c e wr tight) =>
   if e=esz/\n<=cap/\o+n*esz.sz<=c.length then
    if m=0 then some (s,M) else
    if n+m<=cap then
     (if wr=true/\o+(n+m)*esz.sz<=c.length then some (.slice (some ⟨i,o,none⟩) (n+m) cap,M.upd i (.cells (Yq c (o+n*esz.sz) xs) e wr tight)) else none)
    else if (n+m)*bytes<=2 ^ 46 then
     (if tight then NB M (.cells ((c.drop o).take (n*esz.sz)++xs) esz true false) (.slice (some ⟨M.n,0,none⟩) (n+m) (n+m))
     else if wr then NB (M.kill i) (.cells ((c.drop o).take (n*esz.sz)++xs) esz true false) (.slice (some ⟨M.n,0,none⟩) (n+m) (n+m))
     else none)
    else none
   else none
  |_=>none
 |.slice (some ⟨i,o,some 0⟩) n cap =>
  match M.get i with
  |some (.cells c e _ _) =>
   if e=esz/\n=cap/\o+n*esz.sz<=c.length/\m≠0/\(n+m)*bytes<=2 ^ 46 then
    NB M (.cells ((c.drop o).take (n*esz.sz)++xs) esz true false) (.slice (some ⟨M.n,0,none⟩) (n+m) (n+m))
   else none
  |_=>none
 |_=>none
def An (size:Nat) (M:CH) (s:Value) (l h:Nat) (m:Option Nat):Option (Value×CH) :=
 match s with
 |.slice none 0 0=>if l=0/\h=0/\(m.getD 0)=0 then some (.slice none 0 0,M) else none
 |.slice (some ⟨i,o,none⟩) _ cap =>
  match M.get i with
  |some (.cells _ e _ t) =>
   match m with
   |none=>if e.sz=size/\l<=h/\h<=cap then some (.slice (some ⟨i,o+l*size,none⟩) (h-l) (cap-l),M) else none
   |some m =>
    if e.sz=size/\l<=h/\h<=m/\m<=cap then
     if m=l then NB M (.cells [] e false true) (.slice (some ⟨M.n,0,none⟩) 0 0)
     else if t=false/\h=m then some (.slice (some ⟨i,o+l*size,some 0⟩) (h-l) (m-l),M)
     else some (.slice (some ⟨i,o+l*size,none⟩) (h-l) (m-l),M)
    else none
  |_=>none
 |_=>none
def Q74:Nat->Value->Value->CH->Option Bool
 |0,.pointer none,.pointer none,_=>some true
 |0,.pointer none,.pointer (some _),_=>some false
 |0,.pointer (some _),.pointer none,_=>some false
 |0,.pointer (some ⟨i,o,none⟩),.pointer (some ⟨j,q,none⟩),M=>if i=j/\o=q/\(M.get i).isSome=true then some true else none
 |1,.slice none _ _,.slice none _ _,_=>some true
 |1,.slice none _ _,.slice (some _) _ _,_=>some false
 |1,.slice (some _) _ _,.slice none _ _,_=>some false
 |2,.map none,.map none,_=>some true
 |2,.map none,.map (some _),_=>some false
 |2,.map (some _),.map none,_=>some false
 |3,.nilFunc,.nilFunc,_=>some true
 |3,.nilFunc,.func _ _ _,_=>some false
 |3,.func _ _ _,.nilFunc,_=>some false
 |_,_,_,_=>none
def W1 (o:XOp) (ev:Operand->Value) (M:CH):Option (Value×CH) :=
 match o with
 |.eqAgg neg s x y=>match ev x,ev y with
  |.agg a,.agg b=>if fits s a.toList=true/\fits s b.toList=true then some (.bool (if neg then !(Qo a.toList b.toList) else Qo a.toList b.toList),M) else none
  |_,_=>none
 |.eqNil kd neg x y=>match Q74 kd (ev x) (ev y) M with|some b=>some (.bool (if neg then !b else b),M)|none=>none
 |.makeMap=>NB M (.map [] 0 true) (.map (some M.n))
 |.lookup mk z ok x i =>
  let k:=ev i
  if Zn mk k then
   match ev x with
   |.map none=>some (if ok then .tuple #[z,.bool false] else z,M)
   |.map (some m)=>match M.mapAt m with
    |some (es,_,_)=>if es.all (λe=>Zn mk e.1) then
      (match Qj k es with
      |some e=>some (if ok then .tuple #[e.2.1,.bool true] else e.2.1,M)
      |none=>some (if ok then .tuple #[z,.bool false] else z,M)) else none
    |none=>none
   |_=>none
  else none
 |.mapUpdate mk m k v=>match ev m with
  |.map (some i)=>match M.mapAt i with
   |some (es,clock,true)=>if Zn mk (ev k)&&es.all (λe=>Zn mk e.1) then some (undef,M.upd i (.map (Qu (ev k) (ev v) clock es).1 (Qu (ev k) (ev v) clock es).2 true)) else none
   |_=>none
  |_=>none
 |.delete mk m k=>match ev m with
  |.map (some i)=>match M.mapAt i with
   |some (es,clock,true)=>if Zn mk (ev k)&&es.all (λe=>Zn mk e.1) then some (.tuple #[],M.upd i (.map (H2 (ev k) es) clock true)) else none
   |_=>none
  |_=>none
 |.lenMap x=>match ev x with
  |.map none=>some (.int .i64 0,M)
  |.map (some m)=>match M.mapAt m with
   |some (es,_,_)=>some (.int .i64 es.length,M)
   |none=>none
  |_=>none
 |.rangeMap x=>match ev x with
  |.map (some m)=>match M.mapAt m with
   |some (_,clock,_)=>NB M (.iter m clock [] clock) (.pointer (some ⟨M.n,0,none⟩))
   |none=>none
  |_=>none
 |.entry x=>match ev x with
  |.pointer (some ⟨i,0,none⟩)=>match M.get i with
   |some (.iter m _ seen last)=>match M.mapAt m,seen.getLast? with
    |some (es,clock,_),some b=>if clock=last then (match es.find? (λe=>e.2.2==b) with|some e=>if Vx e.1 then some (.tuple #[e.1,e.2.1],M) else none|none=>none) else none
    |_,_=>none
   |_=>none
  |_=>none
 |.copy size d s=>match ev d,ev s with
  |.slice db dn _,.slice sb sn sc =>
   if min sn dn=0 then some (.int .i64 0,M) else
   match db,M.sl size (.slice sb (min sn dn) sc) with
   |some ⟨i,o,none⟩,some xs=>match M.get i with
    |some (.cells c e wr tight)=>if wr=true/\e.sz=size/\o+xs.length<=c.length/\xs.all cellOk=true then some (.int .i64 (min sn dn:Nat),M.upd i (.cells (Yq c o xs) e wr tight)) else none
    |_=>none
   |_,_=>none
  |_,_=>none
 |.clear z x=>match ev x with
  |.slice b n _ =>
   if n=0 then some (.tuple #[],M) else
   match b with
   |some ⟨i,o,none⟩=>match M.get i with
    |some (.cells c e wr tight)=>if wr=true/\o+n*z.length<=c.length/\z.all cellOk=true then some (.tuple #[],M.upd i (.cells (Yq c o (HE n z)) e wr tight)) else none
    |_=>none
   |_=>none
  |_=>none
 |.toUnsafe x=>match ev x with
  |.pointer none=>some (.pointer none,M)
  |.pointer (some ⟨i,o,none⟩)=>match M.get i with
   |some (.cells c _ _ _)=>if o<c.length then some (.pointer (some ⟨i,o,none⟩),M) else none
   |_=>none
  |_=>none
 |.fromUnsafe u size x=>match ev x with
  |.pointer none=>some (.pointer none,M)
  |.pointer (some ⟨i,o,none⟩)=>match M.get i with
   |some (.cells c e true true)=>if o=0/\e.ty=u/\size<=c.length then some (.pointer (some ⟨i,o,none⟩),M) else none
   |_=>none
  |_=>none
 |.sliceData x=>match ev x with
  |.slice none _ _=>some (.pointer none,M)
  |.slice (some ⟨i,o,none⟩) _ cap=>if cap≠0/\(M.get i).isSome=true then some (.pointer (some ⟨i,o,none⟩),M) else none
  |_=>none
 |.unsafeStr e x n=>match ev x,ev n with
  |.pointer p,.int .i64 k =>
   if k=0 then some (.string ⟨#[]⟩,M) else
   match p with
   |some ⟨i,o,none⟩=>match M.get i with
    |some (.cells c el true tight) =>
     if 0<k/\k<=2 ^ 62/\el.ty=e/\o+k.toNat<=c.length then
      (match H4 ((c.drop o).take k.toNat) with
      |some s=>some (.string s,M.upd i (.cells c el false tight))
      |none=>none) else none
    |_=>none
   |_=>none
  |_,_=>none
 |.bytesStr x=>match ev x with
  |.slice a n c=>match M.sl 1 (.slice a n c) with
   |some xs=>match H4 xs with|some s=>some (.string s,M)|none=>none
   |none=>none
  |_=>none
 |.strBytes e x=>match ev x with
  |.string s=>if s.size<=2 ^ 62 then NB M (.cells (s.data.toList.map λb=>.int .u8 b.toNat) ⟨1,e⟩ true false) (.slice (some ⟨M.n,0,none⟩) s.size s.size) else none
  |_=>none
 |_=>none
def Heap.empty:Heap:=⟨λ_=>none,0,λ_ _=>rfl⟩
def OL (o:VOp) (ev:Operand->Value) (M:CH):Option (Value×CH) :=
 match o with
 |.alloc t z=>NB M (.cells z ⟨z.length,t⟩ true true) (.pointer (some ⟨M.n,0,none⟩))
 |.box t x=>match KN (ev x) with
  |some vs=>NB M (.cells vs ⟨vs.length,t⟩ true true) (.pointer (some ⟨M.n,0,none⟩))
  |none=>none
 |.buildSlice esz z len parts=>match Mw (HE len z) (parts.map λp=>(p.1*esz.sz,esz.sz,ev p.2)) with
  |some cs=>NB M (.cells cs esz true true) (.slice (some ⟨M.n,0,none⟩) len len)
  |none=>none
 |.load agg size a=>match ev a with
  |.pointer (some ⟨g,o,some _⟩)=>(match Q19 g with
   |some c=>if c.all QN then (match Xl agg size c o with|some v=>some (v,M)|none=>none) else none
   |none=>none)
  |.pointer (some ⟨i,o,none⟩)=>match M.get i with
   |some (.cells c _ _ _)=>match Xl agg size c o with|some v=>some (v,M)|none=>none
   |_=>none
  |_=>none
 |.store size a v=>match ev a,KN (ev v) with
  |.pointer (some ⟨i,o,none⟩),some vs=>match M.get i with
   |some (.cells c e wr tight)=>if wr=true/\vs.length=size/\o+size<=c.length/\vs.all cellOk=true then some (undef,M.upd i (.cells (Yq c o vs) e wr tight)) else none
   |_=>none
  |_,_=>none
 |.slice size x lo hi mx =>
  match ev x with
  |.slice a n cap =>
   match J8 ev lo 0,J8 ev hi n,mx with
   |some l,some h,none=>An size M (.slice a n cap) l h none
   |some l,some h,some _=>match J8 ev mx 0,hi with
    |some m,some _=>An size M (.slice a n cap) l h (some m)
    |_,_=>none
   |_,_,_=>none
  |_=>none
 |.makeSlice esz bytes z l c =>
  match ev l,ev c with
  |.int _ a,.int _ b=>if 0<=a/\a<=b/\b*bytes<=2 ^ 46/\b<=2 ^ 46 then NB M (.cells (HE b.toNat z) esz true true) (.slice (some ⟨M.n,0,none⟩) a.toNat b.toNat) else none
  |_,_=>none
 |.append esz bytes s x =>
  match M.sl esz.sz (ev x),ev x with
  |some xs,.slice _ m _=>if xs.all cellOk then RZ esz bytes M (ev s) m xs else none
  |_,_=>none
 |.ext o=>W1 o ev M
 |o=>if o.kind=0 then (match Q7 o ev Heap.empty with|some p=>some (p.1,M)|none=>none) else none
def ESnd (rs:Nat->Env×Loop) (h:CH) (_σ:Heap) (r:Option (Value×Heap)) (p:Value×CH):Prop:=h.n<=p.2.n/\∃ M',r=some (p.1,M')/\CSim rs p.2 M'
theorem ESnd.same {rs:Nat->Env×Loop}{h:CH}{M:Heap}(hs:CSim rs h M) {r:Option (Value×Heap)}{v:Value}(hr:r=some (v,M)):ESnd rs h M r (v,h):=⟨ze _,M,hr,hs⟩
theorem ESnd.upd {rs:Nat->Env×Loop}{h:CH}{M:Heap}(hs:CSim rs h M) {r:Option (Value×Heap)}{v:Value}{i:Nat}{b:EB}{b0:EB}(hg:h.get i=some b0) {b':Blk}(hb:b.to (rs i)=b') (hr:r=some (v,M.upd i b')):ESnd rs h M r (v,h.upd i b):=by have hi:=hs.lt hg;have na:=hs.sm;exact⟨ze _,_,hr,hs.upd hi hb⟩
theorem ESnd.push {rs:Nat->Env×Loop}{h:CH}{M:Heap}(hs:CSim rs h M) {r:Option (Value×Heap)}{v:Value}{p:Value×CH}{b:EB}(hp:NB h b v=some p) {b':Blk}(hb:b.to (rs h.n)=b') (hr:r=some (v,M.push b')):ESnd rs h M r p:=by
 unfold NB at hp;split at hp
 .rename_i aX;obtain rfl:=osj hp;have na:=hs.sm;exact⟨Nat.le_succ _,_,hr,hs.push aX hb⟩
 .cases hp
theorem CSim.sl {rs:Nat->Env×Loop}{h:CH}{M:Heap}(hs:CSim rs h M) {esz:Nat}{v:Value}{xs:List Value}(hx:h.sl esz v=some xs):M.sl esz v=some xs:=by
 unfold CH.sl at hx;unfold Heap.sl;split at hx
 .exact hx
 .rename_i i o n c;split at hx
  .rename_i cs e wr t hb;simp only[hs.cells hb];exact hx
  .cases hx
 .cases hx
theorem CSim.mapAt {rs:Nat->Env×Loop}{h:CH}{M:Heap}(hs:CSim rs h M) {m:Nat}{x:List JD×Nat×Bool}(hx:h.mapAt m=some x):M.mapAt m=some x/\h.get m=some (.map x.1 x.2.1 x.2.2):=by
 unfold CH.mapAt at hx;unfold Heap.mapAt;split at hx
 .rename_i es clock wr hb;obtain rfl:=osj hx;exact⟨by simp only[hs.map hb],hb⟩
 .cases hx
theorem Cb {rs:Nat->Env×Loop}{h:CH}{M:Heap}(hs:CSim rs h M) {kd:Nat}{a b:Value}{r:Bool}(hx:Q74 kd a b h=some r):Jf kd a b M=some r:=by
 unfold Q74 at hx;unfold Jf
 split at hx<;>first
  |exact hx
  |(cases hx;done)
  |skip
 rename_i i o j q;split at hx
 .rename_i hc;obtain⟨h1,h2,h3⟩:=hc;have cI:i=j/\o=q/\(M.get i).isSome=true:=⟨h1,h2,by rw[hs.get];simpa using h3⟩;simp only[z7 cI];exact hx
 .cases hx
theorem RJ {rs:Nat->Env×Loop}{h:CH}{M:Heap}(hs:CSim rs h M) {esz:El}{bytes:Nat}{s:Value}{m:Nat}{xs:List Value}{p:Value×CH}(hx:RZ esz bytes h s m xs=some p):ESnd rs h M (YD esz bytes M s m xs) p:=by
 unfold RZ at hx;unfold YD;split at hx
 .split at hx
  .rename_i hm;simp only[z7 hm];obtain rfl:=osj hx;exact .same hs rfl
  .rename_i hm;simp only[z8 hm];split at hx
   .rename_i hb;simp only[z7 hb];rw[hs.n] at hx;exact .push hs hx rfl rfl
   .cases hx
 .rename_i i o n cap;split at hx
  .rename_i c e wr tight hg;have na:=hs.sm;have hi:=hs.lt hg;simp only[hs.cells hg];split at hx
   .rename_i h1;simp only[z7 h1];split at hx
    .rename_i h2;simp only[z7 h2];obtain rfl:=osj hx;exact .same hs rfl
    .rename_i h2;simp only[z8 h2];split at hx
     .rename_i h3;simp only[z7 h3];split at hx
      .rename_i h4;simp only[z7 h4];obtain rfl:=osj hx;exact .upd hs hg rfl rfl
      .cases hx
     .rename_i h3;simp only[z8 h3];split at hx
      .rename_i h4;simp only[z7 h4];split at hx
       .rename_i h5;simp only[z7 h5];rw[hs.n] at hx;exact .push hs hx rfl rfl
       .rename_i h5;simp only[z8 h5];split at hx
        .rename_i h6;simp only[z7 h6];rw[hs.n] at hx;have hk:=hs.kill hi;obtain⟨k1,M',k2,k3⟩:=ESnd.push (r:=some (.slice (some ⟨M.n,0,none⟩) (n+m) (n+m),(M.kill i).push (.cells ((c.drop o).take (n*esz.sz)++xs) esz true false))) hk hx rfl rfl;exact⟨k1,M',k2,k3⟩
        .cases hx
      .cases hx
   .cases hx
  .cases hx
 .rename_i i o n cap;split at hx
  .rename_i c e wr tight hg;simp only[hs.cells hg];split at hx
   .rename_i h1;simp only[z7 h1];rw[hs.n] at hx;exact .push hs hx rfl rfl
   .cases hx
  .cases hx
 .cases hx
theorem BZ {rs:Nat->Env×Loop}{h:CH}{M:Heap}(hs:CSim rs h M) {size:Nat}{s:Value}{l k:Nat}{m:Option Nat}{p:Value×CH}(hx:An size h s l k m=some p):ESnd rs h M (WU size M s l k m) p:=by
 unfold An at hx;unfold WU;split at hx
 .split at hx
  .rename_i hm;simp only[z7 hm];obtain rfl:=osj hx;exact .same hs rfl
  .cases hx
 .rename_i i o n cap;split at hx
  .rename_i c e wr tight hg;simp only[hs.cells hg];split at hx
   .split at hx
    .rename_i h1;simp only[z7 h1];obtain rfl:=osj hx;exact .same hs rfl
    .cases hx
   .split at hx
    .rename_i h1;simp only[z7 h1];split at hx
     .rename_i h2;simp only[z7 h2];rw[hs.n] at hx;exact .push hs hx rfl rfl
     .rename_i h2;simp only[z8 h2];split at hx
      .rename_i h3;simp only[z7 h3];obtain rfl:=osj hx;exact .same hs rfl
      .rename_i h3;simp only[z8 h3];obtain rfl:=osj hx;exact .same hs rfl
    .cases hx
  .cases hx
 .cases hx
theorem Pw {rs:Nat->Env×Loop}{h:CH}{M:Heap}(hs:CSim rs h M) {o:XOp}{ev:Operand->Value}{p:Value×CH}(hx:W1 o ev h=some p):ESnd rs h M (Zg o ev M) p:=by
 cases o
 case eqAgg neg s x y =>
  simp only[W1] at hx;simp only[Zg];split at hx
  .rename_i a b ha hb;split at hx
   .rename_i hc;rw[ha,hb];simp only;rw[z7 hc];obtain rfl:=osj hx;exact .same hs rfl
   .cases hx
  .cases hx
 case eqNil kd neg x y =>
  simp only[W1] at hx;simp only[Zg];split at hx
  .rename_i b hb;rw[Cb hs hb];obtain rfl:=osj hx;exact .same hs rfl
  .cases hx
 case makeMap =>
  simp only[W1] at hx;simp only[Zg];rw[hs.n] at hx;exact .push hs hx rfl rfl
 case lookup mk z ok x i =>
  simp only[W1] at hx;simp only[Zg];generalize ev x=q0 at hx |-;generalize ev i=q1 at hx |-;split at hx
  .rename_i hk;simp only[z7 hk];split at hx
   .obtain rfl:=osj hx;exact .same hs rfl
   .rename_i m hm;split at hx
    .rename_i es cl wr ic;obtain⟨k1,k2⟩:=hs.mapAt ic;simp only[k1];split at hx
     .rename_i ae;simp only[z7 ae];split at hx
      .rename_i e hf;simp only[hf];obtain rfl:=osj hx;exact .same hs rfl
      .rename_i hf;simp only[hf];obtain rfl:=osj hx;exact .same hs rfl
     .cases hx
    .cases hx
   .cases hx
  .cases hx
 case mapUpdate mk m k v =>
  simp only[W1] at hx;simp only[Zg];generalize ev m=q0 at hx |-;split at hx
  .rename_i i hi;split at hx
   .rename_i es cl ic;obtain⟨k1,k2⟩:=hs.mapAt ic;simp only[k1];split at hx
    .rename_i hc;simp only[z7 hc];obtain rfl:=osj hx;exact .upd hs k2 rfl rfl
    .cases hx
   .cases hx
  .cases hx
 case delete mk m k =>
  simp only[W1] at hx;simp only[Zg];generalize ev m=q0 at hx |-;split at hx
  .rename_i i hi;split at hx
   .rename_i es cl ic;obtain⟨k1,k2⟩:=hs.mapAt ic;simp only[k1];split at hx
    .rename_i hc;simp only[z7 hc];obtain rfl:=osj hx;exact .upd hs k2 rfl rfl
    .cases hx
   .cases hx
  .cases hx
 case mapEntry=>cases hx
 case entryStore=>cases hx
 case lenMap x =>
  simp only[W1] at hx;simp only[Zg];generalize ev x=q0 at hx |-;split at hx
  .obtain rfl:=osj hx;exact .same hs rfl
  .split at hx
   .rename_i es cl wr ic;obtain⟨k1,k2⟩:=hs.mapAt ic;simp only[k1];obtain rfl:=osj hx;exact .same hs rfl
   .cases hx
  .cases hx
 case rangeMap x =>
  simp only[W1] at hx;simp only[Zg];generalize ev x=q0 at hx |-;split at hx
  .split at hx
   .rename_i es cl wr ic;obtain⟨k1,k2⟩:=hs.mapAt ic;simp only[k1];rw[hs.n] at hx;exact .push hs hx rfl rfl
   .cases hx
  .cases hx
 case nextMap=>cases hx
 case entry x =>
  simp only[W1] at hx;simp only[Zg];generalize ev x=q0 at hx |-;split at hx
  .split at hx
   .rename_i m since seen last hg;simp only[hs.iter hg];split at hx
    .rename_i es clock wr b ic dV;obtain⟨k1,_⟩:=hs.mapAt ic;simp only[k1,dV];split at hx
     .rename_i hc;rw[z7 hc];split at hx
      .rename_i e hf;split at hx
       .rename_i hp;rw[hf];simp only[hp,zB];obtain rfl:=osj hx;exact .same hs rfl
       .cases hx
      .cases hx
     .cases hx
    .cases hx
   .cases hx
  .cases hx
 case copy size d s =>
  simp only[W1] at hx;simp only[Zg];generalize ev d=q0 at hx |-;generalize ev s=q1 at hx |-;split at hx
  .rename_i db dn dc sb sn sc h1 h2;split at hx
   .rename_i hm;simp only[z7 hm];obtain rfl:=osj hx;exact .same hs rfl
   .rename_i hm;simp only[z8 hm];split at hx
    .rename_i i o xs br;simp only[hs.sl br];split at hx
     .rename_i c e wr tight hg;simp only[hs.cells hg];split at hx
      .rename_i hc;simp only[z7 hc];obtain rfl:=osj hx;exact .upd hs hg rfl rfl
      .cases hx
     .cases hx
    .cases hx
  .cases hx
 case clear z x =>
  simp only[W1] at hx;simp only[Zg];generalize ev x=q0 at hx |-;split at hx
  .rename_i b n cap;split at hx
   .rename_i hm;simp only[z7 hm];obtain rfl:=osj hx;exact .same hs rfl
   .rename_i hm;simp only[z8 hm];split at hx
    .rename_i i o;split at hx
     .rename_i c e wr tight hg;simp only[hs.cells hg];split at hx
      .rename_i hc;simp only[z7 hc];obtain rfl:=osj hx;exact .upd hs hg rfl rfl
      .cases hx
     .cases hx
    .cases hx
  .cases hx
 case toUnsafe x =>
  simp only[W1] at hx;simp only[Zg];generalize ev x=q0 at hx |-;split at hx
  .obtain rfl:=osj hx;exact .same hs rfl
  .split at hx
   .rename_i c e wr tight hg;simp only[hs.cells hg];split at hx
    .rename_i hc;simp only[z7 hc];obtain rfl:=osj hx;exact .same hs rfl
    .cases hx
   .cases hx
  .cases hx
 case fromUnsafe u size x =>
  simp only[W1] at hx;simp only[Zg];generalize ev x=q0 at hx |-;split at hx
  .obtain rfl:=osj hx;exact .same hs rfl
  .split at hx
   .rename_i c e hg;simp only[hs.cells hg];split at hx
    .rename_i hc;simp only[z7 hc];obtain rfl:=osj hx;exact .same hs rfl
    .cases hx
   .cases hx
  .cases hx
 case sliceData x =>
  simp only[W1] at hx;simp only[Zg];generalize ev x=q0 at hx |-;split at hx
  .obtain rfl:=osj hx;exact .same hs rfl
  .rename_i i o n cap;split at hx
   .rename_i hc;simp only[z7 (show cap≠0/\(M.get i).isSome=true from ⟨hc.1,by rw[hs.get];simpa using hc.2⟩)];obtain rfl:=osj hx;exact .same hs rfl
   .cases hx
  .cases hx
 case unsafeStr e x n =>
  simp only[W1] at hx;simp only[Zg];generalize ev x=q0 at hx |-;generalize ev n=q1 at hx |-;split at hx
  .rename_i q k h1 h2;split at hx
   .rename_i hk;simp only[z7 hk];obtain rfl:=osj hx;exact .same hs rfl
   .rename_i hk;simp only[z8 hk];split at hx
    .rename_i i o;split at hx
     .rename_i c el tight hg;simp only[hs.cells hg];split at hx
      .rename_i hc;simp only[z7 hc];split at hx
       .rename_i u hu;simp only[hu];obtain rfl:=osj hx;exact .upd hs hg rfl rfl
       .cases hx
      .cases hx
     .cases hx
    .cases hx
  .cases hx
 case bytesStr x =>
  simp only[W1] at hx;simp only[Zg];generalize ev x=q0 at hx |-;split at hx
  .split at hx
   .rename_i xs br;simp only[hs.sl br];split at hx
    .rename_i u hu;simp only[hu];obtain rfl:=osj hx;exact .same hs rfl
    .cases hx
   .cases hx
  .cases hx
 case strBytes e x =>
  simp only[W1] at hx;simp only[Zg];generalize ev x=q0 at hx |-;split at hx
  .split at hx
   .rename_i h1;simp only[z7 h1];rw[hs.n] at hx;exact .push hs hx rfl rfl
   .cases hx
  .cases hx
theorem IZ {rs:Nat->Env×Loop}{h:CH}{M:Heap}(hs:CSim rs h M) {o:VOp}{ev:Operand->Value}{p:Value×CH}
  (hx:(if o.kind=0 then (match Q7 o ev Heap.empty with|some p=>some (p.1,h)|none=>none) else none)=some p):ESnd rs h M (Q7 o ev M) p:=by
 split at hx
 .rename_i hk;split at hx
  .rename_i q hq;obtain rfl:=osj hx;exact .same hs (PE hk (v:=q.1) (σ1:=q.2) hq)
  .cases hx
 .cases hx
theorem Y4 {rs:Nat->Env×Loop}{h:CH}{M:Heap}(hs:CSim rs h M) {o:VOp}{ev:Operand->Value}{p:Value×CH}(hx:OL o ev h=some p):ESnd rs h M (Q7 o ev M) p:=by
 cases o
 case alloc t z =>
  simp only[OL] at hx;simp only[Q7];rw[hs.n] at hx;exact .push hs hx rfl rfl
 case box t x =>
  simp only[OL] at hx;simp only[Q7];generalize KN (ev x)=q0 at hx |-;split at hx
  .rw[hs.n] at hx;exact .push hs hx rfl rfl
  .cases hx
 case buildSlice esz z len parts =>
  simp only[OL] at hx;simp only[Q7];generalize Mw (HE len z) (parts.map λp=>(p.1*esz.sz,esz.sz,ev p.2))=q0 at hx |-;split at hx
  .rw[hs.n] at hx;exact .push hs hx rfl rfl
  .cases hx
 case load agg size a =>
  simp only[OL] at hx;simp only[Q7];generalize ev a=q0 at hx |-;split at hx
  .split at hx
   .rename_i c hg;split at hx
    .rename_i ae;simp only[hg,z7 ae];split at hx
     .rename_i u hu;simp only[hu];obtain rfl:=osj hx;exact .same hs rfl
     .cases hx
    .cases hx
   .cases hx
  .split at hx
   .rename_i c e wr tight hg;simp only[hs.cells hg];split at hx
    .rename_i u hu;simp only[hu];obtain rfl:=osj hx;exact .same hs rfl
    .cases hx
   .cases hx
  .cases hx
 case store size a v =>
  simp only[OL] at hx;simp only[Q7];generalize KN (ev v)=q0 at hx |-;generalize ev a=q1 at hx |-;split at hx
  .rename_i i o vs h1 h2;split at hx
   .rename_i c e wr tight hg;simp only[hs.cells hg];split at hx
    .rename_i hc;simp only[z7 hc];obtain rfl:=osj hx;exact .upd hs hg rfl rfl
    .cases hx
   .cases hx
  .cases hx
 case slice size x lo hi mx =>
  simp only[OL] at hx;simp only[Q7];generalize ev x=q0 at hx |-;split at hx
  .rename_i a n cap;dsimp only;generalize J8 ev lo 0=q1 at hx |-;generalize J8 ev hi n=q2 at hx |-;split at hx
   .exact BZ hs hx
   .rename_i l k m;dsimp only;generalize J8 ev (some m) 0=q3 at hx |-;split at hx
    .exact BZ hs hx
    .cases hx
   .cases hx
  .cases hx
 case makeSlice esz bytes z l c =>
  simp only[OL] at hx;simp only[Q7];generalize ev l=q0 at hx |-;generalize ev c=q1 at hx |-;split at hx
  .split at hx
   .rename_i hc;simp only[z7 hc];rw[hs.n] at hx;exact .push hs hx rfl rfl
   .cases hx
  .cases hx
 case append esz bytes s x =>
  simp only[OL] at hx;simp only[Q7];generalize ev x=q0 at hx |-;split at hx
  .rename_i br;simp only[hs.sl br];split at hx
   .rename_i hc;simp only[z7 hc];exact RJ hs hx
   .cases hx
  .cases hx
 case ext o=>exact Pw hs hx
 all_goals exact IZ hs hx
def EM (k:IntKind) (n:Int):Int:=match n with
 |.ofNat x=>match Nat.ble x 127 with
  |true=>.ofNat x
  |false=>k.wrap (.ofNat x)
 |.negSucc x=>k.wrap (.negSucc x)
theorem Aw (k:IntKind) (n:Int):EM k n=k.wrap n:=by
 cases n with
 |negSucc x=>rfl
 |ofNat x =>
  simp only[EM];split
  .rename_i h;have hx:x<=127:=zG h;show (x:Int)=k.wrap (x:Int);cases k<;>simp[IntKind.wrap,IntKind.bits,IntKind.signed]<;>omega
  .rfl
def Z05 (c a b:Value):Option Value:=match c with|.bool t=>some (if t then a else b)|_=>none
def Q3k (op:BinOp) (x y:Value):Option Value:=match x,y with|.int k a,.int k' b=>if k=k' then some (.int k (match op with|.add=>EM k (a+b)|.sub=>EM k (a-b)|_=>EM k (a*b))) else none|_,_=>none
def Z5j (op:BinOp) (x y:Value):Option Value:=match x,y with|.int k a,.int k' b=>if k=k'/\b≠0 then some (.int k (Q7n op k a b)) else none|_,_=>none
def Z0a (op:BinOp) (x y:Value):Option Value:=match x,y with|.int k a,.int k' b=>if k=k' then some (.int k (Q8 op k a b)) else none|_,_=>none
def Q48 (op:BinOp) (x y:Value):Option Value:=match x,y with|.int k a,.int _ b=>if 0<=b then some (.int k (Rn op k a b)) else none|_,_=>none
def Z5r (op:BinOp) (x y:Value):Option Value:=match x,y with|.int k a,.int k' b=>if k=k' then some (.bool (Z1i op a b)) else none|_,_=>none
def Z58 (op:BinOp) (x y:Value):Option Value:=match x,y with
  |.string a,.string b=>match op with
   |.add=>if a.size+b.size<=2 ^ 62 then some (.string (a++b)) else none
   |.eql=>some (.bool (a.data.toList==b.data.toList))
   |.neq=>some (.bool (!(a.data.toList==b.data.toList)))
   |.lss=>some (.bool (Op.bytesLess a.data.toList b.data.toList))
   |_=>none
  |_,_=>none
def Z5m (neg:Bool) (x y:Value):Option Value:=match x,y with|.bool a,.bool b=>some (.bool (if neg then !(a==b) else (a==b)))|_,_=>none
def pUn (op:UnOp) (x:Value):Option Value:=match op,x with
  |.not,.bool b=>some (.bool (!b))
  |.neg,.int k n=>some (.int k (k.wrap (0-n)))
  |.xor,.int k n=>some (.int k (Q8 .xor k (if k.signed then -1 else k.max) n))
  |_,_=>none
def Q2j (k:IntKind) (x:Value):Option Value:=match x with|.int _ n=>some (.int k (EM k n))|_=>none
def Q3n (x:Value):Option Value:=match x with|.string s=>some (.string s)|_=>none
def Q4c (z:List Value) (l:List (Nat×Nat×Value)):Option Value:=match Mw z l with|some cs=>some (.agg cs.toArray)|none=>none
def TQ (off:Nat) (a:Value):Option Value:=match a with
  |.pointer (some ⟨i,o,none⟩)=>some (.pointer (some ⟨i,o+off,none⟩))
  |_=>none
def Q49 (agg:Bool) (off size:Nat) (x:Value):Option Value:=match x with
  |.agg cs=>Xl agg size cs.toList off
  |_=>none
def Rg (size:Nat) (x i:Value):Option Value:=match x,i with
  |.slice (some ⟨b,o,none⟩) n _,.int _ k=>if 0<=k/\k<n then some (.pointer (some ⟨b,o+k.toNat*size,none⟩)) else none
  |_,_=>none
def Dm (len size:Nat) (x i:Value):Option Value:=match x,i with
  |.pointer (some ⟨g,o,some s⟩),.int _ k=>if 0<=k/\k<len then some (.pointer (some ⟨g,o+k.toNat*size,some s⟩)) else none
  |.pointer (some ⟨b,o,none⟩),.int _ k=>if 0<=k/\k<len then some (.pointer (some ⟨b,o+k.toNat*size,none⟩)) else none
  |_,_=>none
def SX (x i:Value):Option Value:=match x,i with
  |.string s,.int _ k=>if 0<=k then (match s.data.toList[k.toNat]? with|some b=>some (.int .u8 b.toNat)|none=>none) else none
  |_,_=>none
def LY (len:Nat) (agg:Bool) (size:Nat) (x i:Value):Option Value:=match x,i with
  |.agg cs,.int _ k=>if 0<=k/\k<len then Xl agg size cs.toList (k.toNat*size) else none
  |_,_=>none
def LD (ev:Operand->Value) (x:Value) (lo hi:Option Operand):Option Value:=match x with
  |.string s =>
   match J8 ev lo 0,J8 ev hi s.size with
   |some l,some h=>if l<=h/\h<=s.size then some (.string (s.extract l h)) else none
   |_,_=>none
  |_=>none
def Z5e (x:Value):Option Value:=match x with|.slice _ n _=>some (.int .i64 n)|_=>none
def OE (x:Value):Option Value:=match x with|.string s=>some (.int .i64 s.size)|_=>none
def Q8j (x y z w:Value):Option Value:=match x,y,z,w with|.int k a,.int k2 b,.int k3 c,.int k4 d=>if k=k2/\k=k3/\k=k4 then some (.int k (Fl (Fl (Fl a b) c) d)) else none|_,_,_,_=>none
def Z5o (x y:Value):Option Value:=match x,y with|.int k a,.int k' b=>if k=k' then some (.int k (if b > a then b else a)) else none|_,_=>none
def Z54 (x y:Value):Option Value:=match x,y with|.int k a,.int k' b=>if k=k' then some (.int k (if b<a then b else a)) else none|_,_=>none
def Q4v (t:TypeId) (x:Value):Option Value:=match x with|.chan _=>none|v=>some (.iface t v)
def Az (i:Nat) (x:Value):Option Value:=match x with
  |.tuple vs=>vs.toList[i]?
  |_=>none
def LS (x:Value):Option Value:=match x with
  |.pointer (some a)=>some (.pointer (some a))
  |.func (.func f) first cap=>some (.func (.func f) first cap)
  |_=>none
def ppp (r:Option Value) (M:CH):Option (Value×CH):=match r with|some v=>some (v,M)|none=>none
def Z66 (t:Nat) (x:Value) (M:CH):Option (Value×CH):=match KN x with
  |some vs=>NB M (.cells vs ⟨vs.length,t⟩ true true) (.pointer (some ⟨M.n,0,none⟩))
  |none=>none
def CI (esz:El) (z:List Value) (len:Nat) (l:List (Nat×Nat×Value)) (M:CH):Option (Value×CH):=match Mw (HE len z) l with
  |some cs=>NB M (.cells cs esz true true) (.slice (some ⟨M.n,0,none⟩) len len)
  |none=>none
def Z02 (agg:Bool) (size:Nat) (a:Value) (M:CH):Option (Value×CH):=match a with
  |.pointer (some ⟨g,o,some _⟩)=>(match Q19 g with
   |some c=>if c.all QN then (match Xl agg size c o with|some v=>some (v,M)|none=>none) else none
   |none=>none)
  |.pointer (some ⟨i,o,none⟩)=>match M.get i with
   |some (.cells c _ _ _)=>match Xl agg size c o with|some v=>some (v,M)|none=>none
   |_=>none
  |_=>none
def stL (c:List Value) (o:Nat) (vs:List Value):List Value:=match vs with
 |[v]=>c.set o v
 |vs=>c.take o++(vs++c.drop (o+vs.length))
theorem Am:∀ (vs a b c:List Value),vs.length=b.length->Yq (a++(b++c)) a.length vs=a++(vs++c)
 |[],a,b,c,h=>by have:b=[]:=List.eq_nil_of_length_eq_zero (by simpa using h.symm);subst this;rfl
 |v::vs,a,[],c,h=>by simp at h
 |v::vs,a,x::b,c,h=>by
  simp only[Yq];have e:(a++(x::b++c)).set a.length v=(a++[v])++(b++c):=by simp
  rw[e];have:=Am vs (a++[v]) b c (by simpa using h);rw[zI,xr] at this;rw[this];simp
theorem Z13 {c:List Value}{o:Nat}{vs:List Value}(h:o+vs.length<=c.length):stL c o vs=Yq c o vs:=by
 unfold stL;split
 .rfl
 .have h1:c=c.take o++((c.drop o).take vs.length++c.drop (o+vs.length)):=by
   rw[<-List.drop_drop,xT,xT]
  have h2:(c.take o).length=o:=by simp;omega
  have:=Am vs (c.take o) ((c.drop o).take vs.length) (c.drop (o+vs.length)) (by simp;omega);rw[h2,<-h1] at this;exact this.symm
def Q3s (size:Nat) (a v:Value) (M:CH):Option (Value×CH):=match a,KN v with
  |.pointer (some ⟨i,o,none⟩),some vs=>match M.get i with
   |some (.cells c e wr tight)=>if wr=true/\vs.length=size/\o+size<=c.length/\vs.all cellOk=true then some (undef,M.upd i (.cells (stL c o vs) e wr tight)) else none
   |_=>none
  |_,_=>none
def E1 (esz:El) (bytes:Nat) (z:List Value) (l c:Value) (M:CH):Option (Value×CH) :=
  match l,c with
  |.int _ a,.int _ b=>if 0<=a/\a<=b/\b*bytes<=2 ^ 46/\b<=2 ^ 46 then NB M (.cells (HE b.toNat z) esz true true) (.slice (some ⟨M.n,0,none⟩) a.toNat b.toNat) else none
  |_,_=>none
def Z62 (esz:El) (bytes:Nat) (s x:Value) (M:CH):Option (Value×CH) :=
  match M.sl esz.sz x,x with
  |some xs,.slice _ m _=>if xs.all cellOk then RZ esz bytes M s m xs else none
  |_,_=>none
def Ck (o:VOp) (ev:Operand->Value) (M:CH):Option (Value×CH) :=
 match o with
 |.move x=>some (ev x,M)
 |.pick c a b=>ppp (Z05 (ev c) (ev a) (ev b)) M
 |.arith op x y=>ppp (Q3k op (ev x) (ev y)) M
 |.div op x y=>ppp (Z5j op (ev x) (ev y)) M
 |.bits op x y=>ppp (Z0a op (ev x) (ev y)) M
 |.shift op x y=>ppp (Q48 op (ev x) (ev y)) M
 |.cmp op x y=>ppp (Z5r op (ev x) (ev y)) M
 |.str op x y=>ppp (Z58 op (ev x) (ev y)) M
 |.eqB n x y=>ppp (Z5m n (ev x) (ev y)) M
 |.un op x=>ppp (pUn op (ev x)) M
 |.convI k x=>ppp (Q2j k (ev x)) M
 |.convS x=>ppp (Q3n (ev x)) M
 |.build z parts=>ppp (Q4c z (parts.map λp=>(p.1,p.2.1,ev p.2.2))) M
 |.fieldAddr off a=>ppp (TQ off (ev a)) M
 |.field agg off size x=>ppp (Q49 agg off size (ev x)) M
 |.indexAddr size x i=>ppp (Rg size (ev x) (ev i)) M
 |.indexAddrArr len size x i=>ppp (Dm len size (ev x) (ev i)) M
 |.indexStr x i=>ppp (SX (ev x) (ev i)) M
 |.indexArr len agg size x i=>ppp (LY len agg size (ev x) (ev i)) M
 |.sliceStr x lo hi=>ppp (LD ev (ev x) lo hi) M
 |.len x=>ppp (Z5e (ev x)) M
 |.lenStr x=>ppp (OE (ev x)) M
 |.max x y=>ppp (Z5o (ev x) (ev y)) M
 |.max4 x y z w=>ppp (Q8j (ev x) (ev y) (ev z) (ev w)) M
 |.min x y=>ppp (Z54 (ev x) (ev y)) M
 |.makeFunc fn first cap=>some (.func fn (first.map ev).toArray (cap.map ev).toArray,M)
 |.iface t x=>ppp (Q4v t (ev x)) M
 |.extract x i=>ppp (Az i (ev x)) M
 |.nilCheck x=>ppp (LS (ev x)) M
 |.alloc t z=>NB M (.cells z ⟨z.length,t⟩ true true) (.pointer (some ⟨M.n,0,none⟩))
 |.box t x=>Z66 t (ev x) M
 |.buildSlice esz z len parts=>CI esz z len (parts.map λp=>(p.1*esz.sz,esz.sz,ev p.2)) M
 |.load agg size a=>Z02 agg size (ev a) M
 |.store size a v=>Q3s size (ev a) (ev v) M
 |.slice size x lo hi mx=>OL (.slice size x lo hi mx) ev M
 |.makeSlice esz bytes z l c=>E1 esz bytes z (ev l) (ev c) M
 |.append esz bytes s x=>Z62 esz bytes (ev s) (ev x) M
 |.ext o=>W1 o ev M
 |_=>none
theorem Ik {rs:Nat->Env×Loop}{h:CH}{M:Heap}(hs:CSim rs h M) {r:Option Value}{r':Option (Value×Heap)}{p:Value×CH}(hr:∀ v,r=some v->r'=some (v,M)) (hx:ppp r h=some p):ESnd rs h M r' p:=by
 unfold ppp at hx;split at hx
 .rename_i v;obtain rfl:=osj hx;exact .same hs (hr v rfl)
 .cases hx
theorem KM {rs:Nat->Env×Loop}{h:CH}{M:Heap}(hs:CSim rs h M) {o:VOp}{ev:Operand->Value}{p:Value×CH}(hx:Ck o ev h=some p):ESnd rs h M (Q7 o ev M) p:=by
 cases o
 case move x=>exact .same hs (by obtain rfl:=osj hx;rfl) |> λ(h:ESnd rs _ M (Q7 (.move x) ev M) (ev x,_))=>by obtain rfl:=osj hx;exact h
 case makeFunc fn a b=>obtain rfl:=osj hx;exact .same hs rfl
 case alloc t z=>exact Y4 (o:=.alloc t z) hs hx
 case box t x=>exact Y4 (o:=.box t x) hs hx
 case buildSlice a b c d=>exact Y4 (o:=.buildSlice a b c d) hs hx
 case load a b c=>exact Y4 (o:=.load a b c) hs hx
 case store size a v =>
  simp only[Ck] at hx;simp only[Q7];unfold Q3s at hx;generalize KN (ev v)=q0 at hx |-;generalize ev a=q1 at hx |-;split at hx
  .rename_i i o vs;split at hx
   .rename_i c e wr tight hg;simp only[hs.cells hg];split at hx
    .rename_i hc;simp only[z7 hc];rw[Z13 (by omega)] at hx;obtain rfl:=osj hx;exact .upd hs hg rfl rfl
    .cases hx
   .cases hx
  .cases hx
 case slice a b c d e=>exact Y4 (o:=.slice a b c d e) hs hx
 case makeSlice a b c d e=>exact Y4 (o:=.makeSlice a b c d e) hs hx
 case append a b c d=>exact Y4 (o:=.append a b c d) hs hx
 case ext o=>exact Pw hs hx
 case callF=>cases hx
 case callV=>cases hx
 case bad=>cases hx
 all_goals refine Ik hs (λv hv=>?_) hx
 case arith op x y =>
  simp only[Q7];generalize ev x=a at hv |-;generalize ev y=b at hv |-;unfold Q3k at hv;split at hv
  .split at hv
   .rename_i hk;simp only[z7 hk];obtain rfl:=osj hv;cases op<;>simp only[Re,Aw]
   .cases hv
  .cases hv
 case convI k x =>
  simp only[Q7];generalize ev x=a at hv |-;unfold Q2j at hv;split at hv
  .obtain rfl:=osj hv;simp only[Aw]
  .cases hv
 case pick c a b =>
  simp only[Q7];generalize ev c=q0 at hv |-;generalize ev a=q1 at hv |-;generalize ev b=q2 at hv |-;unfold Z05 at hv
  (repeat' split at hv)<;>first|(cases hv;done)|(obtain rfl:=osj hv;first|rfl|(simp_all;done)|(simp_all;intros;omega))
 case div op x y =>
  simp only[Q7];generalize ev x=q0 at hv |-;generalize ev y=q1 at hv |-;unfold Z5j at hv
  (repeat' split at hv)<;>first|(cases hv;done)|(obtain rfl:=osj hv;first|rfl|(simp_all;done)|(simp_all;intros;omega))
 case bits op x y =>
  simp only[Q7];generalize ev x=q0 at hv |-;generalize ev y=q1 at hv |-;unfold Z0a at hv
  (repeat' split at hv)<;>first|(cases hv;done)|(obtain rfl:=osj hv;first|rfl|(simp_all;done)|(simp_all;intros;omega))
 case shift op x y =>
  simp only[Q7];generalize ev x=q0 at hv |-;generalize ev y=q1 at hv |-;unfold Q48 at hv
  (repeat' split at hv)<;>first|(cases hv;done)|(obtain rfl:=osj hv;first|rfl|(simp_all;done)|(simp_all;intros;omega))
 case cmp op x y =>
  simp only[Q7];generalize ev x=q0 at hv |-;generalize ev y=q1 at hv |-;unfold Z5r at hv
  (repeat' split at hv)<;>first|(cases hv;done)|(obtain rfl:=osj hv;first|rfl|(simp_all;done)|(simp_all;intros;omega))
 case eqB n x y =>
  simp only[Q7];generalize ev x=q0 at hv |-;generalize ev y=q1 at hv |-;unfold Z5m at hv
  (repeat' split at hv)<;>first|(cases hv;done)|(obtain rfl:=osj hv;first|rfl|(simp_all;done)|(simp_all;intros;omega))
 case un op x =>
  simp only[Q7];generalize ev x=q0 at hv |-;unfold pUn at hv
  (repeat' split at hv)<;>first|(cases hv;done)|(obtain rfl:=osj hv;first|rfl|(simp_all;done)|(simp_all;intros;omega))
 case convS x =>
  simp only[Q7];generalize ev x=q0 at hv |-;unfold Q3n at hv
  (repeat' split at hv)<;>first|(cases hv;done)|(obtain rfl:=osj hv;first|rfl|(simp_all;done)|(simp_all;intros;omega))
 case fieldAddr off a =>
  simp only[Q7];generalize ev a=q0 at hv |-;unfold TQ at hv
  (repeat' split at hv)<;>first|(cases hv;done)|(obtain rfl:=osj hv;first|rfl|(simp_all;done)|(simp_all;intros;omega))
 case indexAddr size x i =>
  simp only[Q7];generalize ev x=q0 at hv |-;generalize ev i=q1 at hv |-;unfold Rg at hv
  (repeat' split at hv)<;>first|(cases hv;done)|(obtain rfl:=osj hv;first|rfl|(simp_all;done)|(simp_all;intros;omega))
 case indexAddrArr len size x i =>
  simp only[Q7];generalize ev x=q0 at hv |-;generalize ev i=q1 at hv |-;unfold Dm at hv
  (repeat' split at hv)<;>first|(cases hv;done)|(obtain rfl:=osj hv;first|rfl|(simp_all;done)|(simp_all;intros;omega))
 case len x =>
  simp only[Q7];generalize ev x=q0 at hv |-;unfold Z5e at hv
  (repeat' split at hv)<;>first|(cases hv;done)|(obtain rfl:=osj hv;first|rfl|(simp_all;done)|(simp_all;intros;omega))
 case lenStr x =>
  simp only[Q7];generalize ev x=q0 at hv |-;unfold OE at hv
  (repeat' split at hv)<;>first|(cases hv;done)|(obtain rfl:=osj hv;first|rfl|(simp_all;done)|(simp_all;intros;omega))
 case max4 x y z w =>
  simp only[Q7];generalize ev x=q0 at hv |-;generalize ev y=q1 at hv |-;generalize ev z=q2 at hv |-;generalize ev w=q3 at hv |-;unfold Q8j at hv
  (repeat' split at hv)<;>first|(cases hv;done)|(rename_i qD;obtain⟨rfl,rfl,rfl⟩:=qD;obtain rfl:=osj hv;simp_all;done)
 case max x y =>
  simp only[Q7];generalize ev x=q0 at hv |-;generalize ev y=q1 at hv |-;unfold Z5o at hv
  (repeat' split at hv)<;>first|(cases hv;done)|(obtain rfl:=osj hv;first|rfl|(simp_all;done)|(simp_all;intros;omega))
 case min x y =>
  simp only[Q7];generalize ev x=q0 at hv |-;generalize ev y=q1 at hv |-;unfold Z54 at hv
  (repeat' split at hv)<;>first|(cases hv;done)|(obtain rfl:=osj hv;first|rfl|(simp_all;done)|(simp_all;intros;omega))
 case nilCheck x =>
  simp only[Q7];generalize ev x=q0 at hv |-;unfold LS at hv
  (repeat' split at hv)<;>first|(cases hv;done)|(obtain rfl:=osj hv;first|rfl|(simp_all;done)|(simp_all;intros;omega))
 case str op x y =>
  simp only[Q7];generalize ev x=q0 at hv |-;generalize ev y=q1 at hv |-;unfold Z58 at hv
  (repeat' split at hv)<;>first|(cases hv;done)|(obtain rfl:=osj hv;first|rfl|(simp_all;done)|(simp_all;intros;omega))
 case build z parts =>
  simp only[Q7];unfold Q4c at hv;split at hv
  .rename_i cs hc;rw[hc];obtain rfl:=osj hv;rfl
  .cases hv
 case field agg off size x =>
  simp only[Q7];generalize ev x=q0 at hv |-;unfold Q49 at hv;split at hv
  .dsimp only;rw[hv]
  .cases hv
 case indexStr x i =>
  simp only[Q7];generalize ev x=q0 at hv |-;generalize ev i=q1 at hv |-;unfold SX at hv;split at hv
  .split at hv
   .rename_i hc;simp only[z7 hc];split at hv
    .rename_i b hb;simp only[hb];obtain rfl:=osj hv;rfl
    .cases hv
   .cases hv
  .cases hv
 case indexArr len agg size x i =>
  simp only[Q7];generalize ev x=q0 at hv |-;generalize ev i=q1 at hv |-;unfold LY at hv;split at hv
  .split at hv
   .rename_i hc;simp only[z7 hc,hv]
   .cases hv
  .cases hv
 case sliceStr x lo hi =>
  simp only[Q7];generalize ev x=q0 at hv |-;unfold LD at hv;split at hv
  .rename_i s;split at hv
   .rename_i l h h1 h2;split at hv
    .rename_i hc;simp only[h1,h2,z7 hc];obtain rfl:=osj hv;rfl
    .cases hv
   .cases hv
  .cases hv
 case iface t x =>
  simp only[Q7];generalize ev x=q0 at hv |-;unfold Q4v at hv;split at hv
  .cases hv
  .rename_i az;obtain rfl:=osj hv;split
   .exact absurd rfl (az _)
   .rfl
 case extract x i =>
  simp only[Q7];generalize ev x=q0 at hv |-;unfold Az at hv;split at hv
  .dsimp only;rw[hv]
  .cases hv
inductive Sh (a m d:Nat):Value->Value->Prop
 |plain (v:Value) (h:QN v=true):Sh a m d v v
 |ptr (i o:Nat) (h:a<=i) (hi:i<m):Sh a m d (.pointer (some ⟨i,o,none⟩)) (.pointer (some ⟨d+(i-a),o,none⟩))
 |sl (i o len cap:Nat) (h:a<=i) (hi:i<m):Sh a m d (.slice (some ⟨i,o,none⟩) len cap) (.slice (some ⟨d+(i-a),o,none⟩) len cap)
 |agg (cs ds:Array Value) (hc:cs.size=ds.size) (h:∀ i (h1:i<cs.size) (h2:i<ds.size),Sh a m d cs[i] ds[i]):Sh a m d (.agg cs) (.agg ds)
 |tuple (cs ds:Array Value) (hc:cs.size=ds.size) (h:∀ i (h1:i<cs.size) (h2:i<ds.size),Sh a m d cs[i] ds[i]):Sh a m d (.tuple cs) (.tuple ds)
theorem Sh.rel {ρ ρ':Plc}{a m d n':Nat}(hn:d+(m-a)<=n') (hρ:∀ i,a<=i->i<m->ρ' (d+(i-a))=ρ i) {v v':Value}(h:Sh a m d v v') :
  ∀ {c:Value},VRel ρ m v c->VRel ρ' n' v' c:=by
 induction h with
 |plain v h =>intro c hv;have:c=v:=YV h hv;subst this;exact Wc h
 |ptr i o h hi =>intro c hv;obtain⟨a',rfl,_,bw⟩:=hv.q1h;exact .ptr _ _ _ (by omega) λp hp=>bw p (by rw[<-hρ i h hi];exact hp)
 |sl i o len cap h hi =>intro c hv;obtain⟨a',au,rfl,_,bw⟩:=hv.q1b;exact .sl _ _ _ _ _ _ (by omega) λp hp=>bw p (by rw[<-hρ i h hi];exact hp)
 |agg cs ds hc h ih =>
  intro c hv;cases hv with
  |agg _ ds' cI h'=>exact .agg _ _ (hc.symm.trans cI) λi k1 k2=>ih i (by omega) k1 (h' i (by omega) k2)
 |tuple cs ds hc h ih =>
  intro c hv;cases hv with
  |tuple _ ds' cI h'=>exact .tuple _ _ (hc.symm.trans cI) λi k1 k2=>ih i (by omega) k1 (h' i (by omega) k2)
theorem BRel.any {ρ ρ':Plc}{n n':Nat}{p:Pl}{w:World}{c:List Value}{esz:El}{wr tight:Bool}(hp:c.all QN=true) (h:BRel ρ n p w (.cells c esz wr tight)) :
  BRel ρ' n' p w (.cells c esz wr tight):=by
 obtain⟨h1,h2,h3,h4,h5,h6⟩:=h;refine⟨h1,h2,h3,h4,λk v hk=>?_,h6⟩;obtain⟨u,hu,hv⟩:=h5 k v hk;have aQ:QN v=true:=zf.1 hp v (zF hk);obtain rfl:u=v:=YV aQ hv;exact⟨u,hu,Wc aQ⟩
theorem BRel.renRo {ρ:Plc}{nf n':Nat}{π:Nat->Nat}{p:Pl}{w:World}{c c':List Value}{esz:El}{wr tight:Bool}(hr:LRen n' π c c') (h:BRel ρ nf p w (.cells c' esz wr tight)) :
  BRel (λi=>if i<n' then ρ (π i) else none) n' p w (.cells c esz false tight):=by
 obtain⟨h1,h2,h3,h4,h5,h6⟩:=h;refine⟨h1,h2,by rw[hr.1];exact h3,h4,λk v hk=>?_,λh=>by cases h⟩;have ah:k<c'.length:=by rw[<-hr.1];exact(zg.1 hk).1
 obtain⟨u,hu,hv⟩:=h5 k _ (z1 ah);exact⟨u,hu,(hr.2 k v _ hk (z1 ah)).rel hv⟩
structure PB where
 c:List Value
 esz:El
 tight:Bool
def PB.blk (wr:Bool) (b:PB):Blk:=.cells b.c b.esz wr b.tight
def Qv (bl fr:List PB):Heap where
 get i:=if i<bl.length then (bl[i]?).map (PB.blk false) else (fr[i-bl.length]?).map (PB.blk true)
 n:=bl.length+fr.length
 wf i h:=by rw[z8 (by omega),zk (by omega)];rfl
def XU (M:Heap) (fr:List PB):Heap where
 get i:=if i<M.n then M.get i else (fr[i-M.n]?).map (PB.blk true)
 n:=M.n+fr.length
 wf i h:=by rw[z8 (by omega),zk (by omega)];rfl
theorem VCalled.localize {P:Program}{f:FuncId}{iY args:List Value}{bl fr:List PB}{vm v:Value}{M:Heap}{π:Nat->Nat}{K:Value->Heap->Prop}
  (hm:VCalled P f iY (Qv bl []) λu U=>u=vm/\U=Qv bl fr)
  (cU:∀ b∈fr,b.c.all QN=true)
  (hπ:∀ i b,bl[i]?=some b->∃ wr c',M.get (π i)=some (.cells c' b.esz wr b.tight)/\LRen bl.length π b.c c')
  (ax:LRen bl.length π iY args) (hv:Sh bl.length (bl.length+fr.length) M.n vm v) (hK:K v (XU M fr)):VCalled P f args M K:=by
 intro ρ w aw hH hL;have bO:∀ B,¬ Wr (λi=>if i<bl.length then ρ (π i) else none) (Qv bl []) B:=by
  rintro B ⟨i,p,b,_,hb,hw,_⟩;have hi:i<bl.length:=by have:=(Qv bl []).lt hb;simpa [Qv] using this
  simp only[Qv,z7 hi] at hb;cases fj:bl[i]? with
  |none=>rw[fj] at hb;cases hb
  |some b0=>rw[fj] at hb;obtain rfl:=osj hb;cases hw
 have uu:HRel (λi=>if i<bl.length then ρ (π i) else none) (Qv bl []) w:=by
  refine⟨⟨λi b hb=>?_,λi hi=>?_,λi p hp=>?_,λi j p q b _ hp _ hb hw _=>(bO _ ⟨i,p,b,hp,hb,hw,rfl⟩).elim⟩,λg cs hg=>⟨(hH.tab g cs hg).1,bO g⟩⟩
  .have hi:i<bl.length:=by have:=(Qv bl []).lt hb;simpa [Qv] using this
   simp only[Qv,z7 hi] at hb;cases fj:bl[i]? with
   |none=>rw[fj] at hb;cases hb
   |some b0 =>rw[fj] at hb;obtain rfl:=osj hb;obtain⟨wr,c',hg,qS⟩:=hπ i b0 fj;obtain⟨p,hp,hB⟩:=hH.live _ _ hg;exact⟨p,by simp[hi,hp],BRel.renRo qS hB⟩
  .by_cases h:i<bl.length
   .simp only[Qv,z7 h,z1 h] at hi;cases hi
   .simp[h]
  .skip
   split at hp
   .exact hH.lt _ p hp
   .cases hp
 have uv:LRel (λi=>if i<bl.length then ρ (π i) else none) (Qv bl []).n iY aw.toList:=by have:=ax.rel hL;simpa [Qv] using this
 have lift:∀ c w',Got (λi=>if i<bl.length then ρ (π i) else none) (Qv bl []) w (λu U=>u=vm/\U=Qv bl fr) c w'->Got ρ M w K c w':=by
  rintro c w' ⟨_,ρm,_,⟨rfl,rfl⟩,bW,iZ,hE⟩;have ek:∀ B,B<w.heap.size->w'.heap[B]?=w.heap[B]?:=λB hB=>hE.keep B hB (bO B);have gK:∀ i p,bl.length<=i->ρm i=some p->w.heap.size<=p.blk:=λi p hi hp=>by
   rcases zl p.blk w.heap.size with h|h
   .refine (bO _ (hE.wr p.blk h ?_)).elim;have hZ:=iZ.idlt hp;cases hb:(Qv bl fr).get i with
    |none=>rw[iZ.dead i hb] at hp;cases hp
    |some b =>
     refine⟨i,p,b,hp,hb,?_,rfl⟩;simp only[Qv,z8 (wM.2 hi)] at hb;cases fj:fr[i-bl.length]? with
     |none=>rw[fj] at hb;cases hb
     |some b0=>rw[fj] at hb;obtain rfl:=osj hb;rfl
   .exact h
  have hρ:∀ i,M.n<=i->(if i<M.n then ρ i else if i<M.n+fr.length then ρm (bl.length+(i-M.n)) else none)=if i<M.n+fr.length then ρm (bl.length+(i-M.n)) else none:=λi hi=>z8 (by omega)
  have hX:Ext ρ M w (λi=>if i<M.n then ρ i else if i<M.n+fr.length then ρm (bl.length+(i-M.n)) else none) (XU M fr) w':=by
   refine⟨hE.os,hE.tape,hE.output,hE.size,λB hB _=>ek B hB,?_,by simp[XU],λi hi p hp=>?_⟩
   .rintro B hB ⟨i,p,b,hp,hb,hw,rfl⟩
    replace hp:(if i<M.n then ρ i else if i<M.n+fr.length then ρm (bl.length+(i-M.n)) else none)=some p:=hp
    by_cases hi:i<M.n
    .rw[z7 hi] at hp;simp only[XU,z7 hi] at hb;exact⟨i,p,b,hp,hb,hw,rfl⟩
    .rw[z8 hi] at hp;split at hp
     .have:=gK _ p (by omega) hp;omega
     .cases hp
   .skip
    rwa [z7 hi] at hp
  refine⟨v,λi=>if i<M.n then ρ i else if i<M.n+fr.length then ρm (bl.length+(i-M.n)) else none,XU M fr,hK,?_,hH.ext ⟨λi b hb=>?_,λi hi=>?_,λi p hp=>?_,λi j p q b cj hp hq hb hw hx=>?_⟩ hX,hX⟩
  .refine hv.rel (by simp[XU]) (λi h1 h2=>?_) bW;rw[z8 (by omega),z7 (by omega)];congr 1;omega
  .by_cases hi:i<M.n
   .simp only[XU,z7 hi] at hb;obtain⟨p,hp,hB⟩:=hH.live i b hb;exact⟨p,by simp[hi,hp],hB.mono (by simp[XU]) (λj hj q hq=>by simpa [hj] using hq) (ek _ (hH.lt i p hp))⟩
   .simp only[XU,z8 hi] at hb;cases fj:fr[i-M.n]? with
    |none=>rw[fj] at hb;cases hb
    |some b0 =>
     rw[fj] at hb;obtain rfl:=osj hb;have ah:i-M.n<fr.length:=(zg.1 fj).1;obtain⟨p,hp,hB⟩:=iZ.live (bl.length+(i-M.n)) (b0.blk true) (by
      show (if _ then _ else _)=_;rw[z8 (by omega),show bl.length+(i-M.n)-bl.length=i-M.n by omega,fj];rfl)
     exact⟨p,by rw[z8 hi,z7 (by omega)];exact hp,BRel.any (cU b0 (zF fj)) hB⟩
  .by_cases h:i<M.n
   .simp only[XU,z7 h] at hi;rw[z7 h];exact hH.dead i hi
   .simp only[XU,z8 h] at hi;rw[z8 h];split
    .rename_i h2;have ah:i-M.n<fr.length:=by omega
     rw[z1 ah] at hi;cases hi
    .rfl
  .skip
   split at hp
   .exact xi (hH.lt i p hp) hE.size
   .split at hp
    .exact iZ.lt _ p hp
    .cases hp
  .skip
   by_cases hi:i<M.n<;>by_cases hj:j<M.n
   .rw[z7 hi] at hp;rw[z7 hj] at hq;simp only[XU,z7 hi] at hb;exact hH.sep i j p q b cj hp hq hb hw hx
   .rw[z7 hi] at hp;rw[z8 hj] at hq;split at hq
    .have h1:=hH.lt i p hp;have h2:=gK _ q (by omega) hq;omega
    .cases hq
   .rw[z8 hi] at hp;rw[z7 hj] at hq;split at hp
    .have h1:=hH.lt j q hq;have h2:=gK _ p (by omega) hp;omega
    .cases hp
   .rw[z8 hi] at hp;rw[z8 hj] at hq;split at hp
    .split at hq
     .simp only[XU,z8 hi] at hb;refine iZ.sep (bl.length+(i-M.n)) (bl.length+(j-M.n)) p q b (by omega) hp hq ?_ hw hx;show (if _ then _ else _)=_;rw[z8 (by omega),show bl.length+(i-M.n)-bl.length=i-M.n by omega];exact hb
     .cases hq
    .cases hp
 rcases hm _ w aw uu uv with⟨h1,h2⟩|⟨c,h1,h2⟩
 .refine .inl ⟨h1,?_⟩;exact h2.mono λe w' he=>by
   obtain⟨c,rfl,hc⟩:=he;exact⟨c,rfl,lift c w' hc⟩
 .refine .inr ⟨c,lift c w h1,λw' dq=>h2 w' ⟨dq.1,λi p hp=>?_,dq.tab⟩⟩
  replace hp:(if i<bl.length then ρ (π i) else none)=some p:=hp
  split at hp
  .exact dq.2 _ p hp
  .cases hp
def Fu {α:Type}(p:α->α->Bool):List α->List α->Bool
 |[],[]=>true
 |a::l,b::m=>p a b&&Fu p l m
 |_,_=>false
theorem UU {α:Type}{p:α->α->Bool}(hp:∀ a b,p a b=true->a=b):∀ l m,Fu p l m=true->l=m
 |[],[],_=>rfl
 |a::l,b::m,h=>by simp only[Fu,z6] at h;rw[hp a b h.1,UU hp l m h.2]
 |[],_::_,h=>by cases h
 |_::_,[],h=>by cases h
def TT:Nat->Value->Value->Bool
 |0,_,_=>false
 |f+1,a,b=>match a,b with
  |.bool x,.bool y=>x==y
  |.int k x,.int k' y=>decide (k=k')&&decide (x=y)
  |.string s,.string t=>decide (s.data.toList=t.data.toList)
  |.pointer none,.pointer none=>true
  |.pointer (some ⟨i,o,none⟩),.pointer (some ⟨j,q,none⟩)=>Nat.beq i j&&Nat.beq o q
  |.slice none l c,.slice none l' c'=>Nat.beq l l'&&Nat.beq c c'
  |.slice (some ⟨i,o,none⟩) l c,.slice (some ⟨j,q,none⟩) l' c'=>Nat.beq i j&&(Nat.beq o q&&(Nat.beq l l'&&Nat.beq c c'))
  |.slice (some ⟨i,o,some 0⟩) l c,.slice (some ⟨j,q,some 0⟩) l' c'=>Nat.beq i j&&(Nat.beq o q&&(Nat.beq l l'&&Nat.beq c c'))
  |.map x,.map y=>decide (x=y)
  |.chan none,.chan none=>true
  |.nilFunc,.nilFunc=>true
  |.nilIface,.nilIface=>true
  |.func (.func g) fs cs,.func (.func g') sx cs'=>decide (g=g')&&(Fu (TT f) fs.toList sx.toList&&Fu (TT f) cs.toList cs'.toList)
  |.func (.yield i) ⟨[]⟩ ⟨[]⟩,.func (.yield j) ⟨[]⟩ ⟨[]⟩=>Nat.beq i j
  |.iface t v,.iface t' v'=>decide (t=t')&&TT f v v'
  |.agg cs,.agg ds=>Fu (TT f) cs.toList ds.toList
  |.tuple cs,.tuple ds=>Fu (TT f) cs.toList ds.toList
  |_,_=>false
theorem TO {α:Type}{a b:Array α}(h:a.toList=b.toList):a=b:=by cases a;cases b;simp at h;rw[h]
theorem M8:∀ (f:Nat) (a b:Value),TT f a b=true->a=b:=by
 intro f;induction f with
 |zero=>intro a b h;cases h
 |succ f ih =>
  intro a b h;unfold TT at h
  split at h<;>first
   |(cases h;done)
   |rfl
   |(simp at h;subst h;rfl)
   |(simp at h;obtain⟨rfl,rfl⟩:=h;rfl)
   |(simp at h;obtain⟨rfl,rfl,rfl,rfl⟩:=h;rfl)
   |skip
  .rename_i s t;have h:=zP h;have:=TO h;cases s;cases t;simp at this;rw[this]
  .rename_i g fs cs g' sx cs';simp only[z6,zm] at h;obtain⟨rfl,h1,h2⟩:=h;rw[TO (UU ih _ _ h1),TO (UU ih _ _ h2)]
  .rename_i t v t' v';simp only[z6,zm] at h;obtain⟨rfl,h1⟩:=h;rw[ih _ _ h1]
  .rw[TO (UU ih _ _ h)]
  .rw[TO (UU ih _ _ h)]
def EB.beq:EB->EB->Bool
 |.cells c e w t,.cells c' e' w' t'=>decide (e=e')&&(w==w'&&(t==t'&&Fu (TT 20) c c'))
 |.map es cl w,.map bZ uw w'=>Nat.beq cl uw&&(w==w'&&Fu (λa b=>TT 20 a.1 b.1&&(TT 20 a.2.1 b.2.1&&Nat.beq a.2.2 b.2.2)) es bZ)
 |.iter m s sn l,.iter m' s' ux l'=>Nat.beq m m'&&(Nat.beq s s'&&(Nat.beq l l'&&decide (sn=ux)))
 |.lp .ready none,.lp .ready none=>true
 |.lp .busy none,.lp .busy none=>true
 |_,_=>false
theorem EB.beq_eq {a b:EB}(h:a.beq b=true):a=b:=by
 unfold EB.beq at h
 split at h<;>first
  |(cases h;done)
  |rfl
  |skip
 .simp only[z6,zm,zT] at h;obtain⟨rfl,rfl,rfl,h⟩:=h;rw[UU (M8 20) _ _ h]
 .simp only[z6,zT,Nat.beq_eq] at h;obtain⟨rfl,rfl,h⟩:=h;rw[UU (λa b h=>by
   simp only[z6,Nat.beq_eq] at h;obtain⟨a1,a2,a3⟩:=a;obtain⟨b1,b2,b3⟩:=b;obtain⟨h1,h2,h3⟩:=h;simp at h1 h2 h3;rw[M8 _ _ _ h1,M8 _ _ _ h2,h3]) _ _ h]
 .simp only[z6,zm,Nat.beq_eq] at h;obtain⟨rfl,rfl,rfl,rfl⟩:=h;rfl
def CH.newOk (h h':CH):Bool:=Nat.ble h.n h'.n&&(h'.room&&(List.range' h.n (h'.n-h.n)).all λi=>match h'.get i with
 |some (.lp _ _)=>false
 |_=>true)
structure AnsOps (A:Type) where
 fail:A
 both:A->A->A
structure Good {A:Type}(R:AnsOps A) (G:A->Prop):Prop where
 fail:¬ G R.fail
 both:∀ a b,G (R.both a b)->G a/\G b
def XG:AnsOps Bool:=⟨false,and⟩
theorem S0:Good XG (·=true):=⟨by simp[XG],λa b h=>by simpa [XG] using h⟩
def Ac:AnsOps (Option (Value×CH)):=⟨none,λ_ _=>none⟩
theorem Q6x (x:Value×CH):Good Ac (·=some x):=⟨by simp[Ac],λa b h=>by simp[Ac] at h⟩
def CH.same (h h':CH):Bool:=Nat.beq h.n h'.n&&(List.range h.n).all λi=>match h.get i,h'.get i with
 |none,none=>true
 |some a,some b=>a.beq b
 |_,_=>false
def EB.plainE:EB->Bool
 |.cells c _ _ _=>c.all QN
 |.map es _ _=>es.all λkv=>QN kv.2.1
 |_=>false
def CH.keepOk (h h':CH):Bool:=Nat.ble h.n h'.n&&(List.range h.n).all λi=>match h.get i,h'.get i with
 |none,none=>true
 |some a,some b=>b.plainE||a.beq b
 |_,_=>false
def gcI (n0:Nat) (refs:List Nat) (i:Nat):Nat×List Nat :=
 if i<n0 then (i,refs) else if refs.contains i=true then (n0+refs.idxOf i,refs) else (n0+refs.length,refs++[i])
def OM (g:List Nat->Value->Option (Value×List Nat)):List Value->List Nat->Option (List Value×List Nat)
 |[],refs=>some ([],refs)
 |v::vs,refs=>match g refs v with
  |none=>none
  |some p=>match OM g vs p.2 with
   |none=>none
   |some q=>some (p.1::q.1,q.2)
def gcX (n0:Nat):Nat->List Nat->Value->Option (Value×List Nat)
 |0,_,_=>none
 |f+1,refs,v=>match v with
  |.pointer (some ⟨i,o,none⟩)=>some (.pointer (some ⟨(gcI n0 refs i).1,o,none⟩),(gcI n0 refs i).2)
  |.slice (some ⟨i,o,none⟩) l c=>some (.slice (some ⟨(gcI n0 refs i).1,o,none⟩) l c,(gcI n0 refs i).2)
  |.slice (some ⟨i,o,some 0⟩) l c=>some (.slice (some ⟨(gcI n0 refs i).1,o,some 0⟩) l c,(gcI n0 refs i).2)
  |.map (some i)=>some (.map (some (gcI n0 refs i).1),(gcI n0 refs i).2)
  |.chan none=>some (.chan none,refs)
  |.iface t u=>match gcX n0 f refs u with
   |some p=>some (.iface t p.1,p.2)
   |none=>none
  |.agg cs=>match OM (gcX n0 f) cs.toList refs with
   |some p=>some (.agg p.1.toArray,p.2)
   |none=>none
  |.tuple cs=>match OM (gcX n0 f) cs.toList refs with
   |some p=>some (.tuple p.1.toArray,p.2)
   |none=>none
  |.func (.func g) fs cs=>match OM (gcX n0 f) fs.toList refs with
   |some p=>match OM (gcX n0 f) cs.toList p.2 with
    |some q=>some (.func (.func g) p.1.toArray q.1.toArray,q.2)
    |none=>none
   |none=>none
  |.func (.yield i) ⟨[]⟩ ⟨[]⟩=>if i<n0 then some (.func (.yield i) ⟨[]⟩ ⟨[]⟩,refs) else none
  |v=>if QN v=true then some (v,refs) else none
def Z1z (n0:Nat):List JD->List Nat->Option (List JD×List Nat)
 |[],refs=>some ([],refs)
 |e::es,refs=>match gcX n0 8 refs e.2.1 with
  |none=>none
  |some p=>match Z1z n0 es p.2 with
   |none=>none
   |some q=>some ((e.1,p.1,e.2.2)::q.1,q.2)
def gcB (n0:Nat) (refs:List Nat):EB->Option (EB×List Nat)
 |.cells c e w t=>match OM (gcX n0 8) c refs with
  |some p=>some (.cells p.1 e w t,p.2)
  |none=>none
 |.map es cl w=>match Z1z n0 es refs with
  |some p=>some (.map p.1 cl w,p.2)
  |none=>none
 |_=>none
def Q0a (h':CH) (n0:Nat):Nat->Nat->List Nat->CH->Option (CH×List Nat)
 |0,_,_,_=>none
 |f+1,k,refs,acc=>if refs.length<=k then (if k=refs.length then some (acc,refs) else none) else match h'.get (refs.getD k 0) with
  |none=>none
  |some b=>match gcB n0 refs b with
   |none=>none
   |some p=>if acc.room=true then Q0a h' n0 f (k+1) p.2 (acc.push p.1) else none
def Q2a (h h':CH) (refs:List Nat):Option (CH×List Nat) :=
 if h.keepOk h'=true then Q0a h' h.n 100000 0 refs ⟨h'.t,h.n⟩ else none
def Lg (h h':CH) (v:Value):Option (Value×CH):=match gcX h.n 8 [] v with
 |none=>none
 |some p=>match Q2a h h' p.2 with
  |none=>none
  |some q=>some (p.1,q.1)
def joinOps:AnsOps (Option (Value×CH)):=⟨none,λa b=>match a with
 |some x=>match b with
  |some y=>if TT 20 x.1 y.1=true/\x.2.same y.2=true then some x else none
  |none=>none
 |none=>none⟩
structure ET where
 t:GT Value
 m:Nat
def ET.get (e:ET) (i:Nat):Value:=Bool.rec (motive:=λ_=>Value) undef (e.t.get undef i) (Nat.blt i e.m)
def ET.set (e:ET) (i:Nat) (v:Value):ET:=Bool.rec (motive:=λ_=>ET) e ⟨e.t.set undef 32 i v,e.m⟩ (Nat.blt i e.m)
def ET.put (e:ET) (d:Option Nat) (v:Value):ET:=Option.rec (motive:=λ_=>ET) e (λd=>e.set d v) d
def etL (l:List Value):Nat->GT Value->GT Value:=List.rec (motive:=λ_=>Nat->GT Value->GT Value) (λ_ t=>t) (λv _ ih i t=>ih (i+1) (t.set undef 32 i v)) l
def ET.of (args:List Value) (nt:Nat):ET:=⟨etL args 0 .nil,args.length+(nt-args.length)⟩
def GI (e:ET) (x:Operand):Value:=Operand.rec (motive:=λ_=>Value) (λt=>e.get t) (λv=>v) (λg=>.pointer (some ⟨g,0,some 0⟩)) (λf=>.func (.func f) #[] #[]) x
def Q2t (e:ET) (ps:List Nat):List Value->ET:=List.rec (motive:=λ_=>ET->List Value->ET) (λe _=>e) (λp _ ih e vs=>List.rec (motive:=λ_=>ET) e (λv vs _=>ih (e.set p v) vs) vs) ps e
def FE (e:ET) (g:Option (Nat×Bool)):Option Bool:=match g with
 |none=>some true
 |some (d,want)=>match e.get d with
  |.bool b=>some (b==want)
  |.tuple _=>some false
  |_=>none
def ET.list (e:ET):List Value:=(List.range e.m).map e.get
def Z0w (h h':CH) (e:ET):Option (Value×CH):=Lg h h' (.tuple e.list.toArray)
structure RCtx where
 ps:List Nat
 a:VCode
 b:VCode
 env:ET
abbrev Ys:=List (Nat×RCtx)
def Ys.find:Ys->Nat->Option RCtx
 |[],_=>none
 |(j,c)::l,i=>if Nat.beq i j=true then some c else Ys.find l i
structure Memo where
 args:List Value
 bl:List PB
 v:Value
 fr:List PB
def Z0z (g:Value->Option Value):List Value->Option (List Value)
 |[]=>some []
 |v::vs=>match g v with
  |none=>none
  |some u=>match Z0z g vs with
   |none=>none
   |some us=>some (u::us)
def shX (a m d:Nat):Nat->Value->Option Value
 |0,_=>none
 |f+1,v=>match v with
  |.pointer (some ⟨i,o,none⟩)=>if a<=i/\i<m then some (.pointer (some ⟨d+(i-a),o,none⟩)) else none
  |.slice (some ⟨i,o,none⟩) l c=>if a<=i/\i<m then some (.slice (some ⟨d+(i-a),o,none⟩) l c) else none
  |.agg cs=>match Z0z (shX a m d f) cs.toList with
   |some p=>some (.agg p.toArray)
   |none=>none
  |.tuple cs=>match Z0z (shX a m d f) cs.toList with
   |some p=>some (.tuple p.toArray)
   |none=>none
  |v=>if QN v=true then some v else none
def TW (h:CH):Nat->List Nat->List PB->Option (List Nat)
 |k,refs,[]=>if refs.length=k then some refs else none
 |k,refs,b::m=>if k<refs.length then
   match h.get (refs.getD k 0) with
   |some (.cells c e _ t)=>(match OM (gcX 0 8) c refs with
    |some p=>if (decide (e=b.esz)&&(t==b.tight&&Fu (TT 20) p.1 b.c))=true then TW h (k+1) p.2 m else none
    |none=>none)
   |_=>none
  else none
def Xa:List PB->CH->CH
 |[],h=>h
 |b::l,h=>Xa l (h.push (.cells b.c b.esz true b.tight))
def Ay (h:CH) (args:List Value) (refs:List Nat):List Memo->Option Memo
 |[]=>none
 |m::ms=>if (Fu (TT 20) args m.args&&(TW h 0 refs m.bl).isSome)=true then some m else Ay h args refs ms
def RL (h:CH) (args:List Value) (ms:List Memo):Option (Value×CH) :=
 match OM (gcX 0 8) args [] with
 |none=>none
 |some p=>match Ay h p.1 p.2 ms with
  |none=>none
  |some m=>match Nat.ble (h.n+m.fr.length) 1000000000 with
   |false=>none
   |true=>match shX m.bl.length (m.bl.length+m.fr.length) h.n 8 m.v with
    |some v=>some (v,Xa m.fr h)
    |none=>none
inductive FEnt where
 |code (vc:VCode) (rs:List VResult) (nt:Nat)
 |codeJ (vc:VCode) (rs:List VResult) (nt:Nat)
 |codeM (vc:VCode) (rs:List VResult) (nt:Nat) (ms:List Memo)
 |same
abbrev Tab:=FuncId->Option FEnt
abbrev Q7d:=∀ {A:Type},AnsOps A->Ys->VCode->Option Nat->ET->CH->(Exit->ET->CH->A)->A
def Pr (env:ET) (M:CH):VResult->Option Value
 |.tmp t=>some (env.get t)
 |.cell a agg size=>match Z02 agg size (env.get a) M with|some p=>some p.1|none=>none
def Dh (env:ET) (M:CH):List VResult->Option (List Value)
 |[]=>some []
 |r::rs=>match Pr env M r with
  |none=>none
  |some v=>match Dh env M rs with
   |none=>none
   |some vs=>some (v::vs)
def MN (env:ET) (M:CH) (rs:List VResult):Option Value :=
 match rs with
 |[r]=>Pr env M r
 |rs=>match Dh env M rs with|some vs=>some (.tuple vs.toArray)|none=>none
section
variable (T:Tab) (ev:Q7d) {A:Type}(R:AnsOps A) (ys:Ys)
def Q6r (fail:A) (rs:List VResult) (k:Value->CH->A):Exit->ET->CH->A:=λe env h'=>match e with
  |.normal=>(match MN env h' rs with|some v=>k v h'|none=>fail)
  |.ret=>(match MN env h' rs with|some v=>k v h'|none=>fail)
  |_=>fail
def Bf (f:FuncId) (args:List Value) (h:CH) (k:Value->CH->A):A :=
 match T f with
 |some (.code vc rs nt)=>match Nat.ble (ET.of args nt).m 1000000 with
  |true=>ev R ys vc none (ET.of args nt) h (Q6r R.fail rs k)
  |false=>R.fail
 |some (.codeJ vc rs nt)=>match Nat.ble (ET.of args nt).m 1000000 with
  |true=>(match ev joinOps ys vc none (ET.of args nt) h (Q6r none rs λv h'=>Lg h h' v) with
   |some x=>if x.2.room=true/\Nat.ble h.n x.2.n=true then k x.1 x.2 else R.fail
   |none=>R.fail)
  |false=>R.fail
 |some (.codeM vc rs nt ms)=>match RL h args ms with
  |some p=>k p.1 p.2
  |none=>match Nat.ble (ET.of args nt).m 1000000 with
   |true=>ev R ys vc none (ET.of args nt) h (Q6r R.fail rs k)
   |false=>R.fail
 |some .same=>match args with
  |[v]=>k v h
  |_=>R.fail
 |none=>R.fail
def Iz (i:Nat) (k:Value->CH->A):Exit->ET->CH->A:=λe _ h =>
 match h.get i with
 |some (.lp .busy none)=>match e with
  |.normal=>k (.bool true) (h.upd i (.lp .ready none))
  |.ret=>k (.bool false) (h.upd i (.lp .done (some .ret)))
  |.exit id=>k (.bool false) (h.upd i (.lp .done (some (.exit id))))
  |_=>R.fail
 |_=>R.fail
def Q3h (c:RCtx) (i:Nat) (k:Value->CH->A):Exit->ET->CH->A:=λe bA h1=>match e with
 |.normal=>(match h1.get i with
  |some (.lp .ready none)=>ev R ys c.b (some i) bA (h1.upd i (.lp .busy none)) (Iz R i k)
  |_=>R.fail)
 |_=>R.fail
def IP (i:Nat) (args:List Value) (h:CH) (k:Value->CH->A):A :=
 match ys.find i with
 |some c=>match h.get i with
  |some (.lp .ready none)=>if args.length=c.ps.length then ev R ys c.a (some i) (Q2t c.env c.ps args) h (Q3h ev R ys c i k) else R.fail
  |_=>R.fail
 |none=>R.fail
def G7 (i m since clock:Nat) (seen:List Nat) (h:CH) (k:Value->CH->A):List JD->Option A
 |[]=>none
 |e::es=>if seen.contains e.2.2=true then G7 i m since clock seen h k es
  else match G7 i m since clock seen h k es with
   |none=>some (k (.tuple #[.bool true,e.1,e.2.1]) (h.upd i (.iter m since (seen++[e.2.2]) clock)))
   |some a=>some (R.both (k (.tuple #[.bool true,e.1,e.2.1]) (h.upd i (.iter m since (seen++[e.2.2]) clock))) a)
def Q5c (x:Value) (h:CH) (k:Value->CH->A):A :=
 match x with
 |.pointer (some ⟨i,0,none⟩)=>match h.get i with
  |some (.iter m since seen last)=>match h.mapAt m with
   |some (es,clock,_) =>
    if (seen.isEmpty||es.isEmpty||es.any (λe=>decide (e.2.2<last)))=true/\es.all (λe=>Vx e.1)=true then
     (match G7 R i m since clock seen h k es with
     |none=>if es.all (λe=>seen.contains e.2.2||decide (since<=e.2.2))=true then k (.tuple #[.bool false]) h else R.fail
     |some a=>if es.all (λe=>seen.contains e.2.2||decide (since<=e.2.2))=true then R.both (k (.tuple #[.bool false]) h) a else a)
    else R.fail
   |none=>R.fail
  |_=>R.fail
 |_=>R.fail
def Q3l (f:Value) (args:List Value) (h:CH) (k:Value->CH->A):A:=match f with
  |.func (.func g) first cap=>Bf T ev R ys g (first.toList++args++cap.toList) h k
  |.func (.yield i) _ _=>IP ev R ys i args h k
  |_=>R.fail
def FT (r:Option (Value×CH)) (k:Value->CH->A):A:=match r with
  |some p=>k p.1 p.2
  |none=>R.fail
def Q63 (o:VOp) (env:ET) (h:CH) (k:Value->CH->A):A :=
 match o with
 |.callF f args=>Bf T ev R ys f (args.map (GI env)) h k
 |.callV f args=>Q3l T ev R ys (GI env f) (args.map (GI env)) h k
 |.ext (.nextMap x)=>Q5c R (GI env x) h k
 |o=>FT R (Ck o (GI env) h) k
def FI (l:List VOper):ET->CH->(ET->CH->A)->A :=
 List.rec (motive:=λ_=>ET->CH->(ET->CH->A)->A) (λenv h k=>k env h)
  (λo _ ih env h k=>match FE env o.guard with
   |none=>R.fail
   |some true=>Q63 T ev R ys o.op env h λv h'=>ih (env.put o.dst v) h' k
   |some false=>ih (env.put o.dst undef) h k) l
def CU (op:VOp) (ev:Operand->Value) (v:Value) (h:CH):Bool:=match Ck op ev h with
 |some q=>TT 20 q.1 v
 |none=>false
def O4 (r:Nat) (h:CH):List (Nat×(CH->Bool))->Bool
 |[]=>true
 |c::l=>(!(Nat.ble r c.1)||c.2 h)&&O4 r h l
def Gr:List DOper->ET->List CH->CH->List (Nat×(CH->Bool))->(ET->CH->A)->A
 |[],env,_,h,_,k=>k env h
 |o::rest,env,hs,h,pend,k=>match FE env o.guard with
  |none=>R.fail
  |some true=>if o.kind=2 then
    (match Q63 T ev Ac ys o.op env h (λv h'=>some (v,h')) with
    |some p=>if h.newOk p.2=true/\O4 hs.length p.2 pend=true then Gr rest (env.put o.dst p.1) (hs++[p.2]) p.2 pend k else R.fail
    |none=>R.fail)
   else if o.kind=1 then
    (match Ck o.op (GI env) h with
    |some p=>if (hs.drop o.kmin).all (CU o.op (GI env) p.1)=true then
      Gr rest (env.put o.dst p.1) hs h (if hs.length<=o.kmax then (o.kmax,CU o.op (GI env) p.1)::pend else pend) k else R.fail
    |none=>R.fail)
   else match Ck o.op (GI env) h with
    |some p=>Gr rest (env.put o.dst p.1) hs h pend k
    |none=>R.fail
  |some false=>if o.kind=2 then
    (if O4 hs.length h pend=true then Gr rest (env.put o.dst undef) (hs++[h]) h pend k else R.fail)
   else Gr rest (env.put o.dst undef) hs h pend k
def Q5q (env:ET) (h:CH) (a:List DOper):Option (Value×CH):=Gr T ev joinOps ys a env [h] h [] λenv h'=>Z0w h h' env
def Aq (env:ET) (h:CH):List (List DOper)->Option (Value×CH)
 |[]=>none
 |[a]=>Q5q T ev ys env h a
 |a::b::r=>joinOps.both (Q5q T ev ys env h a) (Aq env h (b::r))
def T8:List DSeg->ET->CH->(ET->CH->A)->A
 |[],env,h,k=>k env h
 |.one o::rest,env,h,k=>FI T ev R ys [o] env h λenv h=>T8 rest env h k
 |.alts [a]::rest,env,h,k=>Gr T ev R ys a env [h] h [] λenv h=>T8 rest env h k
 |.alts l::rest,env,h,k=>match Aq T ev ys env h l with
  |some x=>(match x.1 with
   |.tuple vs=>if x.2.room=true/\Nat.ble h.n x.2.n=true/\vs.toList.length=env.m then T8 rest (ET.of vs.toList 0) x.2 k else R.fail
   |_=>R.fail)
  |none=>R.fail
def Q3v (h:CH):Option Nat->Bool
 |none=>true
 |some i=>match h.get i with
  |some (.lp _ _)=>true
  |_=>false
def Q5k:LoopState->Bool
 |.busy=>false
 |_=>true
def Q9t (env:ET) (i:Nat) (k:Exit->ET->CH->A):Value->CH->A:=λ_ h =>
 match h.get i with
 |some (.lp st pend)=>if Q5k st=true then (match pend with
   |none=>k .normal env (h.kill i)
   |some .ret=>k .ret env (h.kill i)
   |some (.exit id)=>k (.exit id) env (h.kill i)
   |some _=>R.fail) else R.fail
 |_=>R.fail
def Q7v (kb k:Exit->ET->CH->A):Exit->ET->CH->A:=λe env h=>match e with
 |.normal=>kb .normal env h
 |e=>k e env h
def OF (id:Nat) (k:Exit->ET->CH->A):Exit->ET->CH->A:=λe env h=>match e with
 |.exit iG=>if iG=id then k .normal env h else k (.exit iG) env h
 |e=>k e env h
def Q69 (v:Value) (a b:A):A:=match v with
 |.bool true=>a
 |.bool false=>b
 |_=>R.fail
def I_ (g:Value) (ps:List Nat) (a b:VCode) (ro:Option Nat) (env:ET) (h:CH) (k:Exit->ET->CH->A):A:=match g with
 |.func (.func f) first cap=>match T f with
  |some (.code _ _ _)=>if Q3v h ro=true/\h.room=true then
    Bf T ev R ((h.n,⟨ps,a,b,env⟩)::ys) f (first.toList++[.func (.yield h.n) #[] #[]]++cap.toList) (h.push (.lp .ready none)) (Q9t R env h.n k)
   else R.fail
  |_=>R.fail
 |_=>R.fail
def L7 (c:VCode):Option Nat->ET->CH->(Exit->ET->CH->A)->A :=
 VCode.rec (motive:=λ_=>Option Nat->ET->CH->(Exit->ET->CH->A)->A)
  (λ_ env h k=>k .normal env h)
  (λops _ env h k=>FI T ev R ys ops env h (k .normal))
  (λaS _ env h k=>T8 T ev R ys aS env h (k .normal))
  (λg ps a b _ _ ro env h k=>I_ T ev R ys (GI env g) ps a b ro env h k)
  (λ_ _ fk eG ro env h k=>fk ro env h (Q7v (λ_ af h'=>eG ro af h' k) k))
  (λc _ _ fk eG ro env h k=>Q69 R (GI env c) (fk ro env h k) (eG ro env h k))
  (λid _ ih ro env h k=>ih ro env h (OF id k))
  (λb ih ro env h k=>ih ro env h (Q7v (λ_ af h'=>ev R ys (.loop b) ro af h' k) k))
  (λid _ env h k=>k (.exit id) env h)
  (λ_ env h k=>k .ret env h)
  (λ_ _ _ _=>R.fail) c
end
def Dg (T:Tab) (n:Nat):Q7d :=
 Nat.rec (motive:=λ_=>Q7d) (λR _ _ _ _ _ _=>R.fail) (λ_ ih {_} R ys c ro env h k=>L7 T ih R ys c ro env h k) n
end Go.V