/- A framework for walks, contracts of functions, and their proofs: part 2. -/
import Derived.RangeFuncLeaves
import Derived.RangeFuncCalls
import Derived.OrdersIn
import Derived.TacticsIn
import Derived.Sort.LoopGhostIn
import Derived.Deep.LoopGhost
import Derived.Test.YtfblnfcecfjbpaaGreatM1
noncomputable section
namespace Go.V
open Go
section
variable {P:Program}{S:VSpecs}{B:Nat}
def FF:Option Nat->Fence
 |none=>Fence.wide
 |some l=>Fence.wide.inRound l
theorem O_ (ro:Option Nat) (f:FuncId):(FF ro).fn f:=by cases ro<;>trivial
theorem Cp (ro:Option Nat):(FF ro).depth=none:=by cases ro<;>rfl
theorem Q6z (ro:Option Nat):(FF ro).round=ro:=by cases ro<;>rfl
theorem Im {ro:Option Nat}{n:Nat}{f:FuncId}{args:Array Value}{w:World}{R:Ending->World->Prop}(h:Calls P f args w R):CallsIn (FF ro) n P f args w R:=by
 cases ro with
 |none=>exact callsIn_wide.2 h
 |some l=>exact CallsIn.inRound l (callsIn_wide.2 h)
theorem I4 {ro:Option Nat}{n m:Nat}{l:Nat}{f:FuncId}{tmps:Array Value}{fe body:Code}{w:World}{R:Ending->World->Prop}(h:RoundIn Fence.wide m P l f tmps fe body w R):RoundIn (FF ro) n P l f tmps fe body w R:=by refine⟨O_ _ _,λc cs _=>?_⟩;obtain⟨e,w',r,s⟩:=h.2 c cs (room_wide _);refine⟨e,w',r,?_⟩;cases ro<;>exact s
def Got (ρ:Plc) (M:Heap) (w:World) (R:Value->Heap->Prop) (c:Value) (w':World):Prop :=
 ∃ v ρ' M',R v M'/\VRel ρ' M'.n v c/\HRel ρ' M' w'/\Ext ρ M w ρ' M' w'
def VCallsTo (P:Program) (f:FuncId) (args:List Value) (M:Heap) (R:Value->Heap->Prop):Prop :=
 ∀ ρ w (aA:Array Value),HRel ρ M w->LRel ρ M.n args aA.toList->Calls P f aA w λe w'=>∃ c,e=.returned c/\Got ρ M w R c w'
def VCalled (P:Program) (f:FuncId) (args:List Value) (M:Heap) (R:Value->Heap->Prop):Prop :=
 ∀ ρ w (aA:Array Value),HRel ρ M w->LRel ρ M.n args aA.toList ->
  ((∀ w,(callFunc f aA).run P w=.ok (.enter f aA) w)/\Calls P f aA w λe w'=>∃ c,e=.returned c/\Got ρ M w R c w') \/
  (∃ c,Got ρ M w R c w/\∀ w',Like ρ w w'->(callFunc f aA).run P w'=.ok (.value c) w')
def Rr (P:Program) (i:Nat) (args:List Value) (M:Heap) (R:Value->Heap->Prop):Prop :=
 ∀ ρ w (aA:Array Value),HRel ρ M w->LRel ρ M.n args aA.toList ->
  ∃ p,ρ i=some p/\∃ fn tmps fe body,(Instr.yield p.blk aA).run P w=.ok (.round p.blk fn tmps fe body) w /\
   RoundIn Fence.wide 0 P p.blk fn tmps fe body w λe w'=>∃ c,e=.returned c/\Got ρ M w R c w'
def W1 (P:Program) (f:FuncId):Prop:=∃ fn,P.funcs[f]?=some fn/\fn.body.isSome=true/\(fn.name=="runtime.NumGoroutine")=false
def Z5b (P:Program) (f:FuncId) (s:S5):Prop:=∀ args M K,s args M K->VCalled P f args M K
def U6 (P:Program) (i:Nat) (s:S5):Prop:=∀ args M K,s args M K->Rr P i args M K
def Z50 (P:Program) (f:FuncId) (T:Nat->S5->S5):Prop:=W1 P f/\∀ i Y,U6 P i Y->∀ args M K,T i Y args M K->VCallsTo P f args M K
structure OkSpecs (P:Program) (S:VSpecs):Prop where
 fn:∀ f s,S.fn f=some s->Z5b P f s
 yl:∀ i s,S.yl i=some s->U6 P i s
 it:∀ f T,S.it f=some T->Z50 P f T
theorem G5 {f:FuncId}(h:W1 P f) (args:Array Value) (w:World):(callFunc f args).run P w=.ok (.enter f args) w:=by
 obtain⟨fn,h1,h2,h3⟩:=h;have h4:¬ fn.body=none:=λe=>by rw[e] at h2;cases h2
 have h5:¬ fn.name="runtime.NumGoroutine":=λe=>by rw[e] at h3;simp at h3
 simp[callFunc,h1,h4,h5]
theorem VCallsTo.called {f:FuncId}{args:List Value}{M:Heap}{R:Value->Heap->Prop}(he:W1 P f) (h:VCallsTo P f args M R):VCalled P f args M R :=
 fun ρ w aA hH hL=>.inl ⟨λw=>G5 he aA w,h ρ w aA hH hL⟩
theorem Got.mono {ρ:Plc}{M:Heap}{w:World}{R R':Value->Heap->Prop}{c:Value}{w':World}(h:Got ρ M w R c w') (hr:∀ v M',R v M'->R' v M'):Got ρ M w R' c w' :=
 let ⟨v,ρ',M',h1,h2⟩:=h;⟨v,ρ',M',hr _ _ h1,h2⟩
theorem VCallsTo.mono {f:FuncId}{args:List Value}{M:Heap}{R R':Value->Heap->Prop}(h:VCallsTo P f args M R) (hr:∀ v M',R v M'->R' v M'):VCallsTo P f args M R' :=
 fun ρ w aA hH hL=>(h ρ w aA hH hL).mono λ_ _ ⟨c,he,hg⟩=>⟨c,he,hg.mono hr⟩
theorem KM {ρ:Plc}{n:Nat}{env:Env}{a:Act}(h:LRel ρ n env a.tmps.toList) {v c:Value}(hv:VRel ρ n v c) (d:Option Nat):LRel ρ n (XQ env d v) (a.put d c).tmps.toList:=by
 cases d with
 |none=>exact h
 |some d=>simp only[XQ,Act.put,Array.toList_setIfInBounds];exact h.set d hv
theorem ZR (env:Env) (d:Option Nat) (v:Value):List.length (XQ env d v)=List.length env:=by cases d<;>simp[XQ]
theorem XP (a:Act) (d:Option Nat) (c:Value):(a.put d c).defers=a.defers:=by cases d<;>rfl
theorem B_ {ρ:Plc}{n:Nat}{env:Env}{a:Act}{ops:Array Oper}{o:Oper}{vo:VOper}(hc:JA P ops o=some vo) (hL:LRel ρ n env a.tmps.toList) {b:Bool}(h:Jy env vo.guard=some b) :
  Region.wanted o (yielded ops a.tmps)=b/\vo.dst=o.dst/\Vv P o.op=vo.op:=by
 unfold JA at hc;simp only[zL] at hc;cases hg:o.guard with
 |none =>simp[hg] at hc;subst hc;simp[Jy] at h;subst h;simp[Region.wanted,hg]
 |some jw =>
  obtain⟨j,want⟩:=jw;simp[hg] at hc;cases hj:ops[j]? with
  |none=>simp[hj] at hc
  |some oj =>
   cases hd:oj.dst with
   |none=>simp[hj,hd] at hc
   |some d =>
    simp[hj,hd] at hc;subst hc;refine⟨?_,rfl,rfl⟩;simp only[Jy] at h;simp only[Region.wanted,hg,yielded,hj,xx,hd];have hlen:List.length env=a.tmps.size:=by have:=hL.1;rw[Array.length_toList] at this;exact this
    rcases zk d (List.length env) with af|bB
    .have bY:d<a.tmps.size:=by rw[<-hlen];exact af
     have hr:=hL.2 d env[d] a.tmps[d] (z5 af) (by simp[bY]);have he:env.getD d undef=env[d]:=by simp[List.getD,af]
     rw[he] at h;simp only[xi bY];split at h
     .rename_i b' heq;rw[heq] at hr;rw[hr.q1d];simp at h;simp[<-h]
     .rename_i vs heq;rw[heq] at hr;obtain⟨ds,hds,_⟩:=hr.q1j;rw[hds];simp at h;subst h;simp
     .cases h
    .have he:env.getD d undef=undef:=by simp[List.getD,zr bB]
     rw[he] at h;have:a.tmps[d]?=none:=Array.getElem?_eq_none (by rw[<-hlen];exact bB);simp only[this];simp[undef] at h;subst h;simp
theorem Q65 {o:Oper}{vo:VOp}(hc:Up P o.op=some vo) {ρ:Plc}{M:Heap}{env:Env}{a:Act}(hL:LRel ρ M.n env a.tmps.toList) {K:Value->Heap->Prop}
  (aC:(∃ f bM,vo=.callF f bM)\/(∃ f bM,vo=.callV f bM)) {σ0:Heap}(h:vop S vo env σ0 K) :
  (∃ f args aA,vcall S f args σ0 K/\LRel ρ M.n args aA.toList/\∀ w,(execOp a.eval o).run P w=(callFunc f aA).run P w) \/
  (∃ i r args aA,Iu S i args σ0 K/\VRel ρ M.n (.func (.yield i) #[] #[]) (.func (.yield r) #[] #[])/\LRel ρ M.n args aA.toList/\∀ w,(execOp a.eval o).run P w=(Instr.yield r aA).run P w):=by
 have bg:=hc;cases ep:Up P o.op with
 |none=>rw[ep] at hc;cases hc
 |some tm =>
  clear ep hc tm;obtain⟨dst,op,ty,pos,after,guard⟩:=o;simp only at bg;unfold Up at bg;split at bg
  .cases bg
  rename_i ai;simp only[xO,xm] at ai;cases op
  case call c =>
   simp only[Op.operands] at ai bg;split at bg
   .rename_i f aJ;simp at bg;subst bg;simp only[vop] at h;have az:(c.args.toList).all XI=true:=by
     simp only[Call.operands,aJ,Array.toList_append,List.all_append,z4] at ai;exact ai.2
    refine .inl ⟨f,_,c.args.map a.eval,h,by have:=Am (λx hx=>WZ hL hx) az;simpa using this,λw=>?_⟩;simp[execOp,resolve,aJ,Act.eval,Deferred.ofValue,invoke]
   .rename_i fo aw aJ;simp at bg;subst bg;simp only[vop] at h;simp only[Call.operands,aJ,Array.toList_append,List.all_append,z4] at ai;have hf:=WZ hL (x:=fo) (by simpa using ai.1);have has:=Am (λx hx=>WZ hL hx) ai.2;split at h
    .rename_i g first cap heq
     rw[heq] at hf;cases ka:a.eval fo with
     |func fn gs ds =>
      rw[ka] at hf;cases hf with
      |func _ _ _ _ _ h1 h2 h3 h4 =>
       refine .inl ⟨g,_,gs++c.args.map a.eval++ds,h,?_,λw=>?_⟩
       .have eR:=LRel.of_array h1 h3;have ck:=LRel.of_array h2 h4;have:=(eR.append has).append ck;simpa using this
       .simp[execOp,resolve,aJ,ka,Deferred.ofValue,invoke]
     |_=>rw[ka] at hf;cases hf
    .rename_i i first cap heq
     rw[heq] at hf;have hinv:∀ c,VRel ρ M.n (.func (.yield i) first cap) c->∃ r,c=.func (.yield r) #[] #[]/\VRel ρ M.n (.func (.yield i) #[] #[]) (.func (.yield r) #[] #[]):=by
      intro c h;cases h with
      |yield _ r hi hr=>exact⟨r,rfl,.yield i r hi hr⟩
     obtain⟨r,ka,hv⟩:=hinv _ hf;refine .inr ⟨i,r,_,c.args.map a.eval,h,hv,by simpa using has,λw=>?_⟩;simp[execOp,resolve,aJ,ka,Deferred.ofValue,invoke]
    .cases h
   all_goals
    repeat' first
     |(cases bg;done)
     |(simp at bg;subst bg;rcases aC with⟨f,bM,h⟩|⟨f,bM,h⟩<;>cases h;done)
     |split at bg
   all_goals
    simp only[zL,x3] at bg;obtain⟨_,_,_,_,bg⟩:=bg;split at bg<;>simp at bg;subst bg;rcases aC with⟨f,bM,h⟩|⟨f,bM,h⟩<;>cases h
  all_goals simp only[Op.operands] at ai bg
  all_goals
   repeat' first
    |(cases bg;done)
    |(simp at bg;subst bg;rcases aC with⟨f,bM,h⟩|⟨f,bM,h⟩<;>cases h;done)
    |split at bg
  all_goals simp only[zL,x3,reduceCtorEq,and_false,exists_false] at bg
  all_goals first
   |(obtain⟨_,_,bg⟩:=bg;simp at bg;subst bg;rcases aC with⟨f,bM,h⟩|⟨f,bM,h⟩<;>cases h;done)
   |(obtain⟨_,_,_,_,bg⟩:=bg;simp at bg;subst bg;rcases aC with⟨f,bM,h⟩|⟨f,bM,h⟩<;>cases h;done)
   |(obtain⟨_,_,_,_,_,_,bg⟩:=bg;simp at bg;subst bg;rcases aC with⟨f,bM,h⟩|⟨f,bM,h⟩<;>cases h;done)
   |(obtain⟨d,_,bg⟩:=bg;cases d<;>simp at bg<;>subst bg<;>rcases aC with⟨f,bM,h⟩|⟨f,bM,h⟩<;>cases h;done)
   |(obtain⟨_,_,_,_,bg⟩:=bg;split at bg<;>simp at bg;subst bg;rcases aC with⟨f,bM,h⟩|⟨f,bM,h⟩<;>cases h;done)
   |(obtain⟨_,_,bg⟩:=bg;split at bg<;>simp at bg;subst bg;rcases aC with⟨f,bM,h⟩|⟨f,bM,h⟩<;>cases h;done)
theorem MO {o:Op}{vo:VOp}(h:Vv P o=vo) (hv:vo≠.bad):Up P o=some vo\/∃ x,SY P o=some x/\vo=.ext x:=by
 unfold Vv at h;split at h
 .rename_i v gi;subst h;exact .inl gi
 .split at h
  .rename_i x hx;exact .inr ⟨x,hx,h.symm⟩
  .exact absurd h.symm hv
theorem Q04 {o:Op}{x:XOp}(h:Up P o=some (.ext x)):False:=by
 unfold Up at h
 repeat' first
  |contradiction
  |(cases h;done)
  |(simp at h;done)
  |(rw[zL,x3] at h;obtain⟨_,_,h⟩:=h)
  |split at h
theorem CD {o:Op}{vo:VOp}(h:Vv P o=vo) (hv:vo≠.bad) (c:Call):o≠.defer c:=by
 rintro rfl;rcases MO h hv with h|⟨x,h,_⟩
 .unfold Up at h;split at h<;>simp at h
 .unfold SY at h;split at h<;>simp at h
theorem Q0k {o:Oper}{x:Operand}(hc:SY P o.op=some (.nextMap x)) {ρ:Plc}{M:Heap}{w:World}{env:Env}{ev:Operand->Value}(hH:HRel ρ M w) (hE:∀ x,XI x=true->VRel ρ M.n (Q5 env x) (ev x))
  {K:Value->Heap->Prop}(h:FB (Q5 env x) M K):∃ c w',(execOp ev o).run P w=.ok (.value c) w'/\Got ρ M w K c w':=by
 obtain⟨dst,op,ty,pos,after,guard⟩:=o;simp only at hc;unfold SY at hc;split at hc
 .cases hc
 rename_i ai;simp only[xO,xm] at ai;have bG:op=.next x false:=by
  cases op
  case next y b=>cases b<;>simp at hc;subst hc;rfl
  all_goals
   simp only at hc
   repeat' first
    |contradiction
    |(obtain⟨_,h⟩:=Q0l hc;cases h;done)
    |(cases hc;done)
    |(simp at hc;done)
    |(rw[zL,x3] at hc;obtain⟨_,_,hc⟩:=hc)
    |split at hc
 subst bG;clear hc;simp[Op.operands] at ai;have hx:=hE x ai;unfold FB at h;split at h
 .rename_i i bw;rw[bw] at hx;split at h
  .rename_i m since seen last hb;split at h
   .rename_i es clock wr aG;obtain⟨h1,ae,h2,h3⟩:=h;obtain⟨p,hp,⟨_,ez⟩,O,hO,rm,rfl,ph⟩:=hH.live i _ hb;obtain⟨q,entries,h_,cA,aF,aH⟩:=W6 hH aG ph;simp at h_;subst h_;obtain⟨_,_,cm⟩:=hx.q0w hp;rw[ez,xh] at cm;have gP:(getObj p.blk).run P w=.ok (.mapIter (some q.blk) since seen.toArray last) w:=QH hO (λ_ _ _ e=>by cases e);have dh:(getObj q.blk).run P w=.ok (.map entries clock) w:=QH aF (λ_ _ _ e=>by cases e);let left:=entries.filter λe=>!seen.toArray.contains e.born;let aV:=left.filter (·.born<since);let new:=left.filter (·.born>=since);let bH:Array (Option MapEntry):=(if aV.isEmpty then #[none] else #[])++(aV++new).map some;have bE:0<bH.size:=by
     by_cases ho:aV.isEmpty=true
     .simp only[bH,ho,zB,Array.size_append];show 0<1+_;omega
     .have:aV.size≠0:=λe=>ho (by simp[Array.isEmpty,e]);simp only[bH,Array.size_append,Array.size_map];omega
    obtain⟨k,w1,hk,dP,qi⟩:∃ k w1,k<bH.size/\(choose (.mapNext bH.size)).run P w=.ok k w1/\(w1=w\/w1=w.drew):=by
     rw[run_choose_drew];by_cases hf:(Question.mapNext bH.size).forced=true
     .exact⟨0,w,bE,by rw[z3 hf],.inl rfl⟩
     .refine⟨_,w.drew,?_,by rw[z0 hf],.inr rfl⟩;exact w5 _ bE
    have iT:HRel ρ M w1:=by rcases qi with rfl|rfl;exact hH;exact hH.drew
    have fF:Ext ρ M w ρ M w1:=by rcases qi with rfl|rfl;exact Ext.refl _ _ _;exact Ext.drew _ _ _
    have tn:w1.heap[p.blk]?=some (.mapIter (some q.blk) since seen.toArray last):=by rcases qi with rfl|rfl<;>exact hO
    have ak:¬ ((!seen.toArray.isEmpty&&!entries.isEmpty&&entries.all (λe=>decide (e.born>=last)))=true):=by
     intro hh;simp only[z4] at hh;obtain⟨⟨h4,h5⟩,h6⟩:=hh;simp only[zx] at h1;rcases h1 with (h1|h1)|h1
     .rw[List.isEmpty_iff] at h1;subst h1;simp at h4
     .rw[List.isEmpty_iff] at h1;subst h1;have:entries=#[]:=by have:=aH.1;simpa using this
      subst this;simp at h5
     .obtain⟨kv,dw,af⟩:=xF.1 h1;obtain⟨j,hj⟩:=xd.1 dw;have cj:j<entries.toList.length:=by rw[aH.1];exact(z9.1 hj).1
      have he:=aH.2 j entries.toList[j] kv (z5 cj) hj;have:=Array.all_eq_true'.1 h6 entries.toList[j] (by rw[<-Array.mem_toList_iff];exact zu cj);have h7:=he.2.1;simp at this af;simp at h7;omega
    have aX:∀ r,(match bH[k]? with
      |some (some e)=>(do setObj p.blk (.mapIter (some q.blk) since (seen.toArray.push e.born) clock);pure (Value.tuple #[.bool true,e.key,e.val]):Sem Value)
      |some none=>pure (.tuple #[.bool false])
      |none=>stuck "Next: no such candidate").run P w1=r->(Instr.next (ev x) false ty).run P w=r:=by
     intro r hr;rw[<-hr];simp only[Instr.next,cm,zw,gP,dh,zi];rw[z0 ak];simp only[zw];change ((choose (Question.mapNext bH.size)).run P w).andThen _=_;rw[dP];rfl
    have hval:∀ c w',(Instr.next (ev x) false ty).run P w=.ok c w'->(execOp ev ⟨dst,.next x false,ty,pos,after,guard⟩).run P w=.ok (.value c) w':=λc w' h=>by simp[execOp,h]
    have fc:bH[k]?=some bH[k]:=xi hk;cases hx:bH[k] with
    |none =>
     rw[hx] at fc;have aI:none∈bH:=hx▸Array.getElem_mem hk;have hold:aV.isEmpty=true:=by
      cases ho:aV.isEmpty with
      |true=>rfl
      |false=>simp[bH,ho] at aI
     refine⟨_,w1,hval _ _ (aX _ (by rw[fc];rfl)),_,ρ,M,h2 ?_,VRel.q0j (LRel.cons (.bool _) (LRel.nil _ _)),iT,fF⟩;refine z8.2 λkv dw=>?_;obtain⟨j,hj⟩:=xd.1 dw;have cj:j<entries.toList.length:=by rw[aH.1];exact(z9.1 hj).1
     have he:=aH.2 j entries.toList[j] kv (z5 cj) hj;cases tq:seen.contains kv.2.2 with
     |true=>rfl
     |false =>
      simp only[Bool.false_or,zn];rcases zk kv.2.2 since with af|bB
      .exfalso;have:entries.toList[j]∈aV:=by
        simp only[aV,left,Array.mem_filter,zn];refine⟨⟨by rw[<-Array.mem_toList_iff];exact zu cj,?_⟩,by rw[he.2.1];exact af⟩;rw[he.2.1];simpa using tq
       rw[Array.isEmpty_iff] at hold;rw[hold] at this;simp at this
      .exact bB
    |some e =>
     rw[hx] at fc;have aI:some e∈bH:=hx▸Array.getElem_mem hk;have nC:e∈left:=by
      have h4:e∈aV++new:=by
       simp only[bH,Array.mem_append,Array.mem_map] at aI;rcases aI with aI|⟨a,ha,pc⟩
       .split at aI<;>simp at aI
       .simp at pc;subst pc;simpa using ha
      rcases Array.mem_append.1 h4 with h4|h4
      .exact(Array.mem_filter.1 h4).1
      .exact(Array.mem_filter.1 h4).1
     obtain⟨hel,mG⟩:=Array.mem_filter.1 nC;rw[<-Array.mem_toList_iff] at hel;obtain⟨j,hj⟩:=xd.1 hel;have cj:j<es.length:=by rw[<-aH.1];exact(z9.1 hj).1
     have he:=aH.2 j e es[j] hj (z5 cj);have kZ:=h3 es[j] (zu cj) (by rw[<-he.2.1];simpa using mG);obtain⟨k1,k2⟩:=iT.setObj (o':=.iter m since (seen++[es[j].2.2]) clock) (O':=.mapIter (some q.blk) since (seen.toArray.push e.born) clock) hp hb ⟨q.blk,by rw[he.2.1];simp,ph⟩;have aP:VRel ρ M.n es[j].1 e.key:=by rw[he.1];exact Uk (z8.1 ae _ (zu cj))
     refine⟨_,_,hval _ _ (aX _ (by
      rw[fc];simp only[zw,Z1 tn (λ_ _ _ e=>by cases e),zi,x5])),_,ρ,_,kZ,VRel.q0j (LRel.cons (.bool _) (LRel.cons aP (LRel.cons he.2.2 (LRel.nil _ _)))),k1,fF.trans k2⟩
   .exact h.elim
  .exact h.elim
 .exact h.elim
theorem Q4g (hS:OkSpecs P S) {f:FuncId}{args:List Value}{M:Heap}{K:Value->Heap->Prop}(h:vcall S f args M K):VCalled P f args M K:=by
 unfold vcall at h;split at h
 .rename_i s hs;exact hS.fn f s hs _ _ _ h
 .exact h.elim
theorem Q0j (hS:OkSpecs P S) {i:Nat}{args:List Value}{M:Heap}{K:Value->Heap->Prop}(h:Iu S i args M K):Rr P i args M K:=by
 unfold Iu at h;split at h
 .rename_i s hs;exact hS.yl i s hs _ _ _ h
 .exact h.elim
theorem Q2d {o:Oper}{vo:VOp}(hc:Vv P o.op=vo) {ρ:Plc}{M:Heap}{w:World}{env:Env}{a:Act}(hH:HRel ρ M w) (hL:LRel ρ M.n env a.tmps.toList) {v:Value}{M':Heap}
  (h:Qa vo (Q5 env) M=some (v,M')):CP P ρ M w v M' (execOp a.eval o):=by
 cases hq:vo.quiet with
 |false=>exact Q6g hc hq hH (λx hx=>WZ hL hx) h
 |true =>obtain⟨rfl,c,eF,hr⟩:=Q3t hc hq hH (λx hx=>WZ hL hx) h;exact⟨c,w,ρ,.inl (hr w (Like.refl ρ w)),eF,hH,Ext.refl _ _ _⟩
theorem Um (hS:OkSpecs P S) {ro:Option Nat}{n:Nat}{o:Oper}{vo:VOp}(bG:Vv P o.op=vo) {ρ:Plc}{M:Heap}{w:World}{env:Env}{a:Act}(hH:HRel ρ M w) (hL:LRel ρ M.n env a.tmps.toList)
  {K:Value->Heap->Prop}(h:vop S vo env M K) {next:Act->World->Prop}{Q':Exit->Act->World->Prop}(hn:∀ c w',Got ρ M w K c w'->next (a.put o.dst c) w'):o.wpIn (FF ro) n P a w next Q':=by
 refine⟨λf _=>O_ _ _,?_⟩;have cE:vo≠.bad:=by rintro rfl;exact h.elim
 rw[Oper.semAt_eq _ _ _ (CD bG cE)];by_cases aC:(∃ f bM,vo=.callF f bM)\/(∃ f bM,vo=.callV f bM)
 .have hc:Up P o.op=some vo:=by
   rcases MO bG cE with hc|⟨x,_,hx⟩
   .exact hc
   .subst hx;rcases aC with⟨f,bM,hh⟩|⟨f,bM,hh⟩<;>cases hh
  rcases Q65 (S:=S) hc hL aC h with⟨f,args,aA,hv,nj,hr⟩|⟨i,r,args,aA,hv,cF,nj,hr⟩
  .rcases Q4g hS hv ρ w aA hH nj with⟨h1,h2⟩|⟨c,hg,h2⟩
   .rw[hr,h1];exact⟨(λhd=>by rw[Cp] at hd;cases hd),(Im h2).mono λe w' ⟨c,he,hg⟩=>by subst he;exact hn c w' hg⟩
   .rw[hr,h2 w (Like.refl ρ w)];exact hn c w hg
  .obtain⟨p,hp,fn,tmps,fe,body,h1,h2⟩:=Q0j hS hv ρ w aA hH nj;have tu:r=p.blk:=by
    cases cF with
    |yield _ _ _ hh=>exact hh p hp
   rw[hr,tu,h1];exact⟨(λhd=>by rw[Cp] at hd;cases hd),(I4 h2).mono λe w' ⟨c,he,hg⟩=>by subst he;exact hn c w' hg⟩
 .by_cases eK:∃ x,vo=.ext (.nextMap x)
  .obtain⟨x,rfl⟩:=eK;have hc:SY P o.op=some (.nextMap x):=by
    rcases MO bG cE with hc|⟨y,hy,hx⟩
    .have:=Q04 hc;exact this.elim
    .cases hx;exact hy
   obtain⟨c,w',hr,hg⟩:=Q0k hc hH (λx hx=>WZ hL hx) h;rw[hr];exact hn c w' hg
  .have fT:∃ v M',Qa vo (Q5 env) M=some (v,M')/\K v M':=by
    unfold vop at h;split at h
    .exact absurd (.inl ⟨_,_,rfl⟩) aC
    .exact absurd (.inr ⟨_,_,rfl⟩) aC
    .exact absurd ⟨_,rfl⟩ eK
    .cases dQ:Qa vo (Q5 env) M with
     |none=>rw[dQ] at h;exact h.elim
     |some p=>rw[dQ] at h;exact⟨p.1,p.2,rfl,h⟩
   obtain⟨v,M',dQ,hK⟩:=fT;obtain⟨c,w',ρ',aX,eF,gu,hE⟩:=Q2d bG hH hL dQ;have hg:Got ρ M w K c w':=⟨v,ρ',M',hK,eF,gu,hE⟩;rcases aX with aX|⟨aX,rfl⟩
   .rw[aX];exact hn c w' hg
   .rw[aX];exact hn undef w' hg
def Mks (B:Nat) (ds:List Deferred) (w:World):Prop:=B<=w.heap.size/\∃ Ds:List Nat,ds=Ds.map (λD=>⟨.collected D,#[]⟩)/\Ds.Nodup/\∀ D∈Ds,B<=D/\w.heap[D]?=some (.deferred (some []))
theorem Mks.nil {w:World}(h:B<=w.heap.size):Mks B [] w:=⟨h,[],rfl,List.nodup_nil,λ_ h=>by cases h⟩
theorem Mks.ext {ds:List Deferred}{ρ ρ':Plc}{M M':Heap}{w w':World}(h:Mks B ds w) (hH:HRel ρ M w) (hE:Ext ρ M w ρ' M' w'):Mks B ds w':=by
 obtain⟨h0,Ds,h1,h2,h3⟩:=h;refine⟨x8 h0 hE.size,Ds,h1,h2,λD hD=>⟨(h3 D hD).1,?_⟩⟩;have hb:=(h3 D hD).2;have af:D<w.heap.size:=by
  rcases zk D w.heap.size with h'|h'
  .exact h'
  .rw[Array.getElem?_eq_none h'] at hb;cases hb
 rw[hE.keep D af (λ⟨i,p,b,hp,_,_,tv⟩=>hH.q0l hb i p hp tv)];exact hb
def PL (B m:Nat) (ρ:Plc) (M:Heap) (w:World) (K:Env->Heap->Prop) (a':Act) (w':World):Prop :=
 ∃ ah ρ' M',K ah M'/\List.length ah=m/\HRel ρ' M' w'/\LRel ρ' M'.n ah a'.tmps.toList/\Mks B a'.defers w'/\Ext ρ M w ρ' M' w'
theorem Q06 (hS:OkSpecs P S) {ro:Option Nat}{n:Nat}(ops:Array Oper) (Q:Exit->Act->World->Prop):∀ (l:List Oper) (lv:List VOper),l.mapM (JA P ops)=some lv ->
  ∀ (env:Env) (M:Heap) (K:Env->Heap->Prop) (ρ:Plc) (w:World) (a:Act),Sq S lv env M K->HRel ρ M w->LRel ρ M.n env a.tmps.toList->Mks B a.defers w ->
  (∀ a' w',PL B (List.length env) ρ M w K a' w'->Q .normal a' w')->wpListIn (FF ro) n P ops Q l a w:=by
 intro l;induction l with
 |nil =>intro lv bR env M K ρ w a h hH hL hd hQ;simp at bR;subst bR;exact hQ a w ⟨env,ρ,M,h,rfl,hH,hL,hd,Ext.refl _ _ _⟩
 |cons o l ih =>
  intro lv bR env M K ρ w a h hH hL hd hQ;rw[xl] at bR;cases bg:JA P ops o with
  |none=>simp[bg] at bR
  |some vo =>
   cases hZ:l.mapM (JA P ops) with
   |none=>simp[bg,hZ] at bR
   |some rI =>
    simp[bg,hZ] at bR;subst bR;simp only[Sq] at h;cases hw:Jy env vo.guard with
    |none=>rw[hw] at h;exact h.elim
    |some b =>
     rw[hw] at h;obtain⟨dx,bD,bG⟩:=B_ bg hL hw;obtain⟨ht,hf⟩:=h;simp only[wpListIn];rw[dx];cases b with
     |false =>rw[z0 (by simp)];exact⟨λf _=>O_ _ _,ih rI hZ (XQ env vo.dst undef) M K ρ w _ (hf rfl) hH (by rw[bD];exact KM hL X9 o.dst) (by rw[XP];exact hd) (λa' w' hn=>hQ a' w' (by rw[ZR] at hn;exact hn))⟩
     |true =>
      rw[z3 rfl];refine Um hS bG hH hL (ht rfl) λc w' ⟨v,ρ',M',hK,eF,gu,hE⟩=>?_
      exact ih rI hZ (XQ env vo.dst v) M' K ρ' w' _ hK gu (by rw[bD];exact KM (hE.lrel hL) eF o.dst) (by rw[XP];exact hd.ext hH hE)
       (λa' o7 ⟨nD,eP,aE,k1,k0,k2,k3,k4,k5⟩=>hQ a' o7 ⟨nD,eP,aE,k1,by rw[k0,ZR],k2,k3,k4,hE.trans k5⟩)
theorem LW:∀ (l:List Nat) (vs:List Value) (env:Env),(Wk l vs env).length=env.length:=by
 intro l;induction l with
 |nil=>intro vs env;cases vs<;>rfl
 |cons i l ih =>
  intro vs env;cases vs with
  |nil=>rfl
  |cons v vs=>simp only[Wk];rw[ih];simp
theorem Q14 {ρ:Plc}{n:Nat}:∀ (l:List Nat) (env base:Env) (cs:List Value),LRel ρ n env cs->LRel ρ n base cs->LRel ρ n (Wk l (PH l env) base) cs:=by
 intro l;induction l with
 |nil=>intro env base cs _ hb;exact hb
 |cons i l ih =>
  intro env base cs he hb;simp only[PH,zE,Wk];refine ih env _ cs he ?_;refine⟨by simp[hb.1],λj v c hv hc=>?_⟩;by_cases bQ:i=j
  .subst bQ;rcases zk i (List.length base) with af|bB
   .rw[List.getElem?_set_self af] at hv;obtain rfl:=osj hv;have bY:i<List.length env:=by rw[he.1,<-hb.1];exact af
    have:env.getD i poison=env[i]:=by simp[List.getD,bY]
    rw[this];exact he.2 i _ c (z5 bY) hc
   .rw[zr (by simp;exact bB)] at hv;cases hv
  .rw[List.getElem?_set_ne bQ] at hv;exact hb.2 j v c hv hc
theorem Q03 {ρ:Plc}{n:Nat}(cs:List Value) {m:Nat}(h:m=cs.length):LRel ρ n (List.replicate m poison) cs :=
 ⟨by simp[h],λi v c hv _=>by
  have:=zG hv;rw[List.mem_replicate] at this;rw[this.2];exact .poison c⟩
def RoRel (cX ro:Option Nat) (ρ:Plc) (n:Nat):Prop:=(cX=none/\ro=none)\/∃ i l,cX=some i/\ro=some l/\i<n/\∀ p,ρ i=some p->p.blk=l
theorem RoRel.ext {cX ro:Option Nat}{ρ ρ':Plc}{M M':Heap}{w w':World}(h:RoRel cX ro ρ M.n) (hE:Ext ρ M w ρ' M' w'):RoRel cX ro ρ' M'.n:=by
 rcases h with h|⟨i,l,h1,h2,h3,h4⟩
 .exact .inl h
 .exact .inr ⟨i,l,h1,h2,x7 h3 hE.n,λp hp=>h4 p (hE.pl i h3 p hp)⟩
def Sound (P:Program) (S:VSpecs) (c:Code) (vc:VCode):Prop :=
 ∀ ⦃B:Nat⦄ (cX ro:Option Nat) (n:Nat) (Q:Exit->Env->Heap->Prop) (env:Env) (M:Heap) (ρ:Plc) (w:World) (a:Act),vwp S vc cX Q env M->HRel ρ M w->LRel ρ M.n env a.tmps.toList->Mks B a.defers w->RoRel cX ro ρ M.n ->
  ∀ (Q':Exit->Act->World->Prop),(∀ e a' w',PL B (List.length env) ρ M w (Q e) a' w'->Q' e a' w')->c.wpIn (FF ro) n P Q' a w
theorem Q1o {ρ:Plc}{n:Nat}:∀ (ps:List Nat) (vs cs:List Value) (env:Env) (tmps:Array Value),LRel ρ n env tmps.toList->LRel ρ n vs cs ->
  LRel ρ n (TP env ps vs) ((ps.zip cs).foldl (λ(tmps:Array Value) (q:Nat×Value)=>tmps.setIfInBounds q.1 q.2) tmps).toList:=by
 intro ps;induction ps with
 |nil=>intro vs cs env tmps h _;cases vs<;>exact h
 |cons p ps ih =>
  intro vs cs env tmps h hv;cases vs with
  |nil =>
   cases cs with
   |nil=>exact h
   |cons _ _=>have:=hv.1;simp at this
  |cons v vs =>
   cases cs with
   |nil=>have:=hv.1;simp at this
   |cons c cs =>simp only[TP,List.zip_cons_cons,wc];refine ih vs cs _ _ ?_ ⟨by have:=hv.1;simpa using this,λi a b ha hb=>hv.2 (i+1) a b (by simpa using ha) (by simpa using hb)⟩;rw[Array.toList_setIfInBounds];exact h.set p (hv.2 0 v c rfl rfl)
theorem Wg {w:World}{l:Nat}{r:Loop}(h:w.heap[l]?=some (.loop r)):(Instr.getLoop l).run P w=.ok r w:=by simp[Instr.getLoop,QH h (λ_ _ _ e=>by cases e)]
theorem GH {ρ:Plc}{M:Heap}{w:World}(hH:HRel ρ M w) {i:Nat}{env:Env}{r:Loop}{st:LoopState}{pend:Option Code}{wr:Bool}(h:M.get i=some (.obj (.lp env r st pend) wr)) :
  ∃ p,ρ i=some p/\w.heap[p.blk]?=some (.loop {r with state:=st,pending:=pend})/\LRel ρ M.n env r.tmps.toList:=by
 obtain⟨p,hp,_,O,h1,rfl,h2⟩:=hH.live i _ h;exact⟨p,hp,h1,h2⟩
theorem F8 {ρ:Plc}{M:Heap}{w:World}(hH:HRel ρ M w) {i:Nat}{env:Env}{r:Loop}{st:LoopState}{pend:Option Code}{p:Pl}(hp:ρ i=some p) (h:M.get i=some (.obj (.lp env r st pend) true)) (mI:LoopState) (bU:Option Code) :
  HRel ρ (M.upd i (.obj (.lp env r mI bU) true)) (TX w p.blk (.loop {r with state:=mI,pending:=bU})) /\
  Ext ρ M w ρ (M.upd i (.obj (.lp env r mI bU) true)) (TX w p.blk (.loop {r with state:=mI,pending:=bU})):=by
 obtain⟨p',bm,h1,h2⟩:=GH hH h;exact hH.setObj hp h ⟨rfl,h2⟩
theorem Ig {fe body:Code}{va vb:VCode}(ha:Sound P S fe va) (hb:Sound P S body vb) (ps:List Nat) (env:Env) (r:Loop) (fI:r.assign=fe) (dR:r.body=body) (jy:r.params.toList=ps) (i:Nat) :
  U6 P i (O3 (vwp S va (some i)) (vwp S vb (some i)) ps env r i):=by
 intro args M K h ρ w aA hH hL;obtain⟨h1,h2,h3⟩:=h;obtain⟨p,hp,aF,lA⟩:=GH hH h1;refine⟨p,hp,r.fn,(r.params.zip aA).foldl (λtmps (t,a)=>tmps.setIfInBounds t a) r.tmps,r.assign,r.body,?_,?_⟩
 .have aL:aA.size=r.params.size:=by
   have h4:=hL.1;have:r.params.size=ps.length:=by rw[<-jy];simp
   simp at h4;omega
  simp[Instr.yield,Wg aF,aL]
 .refine roundIn_of_wpIn (F:=Fence.wide) trivial ?_;rw[fI,dR];refine ha (some i) (some p.blk) 0 _ _ M ρ w _ h3 hH ?_ (Mks.nil (z7 _)) (.inr ⟨i,p.blk,rfl,rfl,M.lt h1,λq hq=>by rw[hp] at hq;obtain rfl:=osj hq;rfl⟩) _ ?_
  .have:=Q1o ps args aA.toList env r.tmps lA hL;rw[<-jy,<-Array.toList_zip,Array.foldl_toList] at this;rw[jy] at this;exact this
  .intro e a1 w1 ⟨br,ρ1,σ1,k1,k0,k2,k3,k4,k5⟩;cases e with
   |normal =>
    obtain⟨k6,k7⟩:=k1;obtain⟨p1,jz,ke,rJ⟩:=GH k2 k6;have mD:p1=p:=by have:=k5.pl i (M.lt h1) p1 jz;rw[hp] at this;exact(osj this).symm
    subst mD;obtain⟨j1,j2⟩:=F8 k2 jz k6 .busy none;refine⟨_,by simp[Instr.beginRound,Wg ke,Z1 ke (λ_ _ _ e=>by cases e)];rfl,?_⟩;refine hb (some i) (some p1.blk) 0 _ _ _ ρ1 _ a1 k7 j1 k3 (k4.ext k2 j2) (.inr ⟨i,p1.blk,rfl,rfl,σ1.lt k6,λq hq=>by rw[jz] at hq;obtain rfl:=osj hq;rfl⟩) _ ?_;intro e2 a2 w2 ⟨aS,ρ2,M2,m1,m0,m2,m3,m4,m5⟩;obtain⟨m6,m7⟩:=m1;obtain⟨p2,dj,eL,rK⟩:=GH m2 m6;have mD:p2=p1:=by have h8:=m5.pl i (by rw[Heap.q2i];exact σ1.lt k6) p2 dj;rw[jz] at h8;exact(osj h8).symm
    subst mD;cases e2 with
    |normal =>obtain⟨q1,q2⟩:=F8 m2 dj m6 .ready none;refine⟨.bool true,_,?_,_,rfl,.bool true,ρ2,_,m7,.bool _,q1,k5.trans (j2.trans (m5.trans q2))⟩;simp[Instr.endRound,Wg eL,Z1 eL (λ_ _ _ e=>by cases e)]
    |ret =>obtain⟨q1,q2⟩:=F8 m2 dj m6 .done (some .ret);refine⟨.bool false,_,?_,_,rfl,.bool false,ρ2,_,m7,.bool _,q1,k5.trans (j2.trans (m5.trans q2))⟩;simp[Instr.endRound,Wg eL,Z1 eL (λ_ _ _ e=>by cases e)]
    |exit id =>obtain⟨q1,q2⟩:=F8 m2 dj m6 .done (some (.exit id));refine⟨.bool false,_,?_,_,rfl,.bool false,ρ2,_,m7,.bool _,q1,k5.trans (j2.trans (m5.trans q2))⟩;simp[Instr.endRound,Wg eL,Z1 eL (λ_ _ _ e=>by cases e)]
    |goto l=>exact m7.elim
    |panic ch=>exact m7.elim
    |outgrown=>exact m7.elim
   |exit id=>exact k1.elim
   |goto l=>exact k1.elim
   |ret=>exact k1.elim
   |panic ch=>exact k1.elim
   |outgrown=>exact k1.elim
theorem Heap.ext' {M M':Heap}(h:∀ j,M.get j=M'.get j) (hn:M.n=M'.n):M=M':=by obtain⟨g,n,wf⟩:=M;obtain⟨g',n',vt⟩:=M';have hg:g=g':=funext h;have po:n=n':=hn;subst hg;subst po;rfl
theorem Mks.push {ds:List Deferred}{w:World}(h:Mks B ds w):Mks B ({target:=.collected w.heap.size,args:=#[]}::ds) (w.alloc (.deferred (some []))):=by
 obtain⟨h0,Ds,h1,h2,h3⟩:=h;have af:∀ D∈Ds,D<w.heap.size:=λD hD=>by
  rcases zk D w.heap.size with h'|h'
  .exact h'
  .have:=(h3 D hD).2;rw[Array.getElem?_eq_none h'] at this;cases this
 refine⟨by rw[World.size_alloc];omega,w.heap.size::Ds,by rw[h1];rfl,z_.2 ⟨λhh=>wz _ (af _ hh),h2⟩,λD hD=>?_⟩;rcases zj.1 hD with rfl|hD
 .refine⟨h0,?_⟩;show (w.heap.push _)[w.heap.size]?=_;simp
 .refine⟨(h3 D hD).1,?_⟩;show (w.heap.push _)[D]?=_;rw[Array.getElem?_push,z0 (by have:=af D hD;omega)];exact(h3 D hD).2
theorem Ext.q1f {ρ:Plc}{M:Heap}(w:World) (O:Obj):Ext ρ M w ρ M (w.alloc O) :=
 ⟨rfl,rfl,rfl,by have:=World.size_alloc w O;omega,λB hB _=>by show (w.heap.push _)[B]?=_;rw[Array.getElem?_push,z0 (by omega)],λ_ _ h=>h,z7 _,λ_ _ _ h=>h⟩
theorem HRel.q1f {ρ:Plc}{M:Heap}{w:World}(h:HRel ρ M w) (O:Obj):HRel ρ M (w.alloc O) :=
 h.world (by have:=World.size_alloc w O;omega) (λi p hp=>by show (w.heap.push _)[p.blk]?=_;rw[Array.getElem?_push,z0 (by have:=h.lt i p hp;omega)]) λg cs hg=>by show (w.heap.push _)[g]?=_;rw[Array.getElem?_push,z0 (by have:=h.tab.lt hg;omega)]
theorem FR {cX ro:Option Nat}{ρ:Plc}{M:Heap}{w:World}{a:Act}{env:Env}(hH:HRel ρ M w) (hL:LRel ρ M.n env a.tmps.toList) (hd:Mks B a.defers w) (hR:RoRel cX ro ρ M.n) (aQ:J09 M cX) (fn:FuncId) (ps:Array Nat) (fe body:Code) :
  ∃ (r:Loop) (mark:List Deferred) (w1:World) (ρ1:Plc),(Instr.enterLoop fn a.tmps ps fe body ro).run P w=.ok (w1.heap.size-1,mark) w1/\r.assign=fe/\r.body=body/\r.params=ps /\
   HRel ρ1 (M.push (.obj (.lp env r .ready none) true)) w1/\Ext ρ M w ρ1 (M.push (.obj (.lp env r .ready none) true)) w1/\Mks B (mark++a.defers) w1 /\
   (∀ p,ρ1 M.n=some p->p.blk=w1.heap.size-1):=by
 rcases hR with⟨rfl,rfl⟩|⟨i,l,rfl,rfl,hi,gS⟩
 .let w0:=w.alloc (.deferred (some []));have fU:HRel ρ M w0:=hH.q1f _;have qj:Ext ρ M w ρ M w0:=Ext.q1f _ _;let r:Loop:={state:=.ready,pending:=none,fn,tmps:=a.tmps,params:=ps,assign:=fe,body:=body,defers:=w.heap.size};obtain⟨ρ1,h1,h2,h3⟩:=fU.newObj (.lp env r .ready none) (.loop r) ⟨rfl,hL⟩;have aL:(w0.alloc (.loop r)).heap.size-1=w0.heap.size:=by have:=World.size_alloc w0 (.loop r);omega
  refine⟨r,[{target:=.collected w.heap.size,args:=#[]}],w0.alloc (.loop r),ρ1,?_,rfl,rfl,rfl,h2,qj.trans h3,?_,λp hp=>?_⟩
  .rw[aL];simp[Instr.enterLoop];exact⟨(World.size_alloc w _).symm,rfl⟩
  .exact(hd.push).ext fU h3
  .rw[h1] at hp;obtain rfl:=osj hp;rw[aL]
 .obtain⟨tw,r0,st,pend,hb⟩:=aQ;obtain⟨p,hp,aF,_⟩:=GH hH hb;have aU:=gS p hp;subst aU;let r:Loop:={state:=.ready,pending:=none,fn,tmps:=a.tmps,params:=ps,assign:=fe,body:=body,defers:=r0.defers};obtain⟨ρ1,h1,h2,h3⟩:=hH.newObj (.lp env r .ready none) (.loop r) ⟨rfl,hL⟩;have aL:(w.alloc (.loop r)).heap.size-1=w.heap.size:=by have:=World.size_alloc w (.loop r);omega
  refine⟨r,[],w.alloc (.loop r),ρ1,?_,rfl,rfl,rfl,h2,h3,?_,λp hp=>?_⟩
  .rw[aL];simp[Instr.enterLoop,Wg aF];rfl
  .exact hd.ext hH h3
  .rw[h1] at hp;obtain rfl:=osj hp;rw[aL]
theorem Fz (hS:OkSpecs P S) {fe body:Code}{va vb:VCode}(ha:Sound P S fe va) (hb:Sound P S body vb) (g:Operand) (hg:XI g=true) (ps:Array Nat):Sound P S (.rangeFunc g ps fe body) (.rangeF g ps.toList va vb):=by
 intro B cX ro n Q env M ρ w a h hH hL hd hR Q' hQ;simp only[vwp,F9] at h;have gG:=WZ hL hg;split at h
 .rename_i f first cap bB
  rw[bB] at gG;split at h
  .rename_i T hT;obtain⟨aQ,h⟩:=h;refine wpIn_rangeFunc λfn _=>?_;obtain⟨r,mark,w1,ρ1,he,fI,dR,jy,iT,fF,qk,eR⟩:=FR (P:=P) hH hL hd hR aQ fn ps fe body;obtain⟨ic,nE⟩:=hS.it f T hT;obtain⟨gs,ds,pq,jW,jX⟩:∃ gs ds,a.eval g=.func (.func f) gs ds/\LRel ρ M.n first.toList gs.toList/\LRel ρ M.n cap.toList ds.toList:=by
    cases pq:a.eval g with
    |func vu gs ds =>
     rw[pq] at gG;cases gG with
     |func _ _ _ _ _ k1 k2 k3 k4=>exact⟨gs,ds,rfl,LRel.of_array k1 k3,LRel.of_array k2 k4⟩
    |_=>rw[pq] at gG;cases gG
   have hY:U6 P M.n (O3 (vwp S va (some M.n)) (vwp S vb (some M.n)) ps.toList env r M.n):=Ig ha hb ps.toList env r fI dR (by rw[jy]) M.n;have lB:=nE M.n _ hY _ _ _ (h r) ρ1 w1 (gs++#[.func (.yield (w1.heap.size-1)) #[] #[]]++ds) iT (by
    have k1:=fF.lrel jW;have k2:=fF.lrel jX;have k3:LRel ρ1 (M.push (.obj (.lp env r .ready none) true)).n [.func (.yield M.n) #[] #[]] [.func (.yield (w1.heap.size-1)) #[] #[]] :=
     LRel.cons (.yield _ _ (by simp) (λp hp=>(eR p hp).symm)) (LRel.nil _ _)
    have:=(k1.append k3).append k2;simpa using this)
   refine⟨w1.heap.size-1,mark,w1,{target:=.fn (.func f) ds,args:=gs++#[.func (.yield (w1.heap.size-1)) #[] #[]]},w1,f,gs++#[.func (.yield (w1.heap.size-1)) #[] #[]]++ds,w1,?_,?_,λ_ _=>O_ _ _,?_,(λhh=>by rw[Cp] at hh;cases hh),?_⟩
   .rw[Q6z];exact he
   .simp[resolve,pq,Deferred.ofValue];rfl
   .simp only[invoke];exact G5 ic _ _
   .refine (Im lB).mono λe w3 ⟨c,tx,v,ρ3,σ3,k1,k2,k3,k4⟩=>?_;subst tx;unfold Q6r at k1;split at k1
    .rename_i ah r' st pend iV;obtain⟨a_,k1⟩:=k1;obtain⟨p3,rL,ie,rM⟩:=GH k3 iV;have aU:p3.blk=w1.heap.size-1:=eR p3 (k4.pl M.n (by simp) p3 rL);obtain⟨q1,q2⟩:=F8 k3 rL iV .exhausted pend;rw[aU] at ie q1 q2;obtain⟨q3,q4⟩:=q1.kill M.n;have fH:(σ3.upd M.n (.obj (.lp ah r' .exhausted pend) true)).kill M.n=σ3.kill M.n:=by
      apply Heap.ext'
      .intro j;by_cases hj:j=M.n
       .subst hj;rw[Heap.q0f,Heap.q0f]
       .rw[Heap.q0c _ hj,Heap.q0c _ hj,Heap.q0b _ _ hj]
      .rfl
     rw[fH] at q3 q4;have kf:=fF.trans (k4.trans (q2.trans q4));have b6:=qk.ext iT (k4.trans (q2.trans q4));refine⟨pend,_,by simp[Instr.endLoop,Wg ie,Z1 ie (λ_ _ _ e=>by cases e),a_];rfl,?_⟩;have eK:∀ K:Env->Heap->Prop,K env (σ3.kill M.n)->PL B (List.length env) ρ M w K {a with defers:=mark++a.defers} (TX w3 (w1.heap.size-1) (.loop {r' with state:=.exhausted,pending:=pend})):=λK hK =>
      ⟨env,_,_,hK,rfl,q3,kf.lrel hL,b6,kf⟩
     cases pend with
     |none=>exact hQ _ _ _ (eK _ k1)
     |some c =>
      cases c with
      |ret=>exact wpIn_ret (hQ _ _ _ (eK _ k1))
      |exit id=>exact wpIn_exit (hQ _ _ _ (eK _ k1))
      |_=>exact k1.elim
    .exact k1.elim
  .exact h.elim
 .exact h.elim
end
end Go.V
namespace Go.V
open Go
theorem K4 {ev fJ:Operand->Value}(x:Option Operand) (d:Nat) (h:∀ y∈x.toList,ev y=fJ y):JU ev x d=JU fJ x d:=by
 cases x with
 |none=>rfl
 |some y=>simp only[JU];rw[h y (by simp)]
theorem Q07 {o:XOp}{ev fJ:Operand->Value}{M:Heap}(h:∀ x∈o.opds,ev x=fJ x):ZL o ev M=ZL o fJ M:=by cases o<;>simp only[XOp.opds,zj,List.not_mem_nil,or_false,forall_eq_or_imp,forall_eq] at h<;>simp only[ZL]<;>(try simp only[h])
theorem HG {o:VOp}{ev fJ:Operand->Value}{M:Heap}(h:∀ x∈o.opds,ev x=fJ x):Qa o ev M=Qa o fJ M:=by
 cases o
 case build z ps =>
  have:(ps.map λp=>(p.1,p.2.1,ev p.2.2))=ps.map λp=>(p.1,p.2.1,fJ p.2.2):=xp λp hp=>by rw[h p.2.2 (zo.2 ⟨p,hp,rfl⟩)]
  simp only[Qa,this]
 case buildSlice e z n ps =>
  have:(ps.map λp=>(p.1*e.sz,e.sz,ev p.2))=ps.map λp=>(p.1*e.sz,e.sz,fJ p.2):=xp λp hp=>by rw[h p.2 (zo.2 ⟨p,hp,rfl⟩)]
  simp only[Qa,this]
 case makeFunc fn a b =>
  have h1:a.map ev=a.map fJ:=xp λx hx=>h x (xI _ hx);have h2:b.map ev=b.map fJ:=xp λx hx=>h x (xA _ hx);simp only[Qa,h1,h2]
 case slice size x lo hi mx =>
  have h1:=K4 lo 0 (λy hy=>h y (by simp[VOp.opds] at *;exact .inr (.inl hy)));have h2:∀ n,JU ev hi n=JU fJ hi n:=λn=>K4 hi n (λy hy=>h y (by simp[VOp.opds] at *;exact .inr (.inr (.inl hy))));have h3:=K4 mx 0 (λy hy=>h y (by simp[VOp.opds] at *;exact .inr (.inr (.inr hy))));have h4:=h x (by simp[VOp.opds]);simp only[Qa,h4];cases fJ x<;>simp only[h1,h2,h3]
 case sliceStr x lo hi =>
  have h1:=K4 lo 0 (λy hy=>h y (by simp[VOp.opds] at *;exact .inr (.inl hy)));have h2:∀ n,JU ev hi n=JU fJ hi n:=λn=>K4 hi n (λy hy=>h y (by simp[VOp.opds] at *;exact .inr (.inr hy)));have h4:=h x (by simp[VOp.opds]);simp only[Qa,h4];cases fJ x<;>simp only[h1,h2]
 case ext o=>exact Q07 h
 all_goals
  simp only[VOp.opds,zj,List.not_mem_nil,or_false,forall_eq_or_imp,forall_eq] at h;simp only[Qa];try simp only[h]
theorem EF {S:VSpecs}{o:VOp}{env ah:Env}{M:Heap}{K:Value->Heap->Prop}(h:∀ x∈o.opds,Q5 env x=Q5 ah x):vop S o env M K=vop S o ah M K:=by
 cases o
 case callF f bM =>
  have:bM.map (Q5 env)=bM.map (Q5 ah):=xp h;simp only[vop,this]
 case callV f bM =>
  have h1:Q5 env f=Q5 ah f:=h f (by simp[VOp.opds]);have h2:bM.map (Q5 env)=bM.map (Q5 ah):=xp λx hx=>h x (by simp[VOp.opds,hx]);simp only[vop,h1,h2]
 case ext o =>
  by_cases hx:∃ x,o=.nextMap x
  .obtain⟨x,rfl⟩:=hx;have h1:Q5 env x=Q5 ah x:=h x (by simp[VOp.opds,XOp.opds]);simp only[vop,h1]
  .have e1:=HG (M:=M) h;cases o<;>first|exact absurd ⟨_,rfl⟩ hx|(simp only[vop];rw[e1])
 all_goals
  have e1:=HG (M:=M) h;simp only[vop];rw[e1]
theorem Heap.Le.refl (M:Heap):M.Le M:=⟨z7 _,λ_ _ h=>h⟩
theorem Heap.Le.trans {M M' aE:Heap}(h:M.Le M') (k:M'.Le aE):M.Le aE:=⟨x8 h.1 k.1,λi b hb=>k.2 i b (h.2 i b hb)⟩
theorem Z9g {M M':Heap}(h:M.Le M') {esz:Nat}{v:Value}{xs:List Value}(hx:M.sl esz v=some xs):M'.sl esz v=some xs:=by
 unfold Heap.sl at hx |-;split at hx
 .exact hx
 .rename_i i o n c;split at hx
  .rename_i cs e wr t hb;simp only[h.2 i _ hb];exact hx
  .cases hx
 .cases hx
theorem Cr {M M':Heap}(h:M.Le M') {m:Nat}{x:List X1×Nat×Bool}(hx:M.mapAt m=some x):M'.mapAt m=some x:=by
 unfold Heap.mapAt at hx |-;split at hx
 .rename_i es clock wr hb;simp only[h.2 m _ hb];exact hx
 .cases hx
theorem OE {M M':Heap}(h:M.Le M') {kd:Nat}{a b:Value}{r:Bool}(hx:JD kd a b M=some r):JD kd a b M'=some r:=by
 unfold JD at hx |-
 split at hx<;>first
  |exact hx
  |(cases hx;done)
  |skip
 rename_i i o j q;split at hx
 .rename_i hc;obtain⟨h1,h2,h3⟩:=hc;obtain⟨b,hb⟩:=Option.isSome_iff_exists.1 h3;rw[z3 ⟨h1,h2,by rw[h.2 _ _ hb];rfl⟩];exact hx
 .cases hx
theorem Fi {neg:Bool}{s:List MK}{x y:Operand}{ev:Operand->Value}{M M' σ1:Heap}{v:Value}(h:ZL (.eqAgg neg s x y) ev M=some (v,σ1)):ZL (.eqAgg neg s x y) ev M'=some (v,M'):=by
 simp only[ZL] at h |-;split at h
 .split at h
  .rename_i hc;rw[z3 hc];simp at h;obtain⟨rfl,_⟩:=h;rfl
  .cases h
 .cases h
theorem Q17 {o:XOp}{ev:Operand->Value}{M M' σ1:Heap}{v:Value}(hk:(VOp.ext o).kind≠2) (h:ZL o ev M=some (v,σ1)) (hl:M.Le M'):ZL o ev M'=some (v,M'):=by
 cases o<;>simp only[VOp.kind,VOp.quiet,XOp.quiet] at hk<;>try (exact absurd rfl hk)
 case eqAgg neg s x y=>exact Fi h
 case eqNil kd neg x y =>
  simp only[ZL] at h |-;split at h
  .rename_i r hr;rw[OE hl hr];simp at h;obtain⟨rfl,_⟩:=h;rfl
  .cases h
 case lookup mk z ok x i =>
  simp only[ZL] at h |-;split at h
  .rename_i bN;rw[z3 bN];split at h
   .simp at h;obtain⟨rfl,_⟩:=h;rfl
   .rename_i m vw;split at h
    .rename_i es clock wr hm;simp only[Cr hl hm];split at h
     .rename_i ae;rw[z3 ae];split at h<;>(rename_i hf;simp at h;obtain⟨rfl,_⟩:=h;rfl)
     .cases h
    .cases h
   .cases h
  .cases h
 case lenMap x =>
  simp only[ZL] at h |-;split at h
  .simp at h;obtain⟨rfl,_⟩:=h;rfl
  .split at h
   .rename_i es clock wr hm;simp only[Cr hl hm];simp at h;obtain⟨rfl,_⟩:=h;rfl
   .cases h
  .cases h
 case entry x =>
  simp only[ZL] at h |-;split at h
  .rename_i i hx;split at h
   .rename_i m since seen last wr hb;simp only[hl.2 i _ hb];split at h
    .rename_i es clock lq b hm cI;simp only[Cr hl hm,cI];split at h
     .rename_i cz;rw[z3 cz];split at h
      .rename_i e hf;split at h
       .rename_i hp;rw[z3 hp];simp at h;obtain⟨rfl,_⟩:=h;rfl
       .cases h
      .cases h
     .cases h
    .cases h
   .cases h
  .cases h
 case toUnsafe x =>
  simp only[ZL] at h |-;split at h
  .simp at h;obtain⟨rfl,_⟩:=h;rfl
  .rename_i i o hx;split at h
   .rename_i c e wr t hb;simp only[hl.2 i _ hb];split at h
    .rename_i hc;rw[z3 hc];simp at h;obtain⟨rfl,_⟩:=h;rfl
    .cases h
   .cases h
  .cases h
 case fromUnsafe u sz x =>
  simp only[ZL] at h |-;split at h
  .simp at h;obtain⟨rfl,_⟩:=h;rfl
  .rename_i i o hx;split at h
   .rename_i c e hb;simp only[hl.2 i _ hb];split at h
    .rename_i hc;rw[z3 hc];simp at h;obtain⟨rfl,_⟩:=h;rfl
    .cases h
   .cases h
  .cases h
 case sliceData x =>
  simp only[ZL] at h |-;split at h
  .simp at h;obtain⟨rfl,_⟩:=h;rfl
  .rename_i i o n cap hx;split at h
   .rename_i hc;obtain⟨h1,h2⟩:=hc;obtain⟨b,hb⟩:=Option.isSome_iff_exists.1 h2;rw[z3 ⟨h1,by rw[hl.2 _ _ hb];rfl⟩];simp at h;obtain⟨rfl,_⟩:=h;rfl
   .cases h
  .cases h
 case bytesStr x =>
  simp only[ZL] at h |-;split at h
  .rename_i a n c hx;split at h
   .rename_i xs bz;simp only[Z9g hl bz];split at h
    .rename_i s hs;simp at h;obtain⟨rfl,_⟩:=h;rfl
    .cases h
   .cases h
  .cases h
theorem TM {o:VOp}{ev:Operand -> Value}{M M' σ1:Heap}{v:Value}(hk:o.kind = 0) (h:Qa o ev M = some (v, σ1)):Qa o ev M' = some (v, M'):=by
  cases o
  case ext o =>
    cases o <;> first | (simp [VOp.kind, VOp.quiet, XOp.quiet] at hk; done) | skip
    case eqAgg neg s x y => exact Fi h
  case slice size x lo hi mx => cases mx <;> simp [VOp.kind, VOp.quiet] at hk
  case build z ps =>
    simp only [Qa] at h |-;split at h
    . simp at h; obtain ⟨rfl, _⟩:=h; rfl
    . cases h
  all_goals first
    | (simp [VOp.kind, VOp.quiet] at hk; done)
    | skip
  all_goals
    simp only [Qa] at h |-
    (repeat' split at h) <;> first
      | (cases h; done)
      | (rename_i ql; obtain ⟨rfl, rfl, rfl⟩:=ql; simp_all; done)
      | (simp_all; done)
      | (simp_all
         obtain ⟨rfl, _⟩:=h
         first
          | rw [z0 (by omega)]
          | rw [z3 (by omega)])
theorem RJ {o:VOp}{ev:Operand->Value}{M M' σ1:Heap}{v:Value}(hk:o.kind≠2) (h:Qa o ev M=some (v,σ1)) (hl:M.Le M'):Qa o ev M'=some (v,M'):=by
 cases o
 case ext o=>exact Q17 hk h hl
 case load agg size a =>
  simp only[Qa] at h |-;split at h
  .split at h
   .split at h
    .rename_i ae;rw[z3 ae];split at h
     .simp at h;obtain⟨rfl,_⟩:=h;rfl
     .cases h
    .cases h
   .cases h
  .rename_i i o hx;split at h
   .rename_i c e wr t hb;simp only[hl.2 i _ hb];split at h
    .rename_i u hu;simp at h;obtain⟨rfl,_⟩:=h;rfl
    .cases h
   .cases h
  .cases h
 case slice size x lo hi mx =>
  cases mx with
  |some m=>simp[VOp.kind,VOp.quiet] at hk
  |none =>
   simp only[Qa] at h |-;split at h
   .rename_i a n cap hx;split at h
    .rename_i l k eR ck;unfold Kj at h |-;split at h
     .rename_i heq;split at h
      .rename_i hc;rw[z3 hc];simp at h;obtain⟨rfl,_⟩:=h;rfl
      .cases h
     .rename_i i o n' av heq;split at h
      .rename_i c e wr t hb;simp only[hl.2 i _ hb];simp only at h;split at h
       .rename_i hc;rw[z3 hc];simp at h;obtain⟨rfl,_⟩:=h;rfl
       .cases h
      .cases h
     .cases h
    .rename_i hm;cases hm
    .cases h
   .cases h
 all_goals first
  |(exact absurd rfl hk)
  |(exact TM rfl h)
section
variable {P:Program}{S:VSpecs}{B:Nat}
def EL (lv:List VOper) (env:Env) (tr:Nat->Value) (A:Nat->Bool):Nat->Env
 |0=>env
 |i+1=>if A i then XQ (EL lv env tr A i) ((lv[i]?).bind (·.dst)) (tr i) else EL lv env tr A i
theorem Vl (lv:List VOper) (env:Env) (tr:Nat->Value) (A:Nat->Bool):∀ i,List.length (EL lv env tr A i)=List.length env
 |0=>rfl
 |i+1=>by
  simp only[EL];split
  .rw[ZR];exact Vl lv env tr A i
  .exact Vl lv env tr A i
theorem V_ (lv:List VOper) (env:Env) {tr tr':Nat->Value}{A B:Nat->Bool}:∀ i,(∀ l,l<i->tr l=tr' l)->(∀ l,l<i->A l=B l)->EL lv env tr A i=EL lv env tr' B i
 |0,_,_=>rfl
 |i+1,h,h'=>by simp only[EL];rw[V_ lv env i (λl hl=>h l (by omega)) (λl hl=>h' l (by omega)),h i (by omega),h' i (by omega)]
theorem Vc (env:Env) (d:Option Nat) (v:Value) {x:Nat}(h:d≠some x):(XQ env d v)[x]?=env[x]?:=by
 cases d with
 |none=>rfl
 |some d=>simp only[XQ];rw[List.getElem?_set_ne (by rintro rfl;exact h rfl)]
theorem Z5a (lv:List VOper) (env:Env) {tr tr':Nat->Value}{A:Nat->Bool}:∀ i,(∀ l,l<i->A l=true->tr l=tr' l)->EL lv env tr A i=EL lv env tr' A i
 |0,_=>rfl
 |i+1,h=>by
  simp only[EL];rw[Z5a lv env i λl hl hA=>h l (by omega) hA];split
  .rename_i hA;rw[h i (by omega) hA]
  .rfl
theorem DA (lv:List VOper) (env:Env) (tr:Nat->Value) {A B:Nat->Bool}(x:Nat):∀ i,(∀ l,l<i->(lv[l]?).bind (·.dst)=some x->A l=B l)->(EL lv env tr A i)[x]?=(EL lv env tr B i)[x]?
 |0,_=>rfl
 |i+1,h=>by
  have ih:=DA lv env tr x i (λl hl hd=>h l (by omega) hd);by_cases hd:(lv[i]?).bind (·.dst)=some x
  .have lC:=h i (by omega) hd;simp only[EL];rw[lC];split
   .rw[hd];simp only[XQ,xN];rw[Vl,Vl];rfl
   .exact ih
  .simp only[EL]
   split<;>split<;>first
    |exact ih
    |(rw[Vc _ _ _ hd];exact ih)
    |(rw[Vc _ _ _ hd,Vc _ _ _ hd];exact ih)
theorem H5 (lv:List VOper) (env:Env) (tr:Nat->Value) (j:Nat):∀ i,j<=i->EL lv env tr (λl=>decide (l<j)) i=EL lv env tr (λ_=>true) j
 |0,h=>by
  obtain rfl:j=0:=by omega
  rfl
 |i+1,h=>by
  by_cases hj:j=i+1
  .subst hj;exact V_ lv env _ (λ_ _=>rfl) (λl hl=>by simp[hl])
  .simp only[EL];rw[z0 (by simp;omega)];exact H5 lv env tr j i (by omega)
def DFact (S:VSpecs) (d:DInfo) (lv:List VOper) (env:Env) (tr:Nat->Value) (hp:Nat->Heap) (u:Nat) (i:Nat):Prop :=
 ∀ v,lv[i]?=some v->∃ b,Jy (EL lv env tr (λ_=>true) i) v.guard=some b /\
  (b=true->v.op.kind=2->vop S v.op (EL lv env tr (λ_=>true) i) (hp (d.rank i)) (λv' M'=>v'=tr i/\M'=hp (d.rank i+1))) /\
  (b=true->v.op.kind=1->∀ r,d.kmin i<=r->r<=d.kmax i->r<=u->∃ M',Qa v.op (Q5 (EL lv env tr (λ_=>true) i)) (hp r)=some (tr i,M')) /\
  (b=true->v.op.kind≠1->v.op.kind≠2->∃ M',Qa v.op (Q5 (EL lv env tr (λ_=>true) i)) (hp (d.rank i))=some (tr i,M')) /\
  (b=false->tr i=undef/\(v.op.kind=2->hp (d.rank i+1)=hp (d.rank i)))
def Z3f (d:DInfo) (lv:List VOper) (env:Env) (tr:Nat->Value) (i:Nat) (pend:List (Nat×(Heap->Prop))):Prop :=
 ∀ l,l<i->∀ v,lv[l]?=some v->Jy (EL lv env tr (λ_=>true) l) v.guard=some true->v.op.kind=1->d.rank i+1<=d.kmax l->(d.kmax l,XE v.op (Q5 (EL lv env tr (λ_=>true) l)) (tr l))∈pend
inductive Know (S:VSpecs) (d:DInfo) (lv:List VOper) (env:Env) (K:Env->Heap->Prop):List Nat->Nat->(Nat->Value)->(Nat->Heap)->Prop
 |full {nd:List Nat}{tr:Nat->Value}{hp:Nat->Heap}(hF:∀ l,l<lv.length->l∉nd->DFact S d lv env tr hp (d.rank lv.length) l) (hK:K (EL lv env tr (λ_=>true) lv.length) (hp (d.rank lv.length))):Know S d lv env K nd lv.length tr hp
 |part {nd:List Nat}{i:Nat}{tr:Nat->Value}{hp:Nat->Heap}{v:VOper}(hv:lv[i]?=some v) (hk:v.op.kind=2) (hw:Jy (EL lv env tr (λ_=>true) i) v.guard=some true)
   (hF:∀ l,l<i->l∉nd->DFact S d lv env tr hp (d.rank i) l) (kg:∀ j,i<j->j<lv.length->∃ e u,i<=e/\e<j/\lv[e]?=some u/\((∃ x,u.dst=some x/\∀ v,lv[j]?=some v->x∈U0 v)\/(u.op.kind=2/\∀ v,lv[j]?=some v->v.op.kind=2)))
   (R:Value->Heap->Prop) (fW:vop S v.op (EL lv env tr (λ_=>true) i) (hp (d.rank i)) R)
   (I:∀ u M',R u M'->Nat) (T:∀ u M',R u M'->Nat->Value) (H:∀ u M',R u M'->Nat->Heap)
   (hT:∀ u M' h,i<I u M' h/\(∀ l,l<i->T u M' h l=tr l)/\T u M' h i=u/\(∀ r,r<=d.rank i->H u M' h r=hp r)/\H u M' h (d.rank i+1)=M')
   (next:∀ u M' h,Know S d lv env K (i::nd) (I u M' h) (T u M' h) (H u M' h)):Know S d lv env K nd i tr hp
theorem E0 {r:Nat}{M:Heap}:∀ {l:List (Nat×(Heap->Prop))},Xz r M l->∀ c∈l,r<=c.1->c.2 M
 |[],_,_,h=>by cases h
 |x::l,h,c,hc=>by
  rcases zj.1 hc with rfl|hc
  .exact h.1
  .exact E0 h.2 c hc
theorem Rf {op:VOp}{ev:Operand->Value}{v:Value}{U:Heap}(h:XE op ev v U):∃ M',Qa op ev U=some (v,M'):=by
 unfold XE at h;cases hv:Qa op ev U with
 |none=>rw[hv] at h;exact h.elim
 |some q =>rw[hv] at h;have h:q.1=v:=h;exact⟨q.2,by rw[<-h]⟩
theorem DFact.congr {d:DInfo}{lv:List VOper}{env:Env}{tr tr':Nat->Value}{hp bm:Nat->Heap}{u u' l:Nat}(h:DFact S d lv env tr hp u l) (ht:∀ k,k<=l->tr' k=tr k) (hh:∀ r,r<=u->bm r=hp r) (hr:d.rank l<=u) (h2:∀ v,lv[l]?=some v->v.op.kind=2->d.rank l+1<=u)
  (hu:∀ v,lv[l]?=some v->Jy (EL lv env tr (λ_=>true) l) v.guard=some true->v.op.kind=1->∀ r,u<r->r<=u'->r<=d.kmax l->∃ M',Qa v.op (Q5 (EL lv env tr (λ_=>true) l)) (bm r)=some (tr l,M')):DFact S d lv env tr' bm u' l:=by
 intro v hv;obtain⟨b,f1,f2,f3,f4,f5⟩:=h v hv;have e:=V_ lv env (tr:=tr') (tr':=tr) (A:=λ_=>true) (B:=λ_=>true) l (λk hk=>ht k (by omega)) (λ_ _=>rfl);rw[e,ht l (z7 _),hh _ hr];refine⟨b,f1,λhb hk=>?_,λhb hk r r1 r2 r3=>?_,f4,λhb=>⟨(f5 hb).1,λhk=>?_⟩⟩
 .rw[hh _ (h2 v hv hk)];exact f2 hb hk
 .rcases zk u r with af|bB
  .subst hb;exact hu v hv f1 hk r af r3 r2
  .rw[hh r bB];exact f3 hb hk r r1 r2 bB
 .rw[hh _ (h2 v hv hk)];exact(f5 hb).2 hk
theorem L7:∀ (d:DInfo) (rest:List VOper) (i:Nat) (xs:List Nat),waits xs (d.opers rest i)=true->∀ (k:Nat) (v:VOper),rest[k]?=some v->v.op.kind=2\/(∃ x∈xs,x∈U0 v)\/∃ (e:Nat) (u:VOper) (x:Nat),e<k/\rest[e]?=some u/\u.dst=some x/\x∈U0 v
 |d,[],i,xs,_,k,v,hv=>by simp at hv
 |d,o::rest,i,xs,h,k,v,hv=>by
  simp only[DInfo.opers,waits,z4,zx,xF,zK] at h;obtain⟨h1,h2⟩:=h;cases k with
  |zero =>
   obtain rfl:o=v:=by simpa using hv
   rcases h1 with h1|⟨x,hx,bz⟩
   .exact .inl h1
   refine .inr (.inl ⟨x,by simpa using bz,?_⟩);simp only[U0,zz] at hx |-;rcases hx with hx|hx
   .exact .inl (.inr hx)
   .exact .inr hx
  |succ k =>
   rcases L7 d rest (i+1) _ h2 k v (by simpa using hv) with h3|⟨y,hy,rN⟩|⟨e,u,y,he,hu,hd,hn⟩
   .exact .inl h3
   .rcases zz.1 hy with hy|hy
    .exact .inr (.inr ⟨0,o,y,by omega,rfl,by simpa using hy,rN⟩)
    .exact .inr (.inl ⟨y,hy,rN⟩)
   .exact .inr (.inr ⟨e+1,u,y,by omega,by simpa using hu,hd,hn⟩)
theorem F5 (d:DInfo) {i j:Nat}(h:i<=j):d.rank i<=d.rank j:=by
 induction j with
 |zero =>
  obtain rfl:i=0:=by omega
  exact z7 _
 |succ j ih =>
  by_cases bQ:i=j+1
  .subst bQ;exact z7 _
  .have:=ih (by omega);simp only[DInfo.rank];split<;>omega
theorem Z3o (d:DInfo) (lv:List VOper) (ki:∀ i v,lv[i]?=some v->d.k i=v.op.kind) (env:Env) (K:Env->Heap->Prop):∀ (rest:List VOper) (i:Nat),i<=lv.length->lv.drop i=rest->∀ (nd:List Nat) (tp:Nat->Value) (hq:Nat->Heap) (pend:List (Nat×(Heap->Prop))),
  (∀ l,l<i->l∉nd->DFact S d lv env tp hq (d.rank i) l)->Z3f d lv env tp i pend ->
  ZT S (d.opers rest i) (EL lv env tp (λ_=>true) i) ((List.range (d.rank i+1)).map hq) (hq (d.rank i)) pend K ->
  ∃ k tr hp,i<=k/\(∀ l,l<i->tr l=tp l)/\(∀ r,r<=d.rank i->hp r=hq r)/\Know S d lv env K nd k tr hp:=by
 intro rest;induction rest with
 |nil =>
  intro i gS hi nd tp hq pend hF hP h;have hl:lv.length<=i:=by simpa using hi
  obtain rfl:i=lv.length:=by omega
  simp only[DInfo.opers,ZT] at h;exact⟨_,tp,hq,z7 _,λ_ _=>rfl,λ_ _=>rfl,.full hF h⟩
 |cons v rest ih =>
  intro i gS hi nd tp hq pend hF hP h;have af:i<lv.length:=by
   rcases zk i lv.length with h'|h'
   .exact h'
   .rw[List.drop_eq_nil_of_le h'] at hi;cases hi
  have hv:lv[i]?=some v:=by have:=congrArg List.head? hi;rw[List.head?_drop] at this;simpa using this
  have dS:lv.drop (i+1)=rest:=by have:=congrArg List.tail hi;simpa using this
  have hk:=ki i v hv;have fI:v.op.kind=2->d.rank (i+1)=d.rank i+1:=λe=>by simp only[DInfo.rank,hk,e,zB]
  have iU:v.op.kind≠2->d.rank (i+1)=d.rank i:=λe=>by simp only[DInfo.rank,hk,e,if_false]
  have df:∀ l,l<i->d.rank l<=d.rank i/\∀ w,lv[l]?=some w->w.op.kind=2->d.rank l+1<=d.rank i:=λl hl=>by have h1:=F5 d (show l+1<=i by omega);refine⟨by simp only[DInfo.rank] at h1;split at h1<;>omega,λw hw h2=>?_⟩;simp only[DInfo.rank,ki l w hw,h2,zB] at h1;exact h1
  simp only[DInfo.opers,ZT] at h;have hlen:((List.range (d.rank i+1)).map hq).length=d.rank i+1:=by simp
  cases hw:Jy (EL lv env tp (λ_=>true) i) v.guard with
  |none=>rw[hw] at h;exact h.elim
  |some b =>
   rw[hw] at h;obtain⟨ht,hf⟩:=h
   have go:∀ (iY:List Nat) (u:Value) (M':Heap) (bU:List (Nat×(Heap->Prop))),(∀ l,l∈nd->l∈iY) ->
     ZT S (d.opers rest (i+1)) (XQ (EL lv env tp (λ_=>true) i) v.dst u) (if v.op.kind=2 then (List.range (d.rank i+1)).map hq++[M'] else (List.range (d.rank i+1)).map hq) (if v.op.kind=2 then M' else hq (d.rank i)) bU K ->
     (v.op.kind=2->Xz (d.rank i+1) M' pend)->(∀ c∈pend,c∈bU) ->
     (b=true->v.op.kind=1->d.rank i+1<=d.kmax i->(d.kmax i,XE v.op (Q5 (EL lv env tp (λ_=>true) i)) u)∈bU) ->
     (i∉iY->∀ tr hp,(∀ l,l<i->tr l=tp l)->tr i=u->(∀ r,r<=d.rank i->hp r=hq r)->(v.op.kind=2->hp (d.rank i+1)=M')->DFact S d lv env tr hp (d.rank (i+1)) i) ->
     ∃ k tr hp,i<k/\(∀ l,l<i->tr l=tp l)/\tr i=u/\(∀ r,r<=d.rank i->hp r=hq r)/\(v.op.kind=2->hp (d.rank i+1)=M')/\Know S d lv env K iY k tr hp:=by
    intro iY u M' bU eM h kj dT iZ nF;let gT:Nat->Value:=λl=>if l=i then u else tp l
    let cA:Nat->Heap:=λr=>if v.op.kind=2/\r=d.rank i+1 then M' else hq r
    have et:∀ l,l<i->gT l=tp l:=λl hl=>by simp[gT];intro e;omega
    have ei:gT i=u:=by simp[gT]
    have eh:∀ r,r<=d.rank i->cA r=hq r:=λr hr=>by simp only[cA];rw[z0 (by omega)]
    have qm:v.op.kind=2->cA (d.rank i+1)=M':=λal=>by simp[cA,al]
    have e1:EL lv env gT (λ_=>true) (i+1)=XQ (EL lv env tp (λ_=>true) i) v.dst u:=by simp only[EL,zB];rw[V_ lv env (tr:=gT) (tr':=tp) i et (λ_ _=>rfl),hv,ei];rfl
    have e2:(List.range (d.rank (i+1)+1)).map cA=if v.op.kind=2 then (List.range (d.rank i+1)).map hq++[M'] else (List.range (d.rank i+1)).map hq:=by
     simp only[DInfo.rank,hk];split
     .rename_i al;rw[List.range_succ,xC];congr 1
      .exact xp λr hr=>eh r (by have:=zA.1 hr;omega)
      .simp[cA,al]
     .rename_i al;exact xp λr hr=>by simp[cA,al]
    have e3:cA (d.rank (i+1))=if v.op.kind=2 then M' else hq (d.rank i):=by simp only[DInfo.rank,hk];split<;>rename_i al<;>simp[cA,al]
    have tz:∀ l,l<i+1->l∉iY->DFact S d lv env gT cA (d.rank (i+1)) l:=λl hl fX=>by
     by_cases ig:l=i
     .subst ig;exact nF fX gT cA et ei eh qm
     .have ig:l<i:=by omega
      refine (hF l ig λh=>fX (eM l h)).congr (λk hk=>et k (by omega)) eh (df l ig).1 (df l ig).2 λw dk lD bc r r1 r2 r3=>?_;by_cases al:v.op.kind=2
      .rw[fI al] at r2;obtain rfl:r=d.rank i+1:=by omega
       rw[qm al];exact Rf (E0 (kj al) _ (hP l ig w dk lD bc (by omega)) (by simpa using r3))
      .rw[iU al] at r2;omega
    have tA:Z3f d lv env gT (i+1) bU:=λl hl w dk lD bc pn=>by
     by_cases ig:l=i
     .subst ig;rw[hv] at dk;obtain rfl:=osj dk;have e:=V_ lv env (tr:=gT) (tr':=tp) (A:=λ_=>true) (B:=λ_=>true) l et (λ_ _=>rfl);rw[e] at lD |-;rw[hw] at lD;obtain rfl:b=true:=by simpa using lD
      rw[ei];exact iZ rfl bc (by rw[iU (by omega)] at pn;exact pn)
     .have ig:l<i:=by omega
      have e:=V_ lv env (tr:=gT) (tr':=tp) (A:=λ_=>true) (B:=λ_=>true) l (λk hk=>et k (by omega)) (λ_ _=>rfl);rw[e] at lD |-;rw[et l ig];have hle:d.rank i<=d.rank (i+1):=by simp only[DInfo.rank];split<;>omega
      exact dT _ (hP l ig w dk lD bc (by omega))
    obtain⟨k,tr,hp,k0,k1,k2,k3⟩:=ih (i+1) (by omega) dS iY gT cA bU tz tA (by rw[e1,e2,e3];exact h);have hle:d.rank i<=d.rank (i+1):=by simp only[DInfo.rank];split<;>omega
    exact⟨k,tr,hp,by omega,λl hl=>by rw[k1 l (by omega),et l hl],by rw[k1 i (by omega),ei],λr hr=>by rw[k2 r (by omega),eh r hr],λal=>by rw[k2 _ (by rw[fI al];exact z7 _),qm al],k3⟩
   have weak:∀ {iY:List Nat}{u:Value}{M':Heap},(∃ k tr hp,i<k/\(∀ l,l<i->tr l=tp l)/\tr i=u/\(∀ r,r<=d.rank i->hp r=hq r)/\(v.op.kind=2->hp (d.rank i+1)=M')/\Know S d lv env K iY k tr hp)->∃ k tr hp,i<=k/\(∀ l,l<i->tr l=tp l)/\(∀ r,r<=d.rank i->hp r=hq r)/\Know S d lv env K iY k tr hp:=by rintro iY u M' ⟨k,tr,hp,h0,h1,_,h2,_,h3⟩;exact⟨k,tr,hp,by omega,h1,h2,h3⟩
   have fact:∀ {u:Value}{M':Heap},(b=true->v.op.kind=1->∀ r,d.kmin i<=r->r<=d.rank i->XE v.op (Q5 (EL lv env tp (λ_=>true) i)) u (hq r))->(b=true->v.op.kind≠1->v.op.kind≠2->∃ aE,Qa v.op (Q5 (EL lv env tp (λ_=>true) i)) (hq (d.rank i))=some (u,aE))->(b=false->u=undef/\(v.op.kind=2->M'=hq (d.rank i)))->(b=true->v.op.kind=2->vop S v.op (EL lv env tp (λ_=>true) i) (hq (d.rank i)) (λv' aE=>v'=u/\aE=M')) ->
     ∀ tr hp,(∀ l,l<i->tr l=tp l)->tr i=u->(∀ r,r<=d.rank i->hp r=hq r)->(v.op.kind=2->hp (d.rank i+1)=M')->DFact S d lv env tr hp (d.rank (i+1)) i:=by
    intro u M' g1 g2 g3 k5 tr hp k1 k2 k3 k4 v' gi;rw[hv] at gi;obtain rfl:=osj gi;have e:=V_ lv env (tr:=tr) (tr':=tp) (A:=λ_=>true) (B:=λ_=>true) i k1 (λ_ _=>rfl);rw[e,k2,k3 _ (z7 _)];refine⟨b,hw,λhb al=>by rw[k4 al];exact k5 hb al,λhb bc r r1 r2 r3=>?_,g2,λhb=>⟨(g3 hb).1,λal=>by rw[k4 al];exact(g3 hb).2 al⟩⟩;rw[iU (by omega)] at r3;rw[k3 r r3];exact Rf (g1 hb bc r r1 r3)
   cases b with
   |false =>
    have hf:=hf rfl;by_cases al:v.op.kind=2
    .rw[z3 al] at hf;obtain⟨jz,hf⟩:=hf;exact weak (go nd undef (hq (d.rank i)) pend (λ_ h=>h) (by rw[z3 al,ite_self];exact hf) (λ_=>by rw[hlen] at jz;exact jz) (λ_ h=>h) (λh=>by cases h) (λ_=>fact (λh=>by cases h) (λh=>by cases h) (λ_=>⟨rfl,λ_=>rfl⟩) (λh=>by cases h)))
    .rw[z0 al] at hf;exact weak (go nd undef (hq (d.rank i)) pend (λ_ h=>h) (by rw[z0 al,ite_self];exact hf) (λh=>absurd h al) (λ_ h=>h) (λh=>by cases h) (λ_=>fact (λh=>by cases h) (λh=>by cases h) (λ_=>⟨rfl,λ_=>rfl⟩) (λh=>by cases h)))
   |true =>
    have ht:=ht rfl;by_cases al:v.op.kind=2
    .rw[z3 al] at ht;rw[hlen] at ht;rcases ht with⟨u,M',h1,h2,h3⟩|⟨gH,fW⟩
     .exact weak (go nd u M' pend (λ_ h=>h) (by rw[z3 al,z3 al];exact h3) (λ_=>h2) (λ_ h=>h) (λ_ hk=>by omega) (λ_=>fact (λ_ hk=>by omega) (λ_ _ hk=>absurd al hk) (λh=>by cases h) (λ_ _=>h1)))
     .have nx:∀ u M',(Xz (d.rank i+1) M' pend/\ZT S (d.opers rest (i+1)) (XQ (EL lv env tp (λ_=>true) i) v.dst u) ((List.range (d.rank i+1)).map hq++[M']) M' pend K) ->
        ∃ k tr hp,i<k/\(∀ l,l<i->tr l=tp l)/\tr i=u/\(∀ r,r<=d.rank i->hp r=hq r)/\(v.op.kind=2->hp (d.rank i+1)=M')/\Know S d lv env K (i::nd) k tr hp:=λu M' ⟨h2,h3⟩ =>
       go (i::nd) u M' pend (λ_ h=>ze _ h) (by rw[z3 al,z3 al];exact h3) (λ_=>h2) (λ_ h=>h) (λ_ hk=>by omega) (λh=>absurd zf h)
      refine⟨i,tp,hq,z7 _,λ_ _=>rfl,λ_ _=>rfl,.part hv al hw hF (λj hj aZ=>?_) _ fW (λu M' h=>(nx u M' h).choose) (λu M' h=>(nx u M' h).choose_spec.choose) (λu M' h=>(nx u M' h).choose_spec.choose_spec.choose) (λu M' h=>?_) (λu M' h=>?_)⟩
      .obtain⟨n,hn⟩:∃ n,j=i+1+n:=⟨j-(i+1),by omega⟩;subst hn;have tB:∀ k w,lv[i+1+k]?=some w->rest[k]?=some w:=λk w dk=>by
        rw[<-dS,zC];exact dk
       have qn:∀ k w,rest[k]?=some w->lv[i+1+k]?=some w:=λk w dk=>by rw[<-dS,zC] at dk;exact dk
       have pr:=z5 aZ;rcases L7 d rest (i+1) _ gH n _ (tB n _ pr) with nG|⟨x,hx,jA⟩|⟨e,u,x,he,hu,hd,jA⟩
       .exact⟨i,v,z7 _,by omega,hv,.inr ⟨al,λw dk=>by rw[pr] at dk;obtain rfl:=osj dk;exact nG⟩⟩
       .exact⟨i,v,z7 _,by omega,hv,.inl ⟨x,by simpa using hx,λw dk=>by rw[pr] at dk;obtain rfl:=osj dk;exact jA⟩⟩
       .exact⟨i+1+e,u,by omega,by omega,qn e u hu,.inl ⟨x,hd,λw dk=>by rw[pr] at dk;obtain rfl:=osj dk;exact jA⟩⟩
      .obtain⟨q1,q2,q3,q4,q5,_⟩:=(nx u M' h).choose_spec.choose_spec.choose_spec;exact⟨q1,q2,q3,q4,q5 al⟩
      .exact(nx u M' h).choose_spec.choose_spec.choose_spec.2.2.2.2.2
    .rw[z0 al] at ht;by_cases bc:v.op.kind=1
     .rw[z3 bc] at ht;cases dQ:Qa v.op (Q5 (EL lv env tp (λ_=>true) i)) (hq (d.rank i)) with
      |none=>rw[dQ] at ht;exact ht.elim
      |some p =>
       rw[dQ] at ht;obtain⟨g1,g2⟩:=ht;refine weak (go nd p.1 (hq (d.rank i)) _ (λ_ h=>h) (by rw[z0 al,ite_self];exact g2) (λh=>absurd h al) (λc hc=>?_) (λ_ _ hr=>?_) (λ_=>fact (λ_ _ r tC tD=>?_) (λ_ hk=>absurd bc hk) (λh=>by cases h) (λ_ hk=>absurd hk al)))
       .split
        .exact ze _ hc
        .exact hc
       .rw[z3 (by rw[hlen];exact hr)];simp
       .refine g1 _ ?_;rw[xd];refine⟨r-d.kmin i,?_⟩;rw[zC,zU,List.getElem?_range (by omega)];simp;congr 1;omega
     .rw[z0 bc] at ht;cases dQ:Qa v.op (Q5 (EL lv env tp (λ_=>true) i)) (hq (d.rank i)) with
      |none=>rw[dQ] at ht;exact ht.elim
      |some p =>rw[dQ] at ht;exact weak (go nd p.1 (hq (d.rank i)) pend (λ_ h=>h) (by rw[z0 al,ite_self];exact ht) (λh=>absurd h al) (λ_ h=>h) (λ_ hk=>absurd hk bc) (λ_=>fact (λ_ hk=>absurd hk bc) (λ_ _ _=>⟨p.2,dQ⟩) (λh=>by cases h) (λ_ hk=>absurd hk al)))
structure DOk (d:DInfo) (n:Nat):Prop where
 edge:∀ j,j<n->∀ e∈d.ed.getD j [],e<j
 path:∀ j,j<n->∀ i,i<j->d.lt i j=true->∃ e∈d.ed.getD j [],e=i\/(i<e/\d.lt i e=true)
 free:∀ j,j<n->∀ i,i<j->d.lt i j=false->d.touch i j=false/\¬(d.k i=2/\d.k j=2)
 kmin:∀ j,j<n->d.k j=1->(d.kmin j<=d.rank j/\d.rank j<=d.kmax j)/\d.kmax j<=d.rank n/\∀ l,l<n->d.k l=2->((d.lt l j=true<->d.rank l<d.kmin j)/\(d.lt j l=true<->d.kmax j<=d.rank l))
theorem DOk.of {d:DInfo}(h:d.ok=true):DOk d d.ks.length:=by
 have h0:∀ j,j<d.ks.length->d.okE j=true/\d.okP j=true/\d.okK j=true:=λj hj=>by have:=z8.1 h j (zA.2 hj);simpa [z4] using this
 refine⟨λj hj e he=>?_,λj hj i hi af=>?_,λj hj i hi af=>?_,λj hj hk=>?_⟩
 .have:=z8.1 (h0 j hj).1 e he;simpa using this
 .have:=z8.1 (h0 j hj).2.1 i (zA.2 hi);simp only[af,zB,xF,zx,z4,zn,zK] at this;exact this
 .have:=z8.1 (h0 j hj).2.1 i (zA.2 hi);simp[af] at this;exact⟨this.1,λhk=>this.2.elim (λh=>h hk.1) (λh=>h hk.2)⟩
 .have:=(h0 j hj).2.2;simp only[DInfo.okK,hk,BEq.rfl,xY,Bool.false_or,z4,zn] at this;refine⟨this.1,this.2.1,λl hl al=>?_⟩;have h1:=z8.1 this.2.2 l (zA.2 hl);simp only[al,BEq.rfl,xY,Bool.false_or,z4,zK] at h1;rw[h1.1,h1.2];simp
theorem DI (d:DInfo) {i j:Nat}(h:i<j) (hk:d.k i=2):d.rank i<d.rank j:=by have:=F5 d (show i+1<=j from h);simp only[DInfo.rank,hk,zB] at this;omega
theorem Nc (d:DInfo):∀ j r,r<d.rank j->∃ l,l<j/\d.k l=2/\d.rank l=r
 |0,r,h=>by simp[DInfo.rank] at h
 |j+1,r,h=>by
  simp only[DInfo.rank] at h;split at h
  .rename_i hk;rcases zk r (d.rank j) with h'|h'
   .obtain⟨l,h1,h2⟩:=Nc d j r h';exact⟨l,by omega,h2⟩
   .exact⟨j,by omega,hk,by omega⟩
  .obtain⟨l,h1,h2⟩:=Nc d j r h;exact⟨l,by omega,h2⟩
theorem Mu {d:DInfo}{n:Nat}(hd:DOk d n) {A:Nat->Bool}(hc:∀ j,j<n->A j=true->∀ e∈d.ed.getD j [],A e=true):∀ j,j<n->A j=true->∀ i,i<j->d.lt i j=true->A i=true:=by
 intro j;induction j using Nat.strongRecOn with
 |ind j ih =>
  intro hj hA i hi af;obtain⟨e,he,h⟩:=hd.path j hj i hi af;have nH:=hd.edge j hj e he;have gv:=hc j hj hA e he;rcases h with rfl|⟨h1,h2⟩
  .exact gv
  .exact ih e nH (by omega) gv i h1 h2
def cnt (A:Nat->Bool):Nat->Nat
 |0=>0
 |i+1=>cnt A i+if A i then 0 else 1
theorem It {A:Nat->Bool}:∀ {n},cnt A n=0->∀ i,i<n->A i=true
 |0,_,i,h=>by omega
 |n+1,hc,i,h=>by
  simp only[cnt] at hc;by_cases hi:i=n
  .subst hi;split at hc
   .assumption
   .omega
  .exact It (n:=n) (by omega) i (by omega)
theorem Q45 {A B:Nat->Bool}{j:Nat}(hA:A j=false) (hB:B j=true) (h:∀ i,i≠j->A i=B i):∀ n,j<n->cnt A n=cnt B n+1
 |0,hj=>by omega
 |n+1,hj=>by
  simp only[cnt];by_cases aZ:j=n
  .subst aZ;have:cnt A j=cnt B j:=by
    have key:∀ m,m<=j->cnt A m=cnt B m:=by
     intro m;induction m with
     |zero=>intro _;rfl
     |succ m ih=>intro hm;simp only[cnt];rw[ih (by omega),h m (by omega)]
    exact key j (z7 _)
   simp[hA,hB,this]
  .have:=Q45 hA hB h n (by omega);rw[h n (by omega)];omega
theorem Z15 (o:VOp):o.kind<=2:=by
 unfold VOp.kind;split<;>try omega
 split<;>omega
theorem Z13 {o:VOp}{env:Env}{M:Heap}{p:Value×Heap}{K:Value->Heap->Prop}(hk:o.kind≠2) (h:Qa o (Q5 env) M=some p) (hK:K p.1 p.2):vop S o env M K:=by
 cases o
 case callF=>exact absurd rfl hk
 case callV=>exact absurd rfl hk
 case ext x =>
  cases x
  case nextMap=>exact absurd rfl hk
  all_goals (simp only[vop];rw[h];exact hK)
 all_goals (simp only[vop];rw[h];exact hK)
theorem BC {o:VOp}{ev:Operand->Value}{M M':Heap}{v:Value}(hk:o.kind≠2) (h:Qa o ev M=some (v,M')):M'=M:=by have:=RJ hk h (Heap.Le.refl M);rw[h] at this;simp at this;exact this
theorem Li {env ah:Env}{g:Option (Nat×Bool)}(h:∀ x b,g=some (x,b)->env[x]?=ah[x]?):Jy env g=Jy ah g:=by
 cases g with
 |none=>rfl
 |some p =>obtain⟨x,b⟩:=p;simp only[Jy,z6];rw[h x b rfl]
theorem Lt {env ah:Env}{x:Operand}(h:∀ t,x=.tmp t->env[t]?=ah[t]?):Q5 env x=Q5 ah x:=by
 cases x<;>try rfl
 rename_i t;simp only[Q5,z6];rw[h t rfl]
structure DInv (B:Nat) (d:DInfo) (lv:List VOper) (env:Env) (tr:Nat->Value) (hp:Nat->Heap) (ρ0:Plc) (σ0:Heap) (w0:World) (A:Nat->Bool) (a:Act) (w:World):Prop where
 closed:∀ j,j<lv.length->A j=true->∀ e∈d.ed.getD j [],A e=true
 run:∃ m ρ,(∀ l,l<lv.length->d.k l=2->(A l=true<->d.rank l<m))/\m<=d.rank lv.length/\HRel ρ (hp m) w/\LRel ρ (hp m).n (EL lv env tr A lv.length) a.tmps.toList/\Mks B a.defers w/\Ext ρ0 σ0 w0 ρ (hp m) w
structure DLink (P:Program) (ops:Array Oper) (pm:List Nat) (d:DInfo) (lv:List VOper):Prop where
 comp:∀ (p:Nat) (v:VOper),lv[p]?=some v->∃ o,ops[pm.getD p 0]?=some o/\JA P ops o=some v/\d.k p=v.op.kind
 touch:∀ (i j:Nat) (u v:VOper),lv[i]?=some u->lv[j]?=some v->d.touch i j=false->(∀ x,u.dst=some x->x∉U0 v)/\(∀ x,v.dst=some x->x∉U0 u)
 size:pm.length=lv.length
theorem DLink.of {ops:Array Oper}{vs:List VOper}(h:ops.toList.mapM (JA P ops)=some vs) {d0:DInfo}{pm:List Nat}(jV:∀ i∈pm,i<vs.length):DLink P ops pm (Fu d0 vs pm) (UL vs pm):=by
 obtain⟨h1,h2⟩:=WU _ _ _ h;refine⟨λp v hv=>?_,λi j u v hu hv ht=>?_,by simp[UL]⟩
 .simp only[UL,zU,zq] at hv;obtain⟨i,hi,rfl⟩:=hv;have aQ:=jV i (zG hi);have jB:i<ops.toList.length:=by omega
  obtain⟨v,hv,hc⟩:=h2 i _ (z5 jB);have hg:vs.getD i default=v:=by simp[z6,hv]
  have hp:pm.getD p 0=i:=by simp[z6,hi]
  refine⟨ops.toList[i],?_,by rw[hg];exact hc,?_⟩
  .rw[hp];simp
  .simp[DInfo.k,Fu,UL,z6,hi]
 .simp only[DInfo.touch,Fu,Q88,z6,zU,hu,hv,xB,Option.getD_some,Bool.or_eq_false_iff] at ht;refine⟨λx hx hm=>?_,λx hx hm=>?_⟩
  .have:=ht.1;rw[hx] at this;simp at this;exact this hm
  .have:=ht.2;rw[hx] at this;simp at this;exact this hm
theorem IK {v:VOper}{x:Nat}(h:v.dst=some x):x∈U0 v:=by simp[U0,h]
theorem O6 {v:VOper}{x:Nat}(h:Operand.tmp x∈v.op.opds):x∈U0 v:=by refine xI _ (xA _ ?_);exact List.mem_filterMap.2 ⟨_,h,rfl⟩
theorem LH {v:VOper}{x:Nat}{b:Bool}(h:v.guard=some (x,b)):x∈U0 v:=by refine xA _ ?_;simp[h]
theorem Ri (hS:OkSpecs P S) {ro:Option Nat}{n:Nat}{ops:Array Oper}{pm:List Nat}{d:DInfo}{lv:List VOper}(hl:DLink P ops pm d lv) (hd:DOk d lv.length) {env:Env}{tr:Nat->Value}{hp:Nat->Heap}
  {bd j:Nat}(hF:DFact S d lv env tr hp bd j)
  {Q:Exit->Act->World->Prop}{ρ0:Plc}{σ0:Heap}{w0:World}{A:Nat->Bool}{a:Act}{w:World}(tE:∀ m,(∀ l,l<lv.length->d.k l=2->(A l=true<->d.rank l<m))->m<=d.rank lv.length->m<=bd) (hI:DInv B d lv env tr hp ρ0 σ0 w0 A a w)
  (aZ:j<lv.length) (dU:A j=false) (dV:∀ e∈d.ed.getD j [],A e=true) {A':Nat->Bool}(aO:∀ i,A' i=if i=j then true else A i) {K:Act->World->Prop}(hK:∀ a' w',DInv B d lv env tr hp ρ0 σ0 w0 A' a' w'->K a' w'):wpOpIn (FF ro) n P ops Q (pm.getD j 0) K a w:=by
 obtain⟨v,hv⟩:∃ v,lv[j]?=some v:=⟨_,z5 aZ⟩;obtain⟨o,ho,hc,hk⟩:=hl.comp j v hv;obtain⟨bL,m,ρ,hm,lE,hH,hL,dB,hE⟩:=hI;have dy:∀ i,i<j->d.lt i j=true->A i=true:=by
  intro i hi af;obtain⟨e,he,h⟩:=hd.path j aZ i hi af;have nH:=hd.edge j aZ e he;have gv:A e=true:=dV e he;rcases h with rfl|⟨h1,h2⟩
  .exact gv
  .exact Mu hd bL e (by omega) gv i h1 h2
 have eN:∀ i,i<lv.length->j<i->d.lt j i=true->A i=false:=by
  intro i hi aM af;cases hA:A i with
  |false=>rfl
  |true=>rw[Mu hd bL i hi hA j aM af] at dU;cases dU
 have fq:∀ x,x∈U0 v->(EL lv env tr A lv.length)[x]?=(EL lv env tr (λ_=>true) j)[x]?:=by
  intro x hx;rw[<-H5 lv env tr j lv.length (by omega)];refine DA lv env tr x lv.length λl aT bD=>?_;cases bR:lv[l]? with
  |none=>rw[bR] at bD;cases bD
  |some u =>
   rw[bR] at bD;rcases Nat.lt_trichotomy l j with h|h|h
   .have af:d.lt l j=true:=by
     cases af:d.lt l j with
     |true=>rfl
     |false=>exact absurd hx ((hl.touch l j u v bR hv (hd.free j aZ l h af).1).1 x bD)
    simp only[h,decide_true];exact dy l h af
   .subst h;simp only[wz,decide_false];exact dU
   .have af:d.lt j l=true:=by
     cases af:d.lt j l with
     |true=>rfl
     |false=>exact absurd hx ((hl.touch j l v u hv bR (hd.free l aT j h af).1).2 x bD)
    have:¬ l<j:=by omega
    simp only[this,decide_false];exact eN l aT h af
 obtain⟨b,f1,f2,f3,tF,f4⟩:=hF v hv;have hw:Jy (EL lv env tr A lv.length) v.guard=some b:=by rw[Li (λx b' hg=>fq x (LH hg))];exact f1
 have jC:∀ x∈v.op.opds,Q5 (EL lv env tr A lv.length) x=Q5 (EL lv env tr (λ_=>true) j) x:=λx hx=>Lt λt ht=>fq t (O6 (ht▸hx));obtain⟨dx,bD,bG⟩:=B_ hc hL hw;have dm:EL lv env tr A' lv.length=XQ (EL lv env tr A lv.length) v.dst (tr j):=by
  apply zZ;intro x;by_cases hx:v.dst=some x
  .have h1:(EL lv env tr A' lv.length)[x]?=(EL lv env tr (λl=>decide (l<j+1)) lv.length)[x]?:=by
    refine DA lv env tr x lv.length λl aT bq=>?_;rw[aO];by_cases gI:l=j
    .subst gI;simp
    .rw[z0 gI];cases bR:lv[l]? with
     |none=>rw[bR] at bq;cases bq
     |some u =>
      rw[bR] at bq;have jD:=IK hx;rcases zk l j with h|h
      .have af:d.lt l j=true:=by
        cases af:d.lt l j with
        |true=>rfl
        |false=>exact absurd jD ((hl.touch l j u v bR hv (hd.free j aZ l h af).1).1 x bq)
       have:l<j+1:=by omega
       simp only[this,decide_true];exact dy l h af
      .have h':j<l:=by omega
       have af:d.lt j l=true:=by
        cases af:d.lt j l with
        |true=>rfl
        |false=>exact absurd jD ((hl.touch j l v u hv bR (hd.free l aT j h' af).1).2 x bq)
       have:¬ l<j+1:=by omega
       simp only[this,decide_false];exact eN l aT h' af
   rw[h1,H5 lv env tr (j+1) lv.length (by omega)];simp only[EL,zB,hv,xx,hx,XQ];rw[xN,xN];simp only[zB,Vl]
  .rw[Vc _ _ _ hx];refine DA lv env tr x lv.length λl aT bq=>?_;rw[aO];split
   .rename_i h;subst h;rw[hv] at bq;exact absurd bq hx
   .rfl
 have cq:∀ i,i<lv.length->A' i=true->∀ e∈d.ed.getD i [],A' e=true:=by
  intro i hi hA e he;rw[aO] at hA |-;split
  .rfl
  .by_cases bQ:i=j
   .subst bQ;exact dV e he
   .rw[z0 bQ] at hA;exact bL i hi hA e he
 have kn:d.k j=2->d.rank j=m:=by
  intro al;have h1:¬ d.rank j<m:=λh=>by rw[(hm j aZ al).2 h] at dU;cases dU
  by_cases h2:d.rank j=m
  .exact h2
  .obtain⟨l,gI,a9,df⟩:=Nc d j m (by omega);have af:d.lt l j=true:=by
    cases af:d.lt l j with
    |true=>rfl
    |false=>exact absurd ⟨a9,al⟩ (hd.free j aZ l gI af).2
   have:=(hm l (by omega) a9).1 (dy l gI af);omega
 have gU:d.k j=2->∀ l,l<lv.length->d.k l=2->(A' l=true<->d.rank l<m+1):=by
  intro al l aT a9;rw[aO];have fY:=kn al;split
  .rename_i h;subst h;simp;omega
  .rename_i h;rw[hm l aT a9];have:d.rank l≠m:=by
    rcases zk l j with h'|h'
    .have:=DI d h' a9;omega
    .have:=DI d (show j<l by omega) al;omega
   omega
 have mJ:d.k j≠2->∀ l,l<lv.length->d.k l=2->(A' l=true<->d.rank l<m):=by intro al l aT a9;rw[aO,z0 (by rintro rfl;exact al a9)];exact hm l aT a9
 have jE:d.k j=2->m+1<=d.rank lv.length:=λal=>by have:=DI d aZ al;have:=kn al;omega
 unfold wpOpIn;simp only[ho];cases b with
 |false =>
  rw[dx,z0 (by simp)];obtain⟨g1,g2⟩:=f4 rfl;refine⟨λf _=>O_ _ _,hK _ _ ⟨cq,?_⟩⟩;by_cases al:d.k j=2
  .have fY:=kn al;have hh:hp (m+1)=hp m:=by rw[<-fY];exact g2 (hk▸al)
   refine⟨m+1,ρ,gU al,jE al,by rw[hh];exact hH,?_,by rw[XP];exact dB,by rw[hh];exact hE⟩;rw[hh,dm,g1,bD];exact KM hL X9 o.dst
  .refine⟨m,ρ,mJ al,lE,hH,?_,by rw[XP];exact dB,hE⟩;rw[dm,g1,bD];exact KM hL X9 o.dst
 |true =>
  rw[dx,z3 rfl];by_cases al:d.k j=2
  .have fY:=kn al;have g1:=f2 rfl (hk▸al);rw[fY] at g1;rw[<-EF jC] at g1;refine Um hS bG hH hL g1 λc w' ⟨u,ρ',M',⟨hu,hσ⟩,eF,gu,bX⟩=>hK _ _ ⟨cq,?_⟩;subst hu;subst hσ;refine⟨m+1,ρ',gU al,jE al,gu,?_,by rw[XP];exact dB.ext hH bX,hE.trans bX⟩;rw[dm,bD];exact KM (bX.lrel hL) eF o.dst
  .have g2:∃ σ1,Qa v.op (Q5 (EL lv env tr A lv.length)) (hp m)=some (tr j,σ1):=by
    rw[HG jC];by_cases bc:d.k j=1
    .obtain⟨⟨k1,k4⟩,k3,k2⟩:=hd.kmin j aZ bc;refine f3 rfl (hk▸bc) m ?_ ?_ (tE m hm lE)
     .rcases zk m (d.kmin j) with h|h
      .obtain⟨l,aT,a9,df⟩:=Nc d j m (by omega);have af:=(k2 l (by omega) a9).1.2 (by omega);have:=(hm l (by omega) a9).1 (dy l aT af);omega
      .exact h
     .rcases zk (d.kmax j) m with h|h
      .obtain⟨l,aT,a9,df⟩:=Nc d lv.length (d.kmax j) (by omega);have af:=(k2 l aT a9).2.2 (by omega);have ku:=(hm l aT a9).2 (by omega);rcases Nat.lt_trichotomy j l with h'|h'|h'
       .rw[eN l aT h' af] at ku;cases ku
       .subst h';omega
       .exfalso;have fI:d.rank l<d.rank j:=DI d h' a9;omega
      .exact h
    .have iX:v.op.kind=0:=by
      have h2:v.op.kind<=2:=Z15 v.op;omega
     obtain⟨σ1,g1⟩:=tF rfl (by omega) (by omega);exact⟨hp m,TM iX g1⟩
   obtain⟨σ1,g2⟩:=g2;have hq:=BC (hk▸al) g2;subst hq;refine Um hS (K:=λv' M'=>v'=tr j/\M'=hp m) bG hH hL (Z13 (hk▸al) g2 ⟨rfl,rfl⟩) λc w' ⟨u,ρ',M',⟨hu,hσ⟩,eF,gu,bX⟩=>hK _ _ ⟨cq,?_⟩;subst hu;subst hσ;refine⟨m,ρ',mJ al,lE,gu,?_,by rw[XP];exact dB.ext hH bX,hE.trans bX⟩;rw[dm,bD];exact KM (bX.lrel hL) eF o.dst
theorem Ib (hS:OkSpecs P S) {ro:Option Nat}{n:Nat}{ops:Array Oper}{pm:List Nat}{d:DInfo}{lv:List VOper}(hl:DLink P ops pm d lv) (hd:DOk d lv.length) {env:Env}{tr:Nat->Value}{hp:Nat->Heap}
  {j:Nat}{v:VOper}(hv:lv[j]?=some v) (qo:v.op.kind=2) (tG:Jy (EL lv env tr (λ_=>true) j) v.guard=some true) {R:Value->Heap->Prop}(fW:vop S v.op (EL lv env tr (λ_=>true) j) (hp (d.rank j)) R)
  {Q:Exit->Act->World->Prop}{ρ0:Plc}{σ0:Heap}{w0:World}{A:Nat->Bool}{a:Act}{w:World}(hI:DInv B d lv env tr hp ρ0 σ0 w0 A a w) (nJ:∀ l,j<=l->l<lv.length->A l=false)
  (aZ:j<lv.length) (dU:A j=false) (dV:∀ e∈d.ed.getD j [],A e=true) {A':Nat->Bool}(aO:∀ i,A' i=if i=j then true else A i) {K:Act->World->Prop}
  (hK:∀ u M' a' w',R u M'->(∀ tr' bm,(∀ l,l<j->tr' l=tr l)->tr' j=u->(∀ r,r<=d.rank j->bm r=hp r)->bm (d.rank j+1)=M'->DInv B d lv env tr' bm ρ0 σ0 w0 A' a' w')->K a' w'):wpOpIn (FF ro) n P ops Q (pm.getD j 0) K a w:=by
 obtain⟨o,ho,hc,hk⟩:=hl.comp j v hv;obtain⟨bL,m,ρ,hm,lE,hH,hL,dB,hE⟩:=hI;have dy:∀ i,i<j->d.lt i j=true->A i=true:=by
  intro i hi af;obtain⟨e,he,h⟩:=hd.path j aZ i hi af;have nH:=hd.edge j aZ e he;have gv:A e=true:=dV e he;rcases h with rfl|⟨h1,h2⟩
  .exact gv
  .exact Mu hd bL e (by omega) gv i h1 h2
 have eN:∀ i,i<lv.length->j<i->d.lt j i=true->A i=false:=by
  intro i hi aM af;cases hA:A i with
  |false=>rfl
  |true=>rw[Mu hd bL i hi hA j aM af] at dU;cases dU
 have fq:∀ x,x∈U0 v->(EL lv env tr A lv.length)[x]?=(EL lv env tr (λ_=>true) j)[x]?:=by
  intro x hx;rw[<-H5 lv env tr j lv.length (by omega)];refine DA lv env tr x lv.length λl aT bD=>?_;cases bR:lv[l]? with
  |none=>rw[bR] at bD;cases bD
  |some u =>
   rw[bR] at bD;rcases Nat.lt_trichotomy l j with h|h|h
   .have af:d.lt l j=true:=by
     cases af:d.lt l j with
     |true=>rfl
     |false=>exact absurd hx ((hl.touch l j u v bR hv (hd.free j aZ l h af).1).1 x bD)
    simp only[h,decide_true];exact dy l h af
   .subst h;simp only[wz,decide_false];exact dU
   .have af:d.lt j l=true:=by
     cases af:d.lt j l with
     |true=>rfl
     |false=>exact absurd hx ((hl.touch j l v u hv bR (hd.free l aT j h af).1).2 x bD)
    have:¬ l<j:=by omega
    simp only[this,decide_false];exact eN l aT h af
 have hw:Jy (EL lv env tr A lv.length) v.guard=some true:=by rw[Li (λx b' hg=>fq x (LH hg))];exact tG
 have jC:∀ x∈v.op.opds,Q5 (EL lv env tr A lv.length) x=Q5 (EL lv env tr (λ_=>true) j) x:=λx hx=>Lt λt ht=>fq t (O6 (ht▸hx));obtain⟨dx,bD,bG⟩:=B_ hc hL hw;have dm:∀ tr:Nat->Value,EL lv env tr A' lv.length=XQ (EL lv env tr A lv.length) v.dst (tr j):=λtr=>by
  apply zZ;intro x;by_cases hx:v.dst=some x
  .have h1:(EL lv env tr A' lv.length)[x]?=(EL lv env tr (λl=>decide (l<j+1)) lv.length)[x]?:=by
    refine DA lv env tr x lv.length λl aT bq=>?_;rw[aO];by_cases gI:l=j
    .subst gI;simp
    .rw[z0 gI];cases bR:lv[l]? with
     |none=>rw[bR] at bq;cases bq
     |some u =>
      rw[bR] at bq;have jD:=IK hx;rcases zk l j with h|h
      .have af:d.lt l j=true:=by
        cases af:d.lt l j with
        |true=>rfl
        |false=>exact absurd jD ((hl.touch l j u v bR hv (hd.free j aZ l h af).1).1 x bq)
       have:l<j+1:=by omega
       simp only[this,decide_true];exact dy l h af
      .have h':j<l:=by omega
       have af:d.lt j l=true:=by
        cases af:d.lt j l with
        |true=>rfl
        |false=>exact absurd jD ((hl.touch j l v u hv bR (hd.free l aT j h' af).1).2 x bq)
       have:¬ l<j+1:=by omega
       simp only[this,decide_false];exact eN l aT h' af
   rw[h1,H5 lv env tr (j+1) lv.length (by omega)];simp only[EL,zB,hv,xx,hx,XQ];rw[xN,xN];simp only[zB,Vl]
  .rw[Vc _ _ _ hx];refine DA lv env tr x lv.length λl aT bq=>?_;rw[aO];split
   .rename_i h;subst h;rw[hv] at bq;exact absurd bq hx
   .rfl
 have cq:∀ i,i<lv.length->A' i=true->∀ e∈d.ed.getD i [],A' e=true:=by
  intro i hi hA e he;rw[aO] at hA |-;split
  .rfl
  .by_cases bQ:i=j
   .subst bQ;exact dV e he
   .rw[z0 bQ] at hA;exact bL i hi hA e he
 have kn:d.k j=2->d.rank j=m:=by
  intro al;have h1:¬ d.rank j<m:=λh=>by rw[(hm j aZ al).2 h] at dU;cases dU
  by_cases h2:d.rank j=m
  .exact h2
  .obtain⟨l,gI,a9,df⟩:=Nc d j m (by omega);have af:d.lt l j=true:=by
    cases af:d.lt l j with
    |true=>rfl
    |false=>exact absurd ⟨a9,al⟩ (hd.free j aZ l gI af).2
   have:=(hm l (by omega) a9).1 (dy l gI af);omega
 have gU:d.k j=2->∀ l,l<lv.length->d.k l=2->(A' l=true<->d.rank l<m+1):=by
  intro al l aT a9;rw[aO];have fY:=kn al;split
  .rename_i h;subst h;simp;omega
  .rename_i h;rw[hm l aT a9];have:d.rank l≠m:=by
    rcases zk l j with h'|h'
    .have:=DI d h' a9;omega
    .have:=DI d (show j<l by omega) al;omega
   omega
 have mJ:d.k j≠2->∀ l,l<lv.length->d.k l=2->(A' l=true<->d.rank l<m):=by intro al l aT a9;rw[aO,z0 (by rintro rfl;exact al a9)];exact hm l aT a9
 have jE:d.k j=2->m+1<=d.rank lv.length:=λal=>by have:=DI d aZ al;have:=kn al;omega
 unfold wpOpIn;simp only[ho];rw[dx,z3 rfl];have al:d.k j=2:=hk.trans qo;have fY:=kn al;rw[fY,<-EF jC] at fW;refine Um hS bG hH hL fW λc w' ⟨u,ρ',M',hR,eF,gu,bX⟩=>hK u M' _ _ hR λtr' bm t1 t2 t3 t4=>⟨cq,m+1,ρ',gU al,jE al,?_,?_,?_,?_⟩
 .rw[<-fY,t4];exact gu
 .have e0:EL lv env tr' A lv.length=EL lv env tr A lv.length:=Z5a lv env lv.length λl aT hA=>t1 l (by
   rcases zk l j with h|h
   .exact h
   .rw[nJ l h aT] at hA;cases hA)
  rw[<-fY,t4,dm tr',e0,bD,t2];exact KM (bX.lrel hL) eF o.dst
 .rw[XP];exact dB.ext hH bX
 .rw[<-fY,t4];exact hE.trans bX
theorem J15 {ops:Array Oper}{pm:List Nat}{d:DInfo}{lv:List VOper}(_hl:DLink P ops pm d lv) {env:Env}{tr:Nat->Value}{hp:Nat->Heap}{ρ0:Plc}{σ0:Heap}{w0:World}{A:Nat->Bool}{a:Act}{w:World}
  (hI:DInv B d lv env tr hp ρ0 σ0 w0 A a w) (ae:∀ j,j<lv.length->A j=true):PL B (List.length env) ρ0 σ0 w0 (λah M'=>ah=EL lv env tr (λ_=>true) lv.length/\M'=hp (d.rank lv.length)) a w:=by
 obtain⟨bL,m,ρ,hm,lE,hH,hL,dB,hE⟩:=hI;have ij:m=d.rank lv.length:=by
  rcases zk m (d.rank lv.length) with h|h
  .obtain⟨l,h1,h2,h3⟩:=Nc d _ _ h;have:=(hm l h1 h2).1 (ae l h1);omega
  .omega
 subst ij;have e:=V_ lv env (tr:=tr) (tr':=tr) (A:=A) (B:=λ_=>true) lv.length (λ_ _=>rfl) (λl hl=>ae l hl);exact⟨_,ρ,_,⟨rfl,rfl⟩,Vl _ _ _ _ _,hH,by rw[<-e];exact hL,dB,hE⟩
def Q3e (pm:List Nat) (d:DInfo) (n:Nat):(Nat->Bool)->List Nat->Prop
 |A,[]=>∀ p,p<n->A p=true
 |A,j::rest=>∃ p,p<n/\pm.getD p 0=j/\A p=false/\(∀ e∈d.ed.getD p [],A e=true)/\Q3e pm d n (λq=>if q=p then true else A q) rest
theorem OM (hS:OkSpecs P S) {ro:Option Nat}{n:Nat}{ops:Array Oper}{pm:List Nat}{d:DInfo}{lv:List VOper}(hl:DLink P ops pm d lv) (hd:DOk d lv.length) {env:Env}{K:Env->Heap->Prop}
  {Q:Exit->Act->World->Prop}{ρ0:Plc}{σ0:Heap}{w0:World}{l2:List Nat}(hQ:∀ a w,PL B (List.length env) ρ0 σ0 w0 K a w->wpOpsIn (FF ro) n P ops Q l2 a w) {nd:List Nat}{i:Nat}{tr:Nat->Value}{hp:Nat->Heap}(tH:Know S d lv env K nd i tr hp) :
  ∀ (l:List Nat) (A:Nat->Bool) (a:Act) (w:World),Q3e pm d lv.length A l->DInv B d lv env tr hp ρ0 σ0 w0 A a w->(∀ j,i<=j->j<lv.length->A j=false)->(∀ j,j∈nd->j<lv.length->A j=true)->wpOpsIn (FF ro) n P ops Q (l++l2) a w:=by
 induction tH with
 |full hF hK =>
  intro l;induction l with
  |nil =>intro A a w hs hI _ _;obtain⟨ah,ρ',M',⟨e1,e2⟩,n1⟩:=J15 hl hI hs;exact hQ a w ⟨ah,ρ',M',by rw[e1,e2];exact hK,n1⟩
  |cons j rest ih =>
   intro A a w hs hI hA hN;obtain⟨p,bm,rfl,ky,he,a7⟩:=hs;rw[zV,wpOpsIn_cons];refine Ri hS hl hd (hF p bm λh=>?_) (λm _ h=>h) hI bm ky he (λ_=>rfl) λa' w' nK=>ih _ a' w' a7 nK (λj h1 h2=>by omega) (λj hj eE=>?_)
   .rw[hN p h bm] at ky;cases ky
   .split
    .rfl
    .exact hN j hj eE
 |part hv hk hw hF kg R fW I T H hT next pw =>
  rename_i nd i tr hp v;have aQ:i<lv.length:=by
   rcases zk i lv.length with h|h
   .exact h
   .rw[zr h] at hv;cases hv
  intro l;induction l with
  |nil =>intro A a w hs hI hA _;have:=hs i aQ;rw[hA i (z7 _) aQ] at this;cases this
  |cons j rest ih =>
   intro A a w hs hI hA hN;obtain⟨p,bm,rfl,ky,he,a7⟩:=hs;rw[zV,wpOpsIn_cons];have jU:d.k i=2:=by obtain⟨_,_,_,h⟩:=hl.comp i v hv;exact h.trans hk
   rcases Nat.lt_trichotomy p i with i_|rfl|i_
   .refine Ri hS hl hd (hF p i_ λh=>?_) (λm hm _=>?_) hI bm ky he (λ_=>rfl) λa' w' nK=>ih _ a' w' a7 nK (λj h1 h2=>?_) (λj hj eE=>?_)
    .rw[hN p h bm] at ky;cases ky
    .have h1:¬ d.rank i<m:=λh=>by
      have:=(hm i aQ jU).2 h;rw[hA i (z7 _) aQ] at this;cases this
     omega
    .rw[z0 (by omega)];exact hA j h1 h2
    .split
     .rfl
     .exact hN j hj eE
   .refine Ib hS hl hd hv hk hw fW hI hA bm ky he (λ_=>rfl) λu M' a' w' hR nK=>?_;obtain⟨q1,q2,q3,q4,q5⟩:=hT u M' hR;refine pw u M' hR _ _ a' w' a7 (nK _ _ q2 q3 q4 q5) (λj h1 h2=>?_) (λj hj eE=>?_)
    .rw[z0 (by omega)];exact hA j (by omega) h2
    .split
     .rfl
     .rename_i aw;rcases zj.1 hj with h|h
      .exact absurd h aw
      .exact hN j h eE
   .exfalso;obtain⟨e,u,h1,h2,hu,hn⟩:=kg p i_ bm;have kj:=z5 bm;have af:d.lt e p=true:=by
     cases h:d.lt e p with
     |true=>rfl
     |false =>
      rcases hn with⟨x,hx,hn⟩|⟨fG,dC⟩
      .exact absurd (hn _ kj) ((hl.touch e p u _ hu kj (hd.free p bm e h2 h).1).1 x hx)
      .obtain⟨_,_,_,q1⟩:=hl.comp e u hu;obtain⟨_,_,_,q2⟩:=hl.comp p _ kj;exact absurd ⟨q1.trans fG,q2.trans (dC _ kj)⟩ (hd.free p bm e h2 h).2
    have gv:A e=true:=by
     obtain⟨e',rO,h3⟩:=hd.path p bm e h2 af;have nL:=he e' rO;rcases h3 with rfl|⟨h3,h4⟩
     .exact nL
     .exact Mu hd hI.closed e' (by have:=hd.edge p bm e' rO;omega) nL e h3 h4
    rw[hA e h1 (by omega)] at gv;cases gv
def VX (ops:Array Oper):Array Bool->List Nat->Prop
 |L,[]=>∀ j,j<ops.size->L.getD j false=true
 |L,j::rest=>j∈Region.ready .any ops L/\VX ops (L.setIfInBounds j true) rest
theorem U1 (L:Array Bool) (j i:Nat) (hj:j<L.size):(L.setIfInBounds j true).getD i false=if i=j then true else L.getD i false:=by
 by_cases h:i=j
 .subst h;simp[hj]
 .simp[h,Array.getElem?_setIfInBounds_ne (Ne.symm h)]
theorem Q1p {ops:Array Oper}(iq:∀ (j:Nat) (o:Oper),ops[j]?=some o->∀ e∈Pk o,e<j) {L:Array Bool}(hs:L.size=ops.size) (h:Region.ready .any ops L=[]):∀ j,j<ops.size->L.getD j false=true:=by
 intro j;induction j using Nat.strongRecOn with
 |ind j ih =>
  intro hj;cases hA:L.getD j false with
  |true=>rfl
  |false =>
   exfalso;have:j∈Region.ready .any ops L:=by
    refine mem_ready.2 ⟨?_,ops[j],xi hj,λe he hb=>?_⟩
    .have h1:L.getD j true=L[j]:=by simp[hs,hj]
     have h2:L.getD j false=L[j]:=by simp[hs,hj]
     rw[h1,<-h2];exact hA
    .have:=iq j ops[j] (xi hj) e.on (zo.2 ⟨e,zt.2 ⟨by simpa using he,hb⟩,rfl⟩);exact ih _ this (by omega)
   rw[h] at this;cases this
theorem Ti {ops:Array Oper}{L:Array Bool}(hs:L.size=ops.size) {j:Nat}(h:j∈Region.ready .any ops L):j<ops.size/\L.getD j false=false/\∃ o,ops[j]?=some o/\∀ e∈Pk o,L.getD e false=true:=by obtain⟨h1,o,ho,h2⟩:=mem_ready.1 h;have aZ:j<ops.size:=(xH.1 ho).1;refine⟨aZ,by simp[hs,aZ] at h1 |-;exact h1,o,ho,λe he=>?_⟩;obtain⟨x,hx,rfl⟩:=zo.1 he;obtain⟨tI,rP⟩:=zt.1 hx;exact h2 x (by simpa using tI) rP
theorem Q87 {ops:Array Oper}(iq:∀ (j:Nat) (o:Oper),ops[j]?=some o->∀ e∈Pk o,e<j):∀ (fuel t:Nat) (L:Array Bool),L.size=ops.size->cnt (λi=>L.getD i false) ops.size<=fuel ->
  VX ops L (Region.linearise.go .any ops fuel t L []):=by
 intro fuel;induction fuel with
 |zero =>intro t L hs hc;simp only[Region.linearise.go,List.reverse_nil,VX];exact It (by omega)
 |succ fuel ih =>
  intro t L hs hc;simp only[Region.linearise.go]
  change VX ops L (match (Region.ready .any ops L)[t % (Region.ready .any ops L).length]? with
   |some i=>Region.linearise.go .any ops fuel (t / (Region.ready .any ops L).length) (L.setIfInBounds i true) [i]
   |none=>[].reverse)
  cases hi:(Region.ready .any ops L)[t % (Region.ready .any ops L).length]? with
  |none =>
   have iu:Region.ready .any ops L=[]:=by
    cases hr:Region.ready .any ops L with
    |nil=>rfl
    |cons x xs =>rw[hr] at hi;have af:t % (x::xs).length<(x::xs).length:=w5 _ (by simp);simp at hi;simp at af;omega
   simp only[List.reverse_nil,VX];exact Q1p iq hs iu
  |some i =>
   simp only[];rw[linearise_go_acc,List.reverse_singleton,List.singleton_append];have kz:=zG hi;obtain⟨aQ,nM,_⟩:=Ti hs kz;refine⟨kz,ih _ _ (by simp[hs]) ?_⟩;have iv:i<L.size:=by rw[hs];exact aQ
   have:=Q45 (A:=λi=>L.getD i false) (B:=λk=>(L.setIfInBounds i true).getD k false) (j:=i) nM (by simp only[U1 L i i iv,zB]) (λk hk=>by simp only[U1 L i k iv,z0 hk]) ops.size aQ;omega
theorem Ih {ops:Array Oper}:∀ (l:List Nat) (L:Array Bool),L.size=ops.size->VX ops L l->l.Nodup/\∀ j,j∈l<->(j<ops.size/\L.getD j false=false):=by
 intro l;induction l with
 |nil=>intro L hs h;exact⟨List.nodup_nil,λj=>⟨λh=>(by cases h),λ⟨h1,h2⟩=>by rw[h j h1] at h2;cases h2⟩⟩
 |cons i l ih =>
  intro L hs h;obtain⟨kz,h'⟩:=h;obtain⟨aQ,nM,_⟩:=Ti hs kz;have iv:i<L.size:=by rw[hs];exact aQ
  obtain⟨k1,k2⟩:=ih _ (by simp[hs]) h';refine⟨z_.2 ⟨λhm=>?_,k1⟩,λj=>?_⟩
  .have:=((k2 i).1 hm).2;rw[U1 L i i iv,z3 rfl] at this;cases this
  .rw[zj,k2 j,U1 L i j iv];by_cases aM:j=i
   .subst aM;simp[aQ,nM]
   .simp[aM]
structure DBase (ops:Array Oper) (d:DInfo):Prop where
 ed:∀ (j:Nat) (o:Oper),ops[j]?=some o->d.ed.getD j []=Pk o
 edge:∀ j,j<ops.size->∀ e∈d.ed.getD j [],e<j
 path:∀ j,j<ops.size->∀ i,i<j->d.lt i j=true->∃ e∈d.ed.getD j [],e=i\/(i<e/\d.lt i e=true)
 up:∀ i j,d.lt i j=true->i<j
 size:d.ks.length=ops.size
theorem Fs {ops:Array Oper}{d:DInfo}(hb:DBase ops d) {A:Nat->Bool}(hc:∀ j,j<ops.size->A j=true->∀ e∈d.ed.getD j [],A e=true):∀ j,j<ops.size->A j=true->∀ i,i<j->d.lt i j=true->A i=true:=by
 intro j;induction j using Nat.strongRecOn with
 |ind j ih =>
  intro hj hA i hi af;obtain⟨e,he,h⟩:=hb.path j hj i hi af;have nH:=hb.edge j hj e he;have gv:=hc j hj hA e he;rcases h with rfl|⟨h1,h2⟩
  .exact gv
  .exact ih e nH (by omega) gv i h1 h2
theorem Z3m {ops:Array Oper}{d:DInfo}(hb:DBase ops d):∀ (l:List Nat) (L:Array Bool),L.size=ops.size->(∀ j,j<ops.size->L.getD j false=true->∀ e∈d.ed.getD j [],L.getD e false=true)->VX ops L l ->
  l.Pairwise λj i=>d.lt i j=false:=by
 intro l;induction l with
 |nil=>intro L _ _ _;exact List.Pairwise.nil
 |cons j l ih =>
  intro L hs hc h;obtain⟨kz,h'⟩:=h;obtain⟨aQ,nM,o,ho,iq⟩:=Ti hs kz;have iv:j<L.size:=by rw[hs];exact aQ
  have cM:∀ k,k<ops.size->(L.setIfInBounds j true).getD k false=true->∀ e∈d.ed.getD k [],(L.setIfInBounds j true).getD e false=true:=by
   intro k hk hA e he;rw[U1 L j e iv];split
   .rfl
   .rw[U1 L j k iv] at hA;split at hA
    .rename_i tJ;subst tJ;rw[hb.ed _ o ho] at he;exact iq e he
    .exact hc k hk hA e he
  obtain⟨k1,k2⟩:=Ih l _ (by simp[hs]) h';refine List.Pairwise.cons (λi hi=>?_) (ih _ (by simp[hs]) cM h');cases af:d.lt i j with
  |false=>rfl
  |true =>
   exfalso;have bQ:=hb.up i j af;have hA:(L.setIfInBounds j true).getD j false=true:=by rw[U1 L j j iv,z3 rfl]
   have:=Fs hb cM j aQ hA i bQ af;rw[((k2 i).1 hi).2] at this;cases this
theorem C3 (lt:Nat->Nat->Bool):∀ (s l:List Nat) (n:Nat),s.Perm l->l.length<=n->s.Pairwise (λj i=>lt i j=false)->s∈exts lt n l:=by
 intro s;induction s with
 |nil =>intro l n hp hn _;have:l=[]:=hp.symm.eq_nil;subst this;cases n<;>simp[exts]
 |cons k s ih =>
  intro l n hp hn hs;have hk:k∈l:=hp.mem_iff.1 (by simp);cases l with
  |nil=>cases hk
  |cons x xs =>
   cases n with
   |zero=>simp at hn
   |succ n =>
    simp only[exts];refine List.mem_flatMap.2 ⟨k,hk,?_⟩;obtain⟨h1,h2⟩:=xM.1 hs;have ae:((x::xs).all λi=>i==k||!lt i k)=true:=by
     refine z8.2 λi hi=>?_;have:i∈k::s:=hp.mem_iff.2 hi;rcases zj.1 this with rfl|h
     .simp
     .simp[h1 i h]
    rw[z3 ae];refine zo.2 ⟨s,ih _ n ?_ ?_ h2,rfl⟩
    .exact(List.cons_perm_iff_perm_erase.1 hp).2
    .rw[List.length_erase_of_mem hk];simp at hn |-;omega
theorem Q75 {j:Nat}:∀ (a a' b b':List Nat),j∉a->j∉a'->a++j::b=a'++j::b'->a=a':=by
 intro a;induction a with
 |nil =>
  intro a' b b' _ h' h;cases a' with
  |nil=>rfl
  |cons x a'=>simp at h;exact absurd h.1 (by rintro rfl;exact h' (by simp))
 |cons x a ih =>
  intro a' b b' h1 h2 h;cases a' with
  |nil=>simp at h;exact absurd h.1 (by rintro rfl;exact h1 (by simp))
  |cons y a' =>simp at h;obtain⟨rfl,h⟩:=h;rw[ih a' b b' (λhm=>h1 (by simp[hm])) (λhm=>h2 (by simp[hm])) h]
theorem O2 {ops:Array Oper}{d:DInfo}(hb:DBase ops d):∀ (l:List Nat) (L:Array Bool),L.size=ops.size->VX ops L l->∀ pre j post,l=pre++j::post->∀ e∈d.ed.getD j [],L.getD e false=true\/e∈pre:=by
 intro l;induction l with
 |nil=>intro L _ _ pre j post h;simp at h
 |cons i l ih =>
  intro L hs h pre j post he e fZ;obtain⟨kz,h'⟩:=h;obtain⟨aQ,nM,o,ho,iq⟩:=Ti hs kz;have iv:i<L.size:=by rw[hs];exact aQ
  cases pre with
  |nil =>simp at he;obtain⟨rfl,_⟩:=he;rw[hb.ed _ o ho] at fZ;exact .inl (iq e fZ)
  |cons x pre =>
   simp at he;obtain⟨rfl,he⟩:=he;rcases ih _ (by simp[hs]) h' pre j post he e fZ with h1|h1
   .rw[U1 L i e iv] at h1;split at h1
    .rename_i cH;subst cH;exact .inr (by simp)
    .exact .inl h1
   .exact .inr (by simp[h1])
theorem E7 {d0 d:DInfo}{pm l:List Nat}(N:Nat) (hN:∀ i∈l,i<N) (iZ:pm.Nodup) (fX:l.Nodup) (aI:∀ i,i∈pm<->i∈l) (bV:∀ pre j post,l=pre++j::post->∀ e∈d0.ed.getD j [],e∈l->e∈pre)
  (iq:∀ p,p<pm.length->d.ed.getD p []=Z07 d0 pm p) (hf:pm.filter (λi=>d0.k i==2)=l.filter (λi=>d0.k i==2)) :
  ∀ (post pre:List Nat),l=pre++post->Q3e pm d pm.length (λq=>pre.contains (pm.getD q N)) post:=by
 intro post;induction post with
 |nil =>
  intro pre hl p hp;have hm:pm.getD p N∈pm:=by simp[z6,hp]
  have:=(aI _).1 hm;rw[hl,xy] at this;simpa using this
 |cons j post ih =>
  intro pre hl;have cj:j∈l:=by rw[hl];simp
  have fY:=(aI j).2 cj;have hp:pm.idxOf j<pm.length:=List.idxOf_lt_length_of_mem fY;have rQ:pm[pm.idxOf j]'hp=j:=List.getElem_idxOf hp;have hg:∀ z,pm.getD (pm.idxOf j) z=j:=λz=>by simp[z6,hp]
  have kA:j∉pre:=λhm=>by rw[hl] at fX;exact(List.nodup_append.1 fX).2.2 j hm j (by simp) rfl
  refine⟨pm.idxOf j,hp,hg 0,by simp only[hg];simpa using kA,λe he=>?_,?_⟩
  .rw[iq _ hp] at he;rcases zz.1 he with he|he
   .obtain⟨e0,lu,rfl⟩:=zo.1 he;rw[hg] at lu;obtain⟨j8,gC⟩:=zt.1 lu;have gC:e0∈pm:=by simpa using gC
    have tK:pm.idxOf e0<pm.length:=List.idxOf_lt_length_of_mem gC;have:pm.getD (pm.idxOf e0) N=e0:=by simp[z6,tK]
    simp only[this];have:=bV pre j post hl e0 j8 ((aI e0).1 gC);simpa using this
   .split at he
    .rename_i al;rw[hg] at al;obtain⟨hq,hk⟩:=zt.1 (List.mem_of_getLast? (Option.mem_toList.1 he));have cA:e<pm.idxOf j:=zA.1 hq;have hel:e<pm.length:=by omega
     have heq:pm.getD e N=pm[e]'hel:=by simp[z6,hel]
     have qp:pm.getD e 0=pm[e]'hel:=by simp[z6,hel]
     rw[qp] at hk;simp only[heq];have dp:pm=pm.take (pm.idxOf j)++j::pm.drop (pm.idxOf j+1):=by conv=>lhs;rw[<-xZ (pm.idxOf j) pm,xK hp,rQ]
     have qq:j∉pm.take (pm.idxOf j):=by intro hm;have hn:=iZ;rw[dp] at hn;exact(List.nodup_append.1 hn).2.2 j hm j (by simp) rfl
     have tL:(pm.take (pm.idxOf j)).filter (λi=>d0.k i==2)++j::(pm.drop (pm.idxOf j+1)).filter (λi=>d0.k i==2)=pre.filter (λi=>d0.k i==2)++j::post.filter (λi=>d0.k i==2):=by have h1:=hf;rw[dp,hl] at h1;simp only[List.filter_append,wb,al,zB] at h1;exact h1
     have:=Q75 _ _ _ _ (λhm=>qq (zt.1 hm).1) (λhm=>kA (zt.1 hm).1) tL;have aQ:pm[e]∈(pm.take (pm.idxOf j)).filter (λi=>d0.k i==2):=zt.2 ⟨List.mem_take_iff_getElem.2 ⟨e,by omega,rfl⟩,hk⟩;rw[this] at aQ;have:=(zt.1 aQ).1;simpa using this
    .cases he
  .have qs:(λq=>if q=pm.idxOf j then true else pre.contains (pm.getD q N))=λq=>(pre++[j]).contains (pm.getD q N):=by
    funext q
    by_cases hq:q=pm.idxOf j
    .subst hq;simp only[zB,hg];simp
    .rw[z0 hq];have aw:pm.getD q N≠j:=by
      intro he;rcases zk q pm.length with mK|mK
      .have h1:pm[q]=j:=by simpa [z6,mK] using he
       exact hq ((List.getElem_inj (h₀:=mK) (h₁:=hp) iZ).1 (h1.trans rQ.symm))
      .simp[z6,zr mK] at he;have:=hN j cj;omega
     rw[Bool.eq_iff_iff];simp only[List.contains_iff_mem,zz,zd,aw,or_false]
   rw[qs];exact ih (pre++[j]) (by rw[hl];simp)
theorem Q1j {ops:Array Oper}{vs:List VOper}(h:ops.toList.mapM (JA P ops)=some vs) (ai:(KY ops.toList vs).okB=true):DBase ops (KY ops.toList vs):=by
 have hlen:vs.length=ops.size:=by have:=(WU _ _ _ h).1;simpa using this
 have ki:(KY ops.toList vs).ks.length=ops.size:=by simp[KY,hlen]
 have cW:=ai;unfold DInfo.okB at cW;rw[z4,zn] at cW;obtain⟨tM,lj⟩:=cW;have h0:∀ j,j<ops.size->(KY ops.toList vs).okE j=true/\(KY ops.toList vs).an.getD j 0<2 ^ j/\((List.range j).all λi=>!((KY ops.toList vs).lt i j)||((KY ops.toList vs).ed.getD j []).any (λe=>e==i||decide (i<e)&&(KY ops.toList vs).lt i e))=true:=λj hj=>by have:=z8.1 lj j (zA.2 (by rw[ki];exact hj));rw[z4,z4,zn] at this;exact this
 have nN:∀ j,j<ops.size->∀ e∈(KY ops.toList vs).ed.getD j [],e<j:=λj hj e he=>by have:=z8.1 (h0 j hj).1 e he;simpa using this
 refine⟨λj o ho=>by simp[KY,z6,ho],nN,λj hj i hi af=>?_,λi j af=>?_,ki⟩
 .have:=z8.1 (h0 j hj).2.2 i (zA.2 hi);simp only[af,xY,Bool.false_or,xF,zx,z4,zn,zK] at this;exact this
 .rcases zk i j with h|h
  .exact h
  .exfalso;unfold DInfo.lt at af;rcases zk j ops.size with hj|hj
   .have h1:=(h0 j hj).2.1;have h2:(KY ops.toList vs).an.getD j 0<2 ^ i:=x7 h1 (Nat.pow_le_pow_right (by omega) h);rw[Nat.testBit_lt_two_pow h2] at af;cases af
   .have:(KY ops.toList vs).an.getD j 0=0:=by
     rw[z6,zr (by rw[tM,ki];exact hj)];rfl
    rw[this,Nat.zero_testBit] at af;cases af
theorem Iw {t:Nat}:∀ (l:List Nat),l.Pairwise (λj i=>¬ (i<t/\t<=j))->l=l.filter (λi=>decide (i<t))++l.filter (λi=>decide (t<=i))
 |[],_=>rfl
 |x::l,h=>by
  obtain⟨h1,h2⟩:=xM.1 h;have ih:=Iw l h2;by_cases hx:x<t
  .have mZ:¬ t<=x:=by omega
   simp only[wb,hx,decide_true,zB,mZ,decide_false,zV,zy,if_false];rw[<-ih]
  .have mZ:t<=x:=by omega
   have iu:l.filter (λi=>decide (i<t))=[]:=List.filter_eq_nil_iff.2 λi hi=>by have:=h1 i hi;simp;omega
   have ae:l.filter (λi=>decide (t<=i))=l:=List.filter_eq_self.2 λi hi=>by have:=h1 i hi;simp;omega
   simp only[wb,hx,decide_false,mZ,decide_true,zB,iu,ae];simp
theorem TG (hS:OkSpecs P S) {ro:Option Nat}{n:Nat}{ops:Array Oper}{vs:List VOper}(cC:ops.toList.mapM (JA P ops)=some vs) {d0:DInfo}(_hb:DBase ops d0) {l l2 idx pm:List Nat}(fX:l.Nodup) (af:∀ i∈l,i<ops.size) (qt:∀ i,i∈l<->i∈idx)
  (bV:∀ pre j post,l=pre++j::post->∀ e∈d0.ed.getD j [],e∈l->e∈pre) (ij:Z6g d0 vs idx (l.filter λi=>d0.k i==2) pm=true)
  {env:Env}{M:Heap}{K:Env->Heap->Prop}{ρ:Plc}{w:World}{a:Act}(qu:ZT S ((Fu d0 vs pm).opers (UL vs pm) 0) env [M] M [] K) (hH:HRel ρ M w) (hL:LRel ρ M.n env a.tmps.toList) (dB:Mks B a.defers w)
  {Q:Exit->Act->World->Prop}(hQ:∀ a' w',PL B (List.length env) ρ M w K a' w'->wpOpsIn (FF ro) n P ops Q l2 a' w'):wpOpsIn (FF ro) n P ops Q (l++l2) a w:=by
 have pY:vs.length=ops.size:=by have:=(WU _ _ _ cC).1;simpa using this
 simp only[Z6g,z4,zn,z8,List.contains_iff_mem] at ij;obtain⟨m1,m2,m3,m4,m5⟩:=ij;have kB:∀ i,i∈pm<->i∈l:=λi=>by rw[qt i];exact⟨λhi=>m2 i hi,λhi=>m1 i hi⟩
 have i_:∀ i∈pm,i<vs.length:=λi hi=>by have:=af i ((kB i).1 hi);omega
 have hl:DLink P ops pm (Fu d0 vs pm) (UL vs pm):=DLink.of cC i_;have qv:(UL vs pm).length=pm.length:=by simp[UL]
 have ki:(Fu d0 vs pm).ks.length=(UL vs pm).length:=by simp[Fu]
 have hd:=DOk.of m5;rw[ki] at hd;have iq:∀ p,p<pm.length->(Fu d0 vs pm).ed.getD p []=Z07 d0 pm p:=λp hp=>by simp[Fu,z6,hp]
 have iw:=E7 (d:=Fu d0 vs pm) ops.size af m3 fX kB bV iq m4 l [] (by simp);have fH:∀ i v,(UL vs pm)[i]?=some v->(Fu d0 vs pm).k i=v.op.kind:=λi v hv=>(hl.comp i v hv).choose_spec.2.2;obtain⟨k,tr,hp,_,_,k2,k3⟩:=Z3o (Fu d0 vs pm) (UL vs pm) fH env K (UL vs pm) 0 (by omega) rfl [] (λ_=>undef) (λ_=>M) [] (λl hl=>by omega) (λl hl=>by omega) (by simpa [DInfo.rank,EL] using qu);have qw:hp 0=M:=k2 0 (by omega);have nO:(λq=>([]:List Nat).contains (pm.getD q ops.size))=λ_=>false:=by funext q;rfl
 rw[nO] at iw;refine OM (B:=B) (pm:=pm) hS hl hd hQ k3 l (λ_=>false) a w (by rw[qv];exact iw) ?_ (λ_ _ _=>rfl) (λj hj=>by cases hj) (ρ0:=ρ) (σ0:=M) (w0:=w)
 .refine⟨λj hj hA=>(by cases hA),0,ρ,λl aT hk=>by simp,by omega,by rw[qw];exact hH,?_,dB,by rw[qw];exact Ext.refl _ _ _⟩;have e:EL (UL vs pm) env tr (λ_=>false) (UL vs pm).length=env:=by
   have:∀ m,EL (UL vs pm) env tr (λ_=>false) m=env:=by
    intro m;induction m with
    |zero=>rfl
    |succ m ih=>simp only[EL,zy,if_false];exact ih
   exact this _
  rw[e,qw];exact hL
theorem LX (d:DInfo):∀ (lv:List VOper) (i:Nat),(∀ v∈lv,v.op.kind≠2)->∀ (env:Env) (M:Heap) (pend:List (Nat×(Heap->Prop))) (K:Env->Heap->Prop),Sq S lv env M K->ZT S (d.opers lv i) env [M] M pend K:=by
 intro lv;induction lv with
 |nil=>intro i _ env M pend K h;exact h
 |cons v rest ih =>
  intro i hk env M pend K h;have al:v.op.kind≠2:=hk v (by simp);have dS:∀ u∈rest,u.op.kind≠2:=λu hu=>hk u (by simp[hu]);simp only[Sq] at h;simp only[DInfo.opers,ZT];cases hw:Jy env v.guard with
  |none=>rw[hw] at h;exact h.elim
  |some b =>
   rw[hw] at h;obtain⟨ht,hf⟩:=h;refine⟨λe=>?_,λe=>?_⟩
   .have ht:=ht e;have fT:∃ p,Qa v.op (Q5 env) M=some p/\Sq S rest (XQ env v.dst p.1) p.2 K:=by
     have cE:∀ x:XOp,v.op=.ext x->(∀ y,x≠.nextMap y):=λx hx y hy=>by rw[hx,hy] at al;exact al rfl
     have:=ht;unfold vop at this;split at this
     .rename_i f bM heq;rw[heq] at al;exact absurd rfl al
     .rename_i f bM heq;rw[heq] at al;exact absurd rfl al
     .rename_i x heq;rw[heq] at al;exact absurd rfl al
     .cases dQ:Qa v.op (Q5 env) M with
      |none=>rw[dQ] at this;exact this.elim
      |some p=>rw[dQ] at this;exact⟨p,rfl,this⟩
    obtain⟨p,hp,hr⟩:=fT;have hq:p.2=M:=BC al (v:=p.1) (M':=p.2) hp;rw[hq] at hr;rw[z0 al];split
    .rw[hp];refine⟨λU hτ=>?_,ih (i+1) dS _ _ _ _ hr⟩;have:U=M:=by
      have:=List.mem_of_mem_drop hτ;simpa using this
     subst this;show Zo (Qa v.op (Q5 env) U) _;rw[hp];rfl
    .rw[hp];exact ih (i+1) dS _ _ _ _ hr
   .rw[z0 al];exact ih (i+1) dS _ _ _ _ (hf e)
theorem Q1c (hS:OkSpecs P S) {ro:Option Nat}{n:Nat}{ops:Array Oper}{vs:List VOper}(cC:ops.toList.mapM (JA P ops)=some vs) {d0:DInfo}(hb:DBase ops d0) (_hk0:∀ i v,vs[i]?=some v->d0.k i=v.op.kind) {s len:Nat}(hlen:0<len) (jr:s+len<=ops.size) {x:DSeg}(hx:Z9o d0 vs s len=some x)
  {l l2:List Nat}(fX:l.Nodup) (aI:∀ i,i∈l<->(s<=i/\i<s+len)) (bV:∀ pre j post,l=pre++j::post->∀ e∈d0.ed.getD j [],e∈l->e∈pre) (gV:l.Pairwise λj i=>d0.lt i j=false)
  {rest:List DSeg}{env:Env}{M:Heap}{K:Env->Heap->Prop}{ρ:Plc}{w:World}{a:Act}(h:GN S (x::rest) env M K) (hH:HRel ρ M w) (hL:LRel ρ M.n env a.tmps.toList) (dB:Mks B a.defers w)
  {Q:Exit->Act->World->Prop}(hQ:∀ a' w',PL B (List.length env) ρ M w (λenv M=>GN S rest env M K) a' w'->wpOpsIn (FF ro) n P ops Q l2 a' w'):wpOpsIn (FF ro) n P ops Q (l++l2) a w:=by
 have pY:vs.length=ops.size:=by have:=(WU _ _ _ cC).1;simpa using this
 unfold Z9o at hx;split at hx
 .rename_i h1;subst h1;obtain rfl:=osj hx;have hs:s<ops.size:=by omega
  have eR:l=[s]:=by
   have hm:∀ i,i∈l<->i=s:=λi=>by rw[aI i];omega
   have hp:l.Perm [s]:=(xG fX (by simp)).2 λi=>by rw[hm i];simp
   exact List.perm_singleton.1 hp
  subst eR;obtain⟨v,hv,hc⟩:=(WU _ _ _ cC).2 s ops[s] (by simp[hs]);have hg:vs.getD s default=v:=by simp[z6,hv]
  simp only[GN,hg] at h;simp only[Sq] at h;rw[List.singleton_append,wpOpsIn_cons];unfold wpOpIn;rw[xi hs];simp only;cases hw:Jy env v.guard with
  |none=>rw[hw] at h;exact h.elim
  |some b =>
   rw[hw] at h;obtain⟨ht,hf⟩:=h;obtain⟨dx,bD,bG⟩:=B_ hc hL hw;rw[dx];cases b with
   |false =>rw[z0 (by simp)];refine⟨λf _=>O_ _ _,hQ _ _ ⟨_,ρ,M,hf rfl,ZR _ _ _,hH,by rw[bD];exact KM hL X9 _,by rw[XP];exact dB,Ext.refl _ _ _⟩⟩
   |true =>rw[z3 rfl];refine Um hS bG hH hL (ht rfl) λc w' ⟨u,ρ',M',hK,eF,gu,hE⟩=>?_;exact hQ _ _ ⟨_,ρ',M',hK,ZR _ _ _,gu,by rw[bD];exact KM (hE.lrel hL) eF _,by rw[XP];exact dB.ext hH hE,hE⟩
 .rename_i fG;simp only at hx;split at hx
  .rename_i hP;obtain rfl:=osj hx;simp only[GN] at h;have nP:(l.filter λi=>d0.k i==2).Perm ((List.range' s len).filter λi=>d0.k i==2):=by
    refine (List.Perm.filter _ ?_);refine (xG fX List.nodup_range').2 λj=>?_;rw[aI j,List.mem_range'_1]
   have hs:=C3 d0.lt _ _ len nP (by
    refine x8 (List.length_filter_le _ _) (by simp)) (gV.filter _)
   have ij:=z8.1 hP _ (zo.2 ⟨_,hs,rfl⟩);have qu:=h _ (zo.2 ⟨_,zo.2 ⟨_,hs,rfl⟩,rfl⟩);exact TG hS cC hb fX (λi hi=>by have:=(aI i).1 hi;omega) (λi=>by rw[aI i,List.mem_range'_1]) bV ij qu hH hL dB (λa' w' hn=>by
    obtain⟨ah,ρ',M',⟨aS,M2,hD,hR⟩,n1,n2,n3,n4,n5⟩:=hn;obtain⟨ρ2,d1,d2,d3⟩:=hD ρ w ρ' w' a'.tmps.toList hH n5 n2 n3;exact hQ a' w' ⟨aS,ρ2,M2,hR,(d1.1.trans n3.1.symm).trans n1,d2,d1,n4,d3⟩)
  .cases hx
theorem Q12 (hS:OkSpecs P S) {ro:Option Nat}{n:Nat}{ops:Array Oper}{vs:List VOper}(cC:ops.toList.mapM (JA P ops)=some vs) {d0:DInfo}(hb:DBase ops d0) (iX:∀ i v,vs[i]?=some v->d0.k i=v.op.kind)
  {Q:Exit->Act->World->Prop}{K:Env->Heap->Prop}:∀ (f s:Nat) (aR:List DSeg),Q24 d0 vs f s=some aR->s<=ops.size->∀ (l:List Nat),l.Nodup->(∀ i,i∈l<->(s<=i/\i<ops.size)) ->
   (∀ pre j post,l=pre++j::post->∀ e∈d0.ed.getD j [],e∈l->e∈pre)->(l.Pairwise λj i=>d0.lt i j=false) ->
   ∀ (env:Env) (M:Heap) (ρ:Plc) (w:World) (a:Act),GN S aR env M K->HRel ρ M w->LRel ρ M.n env a.tmps.toList->Mks B a.defers w->(∀ a' w',PL B (List.length env) ρ M w K a' w'->Q .normal a' w') ->
   wpOpsIn (FF ro) n P ops Q l a w:=by
 intro f
 have fin:∀ (s:Nat) (aR:List DSeg),s=d0.ks.length->[]=aR->∀ (l:List Nat),(∀ i,i∈l<->(s<=i/\i<ops.size))->∀ (env:Env) (M:Heap) (ρ:Plc) (w:World) (a:Act),GN S aR env M K->HRel ρ M w->LRel ρ M.n env a.tmps.toList->Mks B a.defers w->(∀ a' w',PL B (List.length env) ρ M w K a' w'->Q .normal a' w') ->
   wpOpsIn (FF ro) n P ops Q l a w:=by
  intro s aR hs eU l aI env M ρ w a h hH hL dB hQ;subst eU;have:l=[]:=by
   cases l with
   |nil=>rfl
   |cons x l =>have:=(aI x).1 (by simp);rw[hs,hb.size] at this;omega
  subst this;exact hQ a w ⟨env,ρ,M,h,rfl,hH,hL,dB,Ext.refl _ _ _⟩
 induction f with
 |zero =>
  intro s aR eU hs l fX aI bV gV env M ρ w a h hH hL dB hQ;simp only[Q24] at eU;split at eU
  .rename_i he;exact fin s aR he (osj eU) l aI env M ρ w a h hH hL dB hQ
  .cases eU
 |succ f ih =>
  intro s aR eU hs l fX aI bV gV env M ρ w a h hH hL dB hQ;simp only[Q24] at eU;split at eU
  .rename_i he;exact fin s aR he (osj eU) l aI env M ρ w a h hH hL dB hQ
  .rename_i aw;split at eU
   .cases eU
   .rename_i t ht;have qx:=List.find?_some ht;have nQ:=List.mem_range'_1.1 (List.mem_of_find?_eq_some ht);rw[hb.size] at nQ;split at eU
    .rename_i x r hx hr;obtain rfl:=osj eU;have af:∀ i p,i<t->t<=p->p<ops.size->d0.lt i p=true:=λi p hi hp iZ=>by
      have h1:=z8.1 qx p (List.mem_range'_1.2 ⟨hp,by rw[hb.size];omega⟩);exact z8.1 h1 i (zA.2 hi)
     have qy:l.Pairwise (λj i=>¬ (i<t/\t<=j)):=by refine (List.pairwise_iff_forall_sublist.2 λ{j i} dT=>?_);rintro⟨h1,h2⟩;have hj:j∈l:=dT.subset (by simp);have h3:=(List.pairwise_iff_forall_sublist.1 gV) dT;rw[af i j h1 h2 ((aI j).1 hj).2] at h3;cases h3
     have dp:=Iw l qy;have mJ:∀ i,i∈l.filter (λi=>decide (i<t))<->(s<=i/\i<s+(t-s)):=λi=>by rw[zt,aI i,zn];omega
     have gU:∀ i,i∈l.filter (λi=>decide (t<=i))<->(t<=i/\i<ops.size):=λi=>by rw[zt,aI i,zn];omega
     rw[dp];refine Q1c hS cC hb iX (by omega) (by omega) hx (fX.filter _) mJ ?_ (gV.filter _) h hH hL dB ?_
     .intro pre j post he e fZ hel;refine bV pre j (post++l.filter (λi=>decide (t<=i))) ?_ e fZ (zt.1 hel).1;exact dp.trans (by rw[he,zY];rfl)
     .intro a' w' ⟨ah,ρ',M',k1,k0,k2,k3,k4,k5⟩;refine ih t r hr (by omega) _ (fX.filter _) gU ?_ (gV.filter _) ah M' ρ' w' a' k1 k2 k3 k4 ?_
      .intro pre j post he e fZ hel;have:=bV (l.filter (λi=>decide (i<t))++pre) j post (dp.trans (by rw[he,zY])) e fZ (zt.1 hel).1;rcases zz.1 this with h1|h1
       .have h2:=(zt.1 h1).2;have h3:=(zt.1 hel).2;simp at h2 h3;omega
       .exact h1
      .intro a2 w2 ⟨aS,ρ2,M2,m1,m0,m2,m3,m4,m5⟩;exact hQ a2 w2 ⟨aS,ρ2,M2,m1,m0.trans k0,m2,m3,m4,k5.trans m5⟩
    .cases eU
theorem Oy (hm:P.follows .mixedOrders=true) (hS:OkSpecs P S) {ro:Option Nat}{n:Nat}{id:Nat}{ops:Array Oper}{vs:List VOper}(cC:ops.toList.mapM (JA P ops)=some vs) {aR:List DSeg}(ai:Z1k (KY ops.toList vs) vs=some aR)
  {env:Env}{M:Heap}{K:Env->Heap->Prop}{ρ:Plc}{w:World}{a:Act}(h:GN S aR env M K) (hH:HRel ρ M w) (hL:LRel ρ M.n env a.tmps.toList) (dB:Mks B a.defers w)
  {Q:Exit->Act->World->Prop}(hQ:∀ a' w',PL B (List.length env) ρ M w K a' w'->Q .normal a' w'):(Code.region id ops true).wpIn (FF ro) n P Q a w:=by
 unfold Z1k at ai;split at ai
 .rename_i hB;have hb:=Q1j cC hB;have fH:∀ i v,vs[i]?=some v->(KY ops.toList vs).k i=v.op.kind:=λi v hv=>by
   simp[DInfo.k,KY,z6,hv]
  generalize qf:KY ops.toList vs=d0 at *
  refine wpIn_region_draw λt=>?_;simp only[Region.schedule,hm,Bool.true_or,zB];have f_:∀ (j:Nat) (o:Oper),ops[j]?=some o->∀ e∈Pk o,e<j:=λj o ho e he=>hb.edge j (xH.1 ho).1 e (by rw[hb.ed j o ho];exact he);have ae:∀ i,(Array.replicate ops.size false).getD i false=false:=λi=>by rw[Array.getD_eq_getD_getElem?,Array.getElem?_replicate];split<;>rfl
  have gJ:=Q87 f_ ops.size t (Array.replicate ops.size false) (by simp) (by
   have:∀ m,cnt (λi=>(Array.replicate ops.size false).getD i false) m<=m:=by
    intro m;induction m with
    |zero=>exact z7 _
    |succ m ih=>simp only[cnt];split<;>omega
   exact this _)
  change wpOpsIn _ _ _ _ _ (Region.linearise.go .any ops ops.size t (Array.replicate ops.size false) []) _ _;generalize Region.linearise.go .any ops ops.size t (Array.replicate ops.size false) []=l at *
  obtain⟨eM,aI⟩:=Ih l _ (by simp) gJ;have gV:=Z3m hb l _ (by simp) (λj _ hA=>by rw[ae] at hA;cases hA) gJ;have bV:=O2 hb l _ (by simp) gJ;refine Q12 hS cC hb fH _ 0 aR ai (by omega) l eM (λi=>by rw[aI i,ae];simp) (λpre j post he e fZ _=>?_) gV env M ρ _ a h hH.drew hL (dB.ext hH (Ext.drew _ _ _)) (λa' w' hn=>?_)
  .rcases bV pre j post he e fZ with h1|h1
   .rw[ae] at h1;cases h1
   .exact h1
  .obtain⟨ah,ρ',M',n0,n1,n2,n3,n4,n5⟩:=hn;exact hQ a' w' ⟨ah,ρ',M',n0,n1,n2,n3,n4,(Ext.drew _ _ _).trans n5⟩
 .cases ai
theorem AB (hm:P.follows .mixedOrders=true) (hS:OkSpecs P S) {ro:Option Nat}{n:Nat}{id:Nat}{ops:Array Oper}{vs:List VOper}(cC:ops.toList.mapM (JA P ops)=some vs) (ai:DJ (KY ops.toList vs) vs=true)
  {env:Env}{M:Heap}{K:Env->Heap->Prop}{ρ:Plc}{w:World}{a:Act}(h:Sq S vs env M K) (hH:HRel ρ M w) (hL:LRel ρ M.n env a.tmps.toList) (dB:Mks B a.defers w)
  {Q:Exit->Act->World->Prop}(hQ:∀ a' w',PL B (List.length env) ρ M w K a' w'->Q .normal a' w'):(Code.region id ops true).wpIn (FF ro) n P Q a w:=by
 simp only[DJ,z4] at ai;obtain⟨hB,lF,jV⟩:=ai;have hb:=Q1j cC hB;have pY:vs.length=ops.size:=by have:=(WU _ _ _ cC).1;simpa using this
 have al:∀ v∈vs,v.op.kind≠2:=λv hv=>by have:=z8.1 lF v hv;simpa using this
 have fH:∀ i v,vs[i]?=some v->(KY ops.toList vs).k i=v.op.kind:=λi v hv=>by simp[DInfo.k,KY,z6,hv]
 generalize qf:KY ops.toList vs=d0 at *
 refine wpIn_region_draw λt=>?_;simp only[Region.schedule,hm,Bool.true_or,zB];have f_:∀ (j:Nat) (o:Oper),ops[j]?=some o->∀ e∈Pk o,e<j:=λj o ho e he=>hb.edge j (xH.1 ho).1 e (by rw[hb.ed j o ho];exact he);have ae:∀ i,(Array.replicate ops.size false).getD i false=false:=λi=>by rw[Array.getD_eq_getD_getElem?,Array.getElem?_replicate];split<;>rfl
 have gJ:=Q87 f_ ops.size t (Array.replicate ops.size false) (by simp) (by
  have:∀ m,cnt (λi=>(Array.replicate ops.size false).getD i false) m<=m:=by
   intro m;induction m with
   |zero=>exact z7 _
   |succ m ih=>simp only[cnt];split<;>omega
  exact this _)
 change wpOpsIn _ _ _ _ _ (Region.linearise.go .any ops ops.size t (Array.replicate ops.size false) []) _ _;generalize Region.linearise.go .any ops ops.size t (Array.replicate ops.size false) []=l at *
 obtain⟨eM,aI⟩:=Ih l _ (by simp) gJ;have bV:=O2 hb l _ (by simp) gJ;have af:∀ i∈l,i<ops.size:=λi hi=>((aI i).1 hi).1;have iu:l.filter (λi=>d0.k i==2)=[]:=List.filter_eq_nil_iff.2 λi hi=>by have aQ:=af i hi;have rR:vs[i]?=some vs[i]:=z5 (by omega);rw[fH i _ rR];simpa using al _ (zG rR)
 have tN:UL vs (List.range' 0 d0.ks.length)=vs:=by
  apply zZ;intro i;unfold UL;rw[zU];rcases zk i vs.length with hi|hi
  .rw[List.getElem?_range' (by rw[hb.size];omega),z5 hi];simp[z6,hi]
  .rw[zr (by simp[hb.size];omega),zr hi];rfl
 have hd:=LX (S:=S) (Fu d0 vs (List.range' 0 d0.ks.length)) vs 0 al env M [] K h;rw[<-xy l];refine TG hS cC hb eM af (λi=>by rw[aI i,ae,List.mem_range'_1,hb.size];simp) (λpre j post he e fZ _=>?_) (idx:=List.range' 0 d0.ks.length) (pm:=List.range' 0 d0.ks.length) (by rw[iu];exact jV) (by rw[tN];exact hd) hH.drew hL (dB.ext hH (Ext.drew _ _ _)) (λa' w' hn=>?_)
 .rcases bV pre j post he e fZ with h1|h1
  .rw[ae] at h1;cases h1
  .exact h1
 .obtain⟨ah,ρ',M',n0,n1,n2,n3,n4,n5⟩:=hn;exact hQ a' w' ⟨ah,ρ',M',n0,n1,n2,n3,n4,(Ext.drew _ _ _).trans n5⟩
theorem AA (hS:OkSpecs P S) {id:Nat}{ops:Array Oper}{lv:List VOper}(bR:ops.toList.mapM (JA P ops)=some lv):Sound P S (.region id ops false) (.region lv):=by intro B cX ro n Q env M ρ w a h hH hL hd hR Q' hQ;simp only[vwp] at h;refine wpIn_region ?_;rw[List.range_eq_range',<-Array.length_toList,wpOpsIn_eq_wpListIn ops.toList 0 (by simp)];exact Q06 hS ops Q' ops.toList lv bR env M _ ρ w a h hH hL hd (λa' w' hn=>hQ .normal a' w' hn)
theorem cond_true {v:Value}{A B:Prop}(h:Q2g v A B):∃ t,v=.bool t/\(t=true->A)/\(t=false->B):=by
 unfold Q2g at h;split at h
 .exact⟨_,rfl,h⟩
 .exact h.elim
theorem OO {c:Code}{vc:VCode}(ih:Sound P S c vc):Sound P S (.loop c) (.loop vc):=by
 intro B cX ro n Q env M ρ w a h hH hL hd hR Q' hQ;simp only[vwp] at h;obtain⟨live,I,n0,h0,lG⟩:=h;refine wpIn_loop_ghost (λk a' w'=>PL B (List.length env) ρ M w (λah M'=>I k (PH live ah) M') a' w') n0 ⟨env,ρ,M,h0,rfl,hH,hL,hd,Ext.refl _ _ _⟩ ?_;rintro k a1 w1 ⟨br,ρ1,σ1,k1,k0,k2,k3,k4,k5⟩;have hlen:List.length (Wk live (PH live br) (List.replicate env.length poison))=List.length env:=by rw[LW];simp
 refine ih cX ro n _ _ σ1 ρ1 w1 a1 (lG k (PH live br) σ1 k1) k2 (Q14 live br _ _ k3 (Q03 _ (by rw[<-k3.1,k0]))) k4 (hR.ext k5) _ ?_;rintro e a2 w2 ⟨aS,ρ2,M2,m1,m0,m2,m3,m4,m5⟩;rw[hlen] at m0;cases e with
 |normal =>obtain⟨n',po,hI⟩:=m1;exact⟨n',po,aS,ρ2,M2,hI,m0,m2,m3,m4,k5.trans m5⟩
 |_=>exact hQ _ a2 w2 ⟨aS,ρ2,M2,m1,m0,m2,m3,m4,k5.trans m5⟩
theorem Hz (c:Code):Sound P S c .bad:=by intro B cX ro n Q env M ρ w a h;exact h.elim
theorem OW (hm:P.follows .mixedOrders=true) (hS:OkSpecs P S):∀ (c:Code) (vc:VCode),comp P c=some vc->Sound P S c vc:=by
 intro c;induction c with
 |skip =>intro vc hc;simp[comp] at hc;subst hc;intro B cX ro n Q env M ρ w a h hH hL hd hR Q' hQ;exact wpIn_skip (hQ _ _ _ ⟨env,ρ,M,h,rfl,hH,hL,hd,Ext.refl _ _ _⟩)
 |region id ops dr =>
  intro vc hc;cases dr with
  |false =>simp only[comp,zL,x3] at hc;obtain⟨lv,bR,hc⟩:=hc;simp at hc;subst hc;exact AA hS bR
  |true =>
   simp only[comp,zL,x3] at hc;obtain⟨lv,bR,hc⟩:=hc;split at hc
   .rename_i ai;simp at hc;subst hc;intro B cX ro n Q env M ρ w a h hH hL hd hR Q' hQ;exact AB hm hS bR ai h hH hL hd (λa' w' hn=>hQ .normal a' w' hn)
   split at hc
   .rename_i aR ai;simp at hc;subst hc;intro B cX ro n Q env M ρ w a h hH hL hd hR Q' hQ;exact Oy hm hS bR ai h hH hL hd (λa' w' hn=>hQ .normal a' w' hn)
   .simp at hc;subst hc;exact Hz _
 |seq x y jF nR =>
  intro vc hc;simp only[comp,zL,x3] at hc;obtain⟨vx,hx,vy,hy,hc⟩:=hc;simp at hc;subst hc;intro B cX ro n Q env M ρ w a h hH hL hd hR Q' hQ;simp only[vwp] at h;refine wpIn_seq (jF vx hx cX ro n _ env M ρ w a h hH hL hd hR _ ?_);rintro e a1 w1 ⟨br,ρ1,σ1,k1,k0,k2,k3,k4,k5⟩;cases e with
  |normal =>refine nR vy hy cX ro n _ br σ1 ρ1 w1 a1 k1 k2 k3 k4 (hR.ext k5) _ ?_;rintro e2 a2 w2 ⟨aS,ρ2,M2,m1,m0,m2,m3,m4,m5⟩;exact hQ e2 a2 w2 ⟨aS,ρ2,M2,m1,m0.trans k0,m2,m3,m4,k5.trans m5⟩
  |_=>exact hQ _ a1 w1 ⟨br,ρ1,σ1,k1,k0,k2,k3,k4,k5⟩
 |cond c x y jF nR =>
  intro vc hc;simp only[comp] at hc;split at hc
  .rename_i ai;simp only[zL,x3] at hc;obtain⟨vx,hx,vy,hy,hc⟩:=hc;simp at hc;subst hc;intro B cX ro n Q env M ρ w a h hH hL hd hR Q' hQ;simp only[vwp] at h;obtain⟨t,ht,h1,h2⟩:=cond_true h;have hv:=WZ hL ai;rw[ht] at hv;refine wpIn_cond_split hv.q1d (λe=>?_) (λe=>?_)
   .exact jF vx hx cX ro n Q env M ρ w a (h1 e) hH hL hd hR Q' hQ
   .exact nR vy hy cX ro n Q env M ρ w a (h2 e) hH hL hd hR Q' hQ
  .simp at hc;subst hc;exact Hz _
 |block id x jF =>
  intro vc hc;simp only[comp,zL,x3] at hc;obtain⟨vx,hx,hc⟩:=hc;simp at hc;subst hc;intro B cX ro n Q env M ρ w a h hH hL hd hR Q' hQ;simp only[vwp] at h;refine wpIn_block (jF vx hx cX ro n _ env M ρ w a h hH hL hd hR _ ?_);rintro e a1 w1 ⟨br,ρ1,σ1,k1,k0,k2,k3,k4,k5⟩;cases e with
  |exit g9 =>
   simp only[Oo] at k1;simp only[Exit.inBlock];split at k1
   .rename_i he;rw[z3 he];exact hQ _ a1 w1 ⟨br,ρ1,σ1,k1,k0,k2,k3,k4,k5⟩
   .rename_i he;rw[z0 he];exact hQ _ a1 w1 ⟨br,ρ1,σ1,k1,k0,k2,k3,k4,k5⟩
  |_=>exact hQ _ a1 w1 ⟨br,ρ1,σ1,k1,k0,k2,k3,k4,k5⟩
 |loop x jF =>intro vc hc;simp only[comp,zL,x3] at hc;obtain⟨vx,hx,hc⟩:=hc;simp at hc;subst hc;exact OO (jF vx hx)
 |rangeFunc g ps x y jF nR =>
  intro vc hc;simp only[comp] at hc;split at hc
  .rename_i ai;simp only[zL,x3] at hc;obtain⟨vx,hx,vy,hy,hc⟩:=hc;simp at hc;subst hc;exact Fz hS (jF vx hx) (nR vy hy) g ai ps
  .simp at hc;subst hc;exact Hz _
 |exit id =>intro vc hc;simp[comp] at hc;subst hc;intro B cX ro n Q env M ρ w a h hH hL hd hR Q' hQ;exact wpIn_exit (hQ _ _ _ ⟨env,ρ,M,h,rfl,hH,hL,hd,Ext.refl _ _ _⟩)
 |ret =>intro vc hc;simp[comp] at hc;subst hc;intro B cX ro n Q env M ρ w a h hH hL hd hR Q' hQ;exact wpIn_ret (hQ _ _ _ ⟨env,ρ,M,h,rfl,hH,hL,hd,Ext.refl _ _ _⟩)
 |_ =>intro vc hc;simp[comp] at hc;subst hc;exact Hz _
end
end Go.V
namespace Go.V
open Go
inductive Ren (n:Nat) (π:Nat->Nat):Value->Value->Prop
 |plain (v:Value) (h:Zc v=true):Ren n π v v
 |poison (c:Value):Ren n π poison c
 |glob (g o s:Nat):Ren n π (.pointer (some ⟨g,o,some s⟩)) (.pointer (some ⟨g,o,some s⟩))
 |ptr (i o:Nat) (hi:i<n):Ren n π (.pointer (some ⟨i,o,none⟩)) (.pointer (some ⟨π i,o,none⟩))
 |sl (i o len cap:Nat) (hi:i<n):Ren n π (.slice (some ⟨i,o,none⟩) len cap) (.slice (some ⟨π i,o,none⟩) len cap)
 |slx (i o len cap:Nat) (hi:i<n):Ren n π (.slice (some ⟨i,o,some 0⟩) len cap) (.slice (some ⟨π i,o,some 0⟩) len cap)
 |map (i:Nat) (hi:i<n):Ren n π (.map (some i)) (.map (some (π i)))
 |iface (t:TypeId) (v c:Value) (h:Ren n π v c):Ren n π (.iface t v) (.iface t c)
 |yield (i:Nat) (hi:i<n):Ren n π (.func (.yield i) #[] #[]) (.func (.yield (π i)) #[] #[])
 |func (fn:FuncId) (fs gs cs ds:Array Value) (hf:fs.size=gs.size) (hc:cs.size=ds.size)
   (h1:∀ i (h1:i<fs.size) (h2:i<gs.size),Ren n π fs[i] gs[i]) (h2:∀ i (h1:i<cs.size) (h2:i<ds.size),Ren n π cs[i] ds[i]):Ren n π (.func (.func fn) fs cs) (.func (.func fn) gs ds)
 |agg (cs ds:Array Value) (hc:cs.size=ds.size) (h:∀ i (h1:i<cs.size) (h2:i<ds.size),Ren n π cs[i] ds[i]):Ren n π (.agg cs) (.agg ds)
 |tuple (cs ds:Array Value) (hc:cs.size=ds.size) (h:∀ i (h1:i<cs.size) (h2:i<ds.size),Ren n π cs[i] ds[i]):Ren n π (.tuple cs) (.tuple ds)
def LRen (n:Nat) (π:Nat->Nat) (vs cs:List Value):Prop:=vs.length=cs.length/\∀ (i:Nat) (v c:Value),vs[i]?=some v->cs[i]?=some c->Ren n π v c
theorem Ren.rel {ρ:Plc}{nf n':Nat}{π:Nat->Nat}{v' v:Value}(h:Ren n' π v' v):∀ {c:Value},VRel ρ nf v c->VRel (λi=>if i<n' then ρ (π i) else none) n' v' c:=by
 induction h with
 |plain v h =>intro c hv;have:c=v:=VS h hv;subst this;exact Ya h
 |poison c=>intro c _;exact .poison _
 |glob g o s=>intro c hv;cases hv;exact .glob _ _ _
 |ptr i o hi =>intro c hv;obtain⟨a,rfl,_,h⟩:=hv.q1g;exact .ptr _ _ _ hi λp hp=>h p (by simpa [hi] using hp)
 |sl i o len cap hi =>intro c hv;obtain⟨a,av,rfl,_,h⟩:=hv.q1b;exact .sl _ _ _ _ _ _ hi λp hp=>h p (by simpa [hi] using hp)
 |slx i o len cap hi =>
  intro c hv;cases hv with
  |slx _ _ _ _ a _ h=>exact .slx _ _ _ _ _ hi λp hp=>h p (by simpa [hi] using hp)
 |map i hi =>
  intro c hv;cases hv with
  |map _ r _ h=>exact .map _ _ hi λp hp=>h p (by simpa [hi] using hp)
 |yield i hi =>
  intro c hv;cases hv with
  |yield _ r _ h=>exact .yield _ _ hi λp hp=>h p (by simpa [hi] using hp)
 |iface t v c h ih =>
  intro c hv;cases hv with
  |iface _ _ _ h=>exact .iface _ _ _ (ih h)
 |func fn fs gs cs ds hf hc h1 h2 kW kX =>
  intro c hv;cases hv with
  |func _ _ vz _ ds' lH cM ja mL =>exact .func _ _ _ _ _ (hf.trans lH) (hc.trans cM) (λi k1 k2=>kW i k1 (by omega) (ja i (by omega) k2)) (λi k1 k2=>kX i k1 (by omega) (mL i (by omega) k2))
 |agg cs ds hc h ih =>
  intro c hv;cases hv with
  |agg _ ds' cM h'=>exact .agg _ _ (hc.trans cM) λi k1 k2=>ih i k1 (by omega) (h' i (by omega) k2)
 |tuple cs ds hc h ih =>
  intro c hv;cases hv with
  |tuple _ ds' cM h'=>exact .tuple _ _ (hc.trans cM) λi k1 k2=>ih i k1 (by omega) (h' i (by omega) k2)
theorem VRel.ren {ρ:Plc}{n n':Nat}{π:Nat->Nat}(hn:n<=n') (hπ:∀ i,i<n->π i=i) {v c:Value}(h:VRel ρ n v c):Ren n' π v v:=by
 induction h with
 |poison c=>exact .poison _
 |bool b=>exact .plain _ rfl
 |int k x=>exact .plain _ rfl
 |string s=>exact .plain _ rfl
 |nilPtr=>exact .plain _ rfl
 |nilSl=>exact .plain _ rfl
 |nilMap=>exact .plain _ rfl
 |nilFunc=>exact .plain _ rfl
 |nilIface=>exact .plain _ rfl
 |glob g o s=>exact .glob _ _ _
 |ptr i o a hi h=>have:=Ren.ptr (n:=n') (π:=π) i o (by omega);rwa [hπ i hi] at this
 |sl i o len cap a av hi h=>have:=Ren.sl (n:=n') (π:=π) i o len cap (by omega);rwa [hπ i hi] at this
 |slx i o len cap a hi h=>have:=Ren.slx (n:=n') (π:=π) i o len cap (by omega);rwa [hπ i hi] at this
 |map i r hi h=>have:=Ren.map (n:=n') (π:=π) i (by omega);rwa [hπ i hi] at this
 |yield i r hi h=>have:=Ren.yield (n:=n') (π:=π) i (by omega);rwa [hπ i hi] at this
 |iface t v c _ ih=>exact .iface _ _ _ ih
 |func fn fs gs cs ds hf hc _ _ kW kX=>exact .func _ _ _ _ _ rfl rfl (λi k1 _=>kW i k1 (by omega)) (λi k1 _=>kX i k1 (by omega))
 |agg cs ds hc _ ih=>exact .agg _ _ rfl λi k1 _=>ih i k1 (by omega)
 |tuple cs ds hc _ ih=>exact .tuple _ _ rfl λi k1 _=>ih i k1 (by omega)
theorem LRen.rel {ρ:Plc}{nf n':Nat}{π:Nat->Nat}{cL vs:List Value}(h:LRen n' π cL vs) {cs:List Value}(hL:LRel ρ nf vs cs):LRel (λi=>if i<n' then ρ (π i) else none) n' cL cs:=by
 refine⟨h.1.trans hL.1,λi v c hv hc=>?_⟩;have af:i<vs.length:=by rw[<-h.1];exact(z9.1 hv).1
 exact(h.2 i v _ hv (z5 af)).rel (hL.2 i _ c (z5 af) hc)
theorem LRel.ren {ρ:Plc}{n n':Nat}{π:Nat->Nat}(hn:n<=n') (hπ:∀ i,i<n->π i=i) {vs cs:List Value}(h:LRel ρ n vs cs):LRen n' π vs vs :=
 ⟨rfl,λi v u hv hu=>by
  obtain rfl:v=u:=osj (hv.symm.trans hu);obtain⟨c,_,hc⟩:=h.get hv;exact hc.ren hn hπ⟩
def ORen (n:Nat) (π:Nat->Nat):VObj->VObj->Prop
 |.map es clock,.map fs lJ=>clock=lJ/\es.length=fs.length/\∀ (k:Nat) (a b:X1),es[k]?=some a->fs[k]?=some b->a.1=b.1/\a.2.2=b.2.2/\Ren n π a.2.1 b.2.1
 |.iter m since seen last,.iter m' lK nS nT=>m'=π m/\m<n/\since=lK/\seen=nS/\last=nT
 |.lp env r st pend,.lp ah r' mI bU=>LRen n π env ah/\r=r'/\st=mI/\pend=bU
 |_,_=>False
theorem ORen.rel {ρ:Plc}{nf n':Nat}{π:Nat->Nat}{o' o:VObj}(h:ORen n' π o' o) {O:Obj}(hO:ORel ρ nf o O):ORel (λi=>if i<n' then ρ (π i) else none) n' o' O:=by
 cases o'<;>cases o<;>try exact h.elim
 .obtain⟨rfl,hl,hk⟩:=h;obtain⟨entries,h1,h2,h3⟩:=hO;refine⟨entries,h1,by rw[hl];exact h2,λk a ha=>?_⟩;have a9:=(z9.1 ha).1;rw[hl] at a9;obtain⟨e,he,h4,h5,h6⟩:=h3 k _ (z5 a9);obtain⟨k1,k2,k3⟩:=hk k a _ ha (z5 a9);exact⟨e,he,h4.trans k1.symm,h5.trans k2.symm,k3.rel h6⟩
 .obtain⟨rfl,hm,rfl,rfl,rfl⟩:=h;obtain⟨rm,h1,h2⟩:=hO;exact⟨rm,h1,(Ren.map _ hm).rel h2⟩
 .obtain⟨hl,rfl,rfl,rfl⟩:=h;exact⟨hO.1,hl.rel hO.2⟩
theorem ORel.ren {ρ:Plc}{n n':Nat}{π:Nat->Nat}(hn:n<=n') (hπ:∀ i,i<n->π i=i) {o:VObj}{O:Obj}(h:ORel ρ n o O):ORen n' π o o:=by
 cases o with
 |map es clock =>obtain⟨entries,h1,h2,h3⟩:=h;refine⟨rfl,rfl,λk a b ha hb=>?_⟩;obtain rfl:a=b:=osj (ha.symm.trans hb);obtain⟨e,_,_,_,hv⟩:=h3 k a ha;exact⟨rfl,rfl,hv.ren hn hπ⟩
 |iter m since seen last =>
  obtain⟨rm,h1,h2⟩:=h;cases h2 with
  |map _ _ hi _=>exact⟨(hπ m hi).symm,by omega,rfl,rfl,rfl⟩
 |lp env r st pend=>exact⟨h.2.ren hn hπ,rfl,rfl,rfl⟩
def BRen (n:Nat) (π:Nat->Nat):Blk->Blk->Prop
 |.cells c esz wr tight,.cells d nU lq iz=>esz=nU/\wr=lq/\tight=iz/\LRen n π c d
 |.obj o wr,.obj o' lq=>wr=lq/\ORen n π o o'
 |_,_=>False
theorem BRen.wr {n:Nat}{π:Nat->Nat}{b c:Blk}(h:BRen n π b c):b.wr=c.wr:=by cases b<;>cases c<;>first|(exact h.elim)|exact h.2.1|exact h.1
theorem BRen.rel {ρ:Plc}{nf n':Nat}{π:Nat->Nat}{p:Pl}{w:World}{b' b:Blk}(h:BRen n' π b' b) (hB:BRel ρ nf p w b):BRel (λi=>if i<n' then ρ (π i) else none) n' p w b':=by
 cases b' with
 |cells c esz wr tight =>
  cases b with
  |cells d nU lq iz =>
   obtain⟨rfl,rfl,rfl,hl⟩:=h;obtain⟨h1,h2,h3,h4,h5,h6⟩:=hB;refine⟨h1,h2,by rw[hl.1];exact h3,h4,λk v hk=>?_,h6⟩;have a9:k<d.length:=by rw[<-hl.1];exact(z9.1 hk).1
   obtain⟨u,hu,hv⟩:=h5 k _ (z5 a9);exact⟨u,hu,(hl.2 k v _ hk (z5 a9)).rel hv⟩
  |obj _ _=>exact h.elim
 |obj o wr =>
  cases b with
  |cells _ _ _ _=>exact h.elim
  |obj o' lq =>obtain⟨rfl,ho⟩:=h;obtain⟨h0,O,h1,h2⟩:=hB;exact⟨h0,O,h1,ho.rel h2⟩
def VObj.plain:VObj->Bool
 |.map es _=>es.all λkv=>Zc kv.2.1
 |_=>false
def Blk.plain:Blk->Bool
 |.cells c _ _ _=>c.all Zc
 |.obj o _=>o.plain
theorem LRen.plain {n:Nat}{π:Nat->Nat}{c:List Value}(h:c.all Zc=true):LRen n π c c :=
 ⟨rfl,λi v u hv hu=>by
  obtain rfl:v=u:=osj (hv.symm.trans hu);exact .plain _ (z8.1 h v (zG hv))⟩
theorem BRen.plain {n:Nat}{π:Nat->Nat}{b:Blk}(h:b.plain=true):BRen n π b b:=by
 cases b with
 |cells c esz wr tight=>exact⟨rfl,rfl,rfl,LRen.plain h⟩
 |obj o wr =>
  cases o with
  |map es clock =>refine⟨rfl,rfl,rfl,λk a b ha hb=>?_⟩;obtain rfl:a=b:=osj (ha.symm.trans hb);exact⟨rfl,rfl,.plain _ (z8.1 h a (zG ha))⟩
  |_=>cases h
theorem BRel.ren {ρ:Plc}{n n':Nat}{π:Nat->Nat}(hn:n<=n') (hπ:∀ i,i<n->π i=i) {p:Pl}{w:World}{b:Blk}(h:BRel ρ n p w b):BRen n' π b b:=by
 cases b with
 |cells c esz wr tight =>refine⟨rfl,rfl,rfl,rfl,λi v u hv hu=>?_⟩;obtain rfl:v=u:=osj (hv.symm.trans hu);obtain⟨_,_,tO⟩:=h.2.2.2.2.1 i v hv;exact tO.ren hn hπ
 |obj o wr =>obtain⟨_,O,_,ho⟩:=h;exact⟨rfl,ho.ren hn hπ⟩
def DropTo (σ0:Heap) (v:Value) (σf:Heap) (v':Value) (M':Heap):Prop :=
 ∀ ρ0 w0 ρ w c,HRel ρ0 σ0 w0->Ext ρ0 σ0 w0 ρ σf w->HRel ρ σf w->VRel ρ σf.n v c->∃ ρ',VRel ρ' M'.n v' c/\HRel ρ' M' w/\Ext ρ0 σ0 w0 ρ' M' w
theorem DropTo.refl (σ0:Heap) (v:Value) (σf:Heap):DropTo σ0 v σf v σf:=λ_ _ ρ _ _ _ hE hH hv=>⟨ρ,hv,hH,hE⟩
theorem DropTo.rename {σ0 σf M':Heap}{v v':Value}(π:Nat->Nat) (h1:σ0.n<=M'.n)
  (h2:∀ i,i<σ0.n->π i=i/\M'.get i=σf.get i/\(σf.get i=σ0.get i\/∃ b,σf.get i=some b/\b.plain=true))
  (h3:∀ i,σ0.n<=i->i<M'.n->σ0.n<=π i/\∃ b' b,M'.get i=some b'/\σf.get (π i)=some b/\BRen M'.n π b' b)
  (h4:∀ i j,σ0.n<=i->i<M'.n->σ0.n<=j->j<M'.n->π i=π j->i=j) (h5:Ren M'.n π v' v):DropTo σ0 v σf v' M':=by
 intro ρ0 w0 ρ w c fU hE hH hv;have hπ:∀ i,i<σ0.n->π i=i:=λi hi=>(h2 i hi).1;have aF:∀ i b',M'.get i=some b'->∃ b,σf.get (π i)=some b/\BRen M'.n π b' b:=λi b' hb=>by
  have hi:=M'.lt hb;rcases zk i σ0.n with af|bB
  .obtain⟨k1,k2,k3⟩:=h2 i af;rw[k1];rw[k2] at hb;refine⟨b',hb,?_⟩;rcases k3 with k3|⟨b,k3,k4⟩
   .rw[k3] at hb;obtain⟨p,_,hB⟩:=fU.live i b' hb;exact hB.ren h1 hπ
   .rw[k3] at hb;obtain rfl:=osj hb;exact BRen.plain k4
  .obtain⟨_,b1,b,k1,k2,k3⟩:=h3 i bB hi;rw[k1] at hb;obtain rfl:=osj hb;exact⟨b,k2,k3⟩
 have eW:∀ i j,i<M'.n->j<M'.n->π i=π j->i=j:=λi j hi hj he=>by
  rcases zk i σ0.n with af|bB<;>rcases zk j σ0.n with bY|iA
  .rw[hπ i af,hπ j bY] at he;exact he
  .have:=(h3 j iA hj).1;rw[hπ i af] at he;omega
  .have:=(h3 i bB hi).1;rw[hπ j bY] at he;omega
  .exact h4 i j bB hi iA hj he
 have hX:Ext ρ0 σ0 w0 (λi=>if i<M'.n then ρ (π i) else none) M' w:=by
  refine⟨hE.os,hE.tape,hE.output,hE.size,hE.keep,?_,h1,λi hi p hp=>?_⟩
  .rintro B hB ⟨i,p,b,hp,hb,hw,rfl⟩;change (if i<M'.n then ρ (π i) else none)=some p at hp;split at hp
   .obtain⟨b0,bk,bt⟩:=aF i b hb;exact hE.wr _ hB ⟨π i,p,b0,hp,bk,by rw[<-bt.wr];exact hw,rfl⟩
   .cases hp
  .change (if i<M'.n then ρ (π i) else none)=some p at hp;split at hp
   .rw[hπ i hi] at hp;exact hE.pl i hi p hp
   .cases hp
 refine⟨λi=>if i<M'.n then ρ (π i) else none,h5.rel hv,fU.ext ⟨λi b' hb=>?_,λi hi=>?_,λi p hp=>?_,λi j p q b bQ hp hq hb hw hx=>?_⟩ hX,hX⟩
 .obtain⟨b,bk,bt⟩:=aF i b' hb;obtain⟨p,hp,hB⟩:=hH.live _ b bk;exact⟨p,by simp[M'.lt hb,hp],bt.rel hB⟩
 .show (if i<M'.n then ρ (π i) else none)=none;split
  .rename_i af;rcases zk i σ0.n with bY|bB
   .obtain⟨k1,k2,_⟩:=h2 i bY;rw[k1];exact hH.dead i (by rw[<-k2];exact hi)
   .obtain⟨_,b1,b,k1,_⟩:=h3 i bB af;rw[k1] at hi;cases hi
  .rfl
 .change (if i<M'.n then ρ (π i) else none)=some p at hp;split at hp
  .exact hH.lt _ p hp
  .cases hp
 .change (if i<M'.n then ρ (π i) else none)=some p at hp;change (if j<M'.n then ρ (π j) else none)=some q at hq;split at hp
  .rename_i hi;split at hq
   .rename_i hj;obtain⟨b0,bk,bt⟩:=aF i b hb;exact hH.sep (π i) (π j) p q b0 (λe=>bQ (eW i j hi hj e)) hp hq bk (by rw[<-bt.wr];exact hw) hx
   .cases hq
  .cases hp
def Agree (σ0 σf:Heap):Prop:=∀ i,i<σ0.n->σf.get i=σ0.get i
theorem Agree.refl (M:Heap):Agree M M:=λ_ _=>rfl
theorem Agree.push {σ0 M:Heap}(h:Agree σ0 M) (hn:σ0.n<=M.n) (b:Blk):Agree σ0 (M.push b):=λi hi=>(Heap.q0i M b (by omega)).trans (h i hi)
theorem Agree.trans {σ0 σ1 M2:Heap}(h:Agree σ0 σ1) (k:Agree σ1 M2) (hn:σ0.n<=σ1.n):Agree σ0 M2:=λi hi=>(k i (by omega)).trans (h i hi)
section
variable {P:Program}{S:VSpecs}
def UD (tmps:Array Value):ResultVar->Sem Value
 |.tmp t=>pure (tmps.getD t undef)
 |.cell a t=>do loadVar t (<-asAddr (tmps.getD a undef))
theorem L6 (fn:Func) (tmps:Array Value):results fn tmps=(do
  let vs <-fn.results.mapM (UD tmps)
  pure (if h:vs.size=1 then vs[0] else .tuple vs)):=by
 unfold results;congr 1
theorem CT {ρ:Plc}{M:Heap}{w:World}{env:Env}{tmps:Array Value}(hH:HRel ρ M w) (hL:LRel ρ M.n env tmps.toList) {r:ResultVar}{vr:VResult}
  (hc:Xc P r=some vr) {v:Value}(h:JW env M vr=some v):∃ c,VRel ρ M.n v c/\(UD tmps r).run P w=.ok c w:=by
 have aj:∀ t,VRel ρ M.n (env.getD t undef) (tmps.getD t undef):=λt=>WZ (a:=⟨tmps,[]⟩) hL (x:=.tmp t) rfl;cases r with
 |tmp t =>simp[Xc] at hc;subst hc;simp only[JW,x9] at h;subst h;exact⟨_,aj t,rfl⟩
 |cell a t =>
  simp only[Xc] at hc;split at hc
  .rename_i i d hi hu;simp at hc;subst hc;simp only[JW,zq] at h;obtain⟨p,hp,rfl⟩:=h;simp only[Qa,Q5] at hp;have ha:=aj a;split at hp
   .rename_i g o s h1;rw[h1] at ha;split at hp
    .rename_i c hb;split at hp
     .rename_i ae;split at hp
      .rename_i v0 hv;simp at hp;subst hp;obtain⟨u,cB,hr⟩:=AK hH hi hu hb ae hv ha;refine⟨u,cB,?_⟩;have:=hr w (Like.refl ρ w);have nV:tmps.getD a undef=.pointer (some ⟨g,o,none⟩):=by
        generalize tmps.getD a undef=c at ha;cases ha;rfl
       rw[nV] at this;simp only[Instr.loadAt,Instr.sureAddr,zw,x5,zi] at this;simp only[UD,nV,asAddr,zw,x5,zi];exact this
      .cases hp
     .cases hp
    .cases hp
   .rename_i i' o h1;rw[h1] at ha;split at hp
    .rename_i c esz wr tight hb;split at hp
     .rename_i v0 hv;simp at hp;subst hp;obtain⟨u,cB,hr⟩:=Om hH hi hu hb hv ha;refine⟨u,cB,?_⟩;have:=hr w (Like.refl ρ w);obtain⟨ad,nV,_⟩:=ha.q1g;rw[nV] at this;simp only[Instr.loadAt,Instr.sureAddr,zw,x5,zi] at this;simp only[UD,nV,asAddr,zw,x5,zi];exact this
     .cases hp
    .cases hp
   .cases hp
  .cases hc
theorem I5 {α:Type}{ρ:Plc}{n:Nat}(g:α->Sem Value) (w:World) (f:α->Option Value):∀ (l:List α) (vs:List Value),l.mapM f=some vs ->
  (∀ a∈l,∀ v,f a=some v->∃ c,VRel ρ n v c/\(g a).run P w=.ok c w)->∃ cs,LRel ρ n vs cs/\(l.mapM g).run P w=.ok cs w:=by
 intro l;induction l with
 |nil=>intro vs h _;simp at h;subst h;exact⟨[],LRel.nil _ _,rfl⟩
 |cons a l ih =>
  intro vs h hg;rw[xl] at h;cases hf:f a with
  |none=>simp[hf] at h
  |some v =>
   cases hm:l.mapM f with
   |none=>simp[hf,hm] at h
   |some cL =>simp[hf,hm] at h;subst h;obtain⟨c,fE,gW⟩:=hg a (by simp) v hf;obtain⟨cs,qz,jG⟩:=ih cL hm (λb hb=>hg b (by simp[hb]));refine⟨c::cs,LRel.cons fE qz,?_⟩;rw[xl];simp[gW,jG]
theorem Sc {ρ:Plc}{M:Heap}{w:World}{env:Env}{tmps:Array Value}(hH:HRel ρ M w) (hL:LRel ρ M.n env tmps.toList) {fn:Func}{rs:List VResult}
  (hc:UZ P fn.results.toList=some rs) {v:Value}(h:Je env M rs=some v):∃ c,VRel ρ M.n v c/\(results fn tmps).run P w=.ok c w:=by
 unfold UZ at hc;have ae:∀ vs,rs.mapM (JW env M)=some vs->∃ cs,LRel ρ M.n vs cs/\(fn.results.mapM (UD tmps)).run P w=.ok cs.toArray w:=by
  intro vs cC;have nW:fn.results.toList.mapM (λr=>(Xc P r).bind (JW env M))=some vs:=by
   have:∀ (l:List ResultVar) (rs:List VResult) (vs:List Value),l.mapM (Xc P)=some rs->rs.mapM (JW env M)=some vs->l.mapM (λr=>(Xc P r).bind (JW env M))=some vs:=by
    intro l;induction l with
    |nil=>intro rs vs h1 h2;simp at h1;subst h1;simpa using h2
    |cons r l ih =>
     intro rs vs h1 h2;rw[xl] at h1;cases hg:Xc P r with
     |none=>simp[hg] at h1
     |some x =>
      cases hm:l.mapM (Xc P) with
      |none=>simp[hg,hm] at h1
      |some bn =>
       simp[hg,hm] at h1;subst h1;rw[xl] at h2;cases hx:JW env M x with
       |none=>simp[hx] at h2
       |some y =>
        cases gU:bn.mapM (JW env M) with
        |none=>simp[hx,gU] at h2
        |some cL =>simp[hx,gU] at h2;subst h2;rw[xl];simp[hg,hx,ih bn cL hm gU]
   exact this _ _ _ hc cC
  obtain⟨cs,k1,k2⟩:=I5 (P:=P) (ρ:=ρ) (n:=M.n) (UD tmps) w _ _ _ nW (λr _ v hv=>by
   cases hr:Xc P r with
   |none=>rw[hr] at hv;cases hv
   |some vr=>rw[hr] at hv;exact CT hH hL hr hv)
  refine⟨cs,k1,?_⟩;rw[Array.mapM_eq_mapM_toList];simp[k2]
 unfold Je at h;split at h
 .rename_i r;obtain⟨cs,k1,k2⟩:=ae [v] (by simp[h]);have cz:cs.length=1:=by rw[<-k1.1];rfl
  obtain⟨c,rfl⟩:=xj.1 cz;refine⟨c,k1.2 0 v c rfl rfl,?_⟩;rw[L6];simp only[zw];rw[k2];simp
 .rename_i aw;simp only[zq] at h;obtain⟨vs,cC,rfl⟩:=h;obtain⟨cs,k1,k2⟩:=ae vs cC;refine⟨.tuple cs.toArray,VRel.q0j k1,?_⟩;have hl:cs.length≠1:=by
   rw[<-k1.1,(WU _ _ _ cC).1];intro e;obtain⟨r,hr⟩:=xj.1 e;exact aw r hr
  rw[L6];simp only[zw];rw[k2];simp[hl]
theorem Ew {ρ:Plc}{n:Nat}(k:Nat):LRel ρ n (List.replicate k undef) (List.replicate k undef) :=
 ⟨rfl,λi v c hv hc=>by
  obtain rfl:v=c:=osj (hv.symm.trans hc);have:=zG hv;rw[List.mem_replicate] at this;rw[this.2];exact X9⟩
theorem PD {w:World}{D:Nat}{ds:List Deferred}(h:w.heap[D]?=some (.deferred (some ds))):(Instr.takeDeferred D).run P w=.ok ds (TX w D (.deferred none)):=by simp[Instr.takeDeferred,QH h (λ_ _ _ e=>by cases e),Z1 h (λ_ _ _ e=>by cases e)]
theorem Ext.mark {ρ0 ρ:Plc}{σ0 M:Heap}{w0 w:World}(hE:Ext ρ0 σ0 w0 ρ M w) {D:Nat}(hD:w0.heap.size<=D) (O:Obj):Ext ρ0 σ0 w0 ρ M (TX w D O) :=
 ⟨hE.os,hE.tape,hE.output,by rw[Hd];exact hE.size,λB hB hW=>(KP w D O B (by omega)).trans (hE.keep B hB hW),hE.wr,hE.n,hE.pl⟩
theorem HRel.mark {ρ:Plc}{M:Heap}{w:World}(hH:HRel ρ M w) {D:Nat}{d:Option (List Deferred)}(hD:w.heap[D]?=some (.deferred d)) (O:Obj):HRel ρ M (TX w D O) :=
 hH.world (by rw[Hd];exact z7 _) (λi p hp=>KP w D O p.blk (hH.q0l hD i p hp)) λg cs hg=>KP w D O g λe=>by obtain⟨⟨e',f,h1⟩,_⟩:=hH.tab g cs hg;rw[e,hD] at h1;cases h1
theorem Aw {fn:Func}{tmps:Array Value}{R:Ending->World->Prop}{ρ0:Plc}{σ0:Heap}{w0:World}{ρ:Plc}{M:Heap}
  (qA:∀ w,HRel ρ M w->Ext ρ0 σ0 w0 ρ M w->∃ v,(results fn tmps).run P w=.ok v w/\R (.returned v) w) :
  ∀ (Ds:List Nat) (w:World),Ds.Nodup->(∀ D∈Ds,w0.heap.size<=D/\w.heap[D]?=some (.deferred (some [])))->HRel ρ M w->Ext ρ0 σ0 w0 ρ M w ->
   LeavesInM Fence.wide 0 P fn tmps R (Ds.map λD=>⟨.collected D,#[]⟩) .returning w:=by
 intro Ds;induction Ds with
 |nil=>intro w _ _ hH hE;exact qA w hH hE
 |cons D Ds ih =>intro w eM ae hH hE;obtain⟨h1,h2⟩:=z_.1 eM;obtain⟨h3,h4⟩:=ae D (by simp);refine⟨by simp,.inl ⟨D,_,rfl,PD h4,ih _ h2 (λE bX=>?_) (hH.mark h4 _) (hE.mark h3 _)⟩⟩;obtain⟨k1,k2⟩:=ae E (by simp[bX]);exact⟨k1,by rw[KP _ _ _ _ (by rintro rfl;exact h1 bX)];exact k2⟩
theorem P7 (hm:P.follows .mixedOrders=true) (hS:OkSpecs P S) {f:FuncId}{fn:Func}{c:Code}{vc:VCode}{rs:List VResult}(hf:P.funcs[f]?=some fn) (hb:fn.body=some c) (hc:comp P c=some vc) (hr:UZ P fn.results.toList=some rs)
  {args:List Value}{M:Heap}{R:Value->Heap->Prop}(h:vwp S vc none (Z4x rs λv σf=>∃ v' M',DropTo M v σf v' M'/\R v' M') (args++List.replicate (fn.ntmps-args.length) undef) M):VCallsTo P f args M R:=by
 intro ρ w aA hH hL;refine callsIn_wide.1 (callsIn_of_wp_marks (n:=0) hf hb trivial (OW hm hS c vc hc (B:=w.heap.size) none none 0 _ _ M ρ w _ h hH ?_ (Mks.nil (z7 _)) (.inl ⟨rfl,rfl⟩) _ ?_) rfl)
 .have hl:args.length=aA.size:=by have:=hL.1;simpa using this
  have:=hL.append (Ew (ρ:=ρ) (n:=M.n) (fn.ntmps-args.length));simpa [hl] using this
 .intro e a' w' ⟨ah,ρ',M',k1,_,k2,k3,⟨_,Ds,k4,k6,k7⟩,k5⟩;have fin:(Zo (Je ah M' rs) λv=>∃ v' aE,DropTo M v M' v' aE/\R v' aE)->LeavesInM Fence.wide 0 P fn a'.tmps (λe w'=>∃ c,e=.returned c/\Got ρ M w R c w') a'.defers .returning w':=by
   intro hk;rw[k4];refine Aw (λw1 iT fF=>?_) Ds w' k6 k7 k2 k5;cases hv:Je ah M' rs with
   |none=>rw[hv] at hk;exact hk.elim
   |some v =>rw[hv] at hk;obtain⟨v',aE,hd,hR⟩:=hk;obtain⟨c,fE,gW⟩:=Sc iT k3 hr hv;obtain⟨eP,j1,j2,j3⟩:=hd ρ w ρ' w1 c hH fF iT fE;exact⟨c,gW,c,rfl,v',eP,aE,hR,j1,j2,j3⟩
  cases e with
  |normal=>exact fin k1
  |ret=>exact fin k1
  |_=>exact k1.elim
end
end Go.V
namespace Go.V
open Go
def Fun (P:Program) (f:FuncId) (vc:VCode) (rs:List VResult) (nt:Nat):Prop :=
 ∃ fn,P.funcs[f]?=some fn/\fn.body.bind (comp P)=some vc/\UZ P fn.results.toList=some rs/\fn.ntmps=nt/\(fn.name=="runtime.NumGoroutine")=false
def Z6p (M:Heap) (rs:List VResult) (R:Value->Heap->Prop):Exit->Env->Heap->Prop:=Z4x rs λv σf=>∃ v' M',DropTo M v σf v' M'/\R v' M'
section
variable {P:Program}{S:VSpecs}{f:FuncId}{vc:VCode}{rs:List VResult}{nt:Nat}
theorem Fun.calls (h:Fun P f vc rs nt) (hm:P.follows .mixedOrders=true) (hS:OkSpecs P S) {args:List Value}{M:Heap}{R:Value->Heap->Prop}
  (hw:vwp S vc none (Z6p M rs R) (args++List.replicate (nt-args.length) undef) M):VCalled P f args M R:=by
 obtain⟨fn,h1,h2,h3,h4,h5⟩:=h;cases hb:fn.body with
 |none=>rw[hb] at h2;cases h2
 |some c =>rw[hb] at h2;exact VCallsTo.called ⟨fn,h1,by rw[hb];rfl,h5⟩ (P7 hm hS h1 hb h2 h3 (by rw[h4];exact hw))
theorem Fun.enterable (h:Fun P f vc rs nt):W1 P f:=by
 obtain⟨fn,h1,h2,h3,h4,h5⟩:=h;refine⟨fn,h1,?_,h5⟩;cases hb:fn.body with
 |none=>rw[hb] at h2;cases h2
 |some c=>rfl
theorem Fun.callsTo (h:Fun P f vc rs nt) (hm:P.follows .mixedOrders=true) (hS:OkSpecs P S) {args:List Value}{M:Heap}{R:Value->Heap->Prop}
  (hw:vwp S vc none (Z6p M rs R) (args++List.replicate (nt-args.length) undef) M):VCallsTo P f args M R:=by
 obtain⟨fn,h1,h2,h3,h4,h5⟩:=h;cases hb:fn.body with
 |none=>rw[hb] at h2;cases h2
 |some c =>rw[hb] at h2;exact P7 hm hS h1 hb h2 h3 (by rw[h4];exact hw)
def Q4 (P:Program):VSpecs where
 fn f:=some λargs M K=>VCalled P f args M K
 yl i:=some λargs M K=>Rr P i args M K
 it f:=@ite _ (W1 P f) (Classical.propDecidable _) (some λi Y args M K=>U6 P i Y->VCallsTo P f args M K) none
theorem PQ:OkSpecs P (Q4 P) :=
  ⟨λf s h => by obtain rfl:=osj h; exactλargs M K h => h,
   λf s h => by obtain rfl:=osj h; exactλargs M K h => h,
   λf T h => by
    simp only [Q4] at h;split at h
    . rename_i he; obtain rfl:=osj h; exact ⟨he, λi Y hY args M K h => h hY⟩
    . cases h⟩
end
end Go.V
namespace Go.V
open Go
inductive EB where
 |cells (c:List Value) (esz:El) (wr tight:Bool)
 |map (es:List X1) (clock:Nat) (wr:Bool)
 |iter (m since:Nat) (seen:List Nat) (last:Nat)
 |lp (st:LoopState) (pend:Option Code)
inductive GT (α:Type) where
 |nil
 |node (v:α) (l r:GT α)
def GT.get {α:Type}(d:α) (t:GT α):Nat->α :=
 GT.rec (motive:=λ_=>Nat->α) (λ_=>d)
  (λv _ _ gl gr i=>Bool.rec (motive:=λ_=>α) (Bool.rec (motive:=λ_=>α) (gr (i / 2-1)) (gl (i / 2)) (Nat.beq (i % 2) 1)) v (Nat.beq i 0)) t
def GT.set {α:Type}(d:α) (f:Nat):GT α->Nat->α->GT α :=
 Nat.rec (motive:=λ_=>GT α->Nat->α->GT α) (λt _ _=>t)
  (λ_ ih t i b=>GT.rec (motive:=λ_=>GT α)
   (Bool.rec (motive:=λ_=>GT α) (Bool.rec (motive:=λ_=>GT α) (.node d .nil (ih .nil (i / 2-1) b)) (.node d (ih .nil (i / 2) b) .nil) (Nat.beq (i % 2) 1)) (.node b .nil .nil) (Nat.beq i 0))
   (λv l r _ _=>Bool.rec (motive:=λ_=>GT α) (Bool.rec (motive:=λ_=>GT α) (.node v l (ih r (i / 2-1) b)) (.node v (ih l (i / 2) b) r) (Nat.beq (i % 2) 1)) (.node b l r) (Nat.beq i 0)) t) f
theorem GT.q0y {α:Type}(d v:α) (l r:GT α) (k:Nat):(GT.node v l r).get d k=if k=0 then v else if k % 2=1 then l.get d (k / 2) else r.get d (k / 2-1):=by
 show (Bool.rec (motive:=λ_=>α) (Bool.rec (motive:=λ_=>α) (r.get d (k / 2-1)) (l.get d (k / 2)) (Nat.beq (k % 2) 1)) v (Nat.beq k 0))=_;by_cases h0:k=0
 .subst h0;rfl
 .have:Nat.beq k 0=false:=by
   cases h:Nat.beq k 0 with
   |false=>rfl
   |true=>exact absurd (zI h) h0
  rw[this,z0 h0];by_cases h1:k % 2=1
  .rw[z3 h1,h1];rfl
  .have:Nat.beq (k % 2) 1=false:=by
    cases h:Nat.beq (k % 2) 1 with
    |false=>rfl
    |true=>exact absurd (zI h) h1
   rw[this,z0 h1]
theorem GT.q2a {α:Type}(d v:α) (f:Nat) (l r:GT α) (i:Nat) (b:α):(GT.node v l r).set d (f+1) i b=if i=0 then .node b l r else if i % 2=1 then .node v (l.set d f (i / 2) b) r else .node v l (r.set d f (i / 2-1) b):=by
 show (Bool.rec (motive:=λ_=>GT α) (Bool.rec (motive:=λ_=>GT α) (.node v l (r.set d f (i / 2-1) b)) (.node v (l.set d f (i / 2) b) r) (Nat.beq (i % 2) 1)) (.node b l r) (Nat.beq i 0))=_;by_cases h0:i=0
 .subst h0;rfl
 .have:Nat.beq i 0=false:=by
   cases h:Nat.beq i 0 with
   |false=>rfl
   |true=>exact absurd (zI h) h0
  rw[this,z0 h0];by_cases h1:i % 2=1
  .rw[z3 h1,h1];rfl
  .have:Nat.beq (i % 2) 1=false:=by
    cases h:Nat.beq (i % 2) 1 with
    |false=>rfl
    |true=>exact absurd (zI h) h1
   rw[this,z0 h1]
theorem GT.set_nil {α:Type}(d:α) (f i:Nat) (b:α):(GT.nil:GT α).set d (f+1) i b=(GT.node d .nil .nil).set d (f+1) i b:=rfl
theorem GT.q1e {α:Type}(d:α):∀ (f:Nat) (t:GT α) (i:Nat) (b:α) (j:Nat),i+1<2 ^ f->(t.set d f i b).get d j=if j=i then b else t.get d j:=by
 intro f;induction f with
 |zero=>intro t i b j h;simp at h
 |succ f ih =>
  intro t i b j h;have hp:2 ^ (f+1)=2*2 ^ f:=by rw[Nat.pow_succ];omega
  have gw:∀ v l r,((GT.node v l r).set d (f+1) i b).get d j=if j=i then b else (GT.node v l r).get d j:=by
   intro v l r;rw[GT.q2a];by_cases hi:i=0
   .subst hi;rw[z3 rfl,GT.q0y,GT.q0y];split<;>rfl
   .rw[z0 hi];by_cases ho:i % 2=1
    .rw[z3 ho,GT.q0y,GT.q0y,ih _ _ _ _ (by omega)];by_cases fD:j=0
     .subst fD;rw[z3 rfl,z0 (Ne.symm hi),z3 rfl]
     .rw[z0 fD,z0 fD];by_cases iB:j % 2=1
      .rw[z3 iB,z3 iB];by_cases aM:j=i
       .subst aM;simp
       .rw[z0 aM,z0 (by omega)]
      .rw[z0 iB,z0 iB,z0 (by rintro rfl;exact iB ho)]
    .rw[z0 ho,GT.q0y,GT.q0y,ih _ _ _ _ (by omega)];by_cases fD:j=0
     .subst fD;rw[z3 rfl,z0 (Ne.symm hi),z3 rfl]
     .rw[z0 fD,z0 fD];by_cases iB:j % 2=1
      .rw[z3 iB,z3 iB,z0 (by rintro rfl;exact ho iB)]
      .rw[z0 iB,z0 iB];by_cases aM:j=i
       .subst aM;simp
       .rw[z0 aM,z0 (by omega)]
  cases t with
  |node v l r=>exact gw v l r
  |nil =>
   rw[GT.set_nil,gw d .nil .nil,GT.q0y];split
   .rfl
   .split
    .rfl
    .split<;>rfl
structure CH where
 t:GT (Option EB)
 n:Nat
def CH.get (h:CH) (i:Nat):Option EB:=Bool.rec (motive:=λ_=>Option EB) none (h.t.get none i) (Nat.blt i h.n)
def CH.upd (h:CH) (i:Nat) (b:EB):CH:=⟨h.t.set none 32 i (some b),h.n⟩
def CH.kill (h:CH) (i:Nat):CH:=⟨h.t.set none 32 i none,h.n⟩
def CH.push (h:CH) (b:EB):CH:=⟨h.t.set none 32 h.n (some b),h.n+1⟩
def CH.room (h:CH):Bool:=Nat.ble h.n 1000000000
def CH.empty:CH:=⟨.nil,0⟩
theorem CH.q0v {h:CH}{i:Nat}(hi:i<h.n):h.get i=h.t.get none i:=by unfold CH.get;rw[show Nat.blt i h.n=true from Nat.ble_eq_true_of_le hi]
theorem CH.q0r {h:CH}{i:Nat}(hi:h.n<=i):h.get i=none:=by
 unfold CH.get;cases hb:Nat.blt i h.n with
 |false=>rfl
 |true=>have:=zF hb;omega
theorem CH.q2e {h:CH}{i:Nat}{b:EB}(hi:i<h.n) (hs:h.n<=1000000001) (j:Nat):(h.upd i b).get j=if j=i then some b else h.get j:=by
 rcases zk j h.n with hj|hj
 .rw[CH.q0v (h:=h.upd i b) hj,CH.q0v hj];exact GT.q1e none 32 _ _ _ _ (by omega)
 .rw[CH.q0r (h:=h.upd i b) hj,CH.q0r hj,z0 (by omega)]
theorem CH.q2b {h:CH}{i:Nat}(hi:i<h.n) (hs:h.n<=1000000001) (j:Nat):(h.kill i).get j=if j=i then none else h.get j:=by
 rcases zk j h.n with hj|hj
 .rw[CH.q0v (h:=h.kill i) hj,CH.q0v hj];exact GT.q1e none 32 _ _ _ _ (by omega)
 .rw[CH.q0r (h:=h.kill i) hj,CH.q0r hj];simp
theorem CH.q1q {h:CH}{b:EB}(hs:h.n<=1000000001) (j:Nat):(h.push b).get j=if j=h.n then some b else h.get j:=by
 rcases zk j (h.n+1) with hj|hj
 .rw[CH.q0v (h:=h.push b) hj];show (h.t.set none 32 h.n (some b)).get none j=_;rw[GT.q1e none 32 _ _ _ _ (by omega)];split
  .rfl
  .rw[CH.q0v (by omega)]
 .rw[CH.q0r (h:=h.push b) hj,CH.q0r (by omega),z0 (by omega)]
def EB.to (q:Env×Loop):EB->Blk
 |.cells c e w t=>.cells c e w t
 |.map es cl w=>.obj (.map es cl) w
 |.iter m s sn l=>.obj (.iter m s sn l) true
 |.lp st pend=>.obj (.lp q.1 q.2 st pend) true
structure CSim (rs:Nat->Env×Loop) (h:CH) (M:Heap):Prop where
 n:h.n=M.n
 sm:h.n<=1000000001
 get:∀ i,M.get i=(h.get i).map (EB.to (rs i))
theorem CSim.cells {rs:Nat->Env×Loop}{h:CH}{M:Heap}(hs:CSim rs h M) {i:Nat}{c:List Value}{e:El}{w t:Bool}(hg:h.get i=some (.cells c e w t)):M.get i=some (.cells c e w t):=by rw[hs.get,hg];rfl
theorem CSim.map {rs:Nat->Env×Loop}{h:CH}{M:Heap}(hs:CSim rs h M) {i:Nat}{es:List X1}{cl:Nat}{w:Bool}(hg:h.get i=some (.map es cl w)):M.get i=some (.obj (.map es cl) w):=by rw[hs.get,hg];rfl
theorem CSim.iter {rs:Nat->Env×Loop}{h:CH}{M:Heap}(hs:CSim rs h M) {i m s:Nat}{sn:List Nat}{l:Nat}(hg:h.get i=some (.iter m s sn l)):M.get i=some (.obj (.iter m s sn l) true):=by rw[hs.get,hg];rfl
theorem CSim.lp {rs:Nat->Env×Loop}{h:CH}{M:Heap}(hs:CSim rs h M) {i:Nat}{st:LoopState}{pend:Option Code}(hg:h.get i=some (.lp st pend)):M.get i=some (.obj (.lp (rs i).1 (rs i).2 st pend) true):=by rw[hs.get,hg];rfl
theorem CSim.lt {rs:Nat->Env×Loop}{h:CH}{M:Heap}(hs:CSim rs h M) {i:Nat}{b:EB}(hg:h.get i=some b):i<h.n:=by
 have:M.get i=some (b.to (rs i)):=by rw[hs.get,hg];rfl
 rw[hs.n];exact M.lt this
theorem CSim.upd {rs:Nat->Env×Loop}{h:CH}{M:Heap}(hs:CSim rs h M) {i:Nat}(hi:i<h.n) {b:EB}{b':Blk}(hb:b.to (rs i)=b'):CSim rs (h.upd i b) (M.upd i b'):=by
 refine⟨hs.n,hs.sm,λj=>?_⟩;rw[CH.q2e hi hs.sm];show (if j=i/\i<M.n then some b' else M.get j)=_;by_cases hj:j=i
 .subst hj;rw[z3 ⟨rfl,by rw[<-hs.n];exact hi⟩,z3 rfl,<-hb];rfl
 .rw[z0 (λe=>hj e.1),z0 hj];exact hs.get j
theorem CSim.kill {rs:Nat->Env×Loop}{h:CH}{M:Heap}(hs:CSim rs h M) {i:Nat}(hi:i<h.n):CSim rs (h.kill i) (M.kill i):=by
 refine⟨hs.n,hs.sm,λj=>?_⟩;rw[CH.q2b hi hs.sm];show (if j=i then none else M.get j)=_;by_cases hj:j=i
 .rw[z3 hj,z3 hj];rfl
 .rw[z0 hj,z0 hj];exact hs.get j
theorem CSim.push {rs:Nat->Env×Loop}{h:CH}{M:Heap}(hs:CSim rs h M) (hr:h.room=true) {b:EB}{b':Blk}(hb:b.to (rs h.n)=b'):CSim rs (h.push b) (M.push b'):=by
 have hr:h.n<=1000000000:=zF hr;refine⟨by show h.n+1=M.n+1;rw[hs.n],by show h.n+1<=_;omega,λj=>?_⟩;rw[CH.q1q hs.sm];show (if j=M.n then some b' else M.get j)=_;rw[<-hs.n];by_cases hj:j=h.n
 .subst hj;rw[z3 rfl,z3 rfl,<-hb];rfl
 .rw[z0 hj,z0 hj];exact hs.get j
theorem CSim.rs {rs bn:Nat->Env×Loop}{h:CH}{M:Heap}(hs:CSim rs h M) (hr:∀ i,i<h.n->bn i=rs i):CSim bn h M :=
 ⟨hs.n,hs.sm,λi=>by
  rw[hs.get];cases hg:h.get i with
  |none=>rfl
  |some b=>rw[hr i (hs.lt hg)]⟩
def CH.sl (M:CH) (esz:Nat):Value->Option (List Value)
 |.slice none 0 0=>some []
 |.slice (some ⟨i,o,none⟩) n _ =>
  match M.get i with
  |some (.cells c e _ _)=>if e.sz=esz/\o+n*esz<=c.length then some ((c.drop o).take (n*esz)) else none
  |_=>none
 |_=>none
def CH.mapAt (M:CH) (m:Nat):Option (List X1×Nat×Bool):=match M.get m with
 |some (.map es clock wr)=>some (es,clock,wr)
 |_=>none
def M6 (M:CH) (b:EB) (v:Value):Option (Value×CH):=if M.room=true then some (v,M.push b) else none
def Cd (esz:El) (bytes:Nat) (M:CH) (s:Value) (m:Nat) (xs:List Value):Option (Value×CH) :=
 match s with
 |.slice none 0 0 =>
  if m=0 then some (s,M) else
  if m*bytes<=2 ^ 46 then M6 M (.cells xs esz true false) (.slice (some ⟨M.n,0,none⟩) m m) else none
 |.slice (some ⟨i,o,none⟩) n cap =>
  match M.get i with
  |some (.cells c e wr tight) =>
   if e=esz/\n<=cap/\o+n*esz.sz<=c.length then
    if m=0 then some (s,M) else
    if n+m<=cap then
     (if wr=true/\o+(n+m)*esz.sz<=c.length then some (.slice (some ⟨i,o,none⟩) (n+m) cap,M.upd i (.cells (KJ c (o+n*esz.sz) xs) e wr tight)) else none)
    else if (n+m)*bytes<=2 ^ 46 then
     (if tight then M6 M (.cells ((c.drop o).take (n*esz.sz)++xs) esz true false) (.slice (some ⟨M.n,0,none⟩) (n+m) (n+m))
     else if wr then M6 (M.kill i) (.cells ((c.drop o).take (n*esz.sz)++xs) esz true false) (.slice (some ⟨M.n,0,none⟩) (n+m) (n+m))
     else none)
    else none
   else none
  |_=>none
 |.slice (some ⟨i,o,some 0⟩) n cap =>
  match M.get i with
  |some (.cells c e _ _) =>
   if e=esz/\n=cap/\o+n*esz.sz<=c.length/\m≠0/\(n+m)*bytes<=2 ^ 46 then
    M6 M (.cells ((c.drop o).take (n*esz.sz)++xs) esz true false) (.slice (some ⟨M.n,0,none⟩) (n+m) (n+m))
   else none
  |_=>none
 |_=>none
def IC (size:Nat) (M:CH) (s:Value) (l h:Nat) (m:Option Nat):Option (Value×CH) :=
 match s with
 |.slice none 0 0=>if l=0/\h=0/\(m.getD 0)=0 then some (.slice none 0 0,M) else none
 |.slice (some ⟨i,o,none⟩) _ cap =>
  match M.get i with
  |some (.cells _ e _ t) =>
   match m with
   |none=>if e.sz=size/\l<=h/\h<=cap then some (.slice (some ⟨i,o+l*size,none⟩) (h-l) (cap-l),M) else none
   |some m =>
    if e.sz=size/\l<=h/\h<=m/\m<=cap then
     if m=l then M6 M (.cells [] e false true) (.slice (some ⟨M.n,0,none⟩) 0 0)
     else if t=false/\h=m then some (.slice (some ⟨i,o+l*size,some 0⟩) (h-l) (m-l),M)
     else some (.slice (some ⟨i,o+l*size,none⟩) (h-l) (m-l),M)
    else none
  |_=>none
 |_=>none
def Z24:Nat->Value->Value->CH->Option Bool
 |0,.pointer none,.pointer none,_=>some true
 |0,.pointer none,.pointer (some _),_=>some false
 |0,.pointer (some _),.pointer none,_=>some false
 |0,.pointer (some ⟨i,o,none⟩),.pointer (some ⟨j,q,none⟩),M=>if i=j/\o=q/\(M.get i).isSome=true then some true else none
 |1,.slice none _ _,.slice none _ _,_=>some true
 |1,.slice none _ _,.slice (some _) _ _,_=>some false
 |1,.slice (some _) _ _,.slice none _ _,_=>some false
 |2,.map none,.map none,_=>some true
 |2,.map none,.map (some _),_=>some false
 |2,.map (some _),.map none,_=>some false
 |3,.nilFunc,.nilFunc,_=>some true
 |3,.nilFunc,.func _ _ _,_=>some false
 |3,.func _ _ _,.nilFunc,_=>some false
 |_,_,_,_=>none
def Wx (o:XOp) (ev:Operand->Value) (M:CH):Option (Value×CH) :=
 match o with
 |.eqAgg neg s x y=>match ev x,ev y with
  |.agg a,.agg b=>if fits s a.toList=true/\fits s b.toList=true then some (.bool (if neg then !(Qv a.toList b.toList) else Qv a.toList b.toList),M) else none
  |_,_=>none
 |.eqNil kd neg x y=>match Z24 kd (ev x) (ev y) M with|some b=>some (.bool (if neg then !b else b),M)|none=>none
 |.makeMap=>M6 M (.map [] 0 true) (.map (some M.n))
 |.lookup mk z ok x i =>
  let k:=ev i
  if ZO mk k then
   match ev x with
   |.map none=>some (if ok then .tuple #[z,.bool false] else z,M)
   |.map (some m)=>match M.mapAt m with
    |some (es,_,_)=>if es.all (λe=>ZO mk e.1) then
      (match Qo k es with
      |some e=>some (if ok then .tuple #[e.2.1,.bool true] else e.2.1,M)
      |none=>some (if ok then .tuple #[z,.bool false] else z,M)) else none
    |none=>none
   |_=>none
  else none
 |.mapUpdate mk m k v=>match ev m with
  |.map (some i)=>match M.mapAt i with
   |some (es,clock,true)=>if ZO mk (ev k)&&es.all (λe=>ZO mk e.1) then some (undef,M.upd i (.map (QD (ev k) (ev v) clock es).1 (QD (ev k) (ev v) clock es).2 true)) else none
   |_=>none
  |_=>none
 |.delete mk m k=>match ev m with
  |.map (some i)=>match M.mapAt i with
   |some (es,clock,true)=>if ZO mk (ev k)&&es.all (λe=>ZO mk e.1) then some (.tuple #[],M.upd i (.map (VM (ev k) es) clock true)) else none
   |_=>none
  |_=>none
 |.lenMap x=>match ev x with
  |.map none=>some (.int .i64 0,M)
  |.map (some m)=>match M.mapAt m with
   |some (es,_,_)=>some (.int .i64 es.length,M)
   |none=>none
  |_=>none
 |.rangeMap x=>match ev x with
  |.map (some m)=>match M.mapAt m with
   |some (_,clock,_)=>M6 M (.iter m clock [] clock) (.pointer (some ⟨M.n,0,none⟩))
   |none=>none
  |_=>none
 |.entry x=>match ev x with
  |.pointer (some ⟨i,0,none⟩)=>match M.get i with
   |some (.iter m _ seen last)=>match M.mapAt m,seen.getLast? with
    |some (es,clock,_),some b=>if clock=last then (match es.find? (λe=>e.2.2==b) with|some e=>if Ua e.1 then some (.tuple #[e.1,e.2.1],M) else none|none=>none) else none
    |_,_=>none
   |_=>none
  |_=>none
 |.copy size d s=>match ev d,ev s with
  |.slice db dn _,.slice sb sn sc =>
   if min sn dn=0 then some (.int .i64 0,M) else
   match db,M.sl size (.slice sb (min sn dn) sc) with
   |some ⟨i,o,none⟩,some xs=>match M.get i with
    |some (.cells c e wr tight)=>if wr=true/\e.sz=size/\o+xs.length<=c.length/\xs.all cellOk=true then some (.int .i64 (min sn dn:Nat),M.upd i (.cells (KJ c o xs) e wr tight)) else none
    |_=>none
   |_,_=>none
  |_,_=>none
 |.clear z x=>match ev x with
  |.slice b n _ =>
   if n=0 then some (.tuple #[],M) else
   match b with
   |some ⟨i,o,none⟩=>match M.get i with
    |some (.cells c e wr tight)=>if wr=true/\o+n*z.length<=c.length/\z.all cellOk=true then some (.tuple #[],M.upd i (.cells (KJ c o (Ta n z)) e wr tight)) else none
    |_=>none
   |_=>none
  |_=>none
 |.toUnsafe x=>match ev x with
  |.pointer none=>some (.pointer none,M)
  |.pointer (some ⟨i,o,none⟩)=>match M.get i with
   |some (.cells c _ _ _)=>if o<c.length then some (.pointer (some ⟨i,o,none⟩),M) else none
   |_=>none
  |_=>none
 |.fromUnsafe u size x=>match ev x with
  |.pointer none=>some (.pointer none,M)
  |.pointer (some ⟨i,o,none⟩)=>match M.get i with
   |some (.cells c e true true)=>if o=0/\e.ty=u/\size<=c.length then some (.pointer (some ⟨i,o,none⟩),M) else none
   |_=>none
  |_=>none
 |.sliceData x=>match ev x with
  |.slice none _ _=>some (.pointer none,M)
  |.slice (some ⟨i,o,none⟩) _ cap=>if cap≠0/\(M.get i).isSome=true then some (.pointer (some ⟨i,o,none⟩),M) else none
  |_=>none
 |.unsafeStr e x n=>match ev x,ev n with
  |.pointer p,.int .i64 k =>
   if k=0 then some (.string ⟨#[]⟩,M) else
   match p with
   |some ⟨i,o,none⟩=>match M.get i with
    |some (.cells c el true tight) =>
     if 0<k/\k<=2 ^ 62/\el.ty=e/\o+k.toNat<=c.length then
      (match Pr ((c.drop o).take k.toNat) with
      |some s=>some (.string s,M.upd i (.cells c el false tight))
      |none=>none) else none
    |_=>none
   |_=>none
  |_,_=>none
 |.bytesStr x=>match ev x with
  |.slice a n c=>match M.sl 1 (.slice a n c) with
   |some xs=>match Pr xs with|some s=>some (.string s,M)|none=>none
   |none=>none
  |_=>none
 |.strBytes e x=>match ev x with
  |.string s=>if s.size<=2 ^ 62 then M6 M (.cells (s.data.toList.map λb=>.int .u8 b.toNat) ⟨1,e⟩ true false) (.slice (some ⟨M.n,0,none⟩) s.size s.size) else none
  |_=>none
 |_=>none
def Heap.empty:Heap:=⟨λ_=>none,0,λ_ _=>rfl⟩
def Q5b (o:VOp) (ev:Operand->Value) (M:CH):Option (Value×CH) :=
 match o with
 |.alloc t z=>M6 M (.cells z ⟨z.length,t⟩ true true) (.pointer (some ⟨M.n,0,none⟩))
 |.box t x=>match V9 (ev x) with
  |some vs=>M6 M (.cells vs ⟨vs.length,t⟩ true true) (.pointer (some ⟨M.n,0,none⟩))
  |none=>none
 |.buildSlice esz z len parts=>match Mq (Ta len z) (parts.map λp=>(p.1*esz.sz,esz.sz,ev p.2)) with
  |some cs=>M6 M (.cells cs esz true true) (.slice (some ⟨M.n,0,none⟩) len len)
  |none=>none
 |.load agg size a=>match ev a with
  |.pointer (some ⟨g,o,some _⟩)=>(match Q7c g with
   |some c=>if c.all Zc then (match Yc agg size c o with|some v=>some (v,M)|none=>none) else none
   |none=>none)
  |.pointer (some ⟨i,o,none⟩)=>match M.get i with
   |some (.cells c _ _ _)=>match Yc agg size c o with|some v=>some (v,M)|none=>none
   |_=>none
  |_=>none
 |.store size a v=>match ev a,V9 (ev v) with
  |.pointer (some ⟨i,o,none⟩),some vs=>match M.get i with
   |some (.cells c e wr tight)=>if wr=true/\vs.length=size/\o+size<=c.length/\vs.all cellOk=true then some (undef,M.upd i (.cells (KJ c o vs) e wr tight)) else none
   |_=>none
  |_,_=>none
 |.slice size x lo hi mx =>
  match ev x with
  |.slice a n cap =>
   match JU ev lo 0,JU ev hi n,mx with
   |some l,some h,none=>IC size M (.slice a n cap) l h none
   |some l,some h,some _=>match JU ev mx 0,hi with
    |some m,some _=>IC size M (.slice a n cap) l h (some m)
    |_,_=>none
   |_,_,_=>none
  |_=>none
 |.makeSlice esz bytes z l c =>
  match ev l,ev c with
  |.int _ a,.int _ b=>if 0<=a/\a<=b/\b*bytes<=2 ^ 46/\b<=2 ^ 46 then M6 M (.cells (Ta b.toNat z) esz true true) (.slice (some ⟨M.n,0,none⟩) a.toNat b.toNat) else none
  |_,_=>none
 |.append esz bytes s x =>
  match M.sl esz.sz (ev x),ev x with
  |some xs,.slice _ m _=>if xs.all cellOk then Cd esz bytes M (ev s) m xs else none
  |_,_=>none
 |.ext o=>Wx o ev M
 |o=>if o.kind=0 then (match Qa o ev Heap.empty with|some p=>some (p.1,M)|none=>none) else none
def ESnd (rs:Nat->Env×Loop) (h:CH) (_σ:Heap) (r:Option (Value×Heap)) (p:Value×CH):Prop:=h.n<=p.2.n/\∃ M',r=some (p.1,M')/\CSim rs p.2 M'
theorem ESnd.same {rs:Nat->Env×Loop}{h:CH}{M:Heap}(hs:CSim rs h M) {r:Option (Value×Heap)}{v:Value}(hr:r=some (v,M)):ESnd rs h M r (v,h):=⟨z7 _,M,hr,hs⟩
theorem ESnd.upd {rs:Nat->Env×Loop}{h:CH}{M:Heap}(hs:CSim rs h M) {r:Option (Value×Heap)}{v:Value}{i:Nat}{b:EB}{b0:EB}(hg:h.get i=some b0) {b':Blk}(hb:b.to (rs i)=b') (hr:r=some (v,M.upd i b')):ESnd rs h M r (v,h.upd i b):=by have hi:=hs.lt hg;have mM:=hs.sm;exact⟨z7 _,_,hr,hs.upd hi hb⟩
theorem ESnd.push {rs:Nat->Env×Loop}{h:CH}{M:Heap}(hs:CSim rs h M) {r:Option (Value×Heap)}{v:Value}{p:Value×CH}{b:EB}(hp:M6 h b v=some p) {b':Blk}(hb:b.to (rs h.n)=b') (hr:r=some (v,M.push b')):ESnd rs h M r p:=by
 unfold M6 at hp;split at hp
 .rename_i aY;obtain rfl:=osj hp;have mM:=hs.sm;exact⟨Nat.le_succ _,_,hr,hs.push aY hb⟩
 .cases hp
theorem CSim.sl {rs:Nat->Env×Loop}{h:CH}{M:Heap}(hs:CSim rs h M) {esz:Nat}{v:Value}{xs:List Value}(hx:h.sl esz v=some xs):M.sl esz v=some xs:=by
 unfold CH.sl at hx;unfold Heap.sl;split at hx
 .exact hx
 .rename_i i o n c;split at hx
  .rename_i cs e wr t hb;simp only[hs.cells hb];exact hx
  .cases hx
 .cases hx
theorem CSim.mapAt {rs:Nat->Env×Loop}{h:CH}{M:Heap}(hs:CSim rs h M) {m:Nat}{x:List X1×Nat×Bool}(hx:h.mapAt m=some x):M.mapAt m=some x/\h.get m=some (.map x.1 x.2.1 x.2.2):=by
 unfold CH.mapAt at hx;unfold Heap.mapAt;split at hx
 .rename_i es clock wr hb;obtain rfl:=osj hx;exact⟨by simp only[hs.map hb],hb⟩
 .cases hx
theorem FK {rs:Nat->Env×Loop}{h:CH}{M:Heap}(hs:CSim rs h M) {kd:Nat}{a b:Value}{r:Bool}(hx:Z24 kd a b h=some r):JD kd a b M=some r:=by
 unfold Z24 at hx;unfold JD
 split at hx<;>first
  |exact hx
  |(cases hx;done)
  |skip
 rename_i i o j q;split at hx
 .rename_i hc;obtain⟨h1,h2,h3⟩:=hc;have cM:i=j/\o=q/\(M.get i).isSome=true:=⟨h1,h2,by rw[hs.get];simpa using h3⟩;simp only[z3 cM];exact hx
 .cases hx
theorem Cb {rs:Nat->Env×Loop}{h:CH}{M:Heap}(hs:CSim rs h M) {esz:El}{bytes:Nat}{s:Value}{m:Nat}{xs:List Value}{p:Value×CH}(hx:Cd esz bytes h s m xs=some p):ESnd rs h M (Ke esz bytes M s m xs) p:=by
 unfold Cd at hx;unfold Ke;split at hx
 .split at hx
  .rename_i hm;simp only[z3 hm];obtain rfl:=osj hx;exact .same hs rfl
  .rename_i hm;simp only[z0 hm];split at hx
   .rename_i hb;simp only[z3 hb];rw[hs.n] at hx;exact .push hs hx rfl rfl
   .cases hx
 .rename_i i o n cap;split at hx
  .rename_i c e wr tight hg;have mM:=hs.sm;have hi:=hs.lt hg;simp only[hs.cells hg];split at hx
   .rename_i h1;simp only[z3 h1];split at hx
    .rename_i h2;simp only[z3 h2];obtain rfl:=osj hx;exact .same hs rfl
    .rename_i h2;simp only[z0 h2];split at hx
     .rename_i h3;simp only[z3 h3];split at hx
      .rename_i h4;simp only[z3 h4];obtain rfl:=osj hx;exact .upd hs hg rfl rfl
      .cases hx
     .rename_i h3;simp only[z0 h3];split at hx
      .rename_i h4;simp only[z3 h4];split at hx
       .rename_i h5;simp only[z3 h5];rw[hs.n] at hx;exact .push hs hx rfl rfl
       .rename_i h5;simp only[z0 h5];split at hx
        .rename_i h6;simp only[z3 h6];rw[hs.n] at hx;have hk:=hs.kill hi;obtain⟨k1,M',k2,k3⟩:=ESnd.push (r:=some (.slice (some ⟨M.n,0,none⟩) (n+m) (n+m),(M.kill i).push (.cells ((c.drop o).take (n*esz.sz)++xs) esz true false))) hk hx rfl rfl;exact⟨k1,M',k2,k3⟩
        .cases hx
      .cases hx
   .cases hx
  .cases hx
 .rename_i i o n cap;split at hx
  .rename_i c e wr tight hg;simp only[hs.cells hg];split at hx
   .rename_i h1;simp only[z3 h1];rw[hs.n] at hx;exact .push hs hx rfl rfl
   .cases hx
  .cases hx
 .cases hx
theorem P6 {rs:Nat->Env×Loop}{h:CH}{M:Heap}(hs:CSim rs h M) {size:Nat}{s:Value}{l k:Nat}{m:Option Nat}{p:Value×CH}(hx:IC size h s l k m=some p):ESnd rs h M (Kj size M s l k m) p:=by
 unfold IC at hx;unfold Kj;split at hx
 .split at hx
  .rename_i hm;simp only[z3 hm];obtain rfl:=osj hx;exact .same hs rfl
  .cases hx
 .rename_i i o n cap;split at hx
  .rename_i c e wr tight hg;simp only[hs.cells hg];split at hx
   .split at hx
    .rename_i h1;simp only[z3 h1];obtain rfl:=osj hx;exact .same hs rfl
    .cases hx
   .split at hx
    .rename_i h1;simp only[z3 h1];split at hx
     .rename_i h2;simp only[z3 h2];rw[hs.n] at hx;exact .push hs hx rfl rfl
     .rename_i h2;simp only[z0 h2];split at hx
      .rename_i h3;simp only[z3 h3];obtain rfl:=osj hx;exact .same hs rfl
      .rename_i h3;simp only[z0 h3];obtain rfl:=osj hx;exact .same hs rfl
    .cases hx
  .cases hx
 .cases hx
theorem Rm {rs:Nat->Env×Loop}{h:CH}{M:Heap}(hs:CSim rs h M) {o:XOp}{ev:Operand->Value}{p:Value×CH}(hx:Wx o ev h=some p):ESnd rs h M (ZL o ev M) p:=by
 cases o
 case eqAgg neg s x y =>
  simp only[Wx] at hx;simp only[ZL];split at hx
  .rename_i a b ha hb;split at hx
   .rename_i hc;rw[ha,hb];simp only;rw[z3 hc];obtain rfl:=osj hx;exact .same hs rfl
   .cases hx
  .cases hx
 case eqNil kd neg x y =>
  simp only[Wx] at hx;simp only[ZL];split at hx
  .rename_i b hb;rw[FK hs hb];obtain rfl:=osj hx;exact .same hs rfl
  .cases hx
 case makeMap =>
  simp only[Wx] at hx;simp only[ZL];rw[hs.n] at hx;exact .push hs hx rfl rfl
 case lookup mk z ok x i =>
  simp only[Wx] at hx;simp only[ZL];generalize ev x=q0 at hx |-;generalize ev i=q1 at hx |-;split at hx
  .rename_i hk;simp only[z3 hk];split at hx
   .obtain rfl:=osj hx;exact .same hs rfl
   .rename_i m hm;split at hx
    .rename_i es cl wr ft;obtain⟨k1,k2⟩:=hs.mapAt ft;simp only[k1];split at hx
     .rename_i ae;simp only[z3 ae];split at hx
      .rename_i e hf;simp only[hf];obtain rfl:=osj hx;exact .same hs rfl
      .rename_i hf;simp only[hf];obtain rfl:=osj hx;exact .same hs rfl
     .cases hx
    .cases hx
   .cases hx
  .cases hx
 case mapUpdate mk m k v =>
  simp only[Wx] at hx;simp only[ZL];generalize ev m=q0 at hx |-;split at hx
  .rename_i i hi;split at hx
   .rename_i es cl ft;obtain⟨k1,k2⟩:=hs.mapAt ft;simp only[k1];split at hx
    .rename_i hc;simp only[z3 hc];obtain rfl:=osj hx;exact .upd hs k2 rfl rfl
    .cases hx
   .cases hx
  .cases hx
 case delete mk m k =>
  simp only[Wx] at hx;simp only[ZL];generalize ev m=q0 at hx |-;split at hx
  .rename_i i hi;split at hx
   .rename_i es cl ft;obtain⟨k1,k2⟩:=hs.mapAt ft;simp only[k1];split at hx
    .rename_i hc;simp only[z3 hc];obtain rfl:=osj hx;exact .upd hs k2 rfl rfl
    .cases hx
   .cases hx
  .cases hx
 case mapEntry=>cases hx
 case entryStore=>cases hx
 case lenMap x =>
  simp only[Wx] at hx;simp only[ZL];generalize ev x=q0 at hx |-;split at hx
  .obtain rfl:=osj hx;exact .same hs rfl
  .split at hx
   .rename_i es cl wr ft;obtain⟨k1,k2⟩:=hs.mapAt ft;simp only[k1];obtain rfl:=osj hx;exact .same hs rfl
   .cases hx
  .cases hx
 case rangeMap x =>
  simp only[Wx] at hx;simp only[ZL];generalize ev x=q0 at hx |-;split at hx
  .split at hx
   .rename_i es cl wr ft;obtain⟨k1,k2⟩:=hs.mapAt ft;simp only[k1];rw[hs.n] at hx;exact .push hs hx rfl rfl
   .cases hx
  .cases hx
 case nextMap=>cases hx
 case entry x =>
  simp only[Wx] at hx;simp only[ZL];generalize ev x=q0 at hx |-;split at hx
  .split at hx
   .rename_i m since seen last hg;simp only[hs.iter hg];split at hx
    .rename_i es clock wr b ft cI;obtain⟨k1,_⟩:=hs.mapAt ft;simp only[k1,cI];split at hx
     .rename_i hc;rw[z3 hc];split at hx
      .rename_i e hf;split at hx
       .rename_i hp;rw[hf];simp only[hp,zB];obtain rfl:=osj hx;exact .same hs rfl
       .cases hx
      .cases hx
     .cases hx
    .cases hx
   .cases hx
  .cases hx
 case copy size d s =>
  simp only[Wx] at hx;simp only[ZL];generalize ev d=q0 at hx |-;generalize ev s=q1 at hx |-;split at hx
  .rename_i db dn dc sb sn sc h1 h2;split at hx
   .rename_i hm;simp only[z3 hm];obtain rfl:=osj hx;exact .same hs rfl
   .rename_i hm;simp only[z0 hm];split at hx
    .rename_i i o xs bz;simp only[hs.sl bz];split at hx
     .rename_i c e wr tight hg;simp only[hs.cells hg];split at hx
      .rename_i hc;simp only[z3 hc];obtain rfl:=osj hx;exact .upd hs hg rfl rfl
      .cases hx
     .cases hx
    .cases hx
  .cases hx
 case clear z x =>
  simp only[Wx] at hx;simp only[ZL];generalize ev x=q0 at hx |-;split at hx
  .rename_i b n cap;split at hx
   .rename_i hm;simp only[z3 hm];obtain rfl:=osj hx;exact .same hs rfl
   .rename_i hm;simp only[z0 hm];split at hx
    .rename_i i o;split at hx
     .rename_i c e wr tight hg;simp only[hs.cells hg];split at hx
      .rename_i hc;simp only[z3 hc];obtain rfl:=osj hx;exact .upd hs hg rfl rfl
      .cases hx
     .cases hx
    .cases hx
  .cases hx
 case toUnsafe x =>
  simp only[Wx] at hx;simp only[ZL];generalize ev x=q0 at hx |-;split at hx
  .obtain rfl:=osj hx;exact .same hs rfl
  .split at hx
   .rename_i c e wr tight hg;simp only[hs.cells hg];split at hx
    .rename_i hc;simp only[z3 hc];obtain rfl:=osj hx;exact .same hs rfl
    .cases hx
   .cases hx
  .cases hx
 case fromUnsafe u size x =>
  simp only[Wx] at hx;simp only[ZL];generalize ev x=q0 at hx |-;split at hx
  .obtain rfl:=osj hx;exact .same hs rfl
  .split at hx
   .rename_i c e hg;simp only[hs.cells hg];split at hx
    .rename_i hc;simp only[z3 hc];obtain rfl:=osj hx;exact .same hs rfl
    .cases hx
   .cases hx
  .cases hx
 case sliceData x =>
  simp only[Wx] at hx;simp only[ZL];generalize ev x=q0 at hx |-;split at hx
  .obtain rfl:=osj hx;exact .same hs rfl
  .rename_i i o n cap;split at hx
   .rename_i hc;simp only[z3 (show cap≠0/\(M.get i).isSome=true from ⟨hc.1,by rw[hs.get];simpa using hc.2⟩)];obtain rfl:=osj hx;exact .same hs rfl
   .cases hx
  .cases hx
 case unsafeStr e x n =>
  simp only[Wx] at hx;simp only[ZL];generalize ev x=q0 at hx |-;generalize ev n=q1 at hx |-;split at hx
  .rename_i q k h1 h2;split at hx
   .rename_i hk;simp only[z3 hk];obtain rfl:=osj hx;exact .same hs rfl
   .rename_i hk;simp only[z0 hk];split at hx
    .rename_i i o;split at hx
     .rename_i c el tight hg;simp only[hs.cells hg];split at hx
      .rename_i hc;simp only[z3 hc];split at hx
       .rename_i u hu;simp only[hu];obtain rfl:=osj hx;exact .upd hs hg rfl rfl
       .cases hx
      .cases hx
     .cases hx
    .cases hx
  .cases hx
 case bytesStr x =>
  simp only[Wx] at hx;simp only[ZL];generalize ev x=q0 at hx |-;split at hx
  .split at hx
   .rename_i xs bz;simp only[hs.sl bz];split at hx
    .rename_i u hu;simp only[hu];obtain rfl:=osj hx;exact .same hs rfl
    .cases hx
   .cases hx
  .cases hx
 case strBytes e x =>
  simp only[Wx] at hx;simp only[ZL];generalize ev x=q0 at hx |-;split at hx
  .split at hx
   .rename_i h1;simp only[z3 h1];rw[hs.n] at hx;exact .push hs hx rfl rfl
   .cases hx
  .cases hx
theorem Q3x {rs:Nat->Env×Loop}{h:CH}{M:Heap}(hs:CSim rs h M) {o:VOp}{ev:Operand->Value}{p:Value×CH}
  (hx:(if o.kind=0 then (match Qa o ev Heap.empty with|some p=>some (p.1,h)|none=>none) else none)=some p):ESnd rs h M (Qa o ev M) p:=by
 split at hx
 .rename_i hk;split at hx
  .rename_i q hq;obtain rfl:=osj hx;exact .same hs (TM hk (v:=q.1) (σ1:=q.2) hq)
  .cases hx
 .cases hx
theorem Yz {rs:Nat->Env×Loop}{h:CH}{M:Heap}(hs:CSim rs h M) {o:VOp}{ev:Operand->Value}{p:Value×CH}(hx:Q5b o ev h=some p):ESnd rs h M (Qa o ev M) p:=by
 cases o
 case alloc t z =>
  simp only[Q5b] at hx;simp only[Qa];rw[hs.n] at hx;exact .push hs hx rfl rfl
 case box t x =>
  simp only[Q5b] at hx;simp only[Qa];generalize V9 (ev x)=q0 at hx |-;split at hx
  .rw[hs.n] at hx;exact .push hs hx rfl rfl
  .cases hx
 case buildSlice esz z len parts =>
  simp only[Q5b] at hx;simp only[Qa];generalize Mq (Ta len z) (parts.map λp=>(p.1*esz.sz,esz.sz,ev p.2))=q0 at hx |-;split at hx
  .rw[hs.n] at hx;exact .push hs hx rfl rfl
  .cases hx
 case load agg size a =>
  simp only[Q5b] at hx;simp only[Qa];generalize ev a=q0 at hx |-;split at hx
  .split at hx
   .rename_i c hg;split at hx
    .rename_i ae;simp only[hg,z3 ae];split at hx
     .rename_i u hu;simp only[hu];obtain rfl:=osj hx;exact .same hs rfl
     .cases hx
    .cases hx
   .cases hx
  .split at hx
   .rename_i c e wr tight hg;simp only[hs.cells hg];split at hx
    .rename_i u hu;simp only[hu];obtain rfl:=osj hx;exact .same hs rfl
    .cases hx
   .cases hx
  .cases hx
 case store size a v =>
  simp only[Q5b] at hx;simp only[Qa];generalize V9 (ev v)=q0 at hx |-;generalize ev a=q1 at hx |-;split at hx
  .rename_i i o vs h1 h2;split at hx
   .rename_i c e wr tight hg;simp only[hs.cells hg];split at hx
    .rename_i hc;simp only[z3 hc];obtain rfl:=osj hx;exact .upd hs hg rfl rfl
    .cases hx
   .cases hx
  .cases hx
 case slice size x lo hi mx =>
  simp only[Q5b] at hx;simp only[Qa];generalize ev x=q0 at hx |-;split at hx
  .rename_i a n cap;dsimp only;generalize JU ev lo 0=q1 at hx |-;generalize JU ev hi n=q2 at hx |-;split at hx
   .exact P6 hs hx
   .rename_i l k m;dsimp only;generalize JU ev (some m) 0=q3 at hx |-;split at hx
    .exact P6 hs hx
    .cases hx
   .cases hx
  .cases hx
 case makeSlice esz bytes z l c =>
  simp only[Q5b] at hx;simp only[Qa];generalize ev l=q0 at hx |-;generalize ev c=q1 at hx |-;split at hx
  .split at hx
   .rename_i hc;simp only[z3 hc];rw[hs.n] at hx;exact .push hs hx rfl rfl
   .cases hx
  .cases hx
 case append esz bytes s x =>
  simp only[Q5b] at hx;simp only[Qa];generalize ev x=q0 at hx |-;split at hx
  .rename_i bz;simp only[hs.sl bz];split at hx
   .rename_i hc;simp only[z3 hc];exact Cb hs hx
   .cases hx
  .cases hx
 case ext o=>exact Rm hs hx
 all_goals exact Q3x hs hx
def OF (k:IntKind) (n:Int):Int:=match n with
 |.ofNat x=>match Nat.ble x 127 with
  |true=>.ofNat x
  |false=>k.wrap (.ofNat x)
 |.negSucc x=>k.wrap (.negSucc x)
theorem IL (k:IntKind) (n:Int):OF k n=k.wrap n:=by
 cases n with
 |negSucc x=>rfl
 |ofNat x =>
  simp only[OF];split
  .rename_i h;have hx:x<=127:=zF h;show (x:Int)=k.wrap (x:Int);cases k<;>simp[IntKind.wrap,IntKind.bits,IntKind.signed]<;>omega
  .rfl
def Z58 (c a b:Value):Option Value:=match c with|.bool t=>some (if t then a else b)|_=>none
def Q95 (op:BinOp) (x y:Value):Option Value:=match x,y with|.int k a,.int k' b=>if k=k' then some (.int k (match op with|.add=>OF k (a+b)|.sub=>OF k (a-b)|_=>OF k (a*b))) else none|_,_=>none
def J00 (op:BinOp) (x y:Value):Option Value:=match x,y with|.int k a,.int k' b=>if k=k'/\b≠0 then some (.int k (Z2i op k a b)) else none|_,_=>none
def Z61 (op:BinOp) (x y:Value):Option Value:=match x,y with|.int k a,.int k' b=>if k=k' then some (.int k (Qb op k a b)) else none|_,_=>none
def Q82 (op:BinOp) (x y:Value):Option Value:=match x,y with|.int k a,.int _ b=>if 0<=b then some (.int k (Ll op k a b)) else none|_,_=>none
def J0n (op:BinOp) (x y:Value):Option Value:=match x,y with|.int k a,.int k' b=>if k=k' then some (.bool (Z6j op a b)) else none|_,_=>none
def J0b (op:BinOp) (x y:Value):Option Value:=match x,y with
  |.string a,.string b=>match op with
   |.add=>if a.size+b.size<=2 ^ 62 then some (.string (a++b)) else none
   |.eql=>some (.bool (a.data.toList==b.data.toList))
   |.neq=>some (.bool (!(a.data.toList==b.data.toList)))
   |.lss=>some (.bool (Op.bytesLess a.data.toList b.data.toList))
   |_=>none
  |_,_=>none
def J0f (neg:Bool) (x y:Value):Option Value:=match x,y with|.bool a,.bool b=>some (.bool (if neg then !(a==b) else (a==b)))|_,_=>none
def pUn (op:UnOp) (x:Value):Option Value:=match op,x with
  |.not,.bool b=>some (.bool (!b))
  |.neg,.int k n=>some (.int k (k.wrap (0-n)))
  |.xor,.int k n=>some (.int k (Qb .xor k (if k.signed then -1 else k.max) n))
  |_,_=>none
def Q7p (k:IntKind) (x:Value):Option Value:=match x with|.int _ n=>some (.int k (OF k n))|_=>none
def Q7m (x:Value):Option Value:=match x with|.string s=>some (.string s)|_=>none
def Q80 (z:List Value) (l:List (Nat×Nat×Value)):Option Value:=match Mq z l with|some cs=>some (.agg cs.toArray)|none=>none
def Ln (off:Nat) (a:Value):Option Value:=match a with
  |.pointer (some ⟨i,o,none⟩)=>some (.pointer (some ⟨i,o+off,none⟩))
  |_=>none
def Q9e (agg:Bool) (off size:Nat) (x:Value):Option Value:=match x with
  |.agg cs=>Yc agg size cs.toList off
  |_=>none
def LA (size:Nat) (x i:Value):Option Value:=match x,i with
  |.slice (some ⟨b,o,none⟩) n _,.int _ k=>if 0<=k/\k<n then some (.pointer (some ⟨b,o+k.toNat*size,none⟩)) else none
  |_,_=>none
def Bp (len size:Nat) (x i:Value):Option Value:=match x,i with
  |.pointer (some ⟨g,o,some s⟩),.int _ k=>if 0<=k/\k<len then some (.pointer (some ⟨g,o+k.toNat*size,some s⟩)) else none
  |.pointer (some ⟨b,o,none⟩),.int _ k=>if 0<=k/\k<len then some (.pointer (some ⟨b,o+k.toNat*size,none⟩)) else none
  |_,_=>none
def E1 (x i:Value):Option Value:=match x,i with
  |.string s,.int _ k=>if 0<=k then (match s.data.toList[k.toNat]? with|some b=>some (.int .u8 b.toNat)|none=>none) else none
  |_,_=>none
def AD (len:Nat) (agg:Bool) (size:Nat) (x i:Value):Option Value:=match x,i with
  |.agg cs,.int _ k=>if 0<=k/\k<len then Yc agg size cs.toList (k.toNat*size) else none
  |_,_=>none
def Es (ev:Operand->Value) (x:Value) (lo hi:Option Operand):Option Value:=match x with
  |.string s =>
   match JU ev lo 0,JU ev hi s.size with
   |some l,some h=>if l<=h/\h<=s.size then some (.string (s.extract l h)) else none
   |_,_=>none
  |_=>none
def J02 (x:Value):Option Value:=match x with|.slice _ n _=>some (.int .i64 n)|_=>none
def Q2r (x:Value):Option Value:=match x with|.string s=>some (.int .i64 s.size)|_=>none
def Z5m (x y z w:Value):Option Value:=match x,y,z,w with|.int k a,.int k2 b,.int k3 c,.int k4 d=>if k=k2/\k=k3/\k=k4 then some (.int k (Q16 (Q16 (Q16 a b) c) d)) else none|_,_,_,_=>none
def J0r (x y:Value):Option Value:=match x,y with|.int k a,.int k' b=>if k=k' then some (.int k (if b > a then b else a)) else none|_,_=>none
def J0o (x y:Value):Option Value:=match x,y with|.int k a,.int k' b=>if k=k' then some (.int k (if b<a then b else a)) else none|_,_=>none
def Q92 (t:TypeId) (x:Value):Option Value:=match x with|.chan _=>none|v=>some (.iface t v)
def Iz (i:Nat) (x:Value):Option Value:=match x with
  |.tuple vs=>vs.toList[i]?
  |_=>none
def Az (x:Value):Option Value:=match x with
  |.pointer (some a)=>some (.pointer (some a))
  |.func (.func f) first cap=>some (.func (.func f) first cap)
  |_=>none
def ppp (r:Option Value) (M:CH):Option (Value×CH):=match r with|some v=>some (v,M)|none=>none
def J10 (t:Nat) (x:Value) (M:CH):Option (Value×CH):=match V9 x with
  |some vs=>M6 M (.cells vs ⟨vs.length,t⟩ true true) (.pointer (some ⟨M.n,0,none⟩))
  |none=>none
def I7 (esz:El) (z:List Value) (len:Nat) (l:List (Nat×Nat×Value)) (M:CH):Option (Value×CH):=match Mq (Ta len z) l with
  |some cs=>M6 M (.cells cs esz true true) (.slice (some ⟨M.n,0,none⟩) len len)
  |none=>none
def Z5v (agg:Bool) (size:Nat) (a:Value) (M:CH):Option (Value×CH):=match a with
  |.pointer (some ⟨g,o,some _⟩)=>(match Q7c g with
   |some c=>if c.all Zc then (match Yc agg size c o with|some v=>some (v,M)|none=>none) else none
   |none=>none)
  |.pointer (some ⟨i,o,none⟩)=>match M.get i with
   |some (.cells c _ _ _)=>match Yc agg size c o with|some v=>some (v,M)|none=>none
   |_=>none
  |_=>none
def stL (c:List Value) (o:Nat) (vs:List Value):List Value:=match vs with
 |[v]=>c.set o v
 |vs=>c.take o++(vs++c.drop (o+vs.length))
theorem Oh:∀ (vs a b c:List Value),vs.length=b.length->KJ (a++(b++c)) a.length vs=a++(vs++c)
 |[],a,b,c,h=>by have:b=[]:=List.eq_nil_of_length_eq_zero (by simpa using h.symm);subst this;rfl
 |v::vs,a,[],c,h=>by simp at h
 |v::vs,a,x::b,c,h=>by
  simp only[KJ];have e:(a++(x::b++c)).set a.length v=(a++[v])++(b++c):=by simp
  rw[e];have:=Oh vs (a++[v]) b c (by simpa using h);rw[zH,xe] at this;rw[this];simp
theorem Z4r {c:List Value}{o:Nat}{vs:List Value}(h:o+vs.length<=c.length):stL c o vs=KJ c o vs:=by
 unfold stL;split
 .rfl
 .have h1:c=c.take o++((c.drop o).take vs.length++c.drop (o+vs.length)):=by
   rw[<-List.drop_drop,xZ,xZ]
  have h2:(c.take o).length=o:=by simp;omega
  have:=Oh vs (c.take o) ((c.drop o).take vs.length) (c.drop (o+vs.length)) (by simp;omega);rw[h2,<-h1] at this;exact this.symm
def Q7x (size:Nat) (a v:Value) (M:CH):Option (Value×CH):=match a,V9 v with
  |.pointer (some ⟨i,o,none⟩),some vs=>match M.get i with
   |some (.cells c e wr tight)=>if wr=true/\vs.length=size/\o+size<=c.length/\vs.all cellOk=true then some (undef,M.upd i (.cells (stL c o vs) e wr tight)) else none
   |_=>none
  |_,_=>none
def Q0v (esz:El) (bytes:Nat) (z:List Value) (l c:Value) (M:CH):Option (Value×CH) :=
  match l,c with
  |.int _ a,.int _ b=>if 0<=a/\a<=b/\b*bytes<=2 ^ 46/\b<=2 ^ 46 then M6 M (.cells (Ta b.toNat z) esz true true) (.slice (some ⟨M.n,0,none⟩) a.toNat b.toNat) else none
  |_,_=>none
def J14 (esz:El) (bytes:Nat) (s x:Value) (M:CH):Option (Value×CH) :=
  match M.sl esz.sz x,x with
  |some xs,.slice _ m _=>if xs.all cellOk then Cd esz bytes M s m xs else none
  |_,_=>none
def FU (o:VOp) (ev:Operand->Value) (M:CH):Option (Value×CH) :=
 match o with
 |.move x=>some (ev x,M)
 |.pick c a b=>ppp (Z58 (ev c) (ev a) (ev b)) M
 |.arith op x y=>ppp (Q95 op (ev x) (ev y)) M
 |.div op x y=>ppp (J00 op (ev x) (ev y)) M
 |.bits op x y=>ppp (Z61 op (ev x) (ev y)) M
 |.shift op x y=>ppp (Q82 op (ev x) (ev y)) M
 |.cmp op x y=>ppp (J0n op (ev x) (ev y)) M
 |.str op x y=>ppp (J0b op (ev x) (ev y)) M
 |.eqB n x y=>ppp (J0f n (ev x) (ev y)) M
 |.un op x=>ppp (pUn op (ev x)) M
 |.convI k x=>ppp (Q7p k (ev x)) M
 |.convS x=>ppp (Q7m (ev x)) M
 |.build z parts=>ppp (Q80 z (parts.map λp=>(p.1,p.2.1,ev p.2.2))) M
 |.fieldAddr off a=>ppp (Ln off (ev a)) M
 |.field agg off size x=>ppp (Q9e agg off size (ev x)) M
 |.indexAddr size x i=>ppp (LA size (ev x) (ev i)) M
 |.indexAddrArr len size x i=>ppp (Bp len size (ev x) (ev i)) M
 |.indexStr x i=>ppp (E1 (ev x) (ev i)) M
 |.indexArr len agg size x i=>ppp (AD len agg size (ev x) (ev i)) M
 |.sliceStr x lo hi=>ppp (Es ev (ev x) lo hi) M
 |.len x=>ppp (J02 (ev x)) M
 |.lenStr x=>ppp (Q2r (ev x)) M
 |.max x y=>ppp (J0r (ev x) (ev y)) M
 |.max4 x y z w=>ppp (Z5m (ev x) (ev y) (ev z) (ev w)) M
 |.min x y=>ppp (J0o (ev x) (ev y)) M
 |.makeFunc fn first cap=>some (.func fn (first.map ev).toArray (cap.map ev).toArray,M)
 |.iface t x=>ppp (Q92 t (ev x)) M
 |.extract x i=>ppp (Iz i (ev x)) M
 |.nilCheck x=>ppp (Az (ev x)) M
 |.alloc t z=>M6 M (.cells z ⟨z.length,t⟩ true true) (.pointer (some ⟨M.n,0,none⟩))
 |.box t x=>J10 t (ev x) M
 |.buildSlice esz z len parts=>I7 esz z len (parts.map λp=>(p.1*esz.sz,esz.sz,ev p.2)) M
 |.load agg size a=>Z5v agg size (ev a) M
 |.store size a v=>Q7x size (ev a) (ev v) M
 |.slice size x lo hi mx=>Q5b (.slice size x lo hi mx) ev M
 |.makeSlice esz bytes z l c=>Q0v esz bytes z (ev l) (ev c) M
 |.append esz bytes s x=>J14 esz bytes (ev s) (ev x) M
 |.ext o=>Wx o ev M
 |_=>none
theorem Q46 {rs:Nat->Env×Loop}{h:CH}{M:Heap}(hs:CSim rs h M) {r:Option Value}{r':Option (Value×Heap)}{p:Value×CH}(hr:∀ v,r=some v->r'=some (v,M)) (hx:ppp r h=some p):ESnd rs h M r' p:=by
 unfold ppp at hx;split at hx
 .rename_i v;obtain rfl:=osj hx;exact .same hs (hr v rfl)
 .cases hx
theorem Vf {rs:Nat->Env×Loop}{h:CH}{M:Heap}(hs:CSim rs h M) {o:VOp}{ev:Operand->Value}{p:Value×CH}(hx:FU o ev h=some p):ESnd rs h M (Qa o ev M) p:=by
 cases o
 case move x=>exact .same hs (by obtain rfl:=osj hx;rfl) |> λ(h:ESnd rs _ M (Qa (.move x) ev M) (ev x,_))=>by obtain rfl:=osj hx;exact h
 case makeFunc fn a b=>obtain rfl:=osj hx;exact .same hs rfl
 case alloc t z=>exact Yz (o:=.alloc t z) hs hx
 case box t x=>exact Yz (o:=.box t x) hs hx
 case buildSlice a b c d=>exact Yz (o:=.buildSlice a b c d) hs hx
 case load a b c=>exact Yz (o:=.load a b c) hs hx
 case store size a v =>
  simp only[FU] at hx;simp only[Qa];unfold Q7x at hx;generalize V9 (ev v)=q0 at hx |-;generalize ev a=q1 at hx |-;split at hx
  .rename_i i o vs;split at hx
   .rename_i c e wr tight hg;simp only[hs.cells hg];split at hx
    .rename_i hc;simp only[z3 hc];rw[Z4r (by omega)] at hx;obtain rfl:=osj hx;exact .upd hs hg rfl rfl
    .cases hx
   .cases hx
  .cases hx
 case slice a b c d e=>exact Yz (o:=.slice a b c d e) hs hx
 case makeSlice a b c d e=>exact Yz (o:=.makeSlice a b c d e) hs hx
 case append a b c d=>exact Yz (o:=.append a b c d) hs hx
 case ext o=>exact Rm hs hx
 case callF=>cases hx
 case callV=>cases hx
 case bad=>cases hx
 all_goals refine Q46 hs (λv hv=>?_) hx
 case arith op x y =>
  simp only[Qa];generalize ev x=a at hv |-;generalize ev y=b at hv |-;unfold Q95 at hv;split at hv
  .split at hv
   .rename_i hk;simp only[z3 hk];obtain rfl:=osj hv;cases op<;>simp only[Lu,IL]
   .cases hv
  .cases hv
 case convI k x =>
  simp only[Qa];generalize ev x=a at hv |-;unfold Q7p at hv;split at hv
  .obtain rfl:=osj hv;simp only[IL]
  .cases hv
 case pick c a b =>
  simp only[Qa];generalize ev c=q0 at hv |-;generalize ev a=q1 at hv |-;generalize ev b=q2 at hv |-;unfold Z58 at hv
  (repeat' split at hv)<;>first|(cases hv;done)|(obtain rfl:=osj hv;first|rfl|(simp_all;done)|(simp_all;intros;omega))
 case div op x y =>
  simp only[Qa];generalize ev x=q0 at hv |-;generalize ev y=q1 at hv |-;unfold J00 at hv
  (repeat' split at hv)<;>first|(cases hv;done)|(obtain rfl:=osj hv;first|rfl|(simp_all;done)|(simp_all;intros;omega))
 case bits op x y =>
  simp only[Qa];generalize ev x=q0 at hv |-;generalize ev y=q1 at hv |-;unfold Z61 at hv
  (repeat' split at hv)<;>first|(cases hv;done)|(obtain rfl:=osj hv;first|rfl|(simp_all;done)|(simp_all;intros;omega))
 case shift op x y =>
  simp only[Qa];generalize ev x=q0 at hv |-;generalize ev y=q1 at hv |-;unfold Q82 at hv
  (repeat' split at hv)<;>first|(cases hv;done)|(obtain rfl:=osj hv;first|rfl|(simp_all;done)|(simp_all;intros;omega))
 case cmp op x y =>
  simp only[Qa];generalize ev x=q0 at hv |-;generalize ev y=q1 at hv |-;unfold J0n at hv
  (repeat' split at hv)<;>first|(cases hv;done)|(obtain rfl:=osj hv;first|rfl|(simp_all;done)|(simp_all;intros;omega))
 case eqB n x y =>
  simp only[Qa];generalize ev x=q0 at hv |-;generalize ev y=q1 at hv |-;unfold J0f at hv
  (repeat' split at hv)<;>first|(cases hv;done)|(obtain rfl:=osj hv;first|rfl|(simp_all;done)|(simp_all;intros;omega))
 case un op x =>
  simp only[Qa];generalize ev x=q0 at hv |-;unfold pUn at hv
  (repeat' split at hv)<;>first|(cases hv;done)|(obtain rfl:=osj hv;first|rfl|(simp_all;done)|(simp_all;intros;omega))
 case convS x =>
  simp only[Qa];generalize ev x=q0 at hv |-;unfold Q7m at hv
  (repeat' split at hv)<;>first|(cases hv;done)|(obtain rfl:=osj hv;first|rfl|(simp_all;done)|(simp_all;intros;omega))
 case fieldAddr off a =>
  simp only[Qa];generalize ev a=q0 at hv |-;unfold Ln at hv
  (repeat' split at hv)<;>first|(cases hv;done)|(obtain rfl:=osj hv;first|rfl|(simp_all;done)|(simp_all;intros;omega))
 case indexAddr size x i =>
  simp only[Qa];generalize ev x=q0 at hv |-;generalize ev i=q1 at hv |-;unfold LA at hv
  (repeat' split at hv)<;>first|(cases hv;done)|(obtain rfl:=osj hv;first|rfl|(simp_all;done)|(simp_all;intros;omega))
 case indexAddrArr len size x i =>
  simp only[Qa];generalize ev x=q0 at hv |-;generalize ev i=q1 at hv |-;unfold Bp at hv
  (repeat' split at hv)<;>first|(cases hv;done)|(obtain rfl:=osj hv;first|rfl|(simp_all;done)|(simp_all;intros;omega))
 case len x =>
  simp only[Qa];generalize ev x=q0 at hv |-;unfold J02 at hv
  (repeat' split at hv)<;>first|(cases hv;done)|(obtain rfl:=osj hv;first|rfl|(simp_all;done)|(simp_all;intros;omega))
 case lenStr x =>
  simp only[Qa];generalize ev x=q0 at hv |-;unfold Q2r at hv
  (repeat' split at hv)<;>first|(cases hv;done)|(obtain rfl:=osj hv;first|rfl|(simp_all;done)|(simp_all;intros;omega))
 case max4 x y z w =>
  simp only[Qa];generalize ev x=q0 at hv |-;generalize ev y=q1 at hv |-;generalize ev z=q2 at hv |-;generalize ev w=q3 at hv |-;unfold Z5m at hv
  (repeat' split at hv)<;>first|(cases hv;done)|(rename_i ql;obtain⟨rfl,rfl,rfl⟩:=ql;obtain rfl:=osj hv;simp_all;done)
 case max x y =>
  simp only[Qa];generalize ev x=q0 at hv |-;generalize ev y=q1 at hv |-;unfold J0r at hv
  (repeat' split at hv)<;>first|(cases hv;done)|(obtain rfl:=osj hv;first|rfl|(simp_all;done)|(simp_all;intros;omega))
 case min x y =>
  simp only[Qa];generalize ev x=q0 at hv |-;generalize ev y=q1 at hv |-;unfold J0o at hv
  (repeat' split at hv)<;>first|(cases hv;done)|(obtain rfl:=osj hv;first|rfl|(simp_all;done)|(simp_all;intros;omega))
 case nilCheck x =>
  simp only[Qa];generalize ev x=q0 at hv |-;unfold Az at hv
  (repeat' split at hv)<;>first|(cases hv;done)|(obtain rfl:=osj hv;first|rfl|(simp_all;done)|(simp_all;intros;omega))
 case str op x y =>
  simp only[Qa];generalize ev x=q0 at hv |-;generalize ev y=q1 at hv |-;unfold J0b at hv
  (repeat' split at hv)<;>first|(cases hv;done)|(obtain rfl:=osj hv;first|rfl|(simp_all;done)|(simp_all;intros;omega))
 case build z parts =>
  simp only[Qa];unfold Q80 at hv;split at hv
  .rename_i cs hc;rw[hc];obtain rfl:=osj hv;rfl
  .cases hv
 case field agg off size x =>
  simp only[Qa];generalize ev x=q0 at hv |-;unfold Q9e at hv;split at hv
  .dsimp only;rw[hv]
  .cases hv
 case indexStr x i =>
  simp only[Qa];generalize ev x=q0 at hv |-;generalize ev i=q1 at hv |-;unfold E1 at hv;split at hv
  .split at hv
   .rename_i hc;simp only[z3 hc];split at hv
    .rename_i b hb;simp only[hb];obtain rfl:=osj hv;rfl
    .cases hv
   .cases hv
  .cases hv
 case indexArr len agg size x i =>
  simp only[Qa];generalize ev x=q0 at hv |-;generalize ev i=q1 at hv |-;unfold AD at hv;split at hv
  .split at hv
   .rename_i hc;simp only[z3 hc,hv]
   .cases hv
  .cases hv
 case sliceStr x lo hi =>
  simp only[Qa];generalize ev x=q0 at hv |-;unfold Es at hv;split at hv
  .rename_i s;split at hv
   .rename_i l h h1 h2;split at hv
    .rename_i hc;simp only[h1,h2,z3 hc];obtain rfl:=osj hv;rfl
    .cases hv
   .cases hv
  .cases hv
 case iface t x =>
  simp only[Qa];generalize ev x=q0 at hv |-;unfold Q92 at hv;split at hv
  .cases hv
  .rename_i aw;obtain rfl:=osj hv;split
   .exact absurd rfl (aw _)
   .rfl
 case extract x i =>
  simp only[Qa];generalize ev x=q0 at hv |-;unfold Iz at hv;split at hv
  .dsimp only;rw[hv]
  .cases hv
inductive Sh (a m d:Nat):Value->Value->Prop
 |plain (v:Value) (h:Zc v=true):Sh a m d v v
 |ptr (i o:Nat) (h:a<=i) (hi:i<m):Sh a m d (.pointer (some ⟨i,o,none⟩)) (.pointer (some ⟨d+(i-a),o,none⟩))
 |sl (i o len cap:Nat) (h:a<=i) (hi:i<m):Sh a m d (.slice (some ⟨i,o,none⟩) len cap) (.slice (some ⟨d+(i-a),o,none⟩) len cap)
 |agg (cs ds:Array Value) (hc:cs.size=ds.size) (h:∀ i (h1:i<cs.size) (h2:i<ds.size),Sh a m d cs[i] ds[i]):Sh a m d (.agg cs) (.agg ds)
 |tuple (cs ds:Array Value) (hc:cs.size=ds.size) (h:∀ i (h1:i<cs.size) (h2:i<ds.size),Sh a m d cs[i] ds[i]):Sh a m d (.tuple cs) (.tuple ds)
theorem Sh.rel {ρ ρ':Plc}{a m d n':Nat}(hn:d+(m-a)<=n') (hρ:∀ i,a<=i->i<m->ρ' (d+(i-a))=ρ i) {v v':Value}(h:Sh a m d v v') :
  ∀ {c:Value},VRel ρ m v c->VRel ρ' n' v' c:=by
 induction h with
 |plain v h =>intro c hv;have:c=v:=VS h hv;subst this;exact Ya h
 |ptr i o h hi =>intro c hv;obtain⟨a',rfl,_,bm⟩:=hv.q1g;exact .ptr _ _ _ (by omega) λp hp=>bm p (by rw[<-hρ i h hi];exact hp)
 |sl i o len cap h hi =>intro c hv;obtain⟨a',av,rfl,_,bm⟩:=hv.q1b;exact .sl _ _ _ _ _ _ (by omega) λp hp=>bm p (by rw[<-hρ i h hi];exact hp)
 |agg cs ds hc h ih =>
  intro c hv;cases hv with
  |agg _ ds' cM h'=>exact .agg _ _ (hc.symm.trans cM) λi k1 k2=>ih i (by omega) k1 (h' i (by omega) k2)
 |tuple cs ds hc h ih =>
  intro c hv;cases hv with
  |tuple _ ds' cM h'=>exact .tuple _ _ (hc.symm.trans cM) λi k1 k2=>ih i (by omega) k1 (h' i (by omega) k2)
theorem BRel.any {ρ ρ':Plc}{n n':Nat}{p:Pl}{w:World}{c:List Value}{esz:El}{wr tight:Bool}(hp:c.all Zc=true) (h:BRel ρ n p w (.cells c esz wr tight)) :
  BRel ρ' n' p w (.cells c esz wr tight):=by
 obtain⟨h1,h2,h3,h4,h5,h6⟩:=h;refine⟨h1,h2,h3,h4,λk v hk=>?_,h6⟩;obtain⟨u,hu,hv⟩:=h5 k v hk;have aU:Zc v=true:=z8.1 hp v (zG hk);obtain rfl:u=v:=VS aU hv;exact⟨u,hu,Ya aU⟩
theorem BRel.renRo {ρ:Plc}{nf n':Nat}{π:Nat->Nat}{p:Pl}{w:World}{c c':List Value}{esz:El}{wr tight:Bool}(hr:LRen n' π c c') (h:BRel ρ nf p w (.cells c' esz wr tight)) :
  BRel (λi=>if i<n' then ρ (π i) else none) n' p w (.cells c esz false tight):=by
 obtain⟨h1,h2,h3,h4,h5,h6⟩:=h;refine⟨h1,h2,by rw[hr.1];exact h3,h4,λk v hk=>?_,λh=>by cases h⟩;have af:k<c'.length:=by rw[<-hr.1];exact(z9.1 hk).1
 obtain⟨u,hu,hv⟩:=h5 k _ (z5 af);exact⟨u,hu,(hr.2 k v _ hk (z5 af)).rel hv⟩
structure PB where
 c:List Value
 esz:El
 tight:Bool
def PB.blk (wr:Bool) (b:PB):Blk:=.cells b.c b.esz wr b.tight
def QG (bl fr:List PB):Heap where
 get i:=if i<bl.length then (bl[i]?).map (PB.blk false) else (fr[i-bl.length]?).map (PB.blk true)
 n:=bl.length+fr.length
 wf i h:=by rw[z0 (by omega),zr (by omega)];rfl
def Wt (M:Heap) (fr:List PB):Heap where
 get i:=if i<M.n then M.get i else (fr[i-M.n]?).map (PB.blk true)
 n:=M.n+fr.length
 wf i h:=by rw[z0 (by omega),zr (by omega)];rfl
theorem VCalled.localize {P:Program}{f:FuncId}{iC args:List Value}{bl fr:List PB}{vm v:Value}{M:Heap}{π:Nat->Nat}{K:Value->Heap->Prop}
  (hm:VCalled P f iC (QG bl []) λu U=>u=vm/\U=QG bl fr)
  (cP:∀ b∈fr,b.c.all Zc=true)
  (hπ:∀ i b,bl[i]?=some b->∃ wr c',M.get (π i)=some (.cells c' b.esz wr b.tight)/\LRen bl.length π b.c c')
  (az:LRen bl.length π iC args) (hv:Sh bl.length (bl.length+fr.length) M.n vm v) (hK:K v (Wt M fr)):VCalled P f args M K:=by
 intro ρ w aA hH hL;have bK:∀ B,¬ Wr (λi=>if i<bl.length then ρ (π i) else none) (QG bl []) B:=by
  rintro B ⟨i,p,b,_,hb,hw,_⟩;have hi:i<bl.length:=by have:=(QG bl []).lt hb;simpa [QG] using this
  simp only[QG,z3 hi] at hb;cases eX:bl[i]? with
  |none=>rw[eX] at hb;cases hb
  |some b0=>rw[eX] at hb;obtain rfl:=osj hb;cases hw
 have tP:HRel (λi=>if i<bl.length then ρ (π i) else none) (QG bl []) w:=by
  refine⟨⟨λi b hb=>?_,λi hi=>?_,λi p hp=>?_,λi j p q b _ hp _ hb hw _=>(bK _ ⟨i,p,b,hp,hb,hw,rfl⟩).elim⟩,λg cs hg=>⟨(hH.tab g cs hg).1,bK g⟩⟩
  .have hi:i<bl.length:=by have:=(QG bl []).lt hb;simpa [QG] using this
   simp only[QG,z3 hi] at hb;cases eX:bl[i]? with
   |none=>rw[eX] at hb;cases hb
   |some b0 =>rw[eX] at hb;obtain rfl:=osj hb;obtain⟨wr,c',hg,qB⟩:=hπ i b0 eX;obtain⟨p,hp,hB⟩:=hH.live _ _ hg;exact⟨p,by simp[hi,hp],BRel.renRo qB hB⟩
  .by_cases h:i<bl.length
   .simp only[QG,z3 h,z5 h] at hi;cases hi
   .simp[h]
  .skip
   split at hp
   .exact hH.lt _ p hp
   .cases hp
 have tQ:LRel (λi=>if i<bl.length then ρ (π i) else none) (QG bl []).n iC aA.toList:=by have:=az.rel hL;simpa [QG] using this
 have lift:∀ c w',Got (λi=>if i<bl.length then ρ (π i) else none) (QG bl []) w (λu U=>u=vm/\U=QG bl fr) c w'->Got ρ M w K c w':=by
  rintro c w' ⟨_,ρm,_,⟨rfl,rfl⟩,cF,iD,hE⟩;have dW:∀ B,B<w.heap.size->w'.heap[B]?=w.heap[B]?:=λB hB=>hE.keep B hB (bK B);have ga:∀ i p,bl.length<=i->ρm i=some p->w.heap.size<=p.blk:=λi p hi hp=>by
   rcases zk p.blk w.heap.size with h|h
   .refine (bK _ (hE.wr p.blk h ?_)).elim;have gS:=iD.idlt hp;cases hb:(QG bl fr).get i with
    |none=>rw[iD.dead i hb] at hp;cases hp
    |some b =>
     refine⟨i,p,b,hp,hb,?_,rfl⟩;simp only[QG,z0 (wq.2 hi)] at hb;cases eX:fr[i-bl.length]? with
     |none=>rw[eX] at hb;cases hb
     |some b0=>rw[eX] at hb;obtain rfl:=osj hb;rfl
   .exact h
  have hρ:∀ i,M.n<=i->(if i<M.n then ρ i else if i<M.n+fr.length then ρm (bl.length+(i-M.n)) else none)=if i<M.n+fr.length then ρm (bl.length+(i-M.n)) else none:=λi hi=>z0 (by omega)
  have hX:Ext ρ M w (λi=>if i<M.n then ρ i else if i<M.n+fr.length then ρm (bl.length+(i-M.n)) else none) (Wt M fr) w':=by
   refine⟨hE.os,hE.tape,hE.output,hE.size,λB hB _=>dW B hB,?_,by simp[Wt],λi hi p hp=>?_⟩
   .rintro B hB ⟨i,p,b,hp,hb,hw,rfl⟩
    replace hp:(if i<M.n then ρ i else if i<M.n+fr.length then ρm (bl.length+(i-M.n)) else none)=some p:=hp
    by_cases hi:i<M.n
    .rw[z3 hi] at hp;simp only[Wt,z3 hi] at hb;exact⟨i,p,b,hp,hb,hw,rfl⟩
    .rw[z0 hi] at hp;split at hp
     .have:=ga _ p (by omega) hp;omega
     .cases hp
   .skip
    rwa [z3 hi] at hp
  refine⟨v,λi=>if i<M.n then ρ i else if i<M.n+fr.length then ρm (bl.length+(i-M.n)) else none,Wt M fr,hK,?_,hH.ext ⟨λi b hb=>?_,λi hi=>?_,λi p hp=>?_,λi j p q b bQ hp hq hb hw hx=>?_⟩ hX,hX⟩
  .refine hv.rel (by simp[Wt]) (λi h1 h2=>?_) cF;rw[z0 (by omega),z3 (by omega)];congr 1;omega
  .by_cases hi:i<M.n
   .simp only[Wt,z3 hi] at hb;obtain⟨p,hp,hB⟩:=hH.live i b hb;exact⟨p,by simp[hi,hp],hB.mono (by simp[Wt]) (λj hj q hq=>by simpa [hj] using hq) (dW _ (hH.lt i p hp))⟩
   .simp only[Wt,z0 hi] at hb;cases eX:fr[i-M.n]? with
    |none=>rw[eX] at hb;cases hb
    |some b0 =>
     rw[eX] at hb;obtain rfl:=osj hb;have af:i-M.n<fr.length:=(z9.1 eX).1;obtain⟨p,hp,hB⟩:=iD.live (bl.length+(i-M.n)) (b0.blk true) (by
      show (if _ then _ else _)=_;rw[z0 (by omega),show bl.length+(i-M.n)-bl.length=i-M.n by omega,eX];rfl)
     exact⟨p,by rw[z0 hi,z3 (by omega)];exact hp,BRel.any (cP b0 (zG eX)) hB⟩
  .by_cases h:i<M.n
   .simp only[Wt,z3 h] at hi;rw[z3 h];exact hH.dead i hi
   .simp only[Wt,z0 h] at hi;rw[z0 h];split
    .rename_i h2;have af:i-M.n<fr.length:=by omega
     rw[z5 af] at hi;cases hi
    .rfl
  .skip
   split at hp
   .exact x7 (hH.lt i p hp) hE.size
   .split at hp
    .exact iD.lt _ p hp
    .cases hp
  .skip
   by_cases hi:i<M.n<;>by_cases hj:j<M.n
   .rw[z3 hi] at hp;rw[z3 hj] at hq;simp only[Wt,z3 hi] at hb;exact hH.sep i j p q b bQ hp hq hb hw hx
   .rw[z3 hi] at hp;rw[z0 hj] at hq;split at hq
    .have h1:=hH.lt i p hp;have h2:=ga _ q (by omega) hq;omega
    .cases hq
   .rw[z0 hi] at hp;rw[z3 hj] at hq;split at hp
    .have h1:=hH.lt j q hq;have h2:=ga _ p (by omega) hp;omega
    .cases hp
   .rw[z0 hi] at hp;rw[z0 hj] at hq;split at hp
    .split at hq
     .simp only[Wt,z0 hi] at hb;refine iD.sep (bl.length+(i-M.n)) (bl.length+(j-M.n)) p q b (by omega) hp hq ?_ hw hx;show (if _ then _ else _)=_;rw[z0 (by omega),show bl.length+(i-M.n)-bl.length=i-M.n by omega];exact hb
     .cases hq
    .cases hp
 rcases hm _ w aA tP tQ with⟨h1,h2⟩|⟨c,h1,h2⟩
 .refine .inl ⟨h1,?_⟩;exact h2.mono λe w' he=>by
   obtain⟨c,rfl,hc⟩:=he;exact⟨c,rfl,lift c w' hc⟩
 .refine .inr ⟨c,lift c w h1,λw' dk=>h2 w' ⟨dk.1,λi p hp=>?_,dk.tab⟩⟩
  replace hp:(if i<bl.length then ρ (π i) else none)=some p:=hp
  split at hp
  .exact dk.2 _ p hp
  .cases hp
def Q2y {α:Type}(p:α->α->Bool):List α->List α->Bool
 |[],[]=>true
 |a::l,b::m=>p a b&&Q2y p l m
 |_,_=>false
theorem Nd {α:Type}{p:α->α->Bool}(hp:∀ a b,p a b=true->a=b):∀ l m,Q2y p l m=true->l=m
 |[],[],_=>rfl
 |a::l,b::m,h=>by simp only[Q2y,z4] at h;rw[hp a b h.1,Nd hp l m h.2]
 |[],_::_,h=>by cases h
 |_::_,[],h=>by cases h
def Lx:Nat->Value->Value->Bool
 |0,_,_=>false
 |f+1,a,b=>match a,b with
  |.bool x,.bool y=>x==y
  |.int k x,.int k' y=>decide (k=k')&&decide (x=y)
  |.string s,.string t=>decide (s.data.toList=t.data.toList)
  |.pointer none,.pointer none=>true
  |.pointer (some ⟨i,o,none⟩),.pointer (some ⟨j,q,none⟩)=>Nat.beq i j&&Nat.beq o q
  |.slice none l c,.slice none l' c'=>Nat.beq l l'&&Nat.beq c c'
  |.slice (some ⟨i,o,none⟩) l c,.slice (some ⟨j,q,none⟩) l' c'=>Nat.beq i j&&(Nat.beq o q&&(Nat.beq l l'&&Nat.beq c c'))
  |.slice (some ⟨i,o,some 0⟩) l c,.slice (some ⟨j,q,some 0⟩) l' c'=>Nat.beq i j&&(Nat.beq o q&&(Nat.beq l l'&&Nat.beq c c'))
  |.map x,.map y=>decide (x=y)
  |.chan none,.chan none=>true
  |.nilFunc,.nilFunc=>true
  |.nilIface,.nilIface=>true
  |.func (.func g) fs cs,.func (.func g') rS cs'=>decide (g=g')&&(Q2y (Lx f) fs.toList rS.toList&&Q2y (Lx f) cs.toList cs'.toList)
  |.func (.yield i) ⟨[]⟩ ⟨[]⟩,.func (.yield j) ⟨[]⟩ ⟨[]⟩=>Nat.beq i j
  |.iface t v,.iface t' v'=>decide (t=t')&&Lx f v v'
  |.agg cs,.agg ds=>Q2y (Lx f) cs.toList ds.toList
  |.tuple cs,.tuple ds=>Q2y (Lx f) cs.toList ds.toList
  |_,_=>false
theorem L9 {α:Type}{a b:Array α}(h:a.toList=b.toList):a=b:=by cases a;cases b;simp at h;rw[h]
theorem MX:∀ (f:Nat) (a b:Value),Lx f a b=true->a=b:=by
 intro f;induction f with
 |zero=>intro a b h;cases h
 |succ f ih =>
  intro a b h;unfold Lx at h
  split at h<;>first
   |(cases h;done)
   |rfl
   |(simp at h;subst h;rfl)
   |(simp at h;obtain⟨rfl,rfl⟩:=h;rfl)
   |(simp at h;obtain⟨rfl,rfl,rfl,rfl⟩:=h;rfl)
   |skip
  .rename_i s t;have h:=zg h;have:=L9 h;cases s;cases t;simp at this;rw[this]
  .rename_i g fs cs g' rS cs';simp only[z4,zn] at h;obtain⟨rfl,h1,h2⟩:=h;rw[L9 (Nd ih _ _ h1),L9 (Nd ih _ _ h2)]
  .rename_i t v t' v';simp only[z4,zn] at h;obtain⟨rfl,h1⟩:=h;rw[ih _ _ h1]
  .rw[L9 (Nd ih _ _ h)]
  .rw[L9 (Nd ih _ _ h)]
def EB.beq:EB->EB->Bool
 |.cells c e w t,.cells c' e' w' t'=>decide (e=e')&&(w==w'&&(t==t'&&Q2y (Lx 20) c c'))
 |.map es cl w,.map bS tR w'=>Nat.beq cl tR&&(w==w'&&Q2y (λa b=>Lx 20 a.1 b.1&&(Lx 20 a.2.1 b.2.1&&Nat.beq a.2.2 b.2.2)) es bS)
 |.iter m s sn l,.iter m' s' tS l'=>Nat.beq m m'&&(Nat.beq s s'&&(Nat.beq l l'&&decide (sn=tS)))
 |.lp .ready none,.lp .ready none=>true
 |.lp .busy none,.lp .busy none=>true
 |_,_=>false
theorem EB.beq_eq {a b:EB}(h:a.beq b=true):a=b:=by
 unfold EB.beq at h
 split at h<;>first
  |(cases h;done)
  |rfl
  |skip
 .simp only[z4,zn,zK] at h;obtain⟨rfl,rfl,rfl,h⟩:=h;rw[Nd (MX 20) _ _ h]
 .simp only[z4,zK,Nat.beq_eq] at h;obtain⟨rfl,rfl,h⟩:=h;rw[Nd (λa b h=>by
   simp only[z4,Nat.beq_eq] at h;obtain⟨a1,a2,a3⟩:=a;obtain⟨b1,b2,b3⟩:=b;obtain⟨h1,h2,h3⟩:=h;simp at h1 h2 h3;rw[MX _ _ _ h1,MX _ _ _ h2,h3]) _ _ h]
 .simp only[z4,zn,Nat.beq_eq] at h;obtain⟨rfl,rfl,rfl,rfl⟩:=h;rfl
def CH.newOk (h h':CH):Bool:=Nat.ble h.n h'.n&&(h'.room&&(List.range' h.n (h'.n-h.n)).all λi=>match h'.get i with
 |some (.lp _ _)=>false
 |_=>true)
structure AnsOps (A:Type) where
 fail:A
 both:A->A->A
structure Good {A:Type}(R:AnsOps A) (G:A->Prop):Prop where
 fail:¬ G R.fail
 both:∀ a b,G (R.both a b)->G a/\G b
def Wh:AnsOps Bool:=⟨false,and⟩
theorem CX:Good Wh (·=true):=⟨by simp[Wh],λa b h=>by simpa [Wh] using h⟩
def Ob:AnsOps (Option (Value×CH)):=⟨none,λ_ _=>none⟩
theorem Z0j (x:Value×CH):Good Ob (·=some x):=⟨by simp[Ob],λa b h=>by simp[Ob] at h⟩
def CH.same (h h':CH):Bool:=Nat.beq h.n h'.n&&(List.range h.n).all λi=>match h.get i,h'.get i with
 |none,none=>true
 |some a,some b=>a.beq b
 |_,_=>false
def EB.plainE:EB->Bool
 |.cells c _ _ _=>c.all Zc
 |.map es _ _=>es.all λkv=>Zc kv.2.1
 |_=>false
def CH.keepOk (h h':CH):Bool:=Nat.ble h.n h'.n&&(List.range h.n).all λi=>match h.get i,h'.get i with
 |none,none=>true
 |some a,some b=>b.plainE||a.beq b
 |_,_=>false
def gcI (n0:Nat) (refs:List Nat) (i:Nat):Nat×List Nat :=
 if i<n0 then (i,refs) else if refs.contains i=true then (n0+refs.idxOf i,refs) else (n0+refs.length,refs++[i])
def Q5d (g:List Nat->Value->Option (Value×List Nat)):List Value->List Nat->Option (List Value×List Nat)
 |[],refs=>some ([],refs)
 |v::vs,refs=>match g refs v with
  |none=>none
  |some p=>match Q5d g vs p.2 with
   |none=>none
   |some q=>some (p.1::q.1,q.2)
def gcX (n0:Nat):Nat->List Nat->Value->Option (Value×List Nat)
 |0,_,_=>none
 |f+1,refs,v=>match v with
  |.pointer (some ⟨i,o,none⟩)=>some (.pointer (some ⟨(gcI n0 refs i).1,o,none⟩),(gcI n0 refs i).2)
  |.slice (some ⟨i,o,none⟩) l c=>some (.slice (some ⟨(gcI n0 refs i).1,o,none⟩) l c,(gcI n0 refs i).2)
  |.slice (some ⟨i,o,some 0⟩) l c=>some (.slice (some ⟨(gcI n0 refs i).1,o,some 0⟩) l c,(gcI n0 refs i).2)
  |.map (some i)=>some (.map (some (gcI n0 refs i).1),(gcI n0 refs i).2)
  |.chan none=>some (.chan none,refs)
  |.iface t u=>match gcX n0 f refs u with
   |some p=>some (.iface t p.1,p.2)
   |none=>none
  |.agg cs=>match Q5d (gcX n0 f) cs.toList refs with
   |some p=>some (.agg p.1.toArray,p.2)
   |none=>none
  |.tuple cs=>match Q5d (gcX n0 f) cs.toList refs with
   |some p=>some (.tuple p.1.toArray,p.2)
   |none=>none
  |.func (.func g) fs cs=>match Q5d (gcX n0 f) fs.toList refs with
   |some p=>match Q5d (gcX n0 f) cs.toList p.2 with
    |some q=>some (.func (.func g) p.1.toArray q.1.toArray,q.2)
    |none=>none
   |none=>none
  |.func (.yield i) ⟨[]⟩ ⟨[]⟩=>if i<n0 then some (.func (.yield i) ⟨[]⟩ ⟨[]⟩,refs) else none
  |v=>if Zc v=true then some (v,refs) else none
def Z7c (n0:Nat):List X1->List Nat->Option (List X1×List Nat)
 |[],refs=>some ([],refs)
 |e::es,refs=>match gcX n0 8 refs e.2.1 with
  |none=>none
  |some p=>match Z7c n0 es p.2 with
   |none=>none
   |some q=>some ((e.1,p.1,e.2.2)::q.1,q.2)
def gcB (n0:Nat) (refs:List Nat):EB->Option (EB×List Nat)
 |.cells c e w t=>match Q5d (gcX n0 8) c refs with
  |some p=>some (.cells p.1 e w t,p.2)
  |none=>none
 |.map es cl w=>match Z7c n0 es refs with
  |some p=>some (.map p.1 cl w,p.2)
  |none=>none
 |_=>none
def Q6q (h':CH) (n0:Nat):Nat->Nat->List Nat->CH->Option (CH×List Nat)
 |0,_,_,_=>none
 |f+1,k,refs,acc=>if refs.length<=k then (if k=refs.length then some (acc,refs) else none) else match h'.get (refs.getD k 0) with
  |none=>none
  |some b=>match gcB n0 refs b with
   |none=>none
   |some p=>if acc.room=true then Q6q h' n0 f (k+1) p.2 (acc.push p.1) else none
def Q9c (h h':CH) (refs:List Nat):Option (CH×List Nat) :=
 if h.keepOk h'=true then Q6q h' h.n 100000 0 refs ⟨h'.t,h.n⟩ else none
def EV (h h':CH) (v:Value):Option (Value×CH):=match gcX h.n 8 [] v with
 |none=>none
 |some p=>match Q9c h h' p.2 with
  |none=>none
  |some q=>some (p.1,q.1)
def joinOps:AnsOps (Option (Value×CH)):=⟨none,λa b=>match a with
 |some x=>match b with
  |some y=>if Lx 20 x.1 y.1=true/\x.2.same y.2=true then some x else none
  |none=>none
 |none=>none⟩
structure ET where
 t:GT Value
 m:Nat
def ET.get (e:ET) (i:Nat):Value:=Bool.rec (motive:=λ_=>Value) undef (e.t.get undef i) (Nat.blt i e.m)
def ET.set (e:ET) (i:Nat) (v:Value):ET:=Bool.rec (motive:=λ_=>ET) e ⟨e.t.set undef 32 i v,e.m⟩ (Nat.blt i e.m)
def ET.put (e:ET) (d:Option Nat) (v:Value):ET:=Option.rec (motive:=λ_=>ET) e (λd=>e.set d v) d
def etL (l:List Value):Nat->GT Value->GT Value:=List.rec (motive:=λ_=>Nat->GT Value->GT Value) (λ_ t=>t) (λv _ ih i t=>ih (i+1) (t.set undef 32 i v)) l
def ET.of (args:List Value) (nt:Nat):ET:=⟨etL args 0 .nil,args.length+(nt-args.length)⟩
def Bd (e:ET) (x:Operand):Value:=Operand.rec (motive:=λ_=>Value) (λt=>e.get t) (λv=>v) (λg=>.pointer (some ⟨g,0,some 0⟩)) (λf=>.func (.func f) #[] #[]) x
def Q8f (e:ET) (ps:List Nat):List Value->ET:=List.rec (motive:=λ_=>ET->List Value->ET) (λe _=>e) (λp _ ih e vs=>List.rec (motive:=λ_=>ET) e (λv vs _=>ih (e.set p v) vs) vs) ps e
def Q2w (e:ET) (g:Option (Nat×Bool)):Option Bool:=match g with
 |none=>some true
 |some (d,want)=>match e.get d with
  |.bool b=>some (b==want)
  |.tuple _=>some false
  |_=>none
def ET.list (e:ET):List Value:=(List.range e.m).map e.get
def Z4e (h h':CH) (e:ET):Option (Value×CH):=EV h h' (.tuple e.list.toArray)
structure RCtx where
 ps:List Nat
 a:VCode
 b:VCode
 env:ET
abbrev Ys:=List (Nat×RCtx)
def Ys.find:Ys->Nat->Option RCtx
 |[],_=>none
 |(j,c)::l,i=>if Nat.beq i j=true then some c else Ys.find l i
structure Memo where
 args:List Value
 bl:List PB
 v:Value
 fr:List PB
def Z5p (g:Value->Option Value):List Value->Option (List Value)
 |[]=>some []
 |v::vs=>match g v with
  |none=>none
  |some u=>match Z5p g vs with
   |none=>none
   |some us=>some (u::us)
def shX (a m d:Nat):Nat->Value->Option Value
 |0,_=>none
 |f+1,v=>match v with
  |.pointer (some ⟨i,o,none⟩)=>if a<=i/\i<m then some (.pointer (some ⟨d+(i-a),o,none⟩)) else none
  |.slice (some ⟨i,o,none⟩) l c=>if a<=i/\i<m then some (.slice (some ⟨d+(i-a),o,none⟩) l c) else none
  |.agg cs=>match Z5p (shX a m d f) cs.toList with
   |some p=>some (.agg p.toArray)
   |none=>none
  |.tuple cs=>match Z5p (shX a m d f) cs.toList with
   |some p=>some (.tuple p.toArray)
   |none=>none
  |v=>if Zc v=true then some v else none
def L4 (h:CH):Nat->List Nat->List PB->Option (List Nat)
 |k,refs,[]=>if refs.length=k then some refs else none
 |k,refs,b::m=>if k<refs.length then
   match h.get (refs.getD k 0) with
   |some (.cells c e _ t)=>(match Q5d (gcX 0 8) c refs with
    |some p=>if (decide (e=b.esz)&&(t==b.tight&&Q2y (Lx 20) p.1 b.c))=true then L4 h (k+1) p.2 m else none
    |none=>none)
   |_=>none
  else none
def XH:List PB->CH->CH
 |[],h=>h
 |b::l,h=>XH l (h.push (.cells b.c b.esz true b.tight))
def IY (h:CH) (args:List Value) (refs:List Nat):List Memo->Option Memo
 |[]=>none
 |m::ms=>if (Q2y (Lx 20) args m.args&&(L4 h 0 refs m.bl).isSome)=true then some m else IY h args refs ms
def Ar (h:CH) (args:List Value) (ms:List Memo):Option (Value×CH) :=
 match Q5d (gcX 0 8) args [] with
 |none=>none
 |some p=>match IY h p.1 p.2 ms with
  |none=>none
  |some m=>match Nat.ble (h.n+m.fr.length) 1000000000 with
   |false=>none
   |true=>match shX m.bl.length (m.bl.length+m.fr.length) h.n 8 m.v with
    |some v=>some (v,XH m.fr h)
    |none=>none
inductive FEnt where
 |code (vc:VCode) (rs:List VResult) (nt:Nat)
 |codeJ (vc:VCode) (rs:List VResult) (nt:Nat)
 |codeM (vc:VCode) (rs:List VResult) (nt:Nat) (ms:List Memo)
 |same
abbrev Tab:=FuncId->Option FEnt
abbrev Z2h:=∀ {A:Type},AnsOps A->Ys->VCode->Option Nat->ET->CH->(Exit->ET->CH->A)->A
def RF (env:ET) (M:CH):VResult->Option Value
 |.tmp t=>some (env.get t)
 |.cell a agg size=>match Z5v agg size (env.get a) M with|some p=>some p.1|none=>none
def H7 (env:ET) (M:CH):List VResult->Option (List Value)
 |[]=>some []
 |r::rs=>match RF env M r with
  |none=>none
  |some v=>match H7 env M rs with
   |none=>none
   |some vs=>some (v::vs)
def Gw (env:ET) (M:CH) (rs:List VResult):Option Value :=
 match rs with
 |[r]=>RF env M r
 |rs=>match H7 env M rs with|some vs=>some (.tuple vs.toArray)|none=>none
section
variable (T:Tab) (ev:Z2h) {A:Type}(R:AnsOps A) (ys:Ys)
def Z18 (fail:A) (rs:List VResult) (k:Value->CH->A):Exit->ET->CH->A:=λe env h'=>match e with
  |.normal=>(match Gw env h' rs with|some v=>k v h'|none=>fail)
  |.ret=>(match Gw env h' rs with|some v=>k v h'|none=>fail)
  |_=>fail
def HP (f:FuncId) (args:List Value) (h:CH) (k:Value->CH->A):A :=
 match T f with
 |some (.code vc rs nt)=>match Nat.ble (ET.of args nt).m 1000000 with
  |true=>ev R ys vc none (ET.of args nt) h (Z18 R.fail rs k)
  |false=>R.fail
 |some (.codeJ vc rs nt)=>match Nat.ble (ET.of args nt).m 1000000 with
  |true=>(match ev joinOps ys vc none (ET.of args nt) h (Z18 none rs λv h'=>EV h h' v) with
   |some x=>if x.2.room=true/\Nat.ble h.n x.2.n=true then k x.1 x.2 else R.fail
   |none=>R.fail)
  |false=>R.fail
 |some (.codeM vc rs nt ms)=>match Ar h args ms with
  |some p=>k p.1 p.2
  |none=>match Nat.ble (ET.of args nt).m 1000000 with
   |true=>ev R ys vc none (ET.of args nt) h (Z18 R.fail rs k)
   |false=>R.fail
 |some .same=>match args with
  |[v]=>k v h
  |_=>R.fail
 |none=>R.fail
def Q2c (i:Nat) (k:Value->CH->A):Exit->ET->CH->A:=λe _ h =>
 match h.get i with
 |some (.lp .busy none)=>match e with
  |.normal=>k (.bool true) (h.upd i (.lp .ready none))
  |.ret=>k (.bool false) (h.upd i (.lp .done (some .ret)))
  |.exit id=>k (.bool false) (h.upd i (.lp .done (some (.exit id))))
  |_=>R.fail
 |_=>R.fail
def Q8l (c:RCtx) (i:Nat) (k:Value->CH->A):Exit->ET->CH->A:=λe br h1=>match e with
 |.normal=>(match h1.get i with
  |some (.lp .ready none)=>ev R ys c.b (some i) br (h1.upd i (.lp .busy none)) (Q2c R i k)
  |_=>R.fail)
 |_=>R.fail
def Q23 (i:Nat) (args:List Value) (h:CH) (k:Value->CH->A):A :=
 match ys.find i with
 |some c=>match h.get i with
  |some (.lp .ready none)=>if args.length=c.ps.length then ev R ys c.a (some i) (Q8f c.env c.ps args) h (Q8l ev R ys c i k) else R.fail
  |_=>R.fail
 |none=>R.fail
def Du (i m since clock:Nat) (seen:List Nat) (h:CH) (k:Value->CH->A):List X1->Option A
 |[]=>none
 |e::es=>if seen.contains e.2.2=true then Du i m since clock seen h k es
  else match Du i m since clock seen h k es with
   |none=>some (k (.tuple #[.bool true,e.1,e.2.1]) (h.upd i (.iter m since (seen++[e.2.2]) clock)))
   |some a=>some (R.both (k (.tuple #[.bool true,e.1,e.2.1]) (h.upd i (.iter m since (seen++[e.2.2]) clock))) a)
def Z22 (x:Value) (h:CH) (k:Value->CH->A):A :=
 match x with
 |.pointer (some ⟨i,0,none⟩)=>match h.get i with
  |some (.iter m since seen last)=>match h.mapAt m with
   |some (es,clock,_) =>
    if (seen.isEmpty||es.isEmpty||es.any (λe=>decide (e.2.2<last)))=true/\es.all (λe=>Ua e.1)=true then
     (match Du R i m since clock seen h k es with
     |none=>if es.all (λe=>seen.contains e.2.2||decide (since<=e.2.2))=true then k (.tuple #[.bool false]) h else R.fail
     |some a=>if es.all (λe=>seen.contains e.2.2||decide (since<=e.2.2))=true then R.both (k (.tuple #[.bool false]) h) a else a)
    else R.fail
   |none=>R.fail
  |_=>R.fail
 |_=>R.fail
def Q7k (f:Value) (args:List Value) (h:CH) (k:Value->CH->A):A:=match f with
  |.func (.func g) first cap=>HP T ev R ys g (first.toList++args++cap.toList) h k
  |.func (.yield i) _ _=>Q23 ev R ys i args h k
  |_=>R.fail
def Q20 (r:Option (Value×CH)) (k:Value->CH->A):A:=match r with
  |some p=>k p.1 p.2
  |none=>R.fail
def Z0h (o:VOp) (env:ET) (h:CH) (k:Value->CH->A):A :=
 match o with
 |.callF f args=>HP T ev R ys f (args.map (Bd env)) h k
 |.callV f args=>Q7k T ev R ys (Bd env f) (args.map (Bd env)) h k
 |.ext (.nextMap x)=>Z22 R (Bd env x) h k
 |o=>Q20 R (FU o (Bd env) h) k
def Q2e (l:List VOper):ET->CH->(ET->CH->A)->A :=
 List.rec (motive:=λ_=>ET->CH->(ET->CH->A)->A) (λenv h k=>k env h)
  (λo _ ih env h k=>match Q2w env o.guard with
   |none=>R.fail
   |some true=>Z0h T ev R ys o.op env h λv h'=>ih (env.put o.dst v) h' k
   |some false=>ih (env.put o.dst undef) h k) l
def I_ (op:VOp) (ev:Operand->Value) (v:Value) (h:CH):Bool:=match FU op ev h with
 |some q=>Lx 20 q.1 v
 |none=>false
def Q4u (r:Nat) (h:CH):List (Nat×(CH->Bool))->Bool
 |[]=>true
 |c::l=>(!(Nat.ble r c.1)||c.2 h)&&Q4u r h l
def GY:List DOper->ET->List CH->CH->List (Nat×(CH->Bool))->(ET->CH->A)->A
 |[],env,_,h,_,k=>k env h
 |o::rest,env,hs,h,pend,k=>match Q2w env o.guard with
  |none=>R.fail
  |some true=>if o.kind=2 then
    (match Z0h T ev Ob ys o.op env h (λv h'=>some (v,h')) with
    |some p=>if h.newOk p.2=true/\Q4u hs.length p.2 pend=true then GY rest (env.put o.dst p.1) (hs++[p.2]) p.2 pend k else R.fail
    |none=>R.fail)
   else if o.kind=1 then
    (match FU o.op (Bd env) h with
    |some p=>if (hs.drop o.kmin).all (I_ o.op (Bd env) p.1)=true then
      GY rest (env.put o.dst p.1) hs h (if hs.length<=o.kmax then (o.kmax,I_ o.op (Bd env) p.1)::pend else pend) k else R.fail
    |none=>R.fail)
   else match FU o.op (Bd env) h with
    |some p=>GY rest (env.put o.dst p.1) hs h pend k
    |none=>R.fail
  |some false=>if o.kind=2 then
    (if Q4u hs.length h pend=true then GY rest (env.put o.dst undef) (hs++[h]) h pend k else R.fail)
   else GY rest (env.put o.dst undef) hs h pend k
def Z1b (env:ET) (h:CH) (a:List DOper):Option (Value×CH):=GY T ev joinOps ys a env [h] h [] λenv h'=>Z4e h h' env
def IP (env:ET) (h:CH):List (List DOper)->Option (Value×CH)
 |[]=>none
 |[a]=>Z1b T ev ys env h a
 |a::b::r=>joinOps.both (Z1b T ev ys env h a) (IP env h (b::r))
def Tz:List DSeg->ET->CH->(ET->CH->A)->A
 |[],env,h,k=>k env h
 |.one o::rest,env,h,k=>Q2e T ev R ys [o] env h λenv h=>Tz rest env h k
 |.alts [a]::rest,env,h,k=>GY T ev R ys a env [h] h [] λenv h=>Tz rest env h k
 |.alts l::rest,env,h,k=>match IP T ev ys env h l with
  |some x=>(match x.1 with
   |.tuple vs=>if x.2.room=true/\Nat.ble h.n x.2.n=true/\vs.toList.length=env.m then Tz rest (ET.of vs.toList 0) x.2 k else R.fail
   |_=>R.fail)
  |none=>R.fail
def Q7o (h:CH):Option Nat->Bool
 |none=>true
 |some i=>match h.get i with
  |some (.lp _ _)=>true
  |_=>false
def Z1d:LoopState->Bool
 |.busy=>false
 |_=>true
def Z5s (env:ET) (i:Nat) (k:Exit->ET->CH->A):Value->CH->A:=λ_ h =>
 match h.get i with
 |some (.lp st pend)=>if Z1d st=true then (match pend with
   |none=>k .normal env (h.kill i)
   |some .ret=>k .ret env (h.kill i)
   |some (.exit id)=>k (.exit id) env (h.kill i)
   |some _=>R.fail) else R.fail
 |_=>R.fail
def Z4n (kb k:Exit->ET->CH->A):Exit->ET->CH->A:=λe env h=>match e with
 |.normal=>kb .normal env h
 |e=>k e env h
def Q21 (id:Nat) (k:Exit->ET->CH->A):Exit->ET->CH->A:=λe env h=>match e with
 |.exit g9=>if g9=id then k .normal env h else k (.exit g9) env h
 |e=>k e env h
def Z03 (v:Value) (a b:A):A:=match v with
 |.bool true=>a
 |.bool false=>b
 |_=>R.fail
def Q4k (g:Value) (ps:List Nat) (a b:VCode) (ro:Option Nat) (env:ET) (h:CH) (k:Exit->ET->CH->A):A:=match g with
 |.func (.func f) first cap=>match T f with
  |some (.code _ _ _)=>if Q7o h ro=true/\h.room=true then
    HP T ev R ((h.n,⟨ps,a,b,env⟩)::ys) f (first.toList++[.func (.yield h.n) #[] #[]]++cap.toList) (h.push (.lp .ready none)) (Z5s R env h.n k)
   else R.fail
  |_=>R.fail
 |_=>R.fail
def En (c:VCode):Option Nat->ET->CH->(Exit->ET->CH->A)->A :=
 VCode.rec (motive:=λ_=>Option Nat->ET->CH->(Exit->ET->CH->A)->A)
  (λ_ env h k=>k .normal env h)
  (λops _ env h k=>Q2e T ev R ys ops env h (k .normal))
  (λaR _ env h k=>Tz T ev R ys aR env h (k .normal))
  (λg ps a b _ _ ro env h k=>Q4k T ev R ys (Bd env g) ps a b ro env h k)
  (λ_ _ fv eY ro env h k=>fv ro env h (Z4n (λ_ ah h'=>eY ro ah h' k) k))
  (λc _ _ fv eY ro env h k=>Z03 R (Bd env c) (fv ro env h k) (eY ro env h k))
  (λid _ ih ro env h k=>ih ro env h (Q21 id k))
  (λb ih ro env h k=>ih ro env h (Z4n (λ_ ah h'=>ev R ys (.loop b) ro ah h' k) k))
  (λid _ env h k=>k (.exit id) env h)
  (λ_ env h k=>k .ret env h)
  (λ_ _ _ _=>R.fail) c
end
def Bi (T:Tab) (n:Nat):Z2h :=
 Nat.rec (motive:=λ_=>Z2h) (λR _ _ _ _ _ _=>R.fail) (λ_ ih {_} R ys c ro env h k=>En T ih R ys c ro env h k) n
end Go.V