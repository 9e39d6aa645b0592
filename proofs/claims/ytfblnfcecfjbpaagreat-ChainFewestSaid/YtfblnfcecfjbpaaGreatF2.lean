/- A framework for walks, contracts of functions, and their proofs: part 2. -/
import Derived.RangeFuncLeaves
import Derived.RangeFuncCalls
import Derived.OrdersIn
import Derived.TacticsIn
import Derived.Sort.LoopGhostIn
import Derived.Deep.LoopGhost
import Derived.Test.YtfblnfcecfjbpaaGreatF1
noncomputable section
namespace Go.V
open Go
section
variable {P:Program}{S:VSpecs}{B:Nat}
def FF:Option Nat->Fence
 |none=>Fence.wide
 |some l=>Fence.wide.inRound l
theorem Ev (ro:Option Nat) (f:FuncId):(FF ro).fn f:=by cases ro<;>trivial
theorem RV (ro:Option Nat):(FF ro).depth=none:=by cases ro<;>rfl
theorem OX (ro:Option Nat):(FF ro).round=ro:=by cases ro<;>rfl
theorem Ay {ro:Option Nat}{n:Nat}{f:FuncId}{args:Array Value}{w:World}{R:Ending->World->Prop}(h:Calls P f args w R):CallsIn (FF ro) n P f args w R:=by
 cases ro with
 |none=>exact callsIn_wide.2 h
 |some l=>exact CallsIn.inRound l (callsIn_wide.2 h)
theorem C9 {ro:Option Nat}{n m:Nat}{l:Nat}{f:FuncId}{tmps:Array Value}{fj body:Code}{w:World}{R:Ending->World->Prop}(h:RoundIn Fence.wide m P l f tmps fj body w R):RoundIn (FF ro) n P l f tmps fj body w R:=by refine⟨Ev _ _,λc cs _=>?_⟩;obtain⟨e,w',r,s⟩:=h.2 c cs (room_wide _);refine⟨e,w',r,?_⟩;cases ro<;>exact s
def Got (ρ:Plc) (M:Heap) (w:World) (R:Value->Heap->Prop) (c:Value) (w':World):Prop :=
 ∃ v ρ' M',R v M'/\VRel ρ' M'.n v c/\HRel ρ' M' w'/\Ext ρ M w ρ' M' w'
def VCallsTo (P:Program) (f:FuncId) (args:List Value) (M:Heap) (R:Value->Heap->Prop):Prop :=
 ∀ ρ w (az:Array Value),HRel ρ M w->LRel ρ M.n args az.toList->Calls P f az w λe w'=>∃ c,e=.returned c/\Got ρ M w R c w'
def VCalled (P:Program) (f:FuncId) (args:List Value) (M:Heap) (R:Value->Heap->Prop):Prop :=
 ∀ ρ w (az:Array Value),HRel ρ M w->LRel ρ M.n args az.toList ->
  ((∀ w,(callFunc f az).run P w=.ok (.enter f az) w)/\Calls P f az w λe w'=>∃ c,e=.returned c/\Got ρ M w R c w') \/
  (∃ c,Got ρ M w R c w/\∀ w',Like ρ w w'->(callFunc f az).run P w'=.ok (.value c) w')
def Pb (P:Program) (i:Nat) (args:List Value) (M:Heap) (R:Value->Heap->Prop):Prop :=
 ∀ ρ w (az:Array Value),HRel ρ M w->LRel ρ M.n args az.toList ->
  ∃ p,ρ i=some p/\∃ fn tmps fj body,(Instr.yield p.blk az).run P w=.ok (.round p.blk fn tmps fj body) w /\
   RoundIn Fence.wide 0 P p.blk fn tmps fj body w λe w'=>∃ c,e=.returned c/\Got ρ M w R c w'
def Xf (P:Program) (f:FuncId):Prop:=∃ fn,P.funcs[f]?=some fn/\fn.body.isSome=true/\(fn.name=="runtime.NumGoroutine")=false
def Z0a (P:Program) (f:FuncId) (s:Tb):Prop:=∀ args M K,s args M K->VCalled P f args M K
def Vg (P:Program) (i:Nat) (s:Tb):Prop:=∀ args M K,s args M K->Pb P i args M K
def Q86 (P:Program) (f:FuncId) (T:Nat->Tb->Tb):Prop:=Xf P f/\∀ i Y,Vg P i Y->∀ args M K,T i Y args M K->VCallsTo P f args M K
structure OkSpecs (P:Program) (S:VSpecs):Prop where
 fn:∀ f s,S.fn f=some s->Z0a P f s
 yl:∀ i s,S.yl i=some s->Vg P i s
 it:∀ f T,S.it f=some T->Q86 P f T
theorem NC {f:FuncId}(h:Xf P f) (args:Array Value) (w:World):(callFunc f args).run P w=.ok (.enter f args) w:=by
 obtain⟨fn,h1,h2,h3⟩:=h;have h4:¬ fn.body=none:=λe=>by rw[e] at h2;cases h2
 have h5:¬ fn.name="runtime.NumGoroutine":=λe=>by rw[e] at h3;simp at h3
 simp[callFunc,h1,h4,h5]
theorem VCallsTo.called {f:FuncId}{args:List Value}{M:Heap}{R:Value->Heap->Prop}(he:Xf P f) (h:VCallsTo P f args M R):VCalled P f args M R :=
 fun ρ w az hH hL=>.inl ⟨λw=>NC he az w,h ρ w az hH hL⟩
theorem Got.mono {ρ:Plc}{M:Heap}{w:World}{R R':Value->Heap->Prop}{c:Value}{w':World}(h:Got ρ M w R c w') (hr:∀ v M',R v M'->R' v M'):Got ρ M w R' c w' :=
 let ⟨v,ρ',M',h1,h2⟩:=h;⟨v,ρ',M',hr _ _ h1,h2⟩
theorem VCallsTo.mono {f:FuncId}{args:List Value}{M:Heap}{R R':Value->Heap->Prop}(h:VCallsTo P f args M R) (hr:∀ v M',R v M'->R' v M'):VCallsTo P f args M R' :=
 fun ρ w az hH hL=>(h ρ w az hH hL).mono λ_ _ ⟨c,he,hg⟩=>⟨c,he,hg.mono hr⟩
theorem YQ {ρ:Plc}{n:Nat}{env:Env}{a:Act}(h:LRel ρ n env a.tmps.toList) {v c:Value}(hv:VRel ρ n v c) (d:Option Nat):LRel ρ n (X7 env d v) (a.put d c).tmps.toList:=by
 cases d with
 |none=>exact h
 |some d=>simp only[X7,Act.put,Array.toList_setIfInBounds];exact h.set d hv
theorem Zp (env:Env) (d:Option Nat) (v:Value):List.length (X7 env d v)=List.length env:=by cases d<;>simp[X7]
theorem X1 (a:Act) (d:Option Nat) (c:Value):(a.put d c).defers=a.defers:=by cases d<;>rfl
theorem GO {ρ:Plc}{n:Nat}{env:Env}{a:Act}{ops:Array Oper}{o:Oper}{vo:VOper}(hc:J5 P ops o=some vo) (hL:LRel ρ n env a.tmps.toList) {b:Bool}(h:J3 env vo.guard=some b) :
  Region.wanted o (yielded ops a.tmps)=b/\vo.dst=o.dst/\K7 P o.op=vo.op:=by
 unfold J5 at hc;simp only[zJ] at hc;cases hg:o.guard with
 |none =>simp[hg] at hc;subst hc;simp[J3] at h;subst h;simp[Region.wanted,hg]
 |some jw =>
  obtain⟨j,want⟩:=jw;simp[hg] at hc;cases hj:ops[j]? with
  |none=>simp[hj] at hc
  |some oj =>
   cases hd:oj.dst with
   |none=>simp[hj,hd] at hc
   |some d =>
    simp[hj,hd] at hc;subst hc;refine⟨?_,rfl,rfl⟩;simp only[J3] at h;simp only[Region.wanted,hg,yielded,hj,xp,hd];have hlen:List.length env=a.tmps.size:=by have:=hL.1;rw[Array.length_toList] at this;exact this
    rcases zh d (List.length env) with ah|bw
    .have b6:d<a.tmps.size:=by rw[<-hlen];exact ah
     have hr:=hL.2 d env[d] a.tmps[d] (z3 ah) (by simp[b6]);have he:env.getD d undef=env[d]:=by simp[List.getD,ah]
     rw[he] at h;simp only[xh b6];split at h
     .rename_i b' heq;rw[heq] at hr;rw[hr.q1d];simp at h;simp[<-h]
     .rename_i vs heq;rw[heq] at hr;obtain⟨ds,hds,_⟩:=hr.q1l;rw[hds];simp at h;subst h;simp
     .cases h
    .have he:env.getD d undef=undef:=by simp[List.getD,zj bw]
     rw[he] at h;have:a.tmps[d]?=none:=Array.getElem?_eq_none (by rw[<-hlen];exact bw);simp only[this];simp[undef] at h;subst h;simp
theorem Q0f {o:Oper}{vo:VOp}(hc:VD P o.op=some vo) {ρ:Plc}{M:Heap}{env:Env}{a:Act}(hL:LRel ρ M.n env a.tmps.toList) {K:Value->Heap->Prop}
  (aC:(∃ f bN,vo=.callF f bN)\/(∃ f bN,vo=.callV f bN)) {σ0:Heap}(h:vop S vo env σ0 K) :
  (∃ f args az,vcall S f args σ0 K/\LRel ρ M.n args az.toList/\∀ w,(execOp a.eval o).run P w=(callFunc f az).run P w) \/
  (∃ i r args az,A3 S i args σ0 K/\VRel ρ M.n (.func (.yield i) #[] #[]) (.func (.yield r) #[] #[])/\LRel ρ M.n args az.toList/\∀ w,(execOp a.eval o).run P w=(Instr.yield r az).run P w):=by
 have bh:=hc;cases dI:VD P o.op with
 |none=>rw[dI] at hc;cases hc
 |some tk =>
  clear dI hc tk;obtain⟨dst,op,ty,pos,after,guard⟩:=o;simp only at bh;unfold VD at bh;split at bh
  .cases bh
  rename_i ai;simp only[xZ,xQ] at ai;cases op
  case call c =>
   simp only[Op.operands] at ai bh;split at bh
   .rename_i f aJ;simp at bh;subst bh;simp only[vop] at h;have ax:(c.args.toList).all X6=true:=by
     simp only[Call.operands,aJ,Array.toList_append,List.all_append,z2] at ai;exact ai.2
    refine .inl ⟨f,_,c.args.map a.eval,h,by have:=RP (λx hx=>W2 hL hx) ax;simpa using this,λw=>?_⟩;simp[execOp,resolve,aJ,Act.eval,Deferred.ofValue,invoke]
   .rename_i fo av aJ;simp at bh;subst bh;simp only[vop] at h;simp only[Call.operands,aJ,Array.toList_append,List.all_append,z2] at ai;have hf:=W2 hL (x:=fo) (by simpa using ai.1);have has:=RP (λx hx=>W2 hL hx) ai.2;split at h
    .rename_i g first cap heq
     rw[heq] at hf;cases kf:a.eval fo with
     |func fn gs ds =>
      rw[kf] at hf;cases hf with
      |func _ _ _ _ _ h1 h2 h3 h4 =>
       refine .inl ⟨g,_,gs++c.args.map a.eval++ds,h,?_,λw=>?_⟩
       .have eR:=LRel.of_array h1 h3;have cj:=LRel.of_array h2 h4;have:=(eR.append has).append cj;simpa using this
       .simp[execOp,resolve,aJ,kf,Deferred.ofValue,invoke]
     |_=>rw[kf] at hf;cases hf
    .rename_i i first cap heq
     rw[heq] at hf;have hinv:∀ c,VRel ρ M.n (.func (.yield i) first cap) c->∃ r,c=.func (.yield r) #[] #[]/\VRel ρ M.n (.func (.yield i) #[] #[]) (.func (.yield r) #[] #[]):=by
      intro c h;cases h with
      |yield _ r hi hr=>exact⟨r,rfl,.yield i r hi hr⟩
     obtain⟨r,kf,hv⟩:=hinv _ hf;refine .inr ⟨i,r,_,c.args.map a.eval,h,hv,by simpa using has,λw=>?_⟩;simp[execOp,resolve,aJ,kf,Deferred.ofValue,invoke]
    .cases h
   all_goals
    repeat' first
     |(cases bh;done)
     |(simp at bh;subst bh;rcases aC with⟨f,bN,h⟩|⟨f,bN,h⟩<;>cases h;done)
     |split at bh
   all_goals
    simp only[zJ,x4] at bh;obtain⟨_,_,_,_,bh⟩:=bh;split at bh<;>simp at bh;subst bh;rcases aC with⟨f,bN,h⟩|⟨f,bN,h⟩<;>cases h
  all_goals simp only[Op.operands] at ai bh
  all_goals
   repeat' first
    |(cases bh;done)
    |(simp at bh;subst bh;rcases aC with⟨f,bN,h⟩|⟨f,bN,h⟩<;>cases h;done)
    |split at bh
  all_goals simp only[zJ,x4,reduceCtorEq,and_false,exists_false] at bh
  all_goals first
   |(obtain⟨_,_,bh⟩:=bh;simp at bh;subst bh;rcases aC with⟨f,bN,h⟩|⟨f,bN,h⟩<;>cases h;done)
   |(obtain⟨_,_,_,_,bh⟩:=bh;simp at bh;subst bh;rcases aC with⟨f,bN,h⟩|⟨f,bN,h⟩<;>cases h;done)
   |(obtain⟨_,_,_,_,_,_,bh⟩:=bh;simp at bh;subst bh;rcases aC with⟨f,bN,h⟩|⟨f,bN,h⟩<;>cases h;done)
   |(obtain⟨d,_,bh⟩:=bh;cases d<;>simp at bh<;>subst bh<;>rcases aC with⟨f,bN,h⟩|⟨f,bN,h⟩<;>cases h;done)
   |(obtain⟨_,_,_,_,bh⟩:=bh;split at bh<;>simp at bh;subst bh;rcases aC with⟨f,bN,h⟩|⟨f,bN,h⟩<;>cases h;done)
   |(obtain⟨_,_,bh⟩:=bh;split at bh<;>simp at bh;subst bh;rcases aC with⟨f,bN,h⟩|⟨f,bN,h⟩<;>cases h;done)
theorem NH {o:Op}{vo:VOp}(h:K7 P o=vo) (hv:vo≠.bad):VD P o=some vo\/∃ x,Tt P o=some x/\vo=.ext x:=by
 unfold K7 at h;split at h
 .rename_i v gB;subst h;exact .inl gB
 .split at h
  .rename_i x hx;exact .inr ⟨x,hx,h.symm⟩
  .exact absurd h.symm hv
theorem AF {o:Op}{x:XOp}(h:VD P o=some (.ext x)):False:=by
 unfold VD at h
 repeat' first
  |contradiction
  |(cases h;done)
  |(simp at h;done)
  |(rw[zJ,x4] at h;obtain⟨_,_,h⟩:=h)
  |split at h
theorem RH {o:Op}{vo:VOp}(h:K7 P o=vo) (hv:vo≠.bad) (c:Call):o≠.defer c:=by
 rintro rfl;rcases NH h hv with h|⟨x,h,_⟩
 .unfold VD at h;split at h<;>simp at h
 .unfold Tt at h;split at h<;>simp at h
theorem AK {o:Oper}{x:Operand}(hc:Tt P o.op=some (.nextMap x)) {ρ:Plc}{M:Heap}{w:World}{env:Env}{ev:Operand->Value}(hH:HRel ρ M w) (hE:∀ x,X6 x=true->VRel ρ M.n (Q3 env x) (ev x))
  {K:Value->Heap->Prop}(h:LU (Q3 env x) M K):∃ c w',(execOp ev o).run P w=.ok (.value c) w'/\Got ρ M w K c w':=by
 obtain⟨dst,op,ty,pos,after,guard⟩:=o;simp only at hc;unfold Tt at hc;split at hc
 .cases hc
 rename_i ai;simp only[xZ,xQ] at ai;have bG:op=.next x false:=by
  cases op
  case next y b=>cases b<;>simp at hc;subst hc;rfl
  all_goals
   simp only at hc
   repeat' first
    |contradiction
    |(obtain⟨_,h⟩:=EV hc;cases h;done)
    |(cases hc;done)
    |(simp at hc;done)
    |(rw[zJ,x4] at hc;obtain⟨_,_,hc⟩:=hc)
    |split at hc
 subst bG;clear hc;simp[Op.operands] at ai;have hx:=hE x ai;unfold LU at h;split at h
 .rename_i i bq;rw[bq] at hx;split at h
  .rename_i m since seen last hb;split at h
   .rename_i es clock wr aF;obtain⟨h1,ae,h2,h3⟩:=h;obtain⟨p,hp,⟨_,eT⟩,O,hO,rm,rfl,pA⟩:=hH.live i _ hb;obtain⟨q,entries,ic,cC,aB,aG⟩:=Xm hH aF pA;simp at ic;subst ic;obtain⟨_,_,cy⟩:=hx.q0w hp;rw[eT,zV] at cy;have gY:(getObj p.blk).run P w=.ok (.mapIter (some q.blk) since seen.toArray last) w:=Qv hO (λ_ _ _ e=>by cases e);have dj:(getObj q.blk).run P w=.ok (.map entries clock) w:=Qv aB (λ_ _ _ e=>by cases e);let left:=entries.filter λe=>!seen.toArray.contains e.born;let aZ:=left.filter (·.born<since);let new:=left.filter (·.born>=since);let bH:Array (Option MapEntry):=(if aZ.isEmpty then #[none] else #[])++(aZ++new).map some;have br:0<bH.size:=by
     by_cases ho:aZ.isEmpty=true
     .simp only[bH,ho,zx,Array.size_append];show 0<1+_;omega
     .have:aZ.size≠0:=λe=>ho (by simp[Array.isEmpty,e]);simp only[bH,Array.size_append,Array.size_map];omega
    obtain⟨k,w1,hk,dR,qp⟩:∃ k w1,k<bH.size/\(choose (.mapNext bH.size)).run P w=.ok k w1/\(w1=w\/w1=w.drew):=by
     rw[run_choose_drew];by_cases hf:(Question.mapNext bH.size).forced=true
     .exact⟨0,w,br,by rw[z0 hf],.inl rfl⟩
     .refine⟨_,w.drew,?_,by rw[z1 hf],.inr rfl⟩;exact xX _ br
    have iV:HRel ρ M w1:=by rcases qp with rfl|rfl;exact hH;exact hH.drew
    have fL:Ext ρ M w ρ M w1:=by rcases qp with rfl|rfl;exact Ext.refl _ _ _;exact Ext.drew _ _ _
    have tl:w1.heap[p.blk]?=some (.mapIter (some q.blk) since seen.toArray last):=by rcases qp with rfl|rfl<;>exact hO
    have ak:¬ ((!seen.toArray.isEmpty&&!entries.isEmpty&&entries.all (λe=>decide (e.born>=last)))=true):=by
     intro hh;simp only[z2] at hh;obtain⟨⟨h4,h5⟩,h6⟩:=hh;simp only[zp] at h1;rcases h1 with (h1|h1)|h1
     .rw[List.isEmpty_iff] at h1;subst h1;simp at h4
     .rw[List.isEmpty_iff] at h1;subst h1;have:entries=#[]:=by have:=aG.1;simpa using this
      subst this;simp at h5
     .obtain⟨kv,dx,ah⟩:=xi.1 h1;obtain⟨j,hj⟩:=xg.1 dx;have bU:j<entries.toList.length:=by rw[aG.1];exact(z7.1 hj).1
      have he:=aG.2 j entries.toList[j] kv (z3 bU) hj;have:=Array.all_eq_true'.1 h6 entries.toList[j] (by rw[<-Array.mem_toList_iff];exact zn bU);have h7:=he.2.1;simp at this ah;simp at h7;omega
    have aR:∀ r,(match bH[k]? with
      |some (some e)=>(do setObj p.blk (.mapIter (some q.blk) since (seen.toArray.push e.born) clock);pure (Value.tuple #[.bool true,e.key,e.val]):Sem Value)
      |some none=>pure (.tuple #[.bool false])
      |none=>stuck "Next: no such candidate").run P w1=r->(Instr.next (ev x) false ty).run P w=r:=by
     intro r hr;rw[<-hr];simp only[Instr.next,cy,zt,gY,dj,zd];rw[z1 ak];simp only[zt];change ((choose (Question.mapNext bH.size)).run P w).andThen _=_;rw[dR];rfl
    have hval:∀ c w',(Instr.next (ev x) false ty).run P w=.ok c w'->(execOp ev ⟨dst,.next x false,ty,pos,after,guard⟩).run P w=.ok (.value c) w':=λc w' h=>by simp[execOp,h]
    have fh:bH[k]?=some bH[k]:=xh hk;cases hx:bH[k] with
    |none =>
     rw[hx] at fh;have aH:none∈bH:=hx▸Array.getElem_mem hk;have hold:aZ.isEmpty=true:=by
      cases ho:aZ.isEmpty with
      |true=>rfl
      |false=>simp[bH,ho] at aH
     refine⟨_,w1,hval _ _ (aR _ (by rw[fh];rfl)),_,ρ,M,h2 ?_,VRel.q0j (LRel.cons (.bool _) (LRel.nil _ _)),iV,fL⟩;refine z6.2 λkv dx=>?_;obtain⟨j,hj⟩:=xg.1 dx;have bU:j<entries.toList.length:=by rw[aG.1];exact(z7.1 hj).1
     have he:=aG.2 j entries.toList[j] kv (z3 bU) hj;cases tm:seen.contains kv.2.2 with
     |true=>rfl
     |false =>
      simp only[Bool.false_or,zi];rcases zh kv.2.2 since with ah|bw
      .exfalso;have:entries.toList[j]∈aZ:=by
        simp only[aZ,left,Array.mem_filter,zi];refine⟨⟨by rw[<-Array.mem_toList_iff];exact zn bU,?_⟩,by rw[he.2.1];exact ah⟩;rw[he.2.1];simpa using tm
       rw[Array.isEmpty_iff] at hold;rw[hold] at this;simp at this
      .exact bw
    |some e =>
     rw[hx] at fh;have aH:some e∈bH:=hx▸Array.getElem_mem hk;have nF:e∈left:=by
      have h4:e∈aZ++new:=by
       simp only[bH,Array.mem_append,Array.mem_map] at aH;rcases aH with aH|⟨a,ha,py⟩
       .split at aH<;>simp at aH
       .simp at py;subst py;simpa using ha
      rcases Array.mem_append.1 h4 with h4|h4
      .exact(Array.mem_filter.1 h4).1
      .exact(Array.mem_filter.1 h4).1
     obtain⟨hel,mM⟩:=Array.mem_filter.1 nF;rw[<-Array.mem_toList_iff] at hel;obtain⟨j,hj⟩:=xg.1 hel;have bU:j<es.length:=by rw[<-aG.1];exact(z7.1 hj).1
     have he:=aG.2 j e es[j] hj (z3 bU);have iT:=h3 es[j] (zn bU) (by rw[<-he.2.1];simpa using mM);obtain⟨k1,k2⟩:=iV.setObj (o':=.iter m since (seen++[es[j].2.2]) clock) (O':=.mapIter (some q.blk) since (seen.toArray.push e.born) clock) hp hb ⟨q.blk,by rw[he.2.1];simp,pA⟩;have aP:VRel ρ M.n es[j].1 e.key:=by rw[he.1];exact Vp (z6.1 ae _ (zn bU))
     refine⟨_,_,hval _ _ (aR _ (by
      rw[fh];simp only[zt,QJ tl (λ_ _ _ e=>by cases e),zd,x5])),_,ρ,_,iT,VRel.q0j (LRel.cons (.bool _) (LRel.cons aP (LRel.cons he.2.2 (LRel.nil _ _)))),k1,fL.trans k2⟩
   .exact h.elim
  .exact h.elim
 .exact h.elim
theorem O7 (hS:OkSpecs P S) {f:FuncId}{args:List Value}{M:Heap}{K:Value->Heap->Prop}(h:vcall S f args M K):VCalled P f args M K:=by
 unfold vcall at h;split at h
 .rename_i s hs;exact hS.fn f s hs _ _ _ h
 .exact h.elim
theorem EI (hS:OkSpecs P S) {i:Nat}{args:List Value}{M:Heap}{K:Value->Heap->Prop}(h:A3 S i args M K):Pb P i args M K:=by
 unfold A3 at h;split at h
 .rename_i s hs;exact hS.yl i s hs _ _ _ h
 .exact h.elim
theorem Fm {o:Oper}{vo:VOp}(hc:K7 P o.op=vo) {ρ:Plc}{M:Heap}{w:World}{env:Env}{a:Act}(hH:HRel ρ M w) (hL:LRel ρ M.n env a.tmps.toList) {v:Value}{M':Heap}
  (h:Q6 vo (Q3 env) M=some (v,M')):RA P ρ M w v M' (execOp a.eval o):=by
 cases hq:vo.quiet with
 |false=>exact O_ hc hq hH (λx hx=>W2 hL hx) h
 |true =>obtain⟨rfl,c,eF,hr⟩:=Fc hc hq hH (λx hx=>W2 hL hx) h;exact⟨c,w,ρ,.inl (hr w (Like.refl ρ w)),eF,hH,Ext.refl _ _ _⟩
theorem Vr (hS:OkSpecs P S) {ro:Option Nat}{n:Nat}{o:Oper}{vo:VOp}(bG:K7 P o.op=vo) {ρ:Plc}{M:Heap}{w:World}{env:Env}{a:Act}(hH:HRel ρ M w) (hL:LRel ρ M.n env a.tmps.toList)
  {K:Value->Heap->Prop}(h:vop S vo env M K) {next:Act->World->Prop}{Q':Exit->Act->World->Prop}(hn:∀ c w',Got ρ M w K c w'->next (a.put o.dst c) w'):o.wpIn (FF ro) n P a w next Q':=by
 refine⟨λf _=>Ev _ _,?_⟩;have cG:vo≠.bad:=by rintro rfl;exact h.elim
 rw[Oper.semAt_eq _ _ _ (RH bG cG)];by_cases aC:(∃ f bN,vo=.callF f bN)\/(∃ f bN,vo=.callV f bN)
 .have hc:VD P o.op=some vo:=by
   rcases NH bG cG with hc|⟨x,_,hx⟩
   .exact hc
   .subst hx;rcases aC with⟨f,bN,hh⟩|⟨f,bN,hh⟩<;>cases hh
  rcases Q0f (S:=S) hc hL aC h with⟨f,args,az,hv,nw,hr⟩|⟨i,r,args,az,hv,cH,nw,hr⟩
  .rcases O7 hS hv ρ w az hH nw with⟨h1,h2⟩|⟨c,hg,h2⟩
   .rw[hr,h1];exact⟨(λhd=>by rw[RV] at hd;cases hd),(Ay h2).mono λe w' ⟨c,he,hg⟩=>by subst he;exact hn c w' hg⟩
   .rw[hr,h2 w (Like.refl ρ w)];exact hn c w hg
  .obtain⟨p,hp,fn,tmps,fj,body,h1,h2⟩:=EI hS hv ρ w az hH nw;have tn:r=p.blk:=by
    cases cH with
    |yield _ _ _ hh=>exact hh p hp
   rw[hr,tn,h1];exact⟨(λhd=>by rw[RV] at hd;cases hd),(C9 h2).mono λe w' ⟨c,he,hg⟩=>by subst he;exact hn c w' hg⟩
 .by_cases eL:∃ x,vo=.ext (.nextMap x)
  .obtain⟨x,rfl⟩:=eL;have hc:Tt P o.op=some (.nextMap x):=by
    rcases NH bG cG with hc|⟨y,hy,hx⟩
    .have:=AF hc;exact this.elim
    .cases hx;exact hy
   obtain⟨c,w',hr,hg⟩:=AK hc hH (λx hx=>W2 hL hx) h;rw[hr];exact hn c w' hg
  .have gh:∃ v M',Q6 vo (Q3 env) M=some (v,M')/\K v M':=by
    unfold vop at h;split at h
    .exact absurd (.inl ⟨_,_,rfl⟩) aC
    .exact absurd (.inr ⟨_,_,rfl⟩) aC
    .exact absurd ⟨_,rfl⟩ eL
    .cases dS:Q6 vo (Q3 env) M with
     |none=>rw[dS] at h;exact h.elim
     |some p=>rw[dS] at h;exact⟨p.1,p.2,rfl,h⟩
   obtain⟨v,M',dS,hK⟩:=gh;obtain⟨c,w',ρ',aR,eF,gH,hE⟩:=Fm bG hH hL dS;have hg:Got ρ M w K c w':=⟨v,ρ',M',hK,eF,gH,hE⟩;rcases aR with aR|⟨aR,rfl⟩
   .rw[aR];exact hn c w' hg
   .rw[aR];exact hn undef w' hg
def Mks (B:Nat) (ds:List Deferred) (w:World):Prop:=B<=w.heap.size/\∃ Ds:List Nat,ds=Ds.map (λD=>⟨.collected D,#[]⟩)/\Ds.Nodup/\∀ D∈Ds,B<=D/\w.heap[D]?=some (.deferred (some []))
theorem Mks.nil {w:World}(h:B<=w.heap.size):Mks B [] w:=⟨h,[],rfl,List.nodup_nil,λ_ h=>by cases h⟩
theorem Mks.ext {ds:List Deferred}{ρ ρ':Plc}{M M':Heap}{w w':World}(h:Mks B ds w) (hH:HRel ρ M w) (hE:Ext ρ M w ρ' M' w'):Mks B ds w':=by
 obtain⟨h0,Ds,h1,h2,h3⟩:=h;refine⟨zZ h0 hE.size,Ds,h1,h2,λD hD=>⟨(h3 D hD).1,?_⟩⟩;have hb:=(h3 D hD).2;have ah:D<w.heap.size:=by
  rcases zh D w.heap.size with h'|h'
  .exact h'
  .rw[Array.getElem?_eq_none h'] at hb;cases hb
 rw[hE.keep D ah (λ⟨i,p,b,hp,_,_,tq⟩=>hH.q0l hb i p hp tq)];exact hb
def By (B m:Nat) (ρ:Plc) (M:Heap) (w:World) (K:Env->Heap->Prop) (a':Act) (w':World):Prop :=
 ∃ af ρ' M',K af M'/\List.length af=m/\HRel ρ' M' w'/\LRel ρ' M'.n af a'.tmps.toList/\Mks B a'.defers w'/\Ext ρ M w ρ' M' w'
theorem AH (hS:OkSpecs P S) {ro:Option Nat}{n:Nat}(ops:Array Oper) (Q:Exit->Act->World->Prop):∀ (l:List Oper) (lv:List VOper),l.mapM (J5 P ops)=some lv ->
  ∀ (env:Env) (M:Heap) (K:Env->Heap->Prop) (ρ:Plc) (w:World) (a:Act),T1 S lv env M K->HRel ρ M w->LRel ρ M.n env a.tmps.toList->Mks B a.defers w ->
  (∀ a' w',By B (List.length env) ρ M w K a' w'->Q .normal a' w')->wpListIn (FF ro) n P ops Q l a w:=by
 intro l;induction l with
 |nil =>intro lv bR env M K ρ w a h hH hL hd hQ;simp at bR;subst bR;exact hQ a w ⟨env,ρ,M,h,rfl,hH,hL,hd,Ext.refl _ _ _⟩
 |cons o l ih =>
  intro lv bR env M K ρ w a h hH hL hd hQ;rw[xk] at bR;cases bh:J5 P ops o with
  |none=>simp[bh] at bR
  |some vo =>
   cases gO:l.mapM (J5 P ops) with
   |none=>simp[bh,gO] at bR
   |some rJ =>
    simp[bh,gO] at bR;subst bR;simp only[T1] at h;cases hw:J3 env vo.guard with
    |none=>rw[hw] at h;exact h.elim
    |some b =>
     rw[hw] at h;obtain⟨dy,bD,bG⟩:=GO bh hL hw;obtain⟨ht,hf⟩:=h;simp only[wpListIn];rw[dy];cases b with
     |false =>rw[z1 (by simp)];exact⟨λf _=>Ev _ _,ih rJ gO (X7 env vo.dst undef) M K ρ w _ (hf rfl) hH (by rw[bD];exact YQ hL Js o.dst) (by rw[X1];exact hd) (λa' w' hn=>hQ a' w' (by rw[Zp] at hn;exact hn))⟩
     |true =>
      rw[z0 rfl];refine Vr hS bG hH hL (ht rfl) λc w' ⟨v,ρ',M',hK,eF,gH,hE⟩=>?_
      exact ih rJ gO (X7 env vo.dst v) M' K ρ' w' _ hK gH (by rw[bD];exact YQ (hE.lrel hL) eF o.dst) (by rw[X1];exact hd.ext hH hE)
       (λa' pn ⟨nG,eP,aE,k1,k0,k2,k3,k4,k5⟩=>hQ a' pn ⟨nG,eP,aE,k1,by rw[k0,Zp],k2,k3,k4,hE.trans k5⟩)
theorem RC:∀ (l:List Nat) (vs:List Value) (env:Env),(XD l vs env).length=env.length:=by
 intro l;induction l with
 |nil=>intro vs env;cases vs<;>rfl
 |cons i l ih =>
  intro vs env;cases vs with
  |nil=>rfl
  |cons v vs=>simp only[XD];rw[ih];simp
theorem EC {ρ:Plc}{n:Nat}:∀ (l:List Nat) (env base:Env) (cs:List Value),LRel ρ n env cs->LRel ρ n base cs->LRel ρ n (XD l (BE l env) base) cs:=by
 intro l;induction l with
 |nil=>intro env base cs _ hb;exact hb
 |cons i l ih =>
  intro env base cs he hb;simp only[BE,zF,XD];refine ih env _ cs he ?_;refine⟨by simp[hb.1],λj v c hv hc=>?_⟩;by_cases bY:i=j
  .subst bY;rcases zh i (List.length base) with ah|bw
   .rw[List.getElem?_set_self ah] at hv;obtain rfl:=osj hv;have b6:i<List.length env:=by rw[he.1,<-hb.1];exact ah
    have:env.getD i poison=env[i]:=by simp[List.getD,b6]
    rw[this];exact he.2 i _ c (z3 b6) hc
   .rw[zj (by simp;exact bw)] at hv;cases hv
  .rw[List.getElem?_set_ne bY] at hv;exact hb.2 j v c hv hc
theorem EM {ρ:Plc}{n:Nat}(cs:List Value) {m:Nat}(h:m=cs.length):LRel ρ n (List.replicate m poison) cs :=
 ⟨by simp[h],λi v c hv _=>by
  have:=zE hv;rw[List.mem_replicate] at this;rw[this.2];exact .poison c⟩
def RoRel (de ro:Option Nat) (ρ:Plc) (n:Nat):Prop:=(de=none/\ro=none)\/∃ i l,de=some i/\ro=some l/\i<n/\∀ p,ρ i=some p->p.blk=l
theorem RoRel.ext {de ro:Option Nat}{ρ ρ':Plc}{M M':Heap}{w w':World}(h:RoRel de ro ρ M.n) (hE:Ext ρ M w ρ' M' w'):RoRel de ro ρ' M'.n:=by
 rcases h with h|⟨i,l,h1,h2,h3,h4⟩
 .exact .inl h
 .exact .inr ⟨i,l,h1,h2,x8 h3 hE.n,λp hp=>h4 p (hE.pl i h3 p hp)⟩
def Sound (P:Program) (S:VSpecs) (c:Code) (vc:VCode):Prop :=
 ∀ ⦃B:Nat⦄ (de ro:Option Nat) (n:Nat) (Q:Exit->Env->Heap->Prop) (env:Env) (M:Heap) (ρ:Plc) (w:World) (a:Act),vwp S vc de Q env M->HRel ρ M w->LRel ρ M.n env a.tmps.toList->Mks B a.defers w->RoRel de ro ρ M.n ->
  ∀ (Q':Exit->Act->World->Prop),(∀ e a' w',By B (List.length env) ρ M w (Q e) a' w'->Q' e a' w')->c.wpIn (FF ro) n P Q' a w
theorem Fq {ρ:Plc}{n:Nat}:∀ (ps:List Nat) (vs cs:List Value) (env:Env) (tmps:Array Value),LRel ρ n env tmps.toList->LRel ρ n vs cs ->
  LRel ρ n (Hy env ps vs) ((ps.zip cs).foldl (λ(tmps:Array Value) (q:Nat×Value)=>tmps.setIfInBounds q.1 q.2) tmps).toList:=by
 intro ps;induction ps with
 |nil=>intro vs cs env tmps h _;cases vs<;>exact h
 |cons p ps ih =>
  intro vs cs env tmps h hv;cases vs with
  |nil =>
   cases cs with
   |nil=>exact h
   |cons _ _=>have:=hv.1;simp at this
  |cons v vs =>
   cases cs with
   |nil=>have:=hv.1;simp at this
   |cons c cs =>simp only[Hy,List.zip_cons_cons,w4];refine ih vs cs _ _ ?_ ⟨by have:=hv.1;simpa using this,λi a b ha hb=>hv.2 (i+1) a b (by simpa using ha) (by simpa using hb)⟩;rw[Array.toList_setIfInBounds];exact h.set p (hv.2 0 v c rfl rfl)
theorem Xy {w:World}{l:Nat}{r:Loop}(h:w.heap[l]?=some (.loop r)):(Instr.getLoop l).run P w=.ok r w:=by simp[Instr.getLoop,Qv h (λ_ _ _ e=>by cases e)]
theorem Mh {ρ:Plc}{M:Heap}{w:World}(hH:HRel ρ M w) {i:Nat}{env:Env}{r:Loop}{st:LoopState}{pend:Option Code}{wr:Bool}(h:M.get i=some (.obj (.lp env r st pend) wr)) :
  ∃ p,ρ i=some p/\w.heap[p.blk]?=some (.loop {r with state:=st,pending:=pend})/\LRel ρ M.n env r.tmps.toList:=by
 obtain⟨p,hp,_,O,h1,rfl,h2⟩:=hH.live i _ h;exact⟨p,hp,h1,h2⟩
theorem Lx {ρ:Plc}{M:Heap}{w:World}(hH:HRel ρ M w) {i:Nat}{env:Env}{r:Loop}{st:LoopState}{pend:Option Code}{p:Pl}(hp:ρ i=some p) (h:M.get i=some (.obj (.lp env r st pend) true)) (mP:LoopState) (bV:Option Code) :
  HRel ρ (M.upd i (.obj (.lp env r mP bV) true)) (Pk w p.blk (.loop {r with state:=mP,pending:=bV})) /\
  Ext ρ M w ρ (M.upd i (.obj (.lp env r mP bV) true)) (Pk w p.blk (.loop {r with state:=mP,pending:=bV})):=by
 obtain⟨p',bk,h1,h2⟩:=Mh hH h;exact hH.setObj hp h ⟨rfl,h2⟩
theorem LQ {fj body:Code}{va vb:VCode}(ha:Sound P S fj va) (hb:Sound P S body vb) (ps:List Nat) (env:Env) (r:Loop) (fO:r.assign=fj) (dT:r.body=body) (jB:r.params.toList=ps) (i:Nat) :
  Vg P i (A9 (vwp S va (some i)) (vwp S vb (some i)) ps env r i):=by
 intro args M K h ρ w az hH hL;obtain⟨h1,h2,h3⟩:=h;obtain⟨p,hp,aB,lE⟩:=Mh hH h1;refine⟨p,hp,r.fn,(r.params.zip az).foldl (λtmps (t,a)=>tmps.setIfInBounds t a) r.tmps,r.assign,r.body,?_,?_⟩
 .have aD:az.size=r.params.size:=by
   have h4:=hL.1;have:r.params.size=ps.length:=by rw[<-jB];simp
   simp at h4;omega
  simp[Instr.yield,Xy aB,aD]
 .refine roundIn_of_wpIn (F:=Fence.wide) trivial ?_;rw[fO,dT];refine ha (some i) (some p.blk) 0 _ _ M ρ w _ h3 hH ?_ (Mks.nil (z5 _)) (.inr ⟨i,p.blk,rfl,rfl,M.lt h1,λq hq=>by rw[hp] at hq;obtain rfl:=osj hq;rfl⟩) _ ?_
  .have:=Fq ps args az.toList env r.tmps lE hL;rw[<-jB,<-Array.toList_zip,Array.foldl_toList] at this;rw[jB] at this;exact this
  .intro e a1 w1 ⟨bz,ρ1,σ1,k1,k0,k2,k3,k4,k5⟩;cases e with
   |normal =>
    obtain⟨k6,k7⟩:=k1;obtain⟨p1,jC,kg,rK⟩:=Mh k2 k6;have mH:p1=p:=by have:=k5.pl i (M.lt h1) p1 jC;rw[hp] at this;exact(osj this).symm
    subst mH;obtain⟨j1,j2⟩:=Lx k2 jC k6 .busy none;refine⟨_,by simp[Instr.beginRound,Xy kg,QJ kg (λ_ _ _ e=>by cases e)];rfl,?_⟩;refine hb (some i) (some p1.blk) 0 _ _ _ ρ1 _ a1 k7 j1 k3 (k4.ext k2 j2) (.inr ⟨i,p1.blk,rfl,rfl,σ1.lt k6,λq hq=>by rw[jC] at hq;obtain rfl:=osj hq;rfl⟩) _ ?_;intro e2 a2 w2 ⟨aT,ρ2,M2,m1,m0,m2,m3,m4,m5⟩;obtain⟨m6,m7⟩:=m1;obtain⟨p2,dk,eM,rL⟩:=Mh m2 m6;have mH:p2=p1:=by have h8:=m5.pl i (by rw[Heap.q2i];exact σ1.lt k6) p2 dk;rw[jC] at h8;exact(osj h8).symm
    subst mH;cases e2 with
    |normal =>obtain⟨q1,q2⟩:=Lx m2 dk m6 .ready none;refine⟨.bool true,_,?_,_,rfl,.bool true,ρ2,_,m7,.bool _,q1,k5.trans (j2.trans (m5.trans q2))⟩;simp[Instr.endRound,Xy eM,QJ eM (λ_ _ _ e=>by cases e)]
    |ret =>obtain⟨q1,q2⟩:=Lx m2 dk m6 .done (some .ret);refine⟨.bool false,_,?_,_,rfl,.bool false,ρ2,_,m7,.bool _,q1,k5.trans (j2.trans (m5.trans q2))⟩;simp[Instr.endRound,Xy eM,QJ eM (λ_ _ _ e=>by cases e)]
    |exit id =>obtain⟨q1,q2⟩:=Lx m2 dk m6 .done (some (.exit id));refine⟨.bool false,_,?_,_,rfl,.bool false,ρ2,_,m7,.bool _,q1,k5.trans (j2.trans (m5.trans q2))⟩;simp[Instr.endRound,Xy eM,QJ eM (λ_ _ _ e=>by cases e)]
    |goto l=>exact m7.elim
    |panic ch=>exact m7.elim
    |outgrown=>exact m7.elim
   |exit id=>exact k1.elim
   |goto l=>exact k1.elim
   |ret=>exact k1.elim
   |panic ch=>exact k1.elim
   |outgrown=>exact k1.elim
theorem Heap.ext' {M M':Heap}(h:∀ j,M.get j=M'.get j) (hn:M.n=M'.n):M=M':=by obtain⟨g,n,wf⟩:=M;obtain⟨g',n',vi⟩:=M';have hg:g=g':=funext h;have pC:n=n':=hn;subst hg;subst pC;rfl
theorem Mks.push {ds:List Deferred}{w:World}(h:Mks B ds w):Mks B ({target:=.collected w.heap.size,args:=#[]}::ds) (w.alloc (.deferred (some []))):=by
 obtain⟨h0,Ds,h1,h2,h3⟩:=h;have ah:∀ D∈Ds,D<w.heap.size:=λD hD=>by
  rcases zh D w.heap.size with h'|h'
  .exact h'
  .have:=(h3 D hD).2;rw[Array.getElem?_eq_none h'] at this;cases this
 refine⟨by rw[World.size_alloc];omega,w.heap.size::Ds,by rw[h1];rfl,zU.2 ⟨λhh=>wm _ (ah _ hh),h2⟩,λD hD=>?_⟩;rcases zf.1 hD with rfl|hD
 .refine⟨h0,?_⟩;show (w.heap.push _)[w.heap.size]?=_;simp
 .refine⟨(h3 D hD).1,?_⟩;show (w.heap.push _)[D]?=_;rw[Array.getElem?_push,z1 (by have:=ah D hD;omega)];exact(h3 D hD).2
theorem Ext.q1h {ρ:Plc}{M:Heap}(w:World) (O:Obj):Ext ρ M w ρ M (w.alloc O) :=
 ⟨rfl,rfl,rfl,by have:=World.size_alloc w O;omega,λB hB _=>by show (w.heap.push _)[B]?=_;rw[Array.getElem?_push,z1 (by omega)],λ_ _ h=>h,z5 _,λ_ _ _ h=>h⟩
theorem HRel.q1h {ρ:Plc}{M:Heap}{w:World}(h:HRel ρ M w) (O:Obj):HRel ρ M (w.alloc O) :=
 h.world (by have:=World.size_alloc w O;omega) (λi p hp=>by show (w.heap.push _)[p.blk]?=_;rw[Array.getElem?_push,z1 (by have:=h.lt i p hp;omega)]) λg cs hg=>by show (w.heap.push _)[g]?=_;rw[Array.getElem?_push,z1 (by have:=h.tab.lt hg;omega)]
theorem Cn {de ro:Option Nat}{ρ:Plc}{M:Heap}{w:World}{a:Act}{env:Env}(hH:HRel ρ M w) (hL:LRel ρ M.n env a.tmps.toList) (hd:Mks B a.defers w) (hR:RoRel de ro ρ M.n) (aO:Z4k M de) (fn:FuncId) (ps:Array Nat) (fj body:Code) :
  ∃ (r:Loop) (mark:List Deferred) (w1:World) (ρ1:Plc),(Instr.enterLoop fn a.tmps ps fj body ro).run P w=.ok (w1.heap.size-1,mark) w1/\r.assign=fj/\r.body=body/\r.params=ps /\
   HRel ρ1 (M.push (.obj (.lp env r .ready none) true)) w1/\Ext ρ M w ρ1 (M.push (.obj (.lp env r .ready none) true)) w1/\Mks B (mark++a.defers) w1 /\
   (∀ p,ρ1 M.n=some p->p.blk=w1.heap.size-1):=by
 rcases hR with⟨rfl,rfl⟩|⟨i,l,rfl,rfl,hi,fP⟩
 .let w0:=w.alloc (.deferred (some []));have gi:HRel ρ M w0:=hH.q1h _;have qq:Ext ρ M w ρ M w0:=Ext.q1h _ _;let r:Loop:={state:=.ready,pending:=none,fn,tmps:=a.tmps,params:=ps,assign:=fj,body:=body,defers:=w.heap.size};obtain⟨ρ1,h1,h2,h3⟩:=gi.newObj (.lp env r .ready none) (.loop r) ⟨rfl,hL⟩;have aD:(w0.alloc (.loop r)).heap.size-1=w0.heap.size:=by have:=World.size_alloc w0 (.loop r);omega
  refine⟨r,[{target:=.collected w.heap.size,args:=#[]}],w0.alloc (.loop r),ρ1,?_,rfl,rfl,rfl,h2,qq.trans h3,?_,λp hp=>?_⟩
  .rw[aD];simp[Instr.enterLoop];exact⟨(World.size_alloc w _).symm,rfl⟩
  .exact(hd.push).ext gi h3
  .rw[h1] at hp;obtain rfl:=osj hp;rw[aD]
 .obtain⟨tu,r0,st,pend,hb⟩:=aO;obtain⟨p,hp,aB,_⟩:=Mh hH hb;have aY:=fP p hp;subst aY;let r:Loop:={state:=.ready,pending:=none,fn,tmps:=a.tmps,params:=ps,assign:=fj,body:=body,defers:=r0.defers};obtain⟨ρ1,h1,h2,h3⟩:=hH.newObj (.lp env r .ready none) (.loop r) ⟨rfl,hL⟩;have aD:(w.alloc (.loop r)).heap.size-1=w.heap.size:=by have:=World.size_alloc w (.loop r);omega
  refine⟨r,[],w.alloc (.loop r),ρ1,?_,rfl,rfl,rfl,h2,h3,?_,λp hp=>?_⟩
  .rw[aD];simp[Instr.enterLoop,Xy aB];rfl
  .exact hd.ext hH h3
  .rw[h1] at hp;obtain rfl:=osj hp;rw[aD]
theorem LS (hS:OkSpecs P S) {fj body:Code}{va vb:VCode}(ha:Sound P S fj va) (hb:Sound P S body vb) (g:Operand) (hg:X6 g=true) (ps:Array Nat):Sound P S (.rangeFunc g ps fj body) (.rangeF g ps.toList va vb):=by
 intro B de ro n Q env M ρ w a h hH hL hd hR Q' hQ;simp only[vwp,Lk] at h;have gQ:=W2 hL hg;split at h
 .rename_i f first cap bw
  rw[bw] at gQ;split at h
  .rename_i T hT;obtain⟨aO,h⟩:=h;refine wpIn_rangeFunc λfn _=>?_;obtain⟨r,mark,w1,ρ1,he,fO,dT,jB,iV,fL,tv,eR⟩:=Cn (P:=P) hH hL hd hR aO fn ps fj body;obtain⟨ij,nH⟩:=hS.it f T hT;obtain⟨gs,ds,pD,ll,jX⟩:∃ gs ds,a.eval g=.func (.func f) gs ds/\LRel ρ M.n first.toList gs.toList/\LRel ρ M.n cap.toList ds.toList:=by
    cases pD:a.eval g with
    |func vj gs ds =>
     rw[pD] at gQ;cases gQ with
     |func _ _ _ _ _ k1 k2 k3 k4=>exact⟨gs,ds,rfl,LRel.of_array k1 k3,LRel.of_array k2 k4⟩
    |_=>rw[pD] at gQ;cases gQ
   have hY:Vg P M.n (A9 (vwp S va (some M.n)) (vwp S vb (some M.n)) ps.toList env r M.n):=LQ ha hb ps.toList env r fO dT (by rw[jB]) M.n;have lF:=nH M.n _ hY _ _ _ (h r) ρ1 w1 (gs++#[.func (.yield (w1.heap.size-1)) #[] #[]]++ds) iV (by
    have k1:=fL.lrel ll;have k2:=fL.lrel jX;have k3:LRel ρ1 (M.push (.obj (.lp env r .ready none) true)).n [.func (.yield M.n) #[] #[]] [.func (.yield (w1.heap.size-1)) #[] #[]] :=
     LRel.cons (.yield _ _ (by simp) (λp hp=>(eR p hp).symm)) (LRel.nil _ _)
    have:=(k1.append k3).append k2;simpa using this)
   refine⟨w1.heap.size-1,mark,w1,{target:=.fn (.func f) ds,args:=gs++#[.func (.yield (w1.heap.size-1)) #[] #[]]},w1,f,gs++#[.func (.yield (w1.heap.size-1)) #[] #[]]++ds,w1,?_,?_,λ_ _=>Ev _ _,?_,(λhh=>by rw[RV] at hh;cases hh),?_⟩
   .rw[OX];exact he
   .simp[resolve,pD,Deferred.ofValue];rfl
   .simp only[invoke];exact NC ij _ _
   .refine (Ay lF).mono λe w3 ⟨c,tw,v,ρ3,σ3,k1,k2,k3,k4⟩=>?_;subst tw;unfold Q1d at k1;split at k1
    .rename_i af r' st pend iX;obtain⟨aS,k1⟩:=k1;obtain⟨p3,rM,iq,rN⟩:=Mh k3 iX;have aY:p3.blk=w1.heap.size-1:=eR p3 (k4.pl M.n (by simp) p3 rM);obtain⟨q1,q2⟩:=Lx k3 rM iX .exhausted pend;rw[aY] at iq q1 q2;obtain⟨q3,q4⟩:=q1.kill M.n;have ef:(σ3.upd M.n (.obj (.lp af r' .exhausted pend) true)).kill M.n=σ3.kill M.n:=by
      apply Heap.ext'
      .intro j;by_cases hj:j=M.n
       .subst hj;rw[Heap.q0g,Heap.q0g]
       .rw[Heap.q0d _ hj,Heap.q0d _ hj,Heap.q0b _ _ hj]
      .rfl
     rw[ef] at q3 q4;have ki:=fL.trans (k4.trans (q2.trans q4));have b9:=tv.ext iV (k4.trans (q2.trans q4));refine⟨pend,_,by simp[Instr.endLoop,Xy iq,QJ iq (λ_ _ _ e=>by cases e),aS];rfl,?_⟩;have eL:∀ K:Env->Heap->Prop,K env (σ3.kill M.n)->By B (List.length env) ρ M w K {a with defers:=mark++a.defers} (Pk w3 (w1.heap.size-1) (.loop {r' with state:=.exhausted,pending:=pend})):=λK hK =>
      ⟨env,_,_,hK,rfl,q3,ki.lrel hL,b9,ki⟩
     cases pend with
     |none=>exact hQ _ _ _ (eL _ k1)
     |some c =>
      cases c with
      |ret=>exact wpIn_ret (hQ _ _ _ (eL _ k1))
      |exit id=>exact wpIn_exit (hQ _ _ _ (eL _ k1))
      |_=>exact k1.elim
    .exact k1.elim
  .exact h.elim
 .exact h.elim
end
end Go.V
namespace Go.V
open Go
theorem Ye {ev fQ:Operand->Value}(x:Option Operand) (d:Nat) (h:∀ y∈x.toList,ev y=fQ y):J1 ev x d=J1 fQ x d:=by
 cases x with
 |none=>rfl
 |some y=>simp only[J1];rw[h y (by simp)]
theorem ER {o:XOp}{ev fQ:Operand->Value}{M:Heap}(h:∀ x∈o.opds,ev x=fQ x):Zc o ev M=Zc o fQ M:=by cases o<;>simp only[XOp.opds,zf,List.not_mem_nil,or_false,forall_eq_or_imp,forall_eq] at h<;>simp only[Zc]<;>(try simp only[h])
theorem DZ {o:VOp}{ev fQ:Operand->Value}{M:Heap}(h:∀ x∈o.opds,ev x=fQ x):Q6 o ev M=Q6 o fQ M:=by
 cases o
 case build z ps =>
  have:(ps.map λp=>(p.1,p.2.1,ev p.2.2))=ps.map λp=>(p.1,p.2.1,fQ p.2.2):=x9 λp hp=>by rw[h p.2.2 (zq.2 ⟨p,hp,rfl⟩)]
  simp only[Q6,this]
 case buildSlice e z n ps =>
  have:(ps.map λp=>(p.1*e.sz,e.sz,ev p.2))=ps.map λp=>(p.1*e.sz,e.sz,fQ p.2):=x9 λp hp=>by rw[h p.2 (zq.2 ⟨p,hp,rfl⟩)]
  simp only[Q6,this]
 case makeFunc fn a b =>
  have h1:a.map ev=a.map fQ:=x9 λx hx=>h x (xr _ hx);have h2:b.map ev=b.map fQ:=x9 λx hx=>h x (xl _ hx);simp only[Q6,h1,h2]
 case slice size x lo hi mx =>
  have h1:=Ye lo 0 (λy hy=>h y (by simp[VOp.opds] at *;exact .inr (.inl hy)));have h2:∀ n,J1 ev hi n=J1 fQ hi n:=λn=>Ye hi n (λy hy=>h y (by simp[VOp.opds] at *;exact .inr (.inr (.inl hy))));have h3:=Ye mx 0 (λy hy=>h y (by simp[VOp.opds] at *;exact .inr (.inr (.inr hy))));have h4:=h x (by simp[VOp.opds]);simp only[Q6,h4];cases fQ x<;>simp only[h1,h2,h3]
 case sliceStr x lo hi =>
  have h1:=Ye lo 0 (λy hy=>h y (by simp[VOp.opds] at *;exact .inr (.inl hy)));have h2:∀ n,J1 ev hi n=J1 fQ hi n:=λn=>Ye hi n (λy hy=>h y (by simp[VOp.opds] at *;exact .inr (.inr hy)));have h4:=h x (by simp[VOp.opds]);simp only[Q6,h4];cases fQ x<;>simp only[h1,h2]
 case ext o=>exact ER h
 all_goals
  simp only[VOp.opds,zf,List.not_mem_nil,or_false,forall_eq_or_imp,forall_eq] at h;simp only[Q6];try simp only[h]
theorem L7 {S:VSpecs}{o:VOp}{env af:Env}{M:Heap}{K:Value->Heap->Prop}(h:∀ x∈o.opds,Q3 env x=Q3 af x):vop S o env M K=vop S o af M K:=by
 cases o
 case callF f bN =>
  have:bN.map (Q3 env)=bN.map (Q3 af):=x9 h;simp only[vop,this]
 case callV f bN =>
  have h1:Q3 env f=Q3 af f:=h f (by simp[VOp.opds]);have h2:bN.map (Q3 env)=bN.map (Q3 af):=x9 λx hx=>h x (by simp[VOp.opds,hx]);simp only[vop,h1,h2]
 case ext o =>
  by_cases hx:∃ x,o=.nextMap x
  .obtain⟨x,rfl⟩:=hx;have h1:Q3 env x=Q3 af x:=h x (by simp[VOp.opds,XOp.opds]);simp only[vop,h1]
  .have e1:=DZ (M:=M) h;cases o<;>first|exact absurd ⟨_,rfl⟩ hx|(simp only[vop];rw[e1])
 all_goals
  have e1:=DZ (M:=M) h;simp only[vop];rw[e1]
theorem Heap.Le.refl (M:Heap):M.Le M:=⟨z5 _,λ_ _ h=>h⟩
theorem Heap.Le.trans {M M' aE:Heap}(h:M.Le M') (k:M'.Le aE):M.Le aE:=⟨zZ h.1 k.1,λi b hb=>k.2 i b (h.2 i b hb)⟩
theorem Z22 {M M':Heap}(h:M.Le M') {esz:Nat}{v:Value}{xs:List Value}(hx:M.sl esz v=some xs):M'.sl esz v=some xs:=by
 unfold Heap.sl at hx |-;split at hx
 .exact hx
 .rename_i i o n c;split at hx
  .rename_i cs e wr t hb;simp only[h.2 i _ hb];exact hx
  .cases hx
 .cases hx
theorem S0 {M M':Heap}(h:M.Le M') {m:Nat}{x:List Jo×Nat×Bool}(hx:M.mapAt m=some x):M'.mapAt m=some x:=by
 unfold Heap.mapAt at hx |-;split at hx
 .rename_i es clock wr hb;simp only[h.2 m _ hb];exact hx
 .cases hx
theorem Eu {M M':Heap}(h:M.Le M') {kd:Nat}{a b:Value}{r:Bool}(hx:J6 kd a b M=some r):J6 kd a b M'=some r:=by
 unfold J6 at hx |-
 split at hx<;>first
  |exact hx
  |(cases hx;done)
  |skip
 rename_i i o j q;split at hx
 .rename_i hc;obtain⟨h1,h2,h3⟩:=hc;obtain⟨b,hb⟩:=Option.isSome_iff_exists.1 h3;rw[z0 ⟨h1,h2,by rw[h.2 _ _ hb];rfl⟩];exact hx
 .cases hx
theorem Lq {neg:Bool}{s:List MK}{x y:Operand}{ev:Operand->Value}{M M' σ1:Heap}{v:Value}(h:Zc (.eqAgg neg s x y) ev M=some (v,σ1)):Zc (.eqAgg neg s x y) ev M'=some (v,M'):=by
 simp only[Zc] at h |-;split at h
 .split at h
  .rename_i hc;rw[z0 hc];simp at h;obtain⟨rfl,_⟩:=h;rfl
  .cases h
 .cases h
theorem IW {o:XOp}{ev:Operand->Value}{M M' σ1:Heap}{v:Value}(hk:(VOp.ext o).kind≠2) (h:Zc o ev M=some (v,σ1)) (hl:M.Le M'):Zc o ev M'=some (v,M'):=by
 cases o<;>simp only[VOp.kind,VOp.quiet,XOp.quiet] at hk<;>try (exact absurd rfl hk)
 case eqAgg neg s x y=>exact Lq h
 case eqNil kd neg x y =>
  simp only[Zc] at h |-;split at h
  .rename_i r hr;rw[Eu hl hr];simp at h;obtain⟨rfl,_⟩:=h;rfl
  .cases h
 case lookup mk z ok x i =>
  simp only[Zc] at h |-;split at h
  .rename_i bO;rw[z0 bO];split at h
   .simp at h;obtain⟨rfl,_⟩:=h;rfl
   .rename_i m vl;split at h
    .rename_i es clock wr hm;simp only[S0 hl hm];split at h
     .rename_i ae;rw[z0 ae];split at h<;>(rename_i hf;simp at h;obtain⟨rfl,_⟩:=h;rfl)
     .cases h
    .cases h
   .cases h
  .cases h
 case lenMap x =>
  simp only[Zc] at h |-;split at h
  .simp at h;obtain⟨rfl,_⟩:=h;rfl
  .split at h
   .rename_i es clock wr hm;simp only[S0 hl hm];simp at h;obtain⟨rfl,_⟩:=h;rfl
   .cases h
  .cases h
 case entry x =>
  simp only[Zc] at h |-;split at h
  .rename_i i hx;split at h
   .rename_i m since seen last wr hb;simp only[hl.2 i _ hb];split at h
    .rename_i es clock lA b hm cJ;simp only[S0 hl hm,cJ];split at h
     .rename_i cg;rw[z0 cg];split at h
      .rename_i e hf;split at h
       .rename_i hp;rw[z0 hp];simp at h;obtain⟨rfl,_⟩:=h;rfl
       .cases h
      .cases h
     .cases h
    .cases h
   .cases h
  .cases h
 case toUnsafe x =>
  simp only[Zc] at h |-;split at h
  .simp at h;obtain⟨rfl,_⟩:=h;rfl
  .rename_i i o hx;split at h
   .rename_i c e wr t hb;simp only[hl.2 i _ hb];split at h
    .rename_i hc;rw[z0 hc];simp at h;obtain⟨rfl,_⟩:=h;rfl
    .cases h
   .cases h
  .cases h
 case fromUnsafe u sz x =>
  simp only[Zc] at h |-;split at h
  .simp at h;obtain⟨rfl,_⟩:=h;rfl
  .rename_i i o hx;split at h
   .rename_i c e hb;simp only[hl.2 i _ hb];split at h
    .rename_i hc;rw[z0 hc];simp at h;obtain⟨rfl,_⟩:=h;rfl
    .cases h
   .cases h
  .cases h
 case sliceData x =>
  simp only[Zc] at h |-;split at h
  .simp at h;obtain⟨rfl,_⟩:=h;rfl
  .rename_i i o n cap hx;split at h
   .rename_i hc;obtain⟨h1,h2⟩:=hc;obtain⟨b,hb⟩:=Option.isSome_iff_exists.1 h2;rw[z0 ⟨h1,by rw[hl.2 _ _ hb];rfl⟩];simp at h;obtain⟨rfl,_⟩:=h;rfl
   .cases h
  .cases h
 case bytesStr x =>
  simp only[Zc] at h |-;split at h
  .rename_i a n c hx;split at h
   .rename_i xs bB;simp only[Z22 hl bB];split at h
    .rename_i s hs;simp at h;obtain⟨rfl,_⟩:=h;rfl
    .cases h
   .cases h
  .cases h
theorem PN {o:VOp}{ev:Operand -> Value}{M M' σ1:Heap}{v:Value}(hk:o.kind = 0) (h:Q6 o ev M = some (v, σ1)):Q6 o ev M' = some (v, M'):=by
  cases o
  case ext o =>
    cases o <;> first | (simp [VOp.kind, VOp.quiet, XOp.quiet] at hk; done) | skip
    case eqAgg neg s x y => exact Lq h
  case slice size x lo hi mx => cases mx <;> simp [VOp.kind, VOp.quiet] at hk
  case build z ps =>
    simp only [Q6] at h |-;split at h
    . simp at h; obtain ⟨rfl, _⟩:=h; rfl
    . cases h
  all_goals first
    | (simp [VOp.kind, VOp.quiet] at hk; done)
    | skip
  all_goals
    simp only [Q6] at h |-
    (repeat' split at h) <;> first
      | (cases h; done)
      | (rename_i qs; obtain ⟨rfl, rfl, rfl⟩:=qs; simp_all; done)
      | (simp_all; done)
      | (simp_all
         obtain ⟨rfl, _⟩:=h
         first
          | rw [z1 (by omega)]
          | rw [z0 (by omega)])
theorem Hz {o:VOp}{ev:Operand->Value}{M M' σ1:Heap}{v:Value}(hk:o.kind≠2) (h:Q6 o ev M=some (v,σ1)) (hl:M.Le M'):Q6 o ev M'=some (v,M'):=by
 cases o
 case ext o=>exact IW hk h hl
 case load agg size a =>
  simp only[Q6] at h |-;split at h
  .split at h
   .split at h
    .rename_i ae;rw[z0 ae];split at h
     .simp at h;obtain⟨rfl,_⟩:=h;rfl
     .cases h
    .cases h
   .cases h
  .rename_i i o hx;split at h
   .rename_i c e wr t hb;simp only[hl.2 i _ hb];split at h
    .rename_i u hu;simp at h;obtain⟨rfl,_⟩:=h;rfl
    .cases h
   .cases h
  .cases h
 case slice size x lo hi mx =>
  cases mx with
  |some m=>simp[VOp.kind,VOp.quiet] at hk
  |none =>
   simp only[Q6] at h |-;split at h
   .rename_i a n cap hx;split at h
    .rename_i l k eR cj;unfold WD at h |-;split at h
     .rename_i heq;split at h
      .rename_i hc;rw[z0 hc];simp at h;obtain⟨rfl,_⟩:=h;rfl
      .cases h
     .rename_i i o n' aq heq;split at h
      .rename_i c e wr t hb;simp only[hl.2 i _ hb];simp only at h;split at h
       .rename_i hc;rw[z0 hc];simp at h;obtain⟨rfl,_⟩:=h;rfl
       .cases h
      .cases h
     .cases h
    .rename_i hm;cases hm
    .cases h
   .cases h
 all_goals first
  |(exact absurd rfl hk)
  |(exact PN rfl h)
section
variable {P:Program}{S:VSpecs}{B:Nat}
def EL (lv:List VOper) (env:Env) (tr:Nat->Value) (A:Nat->Bool):Nat->Env
 |0=>env
 |i+1=>if A i then X7 (EL lv env tr A i) ((lv[i]?).bind (·.dst)) (tr i) else EL lv env tr A i
theorem KF (lv:List VOper) (env:Env) (tr:Nat->Value) (A:Nat->Bool):∀ i,List.length (EL lv env tr A i)=List.length env
 |0=>rfl
 |i+1=>by
  simp only[EL];split
  .rw[Zp];exact KF lv env tr A i
  .exact KF lv env tr A i
theorem KU (lv:List VOper) (env:Env) {tr tr':Nat->Value}{A B:Nat->Bool}:∀ i,(∀ l,l<i->tr l=tr' l)->(∀ l,l<i->A l=B l)->EL lv env tr A i=EL lv env tr' B i
 |0,_,_=>rfl
 |i+1,h,h'=>by simp only[EL];rw[KU lv env i (λl hl=>h l (by omega)) (λl hl=>h' l (by omega)),h i (by omega),h' i (by omega)]
theorem KH (env:Env) (d:Option Nat) (v:Value) {x:Nat}(h:d≠some x):(X7 env d v)[x]?=env[x]?:=by
 cases d with
 |none=>rfl
 |some d=>simp only[X7];rw[List.getElem?_set_ne (by rintro rfl;exact h rfl)]
theorem Q8i (lv:List VOper) (env:Env) {tr tr':Nat->Value}{A:Nat->Bool}:∀ i,(∀ l,l<i->A l=true->tr l=tr' l)->EL lv env tr A i=EL lv env tr' A i
 |0,_=>rfl
 |i+1,h=>by
  simp only[EL];rw[Q8i lv env i λl hl hA=>h l (by omega) hA];split
  .rename_i hA;rw[h i (by omega) hA]
  .rfl
theorem G1 (lv:List VOper) (env:Env) (tr:Nat->Value) {A B:Nat->Bool}(x:Nat):∀ i,(∀ l,l<i->(lv[l]?).bind (·.dst)=some x->A l=B l)->(EL lv env tr A i)[x]?=(EL lv env tr B i)[x]?
 |0,_=>rfl
 |i+1,h=>by
  have ih:=G1 lv env tr x i (λl hl hd=>h l (by omega) hd);by_cases hd:(lv[i]?).bind (·.dst)=some x
  .have lG:=h i (by omega) hd;simp only[EL];rw[lG];split
   .rw[hd];simp only[X7,xu];rw[KF,KF];rfl
   .exact ih
  .simp only[EL]
   split<;>split<;>first
    |exact ih
    |(rw[KH _ _ _ hd];exact ih)
    |(rw[KH _ _ _ hd,KH _ _ _ hd];exact ih)
theorem D8 (lv:List VOper) (env:Env) (tr:Nat->Value) (j:Nat):∀ i,j<=i->EL lv env tr (λl=>decide (l<j)) i=EL lv env tr (λ_=>true) j
 |0,h=>by
  obtain rfl:j=0:=by omega
  rfl
 |i+1,h=>by
  by_cases hj:j=i+1
  .subst hj;exact KU lv env _ (λ_ _=>rfl) (λl hl=>by simp[hl])
  .simp only[EL];rw[z1 (by simp;omega)];exact D8 lv env tr j i (by omega)
def DFact (S:VSpecs) (d:DInfo) (lv:List VOper) (env:Env) (tr:Nat->Value) (hp:Nat->Heap) (u:Nat) (i:Nat):Prop :=
 ∀ v,lv[i]?=some v->∃ b,J3 (EL lv env tr (λ_=>true) i) v.guard=some b /\
  (b=true->v.op.kind=2->vop S v.op (EL lv env tr (λ_=>true) i) (hp (d.rank i)) (λv' M'=>v'=tr i/\M'=hp (d.rank i+1))) /\
  (b=true->v.op.kind=1->∀ r,d.kmin i<=r->r<=d.kmax i->r<=u->∃ M',Q6 v.op (Q3 (EL lv env tr (λ_=>true) i)) (hp r)=some (tr i,M')) /\
  (b=true->v.op.kind≠1->v.op.kind≠2->∃ M',Q6 v.op (Q3 (EL lv env tr (λ_=>true) i)) (hp (d.rank i))=some (tr i,M')) /\
  (b=false->tr i=undef/\(v.op.kind=2->hp (d.rank i+1)=hp (d.rank i)))
def Q7a (d:DInfo) (lv:List VOper) (env:Env) (tr:Nat->Value) (i:Nat) (pend:List (Nat×(Heap->Prop))):Prop :=
 ∀ l,l<i->∀ v,lv[l]?=some v->J3 (EL lv env tr (λ_=>true) l) v.guard=some true->v.op.kind=1->d.rank i+1<=d.kmax l->(d.kmax l,JQ v.op (Q3 (EL lv env tr (λ_=>true) l)) (tr l))∈pend
inductive Know (S:VSpecs) (d:DInfo) (lv:List VOper) (env:Env) (K:Env->Heap->Prop):List Nat->Nat->(Nat->Value)->(Nat->Heap)->Prop
 |full {nd:List Nat}{tr:Nat->Value}{hp:Nat->Heap}(hF:∀ l,l<lv.length->l∉nd->DFact S d lv env tr hp (d.rank lv.length) l) (hK:K (EL lv env tr (λ_=>true) lv.length) (hp (d.rank lv.length))):Know S d lv env K nd lv.length tr hp
 |part {nd:List Nat}{i:Nat}{tr:Nat->Value}{hp:Nat->Heap}{v:VOper}(hv:lv[i]?=some v) (hk:v.op.kind=2) (hw:J3 (EL lv env tr (λ_=>true) i) v.guard=some true)
   (hF:∀ l,l<i->l∉nd->DFact S d lv env tr hp (d.rank i) l) (kj:∀ j,i<j->j<lv.length->∃ e u,i<=e/\e<j/\lv[e]?=some u/\((∃ x,u.dst=some x/\∀ v,lv[j]?=some v->x∈KS v)\/(u.op.kind=2/\∀ v,lv[j]?=some v->v.op.kind=2)))
   (R:Value->Heap->Prop) (gj:vop S v.op (EL lv env tr (λ_=>true) i) (hp (d.rank i)) R)
   (I:∀ u M',R u M'->Nat) (T:∀ u M',R u M'->Nat->Value) (H:∀ u M',R u M'->Nat->Heap)
   (hT:∀ u M' h,i<I u M' h/\(∀ l,l<i->T u M' h l=tr l)/\T u M' h i=u/\(∀ r,r<=d.rank i->H u M' h r=hp r)/\H u M' h (d.rank i+1)=M')
   (next:∀ u M' h,Know S d lv env K (i::nd) (I u M' h) (T u M' h) (H u M' h)):Know S d lv env K nd i tr hp
theorem Sy {r:Nat}{M:Heap}:∀ {l:List (Nat×(Heap->Prop))},JP r M l->∀ c∈l,r<=c.1->c.2 M
 |[],_,_,h=>by cases h
 |x::l,h,c,hc=>by
  rcases zf.1 hc with rfl|hc
  .exact h.1
  .exact Sy h.2 c hc
theorem Hs {op:VOp}{ev:Operand->Value}{v:Value}{U:Heap}(h:JQ op ev v U):∃ M',Q6 op ev U=some (v,M'):=by
 unfold JQ at h;cases hv:Q6 op ev U with
 |none=>rw[hv] at h;exact h.elim
 |some q =>rw[hv] at h;have h:q.1=v:=h;exact⟨q.2,by rw[<-h]⟩
theorem DFact.congr {d:DInfo}{lv:List VOper}{env:Env}{tr tr':Nat->Value}{hp bk:Nat->Heap}{u u' l:Nat}(h:DFact S d lv env tr hp u l) (ht:∀ k,k<=l->tr' k=tr k) (hh:∀ r,r<=u->bk r=hp r) (hr:d.rank l<=u) (h2:∀ v,lv[l]?=some v->v.op.kind=2->d.rank l+1<=u)
  (hu:∀ v,lv[l]?=some v->J3 (EL lv env tr (λ_=>true) l) v.guard=some true->v.op.kind=1->∀ r,u<r->r<=u'->r<=d.kmax l->∃ M',Q6 v.op (Q3 (EL lv env tr (λ_=>true) l)) (bk r)=some (tr l,M')):DFact S d lv env tr' bk u' l:=by
 intro v hv;obtain⟨b,f1,f2,f3,f4,f5⟩:=h v hv;have e:=KU lv env (tr:=tr') (tr':=tr) (A:=λ_=>true) (B:=λ_=>true) l (λk hk=>ht k (by omega)) (λ_ _=>rfl);rw[e,ht l (z5 _),hh _ hr];refine⟨b,f1,λhb hk=>?_,λhb hk r r1 r2 r3=>?_,f4,λhb=>⟨(f5 hb).1,λhk=>?_⟩⟩
 .rw[hh _ (h2 v hv hk)];exact f2 hb hk
 .rcases zh u r with ah|bw
  .subst hb;exact hu v hv f1 hk r ah r3 r2
  .rw[hh r bw];exact f3 hb hk r r1 r2 bw
 .rw[hh _ (h2 v hv hk)];exact(f5 hb).2 hk
theorem Rg:∀ (d:DInfo) (rest:List VOper) (i:Nat) (xs:List Nat),waits xs (d.opers rest i)=true->∀ (k:Nat) (v:VOper),rest[k]?=some v->v.op.kind=2\/(∃ x∈xs,x∈KS v)\/∃ (e:Nat) (u:VOper) (x:Nat),e<k/\rest[e]?=some u/\u.dst=some x/\x∈KS v
 |d,[],i,xs,_,k,v,hv=>by simp at hv
 |d,o::rest,i,xs,h,k,v,hv=>by
  simp only[DInfo.opers,waits,z2,zp,xi,zS] at h;obtain⟨h1,h2⟩:=h;cases k with
  |zero =>
   obtain rfl:o=v:=by simpa using hv
   rcases h1 with h1|⟨x,hx,bB⟩
   .exact .inl h1
   refine .inr (.inl ⟨x,by simpa using bB,?_⟩);simp only[KS,zu] at hx |-;rcases hx with hx|hx
   .exact .inl (.inr hx)
   .exact .inr hx
  |succ k =>
   rcases Rg d rest (i+1) _ h2 k v (by simpa using hv) with h3|⟨y,hy,rO⟩|⟨e,u,y,he,hu,hd,hn⟩
   .exact .inl h3
   .rcases zu.1 hy with hy|hy
    .exact .inr (.inr ⟨0,o,y,by omega,rfl,by simpa using hy,rO⟩)
    .exact .inr (.inl ⟨y,hy,rO⟩)
   .exact .inr (.inr ⟨e+1,u,y,by omega,by simpa using hu,hd,hn⟩)
theorem SD (d:DInfo) {i j:Nat}(h:i<=j):d.rank i<=d.rank j:=by
 induction j with
 |zero =>
  obtain rfl:i=0:=by omega
  exact z5 _
 |succ j ih =>
  by_cases bY:i=j+1
  .subst bY;exact z5 _
  .have:=ih (by omega);simp only[DInfo.rank];split<;>omega
theorem Q8k (d:DInfo) (lv:List VOper) (kn:∀ i v,lv[i]?=some v->d.k i=v.op.kind) (env:Env) (K:Env->Heap->Prop):∀ (rest:List VOper) (i:Nat),i<=lv.length->lv.drop i=rest->∀ (nd:List Nat) (tp:Nat->Value) (hq:Nat->Heap) (pend:List (Nat×(Heap->Prop))),
  (∀ l,l<i->l∉nd->DFact S d lv env tp hq (d.rank i) l)->Q7a d lv env tp i pend ->
  Zm S (d.opers rest i) (EL lv env tp (λ_=>true) i) ((List.range (d.rank i+1)).map hq) (hq (d.rank i)) pend K ->
  ∃ k tr hp,i<=k/\(∀ l,l<i->tr l=tp l)/\(∀ r,r<=d.rank i->hp r=hq r)/\Know S d lv env K nd k tr hp:=by
 intro rest;induction rest with
 |nil =>
  intro i fP hi nd tp hq pend hF hP h;have hl:lv.length<=i:=by simpa using hi
  obtain rfl:i=lv.length:=by omega
  simp only[DInfo.opers,Zm] at h;exact⟨_,tp,hq,z5 _,λ_ _=>rfl,λ_ _=>rfl,.full hF h⟩
 |cons v rest ih =>
  intro i fP hi nd tp hq pend hF hP h;have ah:i<lv.length:=by
   rcases zh i lv.length with h'|h'
   .exact h'
   .rw[List.drop_eq_nil_of_le h'] at hi;cases hi
  have hv:lv[i]?=some v:=by have:=congrArg List.head? hi;rw[List.head?_drop] at this;simpa using this
  have dU:lv.drop (i+1)=rest:=by have:=congrArg List.tail hi;simpa using this
  have hk:=kn i v hv;have fO:v.op.kind=2->d.rank (i+1)=d.rank i+1:=λe=>by simp only[DInfo.rank,hk,e,zx]
  have iW:v.op.kind≠2->d.rank (i+1)=d.rank i:=λe=>by simp only[DInfo.rank,hk,e,if_false]
  have dm:∀ l,l<i->d.rank l<=d.rank i/\∀ w,lv[l]?=some w->w.op.kind=2->d.rank l+1<=d.rank i:=λl hl=>by have h1:=SD d (show l+1<=i by omega);refine⟨by simp only[DInfo.rank] at h1;split at h1<;>omega,λw hw h2=>?_⟩;simp only[DInfo.rank,kn l w hw,h2,zx] at h1;exact h1
  simp only[DInfo.opers,Zm] at h;have hlen:((List.range (d.rank i+1)).map hq).length=d.rank i+1:=by simp
  cases hw:J3 (EL lv env tp (λ_=>true) i) v.guard with
  |none=>rw[hw] at h;exact h.elim
  |some b =>
   rw[hw] at h;obtain⟨ht,hf⟩:=h
   have go:∀ (i_:List Nat) (u:Value) (M':Heap) (bV:List (Nat×(Heap->Prop))),(∀ l,l∈nd->l∈i_) ->
     Zm S (d.opers rest (i+1)) (X7 (EL lv env tp (λ_=>true) i) v.dst u) (if v.op.kind=2 then (List.range (d.rank i+1)).map hq++[M'] else (List.range (d.rank i+1)).map hq) (if v.op.kind=2 then M' else hq (d.rank i)) bV K ->
     (v.op.kind=2->JP (d.rank i+1) M' pend)->(∀ c∈pend,c∈bV) ->
     (b=true->v.op.kind=1->d.rank i+1<=d.kmax i->(d.kmax i,JQ v.op (Q3 (EL lv env tp (λ_=>true) i)) u)∈bV) ->
     (i∉i_->∀ tr hp,(∀ l,l<i->tr l=tp l)->tr i=u->(∀ r,r<=d.rank i->hp r=hq r)->(v.op.kind=2->hp (d.rank i+1)=M')->DFact S d lv env tr hp (d.rank (i+1)) i) ->
     ∃ k tr hp,i<k/\(∀ l,l<i->tr l=tp l)/\tr i=u/\(∀ r,r<=d.rank i->hp r=hq r)/\(v.op.kind=2->hp (d.rank i+1)=M')/\Know S d lv env K i_ k tr hp:=by
    intro i_ u M' bV eA h ku eU ja nJ;let g7:Nat->Value:=λl=>if l=i then u else tp l
    let cC:Nat->Heap:=λr=>if v.op.kind=2/\r=d.rank i+1 then M' else hq r
    have et:∀ l,l<i->g7 l=tp l:=λl hl=>by simp[g7];intro e;omega
    have ei:g7 i=u:=by simp[g7]
    have eh:∀ r,r<=d.rank i->cC r=hq r:=λr hr=>by simp only[cC];rw[z1 (by omega)]
    have qt:v.op.kind=2->cC (d.rank i+1)=M':=λau=>by simp[cC,au]
    have e1:EL lv env g7 (λ_=>true) (i+1)=X7 (EL lv env tp (λ_=>true) i) v.dst u:=by simp only[EL,zx];rw[KU lv env (tr:=g7) (tr':=tp) i et (λ_ _=>rfl),hv,ei];rfl
    have e2:(List.range (d.rank (i+1)+1)).map cC=if v.op.kind=2 then (List.range (d.rank i+1)).map hq++[M'] else (List.range (d.rank i+1)).map hq:=by
     simp only[DInfo.rank,hk];split
     .rename_i au;rw[List.range_succ,xB];congr 1
      .exact x9 λr hr=>eh r (by have:=zr.1 hr;omega)
      .simp[cC,au]
     .rename_i au;exact x9 λr hr=>by simp[cC,au]
    have e3:cC (d.rank (i+1))=if v.op.kind=2 then M' else hq (d.rank i):=by simp only[DInfo.rank,hk];split<;>rename_i au<;>simp[cC,au]
    have tx:∀ l,l<i+1->l∉i_->DFact S d lv env g7 cC (d.rank (i+1)) l:=λl hl gk=>by
     by_cases iu:l=i
     .subst iu;exact nJ gk g7 cC et ei eh qt
     .have iu:l<i:=by omega
      refine (hF l iu λh=>gk (eA l h)).congr (λk hk=>et k (by omega)) eh (dm l iu).1 (dm l iu).2 λw dp lH bu r r1 r2 r3=>?_;by_cases au:v.op.kind=2
      .rw[fO au] at r2;obtain rfl:r=d.rank i+1:=by omega
       rw[qt au];exact Hs (Sy (ku au) _ (hP l iu w dp lH bu (by omega)) (by simpa using r3))
      .rw[iW au] at r2;omega
    have tz:Q7a d lv env g7 (i+1) bV:=λl hl w dp lH bu mO=>by
     by_cases iu:l=i
     .subst iu;rw[hv] at dp;obtain rfl:=osj dp;have e:=KU lv env (tr:=g7) (tr':=tp) (A:=λ_=>true) (B:=λ_=>true) l et (λ_ _=>rfl);rw[e] at lH |-;rw[hw] at lH;obtain rfl:b=true:=by simpa using lH
      rw[ei];exact ja rfl bu (by rw[iW (by omega)] at mO;exact mO)
     .have iu:l<i:=by omega
      have e:=KU lv env (tr:=g7) (tr':=tp) (A:=λ_=>true) (B:=λ_=>true) l (λk hk=>et k (by omega)) (λ_ _=>rfl);rw[e] at lH |-;rw[et l iu];have hle:d.rank i<=d.rank (i+1):=by simp only[DInfo.rank];split<;>omega
      exact eU _ (hP l iu w dp lH bu (by omega))
    obtain⟨k,tr,hp,k0,k1,k2,k3⟩:=ih (i+1) (by omega) dU i_ g7 cC bV tx tz (by rw[e1,e2,e3];exact h);have hle:d.rank i<=d.rank (i+1):=by simp only[DInfo.rank];split<;>omega
    exact⟨k,tr,hp,by omega,λl hl=>by rw[k1 l (by omega),et l hl],by rw[k1 i (by omega),ei],λr hr=>by rw[k2 r (by omega),eh r hr],λau=>by rw[k2 _ (by rw[fO au];exact z5 _),qt au],k3⟩
   have weak:∀ {i_:List Nat}{u:Value}{M':Heap},(∃ k tr hp,i<k/\(∀ l,l<i->tr l=tp l)/\tr i=u/\(∀ r,r<=d.rank i->hp r=hq r)/\(v.op.kind=2->hp (d.rank i+1)=M')/\Know S d lv env K i_ k tr hp)->∃ k tr hp,i<=k/\(∀ l,l<i->tr l=tp l)/\(∀ r,r<=d.rank i->hp r=hq r)/\Know S d lv env K i_ k tr hp:=by rintro i_ u M' ⟨k,tr,hp,h0,h1,_,h2,_,h3⟩;exact⟨k,tr,hp,by omega,h1,h2,h3⟩
   have fact:∀ {u:Value}{M':Heap},(b=true->v.op.kind=1->∀ r,d.kmin i<=r->r<=d.rank i->JQ v.op (Q3 (EL lv env tp (λ_=>true) i)) u (hq r))->(b=true->v.op.kind≠1->v.op.kind≠2->∃ aE,Q6 v.op (Q3 (EL lv env tp (λ_=>true) i)) (hq (d.rank i))=some (u,aE))->(b=false->u=undef/\(v.op.kind=2->M'=hq (d.rank i)))->(b=true->v.op.kind=2->vop S v.op (EL lv env tp (λ_=>true) i) (hq (d.rank i)) (λv' aE=>v'=u/\aE=M')) ->
     ∀ tr hp,(∀ l,l<i->tr l=tp l)->tr i=u->(∀ r,r<=d.rank i->hp r=hq r)->(v.op.kind=2->hp (d.rank i+1)=M')->DFact S d lv env tr hp (d.rank (i+1)) i:=by
    intro u M' g1 g2 g3 k5 tr hp k1 k2 k3 k4 v' gB;rw[hv] at gB;obtain rfl:=osj gB;have e:=KU lv env (tr:=tr) (tr':=tp) (A:=λ_=>true) (B:=λ_=>true) i k1 (λ_ _=>rfl);rw[e,k2,k3 _ (z5 _)];refine⟨b,hw,λhb au=>by rw[k4 au];exact k5 hb au,λhb bu r r1 r2 r3=>?_,g2,λhb=>⟨(g3 hb).1,λau=>by rw[k4 au];exact(g3 hb).2 au⟩⟩;rw[iW (by omega)] at r3;rw[k3 r r3];exact Hs (g1 hb bu r r1 r3)
   cases b with
   |false =>
    have hf:=hf rfl;by_cases au:v.op.kind=2
    .rw[z0 au] at hf;obtain⟨jC,hf⟩:=hf;exact weak (go nd undef (hq (d.rank i)) pend (λ_ h=>h) (by rw[z0 au,ite_self];exact hf) (λ_=>by rw[hlen] at jC;exact jC) (λ_ h=>h) (λh=>by cases h) (λ_=>fact (λh=>by cases h) (λh=>by cases h) (λ_=>⟨rfl,λ_=>rfl⟩) (λh=>by cases h)))
    .rw[z1 au] at hf;exact weak (go nd undef (hq (d.rank i)) pend (λ_ h=>h) (by rw[z1 au,ite_self];exact hf) (λh=>absurd h au) (λ_ h=>h) (λh=>by cases h) (λ_=>fact (λh=>by cases h) (λh=>by cases h) (λ_=>⟨rfl,λ_=>rfl⟩) (λh=>by cases h)))
   |true =>
    have ht:=ht rfl;by_cases au:v.op.kind=2
    .rw[z0 au] at ht;rw[hlen] at ht;rcases ht with⟨u,M',h1,h2,h3⟩|⟨gR,gj⟩
     .exact weak (go nd u M' pend (λ_ h=>h) (by rw[z0 au,z0 au];exact h3) (λ_=>h2) (λ_ h=>h) (λ_ hk=>by omega) (λ_=>fact (λ_ hk=>by omega) (λ_ _ hk=>absurd au hk) (λh=>by cases h) (λ_ _=>h1)))
     .have nx:∀ u M',(JP (d.rank i+1) M' pend/\Zm S (d.opers rest (i+1)) (X7 (EL lv env tp (λ_=>true) i) v.dst u) ((List.range (d.rank i+1)).map hq++[M']) M' pend K) ->
        ∃ k tr hp,i<k/\(∀ l,l<i->tr l=tp l)/\tr i=u/\(∀ r,r<=d.rank i->hp r=hq r)/\(v.op.kind=2->hp (d.rank i+1)=M')/\Know S d lv env K (i::nd) k tr hp:=λu M' ⟨h2,h3⟩ =>
       go (i::nd) u M' pend (λ_ h=>z9 _ h) (by rw[z0 au,z0 au];exact h3) (λ_=>h2) (λ_ h=>h) (λ_ hk=>by omega) (λh=>absurd ze h)
      refine⟨i,tp,hq,z5 _,λ_ _=>rfl,λ_ _=>rfl,.part hv au hw hF (λj hj aN=>?_) _ gj (λu M' h=>(nx u M' h).choose) (λu M' h=>(nx u M' h).choose_spec.choose) (λu M' h=>(nx u M' h).choose_spec.choose_spec.choose) (λu M' h=>?_) (λu M' h=>?_)⟩
      .obtain⟨n,hn⟩:∃ n,j=i+1+n:=⟨j-(i+1),by omega⟩;subst hn;have tA:∀ k w,lv[i+1+k]?=some w->rest[k]?=some w:=λk w dp=>by
        rw[<-dU,zw];exact dp
       have qu:∀ k w,rest[k]?=some w->lv[i+1+k]?=some w:=λk w dp=>by rw[<-dU,zw] at dp;exact dp
       have pE:=z3 aN;rcases Rg d rest (i+1) _ gR n _ (tA n _ pE) with nK|⟨x,hx,jD⟩|⟨e,u,x,he,hu,hd,jD⟩
       .exact⟨i,v,z5 _,by omega,hv,.inr ⟨au,λw dp=>by rw[pE] at dp;obtain rfl:=osj dp;exact nK⟩⟩
       .exact⟨i,v,z5 _,by omega,hv,.inl ⟨x,by simpa using hx,λw dp=>by rw[pE] at dp;obtain rfl:=osj dp;exact jD⟩⟩
       .exact⟨i+1+e,u,by omega,by omega,qu e u hu,.inl ⟨x,hd,λw dp=>by rw[pE] at dp;obtain rfl:=osj dp;exact jD⟩⟩
      .obtain⟨q1,q2,q3,q4,q5,_⟩:=(nx u M' h).choose_spec.choose_spec.choose_spec;exact⟨q1,q2,q3,q4,q5 au⟩
      .exact(nx u M' h).choose_spec.choose_spec.choose_spec.2.2.2.2.2
    .rw[z1 au] at ht;by_cases bu:v.op.kind=1
     .rw[z0 bu] at ht;cases dS:Q6 v.op (Q3 (EL lv env tp (λ_=>true) i)) (hq (d.rank i)) with
      |none=>rw[dS] at ht;exact ht.elim
      |some p =>
       rw[dS] at ht;obtain⟨g1,g2⟩:=ht;refine weak (go nd p.1 (hq (d.rank i)) _ (λ_ h=>h) (by rw[z1 au,ite_self];exact g2) (λh=>absurd h au) (λc hc=>?_) (λ_ _ hr=>?_) (λ_=>fact (λ_ _ r tB tC=>?_) (λ_ hk=>absurd bu hk) (λh=>by cases h) (λ_ hk=>absurd hk au)))
       .split
        .exact z9 _ hc
        .exact hc
       .rw[z0 (by rw[hlen];exact hr)];simp
       .refine g1 _ ?_;rw[xg];refine⟨r-d.kmin i,?_⟩;rw[zw,zQ,List.getElem?_range (by omega)];simp;congr 1;omega
     .rw[z1 bu] at ht;cases dS:Q6 v.op (Q3 (EL lv env tp (λ_=>true) i)) (hq (d.rank i)) with
      |none=>rw[dS] at ht;exact ht.elim
      |some p =>rw[dS] at ht;exact weak (go nd p.1 (hq (d.rank i)) pend (λ_ h=>h) (by rw[z1 au,ite_self];exact ht) (λh=>absurd h au) (λ_ h=>h) (λ_ hk=>absurd hk bu) (λ_=>fact (λ_ hk=>absurd hk bu) (λ_ _ _=>⟨p.2,dS⟩) (λh=>by cases h) (λ_ hk=>absurd hk au)))
structure DOk (d:DInfo) (n:Nat):Prop where
 edge:∀ j,j<n->∀ e∈d.ed.getD j [],e<j
 path:∀ j,j<n->∀ i,i<j->d.lt i j=true->∃ e∈d.ed.getD j [],e=i\/(i<e/\d.lt i e=true)
 free:∀ j,j<n->∀ i,i<j->d.lt i j=false->d.touch i j=false/\¬(d.k i=2/\d.k j=2)
 kmin:∀ j,j<n->d.k j=1->(d.kmin j<=d.rank j/\d.rank j<=d.kmax j)/\d.kmax j<=d.rank n/\∀ l,l<n->d.k l=2->((d.lt l j=true<->d.rank l<d.kmin j)/\(d.lt j l=true<->d.kmax j<=d.rank l))
theorem DOk.of {d:DInfo}(h:d.ok=true):DOk d d.ks.length:=by
 have h0:∀ j,j<d.ks.length->d.okE j=true/\d.okP j=true/\d.okK j=true:=λj hj=>by have:=z6.1 h j (zr.2 hj);simpa [z2] using this
 refine⟨λj hj e he=>?_,λj hj i hi ah=>?_,λj hj i hi ah=>?_,λj hj hk=>?_⟩
 .have:=z6.1 (h0 j hj).1 e he;simpa using this
 .have:=z6.1 (h0 j hj).2.1 i (zr.2 hi);simp only[ah,zx,xi,zp,z2,zi,zS] at this;exact this
 .have:=z6.1 (h0 j hj).2.1 i (zr.2 hi);simp[ah] at this;exact⟨this.1,λhk=>this.2.elim (λh=>h hk.1) (λh=>h hk.2)⟩
 .have:=(h0 j hj).2.2;simp only[DInfo.okK,hk,BEq.rfl,xW,Bool.false_or,z2,zi] at this;refine⟨this.1,this.2.1,λl hl au=>?_⟩;have h1:=z6.1 this.2.2 l (zr.2 hl);simp only[au,BEq.rfl,xW,Bool.false_or,z2,zS] at h1;rw[h1.1,h1.2];simp
theorem Gf (d:DInfo) {i j:Nat}(h:i<j) (hk:d.k i=2):d.rank i<d.rank j:=by have:=SD d (show i+1<=j from h);simp only[DInfo.rank,hk,zx] at this;omega
theorem VY (d:DInfo):∀ j r,r<d.rank j->∃ l,l<j/\d.k l=2/\d.rank l=r
 |0,r,h=>by simp[DInfo.rank] at h
 |j+1,r,h=>by
  simp only[DInfo.rank] at h;split at h
  .rename_i hk;rcases zh r (d.rank j) with h'|h'
   .obtain⟨l,h1,h2⟩:=VY d j r h';exact⟨l,by omega,h2⟩
   .exact⟨j,by omega,hk,by omega⟩
  .obtain⟨l,h1,h2⟩:=VY d j r h;exact⟨l,by omega,h2⟩
theorem NB {d:DInfo}{n:Nat}(hd:DOk d n) {A:Nat->Bool}(hc:∀ j,j<n->A j=true->∀ e∈d.ed.getD j [],A e=true):∀ j,j<n->A j=true->∀ i,i<j->d.lt i j=true->A i=true:=by
 intro j;induction j using Nat.strongRecOn with
 |ind j ih =>
  intro hj hA i hi ah;obtain⟨e,he,h⟩:=hd.path j hj i hi ah;have nL:=hd.edge j hj e he;have gI:=hc j hj hA e he;rcases h with rfl|⟨h1,h2⟩
  .exact gI
  .exact ih e nL (by omega) gI i h1 h2
def cnt (A:Nat->Bool):Nat->Nat
 |0=>0
 |i+1=>cnt A i+if A i then 0 else 1
theorem Ae {A:Nat->Bool}:∀ {n},cnt A n=0->∀ i,i<n->A i=true
 |0,_,i,h=>by omega
 |n+1,hc,i,h=>by
  simp only[cnt] at hc;by_cases hi:i=n
  .subst hi;split at hc
   .assumption
   .omega
  .exact Ae (n:=n) (by omega) i (by omega)
theorem Ig {A B:Nat->Bool}{j:Nat}(hA:A j=false) (hB:B j=true) (h:∀ i,i≠j->A i=B i):∀ n,j<n->cnt A n=cnt B n+1
 |0,hj=>by omega
 |n+1,hj=>by
  simp only[cnt];by_cases aN:j=n
  .subst aN;have:cnt A j=cnt B j:=by
    have key:∀ m,m<=j->cnt A m=cnt B m:=by
     intro m;induction m with
     |zero=>intro _;rfl
     |succ m ih=>intro hm;simp only[cnt];rw[ih (by omega),h m (by omega)]
    exact key j (z5 _)
   simp[hA,hB,this]
  .have:=Ig hA hB h n (by omega);rw[h n (by omega)];omega
theorem Q5s (o:VOp):o.kind<=2:=by
 unfold VOp.kind;split<;>try omega
 split<;>omega
theorem Q4k {o:VOp}{env:Env}{M:Heap}{p:Value×Heap}{K:Value->Heap->Prop}(hk:o.kind≠2) (h:Q6 o (Q3 env) M=some p) (hK:K p.1 p.2):vop S o env M K:=by
 cases o
 case callF=>exact absurd rfl hk
 case callV=>exact absurd rfl hk
 case ext x =>
  cases x
  case nextMap=>exact absurd rfl hk
  all_goals (simp only[vop];rw[h];exact hK)
 all_goals (simp only[vop];rw[h];exact hK)
theorem Dr {o:VOp}{ev:Operand->Value}{M M':Heap}{v:Value}(hk:o.kind≠2) (h:Q6 o ev M=some (v,M')):M'=M:=by have:=Hz hk h (Heap.Le.refl M);rw[h] at this;simp at this;exact this
theorem TU {env af:Env}{g:Option (Nat×Bool)}(h:∀ x b,g=some (x,b)->env[x]?=af[x]?):J3 env g=J3 af g:=by
 cases g with
 |none=>rfl
 |some p =>obtain⟨x,b⟩:=p;simp only[J3,z4];rw[h x b rfl]
theorem T_ {env af:Env}{x:Operand}(h:∀ t,x=.tmp t->env[t]?=af[t]?):Q3 env x=Q3 af x:=by
 cases x<;>try rfl
 rename_i t;simp only[Q3,z4];rw[h t rfl]
structure DInv (B:Nat) (d:DInfo) (lv:List VOper) (env:Env) (tr:Nat->Value) (hp:Nat->Heap) (ρ0:Plc) (σ0:Heap) (w0:World) (A:Nat->Bool) (a:Act) (w:World):Prop where
 closed:∀ j,j<lv.length->A j=true->∀ e∈d.ed.getD j [],A e=true
 run:∃ m ρ,(∀ l,l<lv.length->d.k l=2->(A l=true<->d.rank l<m))/\m<=d.rank lv.length/\HRel ρ (hp m) w/\LRel ρ (hp m).n (EL lv env tr A lv.length) a.tmps.toList/\Mks B a.defers w/\Ext ρ0 σ0 w0 ρ (hp m) w
structure DLink (P:Program) (ops:Array Oper) (pm:List Nat) (d:DInfo) (lv:List VOper):Prop where
 comp:∀ (p:Nat) (v:VOper),lv[p]?=some v->∃ o,ops[pm.getD p 0]?=some o/\J5 P ops o=some v/\d.k p=v.op.kind
 touch:∀ (i j:Nat) (u v:VOper),lv[i]?=some u->lv[j]?=some v->d.touch i j=false->(∀ x,u.dst=some x->x∉KS v)/\(∀ x,v.dst=some x->x∉KS u)
 size:pm.length=lv.length
theorem DLink.of {ops:Array Oper}{vs:List VOper}(h:ops.toList.mapM (J5 P ops)=some vs) {d0:DInfo}{pm:List Nat}(jW:∀ i∈pm,i<vs.length):DLink P ops pm (LN d0 vs pm) (VI vs pm):=by
 obtain⟨h1,h2⟩:=Wl _ _ _ h;refine⟨λp v hv=>?_,λi j u v hu hv ht=>?_,by simp[VI]⟩
 .simp only[VI,zQ,zo] at hv;obtain⟨i,hi,rfl⟩:=hv;have aO:=jW i (zE hi);have jE:i<ops.toList.length:=by omega
  obtain⟨v,hv,hc⟩:=h2 i _ (z3 jE);have hg:vs.getD i default=v:=by simp[z4,hv]
  have hp:pm.getD p 0=i:=by simp[z4,hi]
  refine⟨ops.toList[i],?_,by rw[hg];exact hc,?_⟩
  .rw[hp];simp
  .simp[DInfo.k,LN,VI,z4,hi]
 .simp only[DInfo.touch,LN,Q2d,z4,zQ,hu,hv,xj,Option.getD_some,Bool.or_eq_false_iff] at ht;refine⟨λx hx hm=>?_,λx hx hm=>?_⟩
  .have:=ht.1;rw[hx] at this;simp at this;exact this hm
  .have:=ht.2;rw[hx] at this;simp at this;exact this hm
theorem AE {v:VOper}{x:Nat}(h:v.dst=some x):x∈KS v:=by simp[KS,h]
theorem Aa {v:VOper}{x:Nat}(h:Operand.tmp x∈v.op.opds):x∈KS v:=by refine xr _ (xl _ ?_);exact List.mem_filterMap.2 ⟨_,h,rfl⟩
theorem TR {v:VOper}{x:Nat}{b:Bool}(h:v.guard=some (x,b)):x∈KS v:=by refine xl _ ?_;simp[h]
theorem HY (hS:OkSpecs P S) {ro:Option Nat}{n:Nat}{ops:Array Oper}{pm:List Nat}{d:DInfo}{lv:List VOper}(hl:DLink P ops pm d lv) (hd:DOk d lv.length) {env:Env}{tr:Nat->Value}{hp:Nat->Heap}
  {bd j:Nat}(hF:DFact S d lv env tr hp bd j)
  {Q:Exit->Act->World->Prop}{ρ0:Plc}{σ0:Heap}{w0:World}{A:Nat->Bool}{a:Act}{w:World}(tD:∀ m,(∀ l,l<lv.length->d.k l=2->(A l=true<->d.rank l<m))->m<=d.rank lv.length->m<=bd) (hI:DInv B d lv env tr hp ρ0 σ0 w0 A a w)
  (aN:j<lv.length) (dV:A j=false) (dW:∀ e∈d.ed.getD j [],A e=true) {A':Nat->Bool}(aW:∀ i,A' i=if i=j then true else A i) {K:Act->World->Prop}(hK:∀ a' w',DInv B d lv env tr hp ρ0 σ0 w0 A' a' w'->K a' w'):wpOpIn (FF ro) n P ops Q (pm.getD j 0) K a w:=by
 obtain⟨v,hv⟩:∃ v,lv[j]?=some v:=⟨_,z3 aN⟩;obtain⟨o,ho,hc,hk⟩:=hl.comp j v hv;obtain⟨bM,m,ρ,hm,mQ,hH,hL,dC,hE⟩:=hI;have dz:∀ i,i<j->d.lt i j=true->A i=true:=by
  intro i hi ah;obtain⟨e,he,h⟩:=hd.path j aN i hi ah;have nL:=hd.edge j aN e he;have gI:A e=true:=dW e he;rcases h with rfl|⟨h1,h2⟩
  .exact gI
  .exact NB hd bM e (by omega) gI i h1 h2
 have eN:∀ i,i<lv.length->j<i->d.lt j i=true->A i=false:=by
  intro i hi aL ah;cases hA:A i with
  |false=>rfl
  |true=>rw[NB hd bM i hi hA j aL ah] at dV;cases dV
 have fx:∀ x,x∈KS v->(EL lv env tr A lv.length)[x]?=(EL lv env tr (λ_=>true) j)[x]?:=by
  intro x hx;rw[<-D8 lv env tr j lv.length (by omega)];refine G1 lv env tr x lv.length λl aU bD=>?_;cases bR:lv[l]? with
  |none=>rw[bR] at bD;cases bD
  |some u =>
   rw[bR] at bD;rcases Nat.lt_trichotomy l j with h|h|h
   .have ah:d.lt l j=true:=by
     cases ah:d.lt l j with
     |true=>rfl
     |false=>exact absurd hx ((hl.touch l j u v bR hv (hd.free j aN l h ah).1).1 x bD)
    simp only[h,decide_true];exact dz l h ah
   .subst h;simp only[wm,decide_false];exact dV
   .have ah:d.lt j l=true:=by
     cases ah:d.lt j l with
     |true=>rfl
     |false=>exact absurd hx ((hl.touch j l v u hv bR (hd.free l aU j h ah).1).2 x bD)
    have:¬ l<j:=by omega
    simp only[this,decide_false];exact eN l aU h ah
 obtain⟨b,f1,f2,f3,tE,f4⟩:=hF v hv;have hw:J3 (EL lv env tr A lv.length) v.guard=some b:=by rw[TU (λx b' hg=>fx x (TR hg))];exact f1
 have jF:∀ x∈v.op.opds,Q3 (EL lv env tr A lv.length) x=Q3 (EL lv env tr (λ_=>true) j) x:=λx hx=>T_ λt ht=>fx t (Aa (ht▸hx));obtain⟨dy,bD,bG⟩:=GO hc hL hw;have dq:EL lv env tr A' lv.length=X7 (EL lv env tr A lv.length) v.dst (tr j):=by
  apply zT;intro x;by_cases hx:v.dst=some x
  .have h1:(EL lv env tr A' lv.length)[x]?=(EL lv env tr (λl=>decide (l<j+1)) lv.length)[x]?:=by
    refine G1 lv env tr x lv.length λl aU bt=>?_;rw[aW];by_cases gS:l=j
    .subst gS;simp
    .rw[z1 gS];cases bR:lv[l]? with
     |none=>rw[bR] at bt;cases bt
     |some u =>
      rw[bR] at bt;have jG:=AE hx;rcases zh l j with h|h
      .have ah:d.lt l j=true:=by
        cases ah:d.lt l j with
        |true=>rfl
        |false=>exact absurd jG ((hl.touch l j u v bR hv (hd.free j aN l h ah).1).1 x bt)
       have:l<j+1:=by omega
       simp only[this,decide_true];exact dz l h ah
      .have h':j<l:=by omega
       have ah:d.lt j l=true:=by
        cases ah:d.lt j l with
        |true=>rfl
        |false=>exact absurd jG ((hl.touch j l v u hv bR (hd.free l aU j h' ah).1).2 x bt)
       have:¬ l<j+1:=by omega
       simp only[this,decide_false];exact eN l aU h' ah
   rw[h1,D8 lv env tr (j+1) lv.length (by omega)];simp only[EL,zx,hv,xp,hx,X7];rw[xu,xu];simp only[zx,KF]
  .rw[KH _ _ _ hx];refine G1 lv env tr x lv.length λl aU bt=>?_;rw[aW];split
   .rename_i h;subst h;rw[hv] at bt;exact absurd bt hx
   .rfl
 have cz:∀ i,i<lv.length->A' i=true->∀ e∈d.ed.getD i [],A' e=true:=by
  intro i hi hA e he;rw[aW] at hA |-;split
  .rfl
  .by_cases bY:i=j
   .subst bY;exact dW e he
   .rw[z1 bY] at hA;exact bM i hi hA e he
 have ky:d.k j=2->d.rank j=m:=by
  intro au;have h1:¬ d.rank j<m:=λh=>by rw[(hm j aN au).2 h] at dV;cases dV
  by_cases h2:d.rank j=m
  .exact h2
  .obtain⟨l,gS,bg,dm⟩:=VY d j m (by omega);have ah:d.lt l j=true:=by
    cases ah:d.lt l j with
    |true=>rfl
    |false=>exact absurd ⟨bg,au⟩ (hd.free j aN l gS ah).2
   have:=(hm l (by omega) bg).1 (dz l gS ah);omega
 have jb:d.k j=2->∀ l,l<lv.length->d.k l=2->(A' l=true<->d.rank l<m+1):=by
  intro au l aU bg;rw[aW];have fk:=ky au;split
  .rename_i h;subst h;simp;omega
  .rename_i h;rw[hm l aU bg];have:d.rank l≠m:=by
    rcases zh l j with h'|h'
    .have:=Gf d h' bg;omega
    .have:=Gf d (show j<l by omega) au;omega
   omega
 have nM:d.k j≠2->∀ l,l<lv.length->d.k l=2->(A' l=true<->d.rank l<m):=by intro au l aU bg;rw[aW,z1 (by rintro rfl;exact au bg)];exact hm l aU bg
 have jH:d.k j=2->m+1<=d.rank lv.length:=λau=>by have:=Gf d aN au;have:=ky au;omega
 unfold wpOpIn;simp only[ho];cases b with
 |false =>
  rw[dy,z1 (by simp)];obtain⟨g1,g2⟩:=f4 rfl;refine⟨λf _=>Ev _ _,hK _ _ ⟨cz,?_⟩⟩;by_cases au:d.k j=2
  .have fk:=ky au;have hh:hp (m+1)=hp m:=by rw[<-fk];exact g2 (hk▸au)
   refine⟨m+1,ρ,jb au,jH au,by rw[hh];exact hH,?_,by rw[X1];exact dC,by rw[hh];exact hE⟩;rw[hh,dq,g1,bD];exact YQ hL Js o.dst
  .refine⟨m,ρ,nM au,mQ,hH,?_,by rw[X1];exact dC,hE⟩;rw[dq,g1,bD];exact YQ hL Js o.dst
 |true =>
  rw[dy,z0 rfl];by_cases au:d.k j=2
  .have fk:=ky au;have g1:=f2 rfl (hk▸au);rw[fk] at g1;rw[<-L7 jF] at g1;refine Vr hS bG hH hL g1 λc w' ⟨u,ρ',M',⟨hu,hσ⟩,eF,gH,bZ⟩=>hK _ _ ⟨cz,?_⟩;subst hu;subst hσ;refine⟨m+1,ρ',jb au,jH au,gH,?_,by rw[X1];exact dC.ext hH bZ,hE.trans bZ⟩;rw[dq,bD];exact YQ (bZ.lrel hL) eF o.dst
  .have g2:∃ σ1,Q6 v.op (Q3 (EL lv env tr A lv.length)) (hp m)=some (tr j,σ1):=by
    rw[DZ jF];by_cases bu:d.k j=1
    .obtain⟨⟨k1,k4⟩,k3,k2⟩:=hd.kmin j aN bu;refine f3 rfl (hk▸bu) m ?_ ?_ (tD m hm mQ)
     .rcases zh m (d.kmin j) with h|h
      .obtain⟨l,aU,bg,dm⟩:=VY d j m (by omega);have ah:=(k2 l (by omega) bg).1.2 (by omega);have:=(hm l (by omega) bg).1 (dz l aU ah);omega
      .exact h
     .rcases zh (d.kmax j) m with h|h
      .obtain⟨l,aU,bg,dm⟩:=VY d lv.length (d.kmax j) (by omega);have ah:=(k2 l aU bg).2.2 (by omega);have kz:=(hm l aU bg).2 (by omega);rcases Nat.lt_trichotomy j l with h'|h'|h'
       .rw[eN l aU h' ah] at kz;cases kz
       .subst h';omega
       .exfalso;have fO:d.rank l<d.rank j:=Gf d h' bg;omega
      .exact h
    .have iZ:v.op.kind=0:=by
      have h2:v.op.kind<=2:=Q5s v.op;omega
     obtain⟨σ1,g1⟩:=tE rfl (by omega) (by omega);exact⟨hp m,PN iZ g1⟩
   obtain⟨σ1,g2⟩:=g2;have hq:=Dr (hk▸au) g2;subst hq;refine Vr hS (K:=λv' M'=>v'=tr j/\M'=hp m) bG hH hL (Q4k (hk▸au) g2 ⟨rfl,rfl⟩) λc w' ⟨u,ρ',M',⟨hu,hσ⟩,eF,gH,bZ⟩=>hK _ _ ⟨cz,?_⟩;subst hu;subst hσ;refine⟨m,ρ',nM au,mQ,gH,?_,by rw[X1];exact dC.ext hH bZ,hE.trans bZ⟩;rw[dq,bD];exact YQ (bZ.lrel hL) eF o.dst
theorem LP (hS:OkSpecs P S) {ro:Option Nat}{n:Nat}{ops:Array Oper}{pm:List Nat}{d:DInfo}{lv:List VOper}(hl:DLink P ops pm d lv) (hd:DOk d lv.length) {env:Env}{tr:Nat->Value}{hp:Nat->Heap}
  {j:Nat}{v:VOper}(hv:lv[j]?=some v) (qv:v.op.kind=2) (tF:J3 (EL lv env tr (λ_=>true) j) v.guard=some true) {R:Value->Heap->Prop}(gj:vop S v.op (EL lv env tr (λ_=>true) j) (hp (d.rank j)) R)
  {Q:Exit->Act->World->Prop}{ρ0:Plc}{σ0:Heap}{w0:World}{A:Nat->Bool}{a:Act}{w:World}(hI:DInv B d lv env tr hp ρ0 σ0 w0 A a w) (nN:∀ l,j<=l->l<lv.length->A l=false)
  (aN:j<lv.length) (dV:A j=false) (dW:∀ e∈d.ed.getD j [],A e=true) {A':Nat->Bool}(aW:∀ i,A' i=if i=j then true else A i) {K:Act->World->Prop}
  (hK:∀ u M' a' w',R u M'->(∀ tr' bk,(∀ l,l<j->tr' l=tr l)->tr' j=u->(∀ r,r<=d.rank j->bk r=hp r)->bk (d.rank j+1)=M'->DInv B d lv env tr' bk ρ0 σ0 w0 A' a' w')->K a' w'):wpOpIn (FF ro) n P ops Q (pm.getD j 0) K a w:=by
 obtain⟨o,ho,hc,hk⟩:=hl.comp j v hv;obtain⟨bM,m,ρ,hm,mQ,hH,hL,dC,hE⟩:=hI;have dz:∀ i,i<j->d.lt i j=true->A i=true:=by
  intro i hi ah;obtain⟨e,he,h⟩:=hd.path j aN i hi ah;have nL:=hd.edge j aN e he;have gI:A e=true:=dW e he;rcases h with rfl|⟨h1,h2⟩
  .exact gI
  .exact NB hd bM e (by omega) gI i h1 h2
 have eN:∀ i,i<lv.length->j<i->d.lt j i=true->A i=false:=by
  intro i hi aL ah;cases hA:A i with
  |false=>rfl
  |true=>rw[NB hd bM i hi hA j aL ah] at dV;cases dV
 have fx:∀ x,x∈KS v->(EL lv env tr A lv.length)[x]?=(EL lv env tr (λ_=>true) j)[x]?:=by
  intro x hx;rw[<-D8 lv env tr j lv.length (by omega)];refine G1 lv env tr x lv.length λl aU bD=>?_;cases bR:lv[l]? with
  |none=>rw[bR] at bD;cases bD
  |some u =>
   rw[bR] at bD;rcases Nat.lt_trichotomy l j with h|h|h
   .have ah:d.lt l j=true:=by
     cases ah:d.lt l j with
     |true=>rfl
     |false=>exact absurd hx ((hl.touch l j u v bR hv (hd.free j aN l h ah).1).1 x bD)
    simp only[h,decide_true];exact dz l h ah
   .subst h;simp only[wm,decide_false];exact dV
   .have ah:d.lt j l=true:=by
     cases ah:d.lt j l with
     |true=>rfl
     |false=>exact absurd hx ((hl.touch j l v u hv bR (hd.free l aU j h ah).1).2 x bD)
    have:¬ l<j:=by omega
    simp only[this,decide_false];exact eN l aU h ah
 have hw:J3 (EL lv env tr A lv.length) v.guard=some true:=by rw[TU (λx b' hg=>fx x (TR hg))];exact tF
 have jF:∀ x∈v.op.opds,Q3 (EL lv env tr A lv.length) x=Q3 (EL lv env tr (λ_=>true) j) x:=λx hx=>T_ λt ht=>fx t (Aa (ht▸hx));obtain⟨dy,bD,bG⟩:=GO hc hL hw;have dq:∀ tr:Nat->Value,EL lv env tr A' lv.length=X7 (EL lv env tr A lv.length) v.dst (tr j):=λtr=>by
  apply zT;intro x;by_cases hx:v.dst=some x
  .have h1:(EL lv env tr A' lv.length)[x]?=(EL lv env tr (λl=>decide (l<j+1)) lv.length)[x]?:=by
    refine G1 lv env tr x lv.length λl aU bt=>?_;rw[aW];by_cases gS:l=j
    .subst gS;simp
    .rw[z1 gS];cases bR:lv[l]? with
     |none=>rw[bR] at bt;cases bt
     |some u =>
      rw[bR] at bt;have jG:=AE hx;rcases zh l j with h|h
      .have ah:d.lt l j=true:=by
        cases ah:d.lt l j with
        |true=>rfl
        |false=>exact absurd jG ((hl.touch l j u v bR hv (hd.free j aN l h ah).1).1 x bt)
       have:l<j+1:=by omega
       simp only[this,decide_true];exact dz l h ah
      .have h':j<l:=by omega
       have ah:d.lt j l=true:=by
        cases ah:d.lt j l with
        |true=>rfl
        |false=>exact absurd jG ((hl.touch j l v u hv bR (hd.free l aU j h' ah).1).2 x bt)
       have:¬ l<j+1:=by omega
       simp only[this,decide_false];exact eN l aU h' ah
   rw[h1,D8 lv env tr (j+1) lv.length (by omega)];simp only[EL,zx,hv,xp,hx,X7];rw[xu,xu];simp only[zx,KF]
  .rw[KH _ _ _ hx];refine G1 lv env tr x lv.length λl aU bt=>?_;rw[aW];split
   .rename_i h;subst h;rw[hv] at bt;exact absurd bt hx
   .rfl
 have cz:∀ i,i<lv.length->A' i=true->∀ e∈d.ed.getD i [],A' e=true:=by
  intro i hi hA e he;rw[aW] at hA |-;split
  .rfl
  .by_cases bY:i=j
   .subst bY;exact dW e he
   .rw[z1 bY] at hA;exact bM i hi hA e he
 have ky:d.k j=2->d.rank j=m:=by
  intro au;have h1:¬ d.rank j<m:=λh=>by rw[(hm j aN au).2 h] at dV;cases dV
  by_cases h2:d.rank j=m
  .exact h2
  .obtain⟨l,gS,bg,dm⟩:=VY d j m (by omega);have ah:d.lt l j=true:=by
    cases ah:d.lt l j with
    |true=>rfl
    |false=>exact absurd ⟨bg,au⟩ (hd.free j aN l gS ah).2
   have:=(hm l (by omega) bg).1 (dz l gS ah);omega
 have jb:d.k j=2->∀ l,l<lv.length->d.k l=2->(A' l=true<->d.rank l<m+1):=by
  intro au l aU bg;rw[aW];have fk:=ky au;split
  .rename_i h;subst h;simp;omega
  .rename_i h;rw[hm l aU bg];have:d.rank l≠m:=by
    rcases zh l j with h'|h'
    .have:=Gf d h' bg;omega
    .have:=Gf d (show j<l by omega) au;omega
   omega
 have nM:d.k j≠2->∀ l,l<lv.length->d.k l=2->(A' l=true<->d.rank l<m):=by intro au l aU bg;rw[aW,z1 (by rintro rfl;exact au bg)];exact hm l aU bg
 have jH:d.k j=2->m+1<=d.rank lv.length:=λau=>by have:=Gf d aN au;have:=ky au;omega
 unfold wpOpIn;simp only[ho];rw[dy,z0 rfl];have au:d.k j=2:=hk.trans qv;have fk:=ky au;rw[fk,<-L7 jF] at gj;refine Vr hS bG hH hL gj λc w' ⟨u,ρ',M',hR,eF,gH,bZ⟩=>hK u M' _ _ hR λtr' bk t1 t2 t3 t4=>⟨cz,m+1,ρ',jb au,jH au,?_,?_,?_,?_⟩
 .rw[<-fk,t4];exact gH
 .have e0:EL lv env tr' A lv.length=EL lv env tr A lv.length:=Q8i lv env lv.length λl aU hA=>t1 l (by
   rcases zh l j with h|h
   .exact h
   .rw[nN l h aU] at hA;cases hA)
  rw[<-fk,t4,dq tr',e0,bD,t2];exact YQ (bZ.lrel hL) eF o.dst
 .rw[X1];exact dC.ext hH bZ
 .rw[<-fk,t4];exact hE.trans bZ
theorem Z5h {ops:Array Oper}{pm:List Nat}{d:DInfo}{lv:List VOper}(_hl:DLink P ops pm d lv) {env:Env}{tr:Nat->Value}{hp:Nat->Heap}{ρ0:Plc}{σ0:Heap}{w0:World}{A:Nat->Bool}{a:Act}{w:World}
  (hI:DInv B d lv env tr hp ρ0 σ0 w0 A a w) (ae:∀ j,j<lv.length->A j=true):By B (List.length env) ρ0 σ0 w0 (λaf M'=>af=EL lv env tr (λ_=>true) lv.length/\M'=hp (d.rank lv.length)) a w:=by
 obtain⟨bM,m,ρ,hm,mQ,hH,hL,dC,hE⟩:=hI;have eW:m=d.rank lv.length:=by
  rcases zh m (d.rank lv.length) with h|h
  .obtain⟨l,h1,h2,h3⟩:=VY d _ _ h;have:=(hm l h1 h2).1 (ae l h1);omega
  .omega
 subst eW;have e:=KU lv env (tr:=tr) (tr':=tr) (A:=A) (B:=λ_=>true) lv.length (λ_ _=>rfl) (λl hl=>ae l hl);exact⟨_,ρ,_,⟨rfl,rfl⟩,KF _ _ _ _ _,hH,by rw[<-e];exact hL,dC,hE⟩
def OA (pm:List Nat) (d:DInfo) (n:Nat):(Nat->Bool)->List Nat->Prop
 |A,[]=>∀ p,p<n->A p=true
 |A,j::rest=>∃ p,p<n/\pm.getD p 0=j/\A p=false/\(∀ e∈d.ed.getD p [],A e=true)/\OA pm d n (λq=>if q=p then true else A q) rest
theorem E2 (hS:OkSpecs P S) {ro:Option Nat}{n:Nat}{ops:Array Oper}{pm:List Nat}{d:DInfo}{lv:List VOper}(hl:DLink P ops pm d lv) (hd:DOk d lv.length) {env:Env}{K:Env->Heap->Prop}
  {Q:Exit->Act->World->Prop}{ρ0:Plc}{σ0:Heap}{w0:World}{l2:List Nat}(hQ:∀ a w,By B (List.length env) ρ0 σ0 w0 K a w->wpOpsIn (FF ro) n P ops Q l2 a w) {nd:List Nat}{i:Nat}{tr:Nat->Value}{hp:Nat->Heap}(tG:Know S d lv env K nd i tr hp) :
  ∀ (l:List Nat) (A:Nat->Bool) (a:Act) (w:World),OA pm d lv.length A l->DInv B d lv env tr hp ρ0 σ0 w0 A a w->(∀ j,i<=j->j<lv.length->A j=false)->(∀ j,j∈nd->j<lv.length->A j=true)->wpOpsIn (FF ro) n P ops Q (l++l2) a w:=by
 induction tG with
 |full hF hK =>
  intro l;induction l with
  |nil =>intro A a w hs hI _ _;obtain⟨af,ρ',M',⟨e1,e2⟩,n1⟩:=Z5h hl hI hs;exact hQ a w ⟨af,ρ',M',by rw[e1,e2];exact hK,n1⟩
  |cons j rest ih =>
   intro A a w hs hI hA hN;obtain⟨p,bk,rfl,kA,he,a8⟩:=hs;rw[zY,wpOpsIn_cons];refine HY hS hl hd (hF p bk λh=>?_) (λm _ h=>h) hI bk kA he (λ_=>rfl) λa' w' nO=>ih _ a' w' a8 nO (λj h1 h2=>by omega) (λj hj eE=>?_)
   .rw[hN p h bk] at kA;cases kA
   .split
    .rfl
    .exact hN j hj eE
 |part hv hk hw hF kj R gj I T H hT next pF =>
  rename_i nd i tr hp v;have aO:i<lv.length:=by
   rcases zh i lv.length with h|h
   .exact h
   .rw[zj h] at hv;cases hv
  intro l;induction l with
  |nil =>intro A a w hs hI hA _;have:=hs i aO;rw[hA i (z5 _) aO] at this;cases this
  |cons j rest ih =>
   intro A a w hs hI hA hN;obtain⟨p,bk,rfl,kA,he,a8⟩:=hs;rw[zY,wpOpsIn_cons];have jV:d.k i=2:=by obtain⟨_,_,_,h⟩:=hl.comp i v hv;exact h.trans hk
   rcases Nat.lt_trichotomy p i with jc|rfl|jc
   .refine HY hS hl hd (hF p jc λh=>?_) (λm hm _=>?_) hI bk kA he (λ_=>rfl) λa' w' nO=>ih _ a' w' a8 nO (λj h1 h2=>?_) (λj hj eE=>?_)
    .rw[hN p h bk] at kA;cases kA
    .have h1:¬ d.rank i<m:=λh=>by
      have:=(hm i aO jV).2 h;rw[hA i (z5 _) aO] at this;cases this
     omega
    .rw[z1 (by omega)];exact hA j h1 h2
    .split
     .rfl
     .exact hN j hj eE
   .refine LP hS hl hd hv hk hw gj hI hA bk kA he (λ_=>rfl) λu M' a' w' hR nO=>?_;obtain⟨q1,q2,q3,q4,q5⟩:=hT u M' hR;refine pF u M' hR _ _ a' w' a8 (nO _ _ q2 q3 q4 q5) (λj h1 h2=>?_) (λj hj eE=>?_)
    .rw[z1 (by omega)];exact hA j (by omega) h2
    .split
     .rfl
     .rename_i av;rcases zf.1 hj with h|h
      .exact absurd h av
      .exact hN j h eE
   .exfalso;obtain⟨e,u,h1,h2,hu,hn⟩:=kj p jc bk;have ku:=z3 bk;have ah:d.lt e p=true:=by
     cases h:d.lt e p with
     |true=>rfl
     |false =>
      rcases hn with⟨x,hx,hn⟩|⟨fM,eB⟩
      .exact absurd (hn _ ku) ((hl.touch e p u _ hu ku (hd.free p bk e h2 h).1).1 x hx)
      .obtain⟨_,_,_,q1⟩:=hl.comp e u hu;obtain⟨_,_,_,q2⟩:=hl.comp p _ ku;exact absurd ⟨q1.trans fM,q2.trans (eB _ ku)⟩ (hd.free p bk e h2 h).2
    have gI:A e=true:=by
     obtain⟨e',rP,h3⟩:=hd.path p bk e h2 ah;have nP:=he e' rP;rcases h3 with rfl|⟨h3,h4⟩
     .exact nP
     .exact NB hd hI.closed e' (by have:=hd.edge p bk e' rP;omega) nP e h3 h4
    rw[hA e h1 (by omega)] at gI;cases gI
def KY (ops:Array Oper):Array Bool->List Nat->Prop
 |L,[]=>∀ j,j<ops.size->L.getD j false=true
 |L,j::rest=>j∈Region.ready .any ops L/\KY ops (L.setIfInBounds j true) rest
theorem KN (L:Array Bool) (j i:Nat) (hj:j<L.size):(L.setIfInBounds j true).getD i false=if i=j then true else L.getD i false:=by
 by_cases h:i=j
 .subst h;simp[hj]
 .simp[h,Array.getElem?_setIfInBounds_ne (Ne.symm h)]
theorem IM {ops:Array Oper}(iv:∀ (j:Nat) (o:Oper),ops[j]?=some o->∀ e∈Be o,e<j) {L:Array Bool}(hs:L.size=ops.size) (h:Region.ready .any ops L=[]):∀ j,j<ops.size->L.getD j false=true:=by
 intro j;induction j using Nat.strongRecOn with
 |ind j ih =>
  intro hj;cases hA:L.getD j false with
  |true=>rfl
  |false =>
   exfalso;have:j∈Region.ready .any ops L:=by
    refine mem_ready.2 ⟨?_,ops[j],xh hj,λe he hb=>?_⟩
    .have h1:L.getD j true=L[j]:=by simp[hs,hj]
     have h2:L.getD j false=L[j]:=by simp[hs,hj]
     rw[h1,<-h2];exact hA
    .have:=iv j ops[j] (xh hj) e.on (zq.2 ⟨e,zy.2 ⟨by simpa using he,hb⟩,rfl⟩);exact ih _ this (by omega)
   rw[h] at this;cases this
theorem H8 {ops:Array Oper}{L:Array Bool}(hs:L.size=ops.size) {j:Nat}(h:j∈Region.ready .any ops L):j<ops.size/\L.getD j false=false/\∃ o,ops[j]?=some o/\∀ e∈Be o,L.getD e false=true:=by obtain⟨h1,o,ho,h2⟩:=mem_ready.1 h;have aN:j<ops.size:=(x3.1 ho).1;refine⟨aN,by simp[hs,aN] at h1 |-;exact h1,o,ho,λe he=>?_⟩;obtain⟨x,hx,rfl⟩:=zq.1 he;obtain⟨tH,rQ⟩:=zy.1 hx;exact h2 x (by simpa using tH) rQ
theorem Q45 {ops:Array Oper}(iv:∀ (j:Nat) (o:Oper),ops[j]?=some o->∀ e∈Be o,e<j):∀ (fuel t:Nat) (L:Array Bool),L.size=ops.size->cnt (λi=>L.getD i false) ops.size<=fuel ->
  KY ops L (Region.linearise.go .any ops fuel t L []):=by
 intro fuel;induction fuel with
 |zero =>intro t L hs hc;simp only[Region.linearise.go,List.reverse_nil,KY];exact Ae (by omega)
 |succ fuel ih =>
  intro t L hs hc;simp only[Region.linearise.go]
  change KY ops L (match (Region.ready .any ops L)[t % (Region.ready .any ops L).length]? with
   |some i=>Region.linearise.go .any ops fuel (t / (Region.ready .any ops L).length) (L.setIfInBounds i true) [i]
   |none=>[].reverse)
  cases hi:(Region.ready .any ops L)[t % (Region.ready .any ops L).length]? with
  |none =>
   have iw:Region.ready .any ops L=[]:=by
    cases hr:Region.ready .any ops L with
    |nil=>rfl
    |cons x xs =>rw[hr] at hi;have ah:t % (x::xs).length<(x::xs).length:=xX _ (by simp);simp at hi;simp at ah;omega
   simp only[List.reverse_nil,KY];exact IM iv hs iw
  |some i =>
   simp only[];rw[linearise_go_acc,List.reverse_singleton,List.singleton_append];have kB:=zE hi;obtain⟨aO,nQ,_⟩:=H8 hs kB;refine⟨kB,ih _ _ (by simp[hs]) ?_⟩;have iz:i<L.size:=by rw[hs];exact aO
   have:=Ig (A:=λi=>L.getD i false) (B:=λk=>(L.setIfInBounds i true).getD k false) (j:=i) nQ (by simp only[KN L i i iz,zx]) (λk hk=>by simp only[KN L i k iz,z1 hk]) ops.size aO;omega
theorem Cm {ops:Array Oper}:∀ (l:List Nat) (L:Array Bool),L.size=ops.size->KY ops L l->l.Nodup/\∀ j,j∈l<->(j<ops.size/\L.getD j false=false):=by
 intro l;induction l with
 |nil=>intro L hs h;exact⟨List.nodup_nil,λj=>⟨λh=>(by cases h),λ⟨h1,h2⟩=>by rw[h j h1] at h2;cases h2⟩⟩
 |cons i l ih =>
  intro L hs h;obtain⟨kB,h'⟩:=h;obtain⟨aO,nQ,_⟩:=H8 hs kB;have iz:i<L.size:=by rw[hs];exact aO
  obtain⟨k1,k2⟩:=ih _ (by simp[hs]) h';refine⟨zU.2 ⟨λhm=>?_,k1⟩,λj=>?_⟩
  .have:=((k2 i).1 hm).2;rw[KN L i i iz,z0 rfl] at this;cases this
  .rw[zf,k2 j,KN L i j iz];by_cases aL:j=i
   .subst aL;simp[aO,nQ]
   .simp[aL]
structure DBase (ops:Array Oper) (d:DInfo):Prop where
 ed:∀ (j:Nat) (o:Oper),ops[j]?=some o->d.ed.getD j []=Be o
 edge:∀ j,j<ops.size->∀ e∈d.ed.getD j [],e<j
 path:∀ j,j<ops.size->∀ i,i<j->d.lt i j=true->∃ e∈d.ed.getD j [],e=i\/(i<e/\d.lt i e=true)
 up:∀ i j,d.lt i j=true->i<j
 size:d.ks.length=ops.size
theorem Ck {ops:Array Oper}{d:DInfo}(hb:DBase ops d) {A:Nat->Bool}(hc:∀ j,j<ops.size->A j=true->∀ e∈d.ed.getD j [],A e=true):∀ j,j<ops.size->A j=true->∀ i,i<j->d.lt i j=true->A i=true:=by
 intro j;induction j using Nat.strongRecOn with
 |ind j ih =>
  intro hj hA i hi ah;obtain⟨e,he,h⟩:=hb.path j hj i hi ah;have nL:=hb.edge j hj e he;have gI:=hc j hj hA e he;rcases h with rfl|⟨h1,h2⟩
  .exact gI
  .exact ih e nL (by omega) gI i h1 h2
theorem Q87 {ops:Array Oper}{d:DInfo}(hb:DBase ops d):∀ (l:List Nat) (L:Array Bool),L.size=ops.size->(∀ j,j<ops.size->L.getD j false=true->∀ e∈d.ed.getD j [],L.getD e false=true)->KY ops L l ->
  l.Pairwise λj i=>d.lt i j=false:=by
 intro l;induction l with
 |nil=>intro L _ _ _;exact List.Pairwise.nil
 |cons j l ih =>
  intro L hs hc h;obtain⟨kB,h'⟩:=h;obtain⟨aO,nQ,o,ho,iv⟩:=H8 hs kB;have iz:j<L.size:=by rw[hs];exact aO
  have cO:∀ k,k<ops.size->(L.setIfInBounds j true).getD k false=true->∀ e∈d.ed.getD k [],(L.setIfInBounds j true).getD e false=true:=by
   intro k hk hA e he;rw[KN L j e iz];split
   .rfl
   .rw[KN L j k iz] at hA;split at hA
    .rename_i tI;subst tI;rw[hb.ed _ o ho] at he;exact iv e he
    .exact hc k hk hA e he
  obtain⟨k1,k2⟩:=Cm l _ (by simp[hs]) h';refine List.Pairwise.cons (λi hi=>?_) (ih _ (by simp[hs]) cO h');cases ah:d.lt i j with
  |false=>rfl
  |true =>
   exfalso;have bY:=hb.up i j ah;have hA:(L.setIfInBounds j true).getD j false=true:=by rw[KN L j j iz,z0 rfl]
   have:=Ck hb cO j aO hA i bY ah;rw[((k2 i).1 hi).2] at this;cases this
theorem Rm (lt:Nat->Nat->Bool):∀ (s l:List Nat) (n:Nat),s.Perm l->l.length<=n->s.Pairwise (λj i=>lt i j=false)->s∈exts lt n l:=by
 intro s;induction s with
 |nil =>intro l n hp hn _;have:l=[]:=hp.symm.eq_nil;subst this;cases n<;>simp[exts]
 |cons k s ih =>
  intro l n hp hn hs;have hk:k∈l:=hp.mem_iff.1 (by simp);cases l with
  |nil=>cases hk
  |cons x xs =>
   cases n with
   |zero=>simp at hn
   |succ n =>
    simp only[exts];refine List.mem_flatMap.2 ⟨k,hk,?_⟩;obtain⟨h1,h2⟩:=xw.1 hs;have ae:((x::xs).all λi=>i==k||!lt i k)=true:=by
     refine z6.2 λi hi=>?_;have:i∈k::s:=hp.mem_iff.2 hi;rcases zf.1 this with rfl|h
     .simp
     .simp[h1 i h]
    rw[z0 ae];refine zq.2 ⟨s,ih _ n ?_ ?_ h2,rfl⟩
    .exact(List.cons_perm_iff_perm_erase.1 hp).2
    .rw[List.length_erase_of_mem hk];simp at hn |-;omega
theorem Q1f {j:Nat}:∀ (a a' b b':List Nat),j∉a->j∉a'->a++j::b=a'++j::b'->a=a':=by
 intro a;induction a with
 |nil =>
  intro a' b b' _ h' h;cases a' with
  |nil=>rfl
  |cons x a'=>simp at h;exact absurd h.1 (by rintro rfl;exact h' (by simp))
 |cons x a ih =>
  intro a' b b' h1 h2 h;cases a' with
  |nil=>simp at h;exact absurd h.1 (by rintro rfl;exact h1 (by simp))
  |cons y a' =>simp at h;obtain⟨rfl,h⟩:=h;rw[ih a' b b' (λhm=>h1 (by simp[hm])) (λhm=>h2 (by simp[hm])) h]
theorem A5 {ops:Array Oper}{d:DInfo}(hb:DBase ops d):∀ (l:List Nat) (L:Array Bool),L.size=ops.size->KY ops L l->∀ pre j post,l=pre++j::post->∀ e∈d.ed.getD j [],L.getD e false=true\/e∈pre:=by
 intro l;induction l with
 |nil=>intro L _ _ pre j post h;simp at h
 |cons i l ih =>
  intro L hs h pre j post he e gm;obtain⟨kB,h'⟩:=h;obtain⟨aO,nQ,o,ho,iv⟩:=H8 hs kB;have iz:i<L.size:=by rw[hs];exact aO
  cases pre with
  |nil =>simp at he;obtain⟨rfl,_⟩:=he;rw[hb.ed _ o ho] at gm;exact .inl (iv e gm)
  |cons x pre =>
   simp at he;obtain⟨rfl,he⟩:=he;rcases ih _ (by simp[hs]) h' pre j post he e gm with h1|h1
   .rw[KN L i e iz] at h1;split at h1
    .rename_i cB;subst cB;exact .inr (by simp)
    .exact .inl h1
   .exact .inr (by simp[h1])
theorem Sq {d0 d:DInfo}{pm l:List Nat}(N:Nat) (hN:∀ i∈l,i<N) (ja:pm.Nodup) (gk:l.Nodup) (aH:∀ i,i∈pm<->i∈l) (bW:∀ pre j post,l=pre++j::post->∀ e∈d0.ed.getD j [],e∈l->e∈pre)
  (iv:∀ p,p<pm.length->d.ed.getD p []=Q5b d0 pm p) (hf:pm.filter (λi=>d0.k i==2)=l.filter (λi=>d0.k i==2)) :
  ∀ (post pre:List Nat),l=pre++post->OA pm d pm.length (λq=>pre.contains (pm.getD q N)) post:=by
 intro post;induction post with
 |nil =>
  intro pre hl p hp;have hm:pm.getD p N∈pm:=by simp[z4,hp]
  have:=(aH _).1 hm;rw[hl,xC] at this;simpa using this
 |cons j post ih =>
  intro pre hl;have bU:j∈l:=by rw[hl];simp
  have fk:=(aH j).2 bU;have hp:pm.idxOf j<pm.length:=List.idxOf_lt_length_of_mem fk;have rR:pm[pm.idxOf j]'hp=j:=List.getElem_idxOf hp;have hg:∀ z,pm.getD (pm.idxOf j) z=j:=λz=>by simp[z4,hp]
  have kC:j∉pre:=λhm=>by rw[hl] at gk;exact(List.nodup_append.1 gk).2.2 j hm j (by simp) rfl
  refine⟨pm.idxOf j,hp,hg 0,by simp only[hg];simpa using kC,λe he=>?_,?_⟩
  .rw[iv _ hp] at he;rcases zu.1 he with he|he
   .obtain⟨e0,lC,rfl⟩:=zq.1 he;rw[hg] at lC;obtain⟨j9,gP⟩:=zy.1 lC;have gP:e0∈pm:=by simpa using gP
    have tJ:pm.idxOf e0<pm.length:=List.idxOf_lt_length_of_mem gP;have:pm.getD (pm.idxOf e0) N=e0:=by simp[z4,tJ]
    simp only[this];have:=bW pre j post hl e0 j9 ((aH e0).1 gP);simpa using this
   .split at he
    .rename_i au;rw[hg] at au;obtain⟨hq,hk⟩:=zy.1 (List.mem_of_getLast? (Option.mem_toList.1 he));have cC:e<pm.idxOf j:=zr.1 hq;have hel:e<pm.length:=by omega
     have heq:pm.getD e N=pm[e]'hel:=by simp[z4,hel]
     have qw:pm.getD e 0=pm[e]'hel:=by simp[z4,hel]
     rw[qw] at hk;simp only[heq];have dt:pm=pm.take (pm.idxOf j)++j::pm.drop (pm.idxOf j+1):=by conv=>lhs;rw[<-xK (pm.idxOf j) pm,List.drop_eq_getElem_cons hp,rR]
     have qx:j∉pm.take (pm.idxOf j):=by intro hm;have hn:=ja;rw[dt] at hn;exact(List.nodup_append.1 hn).2.2 j hm j (by simp) rfl
     have tK:(pm.take (pm.idxOf j)).filter (λi=>d0.k i==2)++j::(pm.drop (pm.idxOf j+1)).filter (λi=>d0.k i==2)=pre.filter (λi=>d0.k i==2)++j::post.filter (λi=>d0.k i==2):=by have h1:=hf;rw[dt,hl] at h1;simp only[List.filter_append,wu,au,zx] at h1;exact h1
     have:=Q1f _ _ _ _ (λhm=>qx (zy.1 hm).1) (λhm=>kC (zy.1 hm).1) tK;have aO:pm[e]∈(pm.take (pm.idxOf j)).filter (λi=>d0.k i==2):=zy.2 ⟨List.mem_take_iff_getElem.2 ⟨e,by omega,rfl⟩,hk⟩;rw[this] at aO;have:=(zy.1 aO).1;simpa using this
    .cases he
  .have qy:(λq=>if q=pm.idxOf j then true else pre.contains (pm.getD q N))=λq=>(pre++[j]).contains (pm.getD q N):=by
    funext q
    by_cases hq:q=pm.idxOf j
    .subst hq;simp only[zx,hg];simp
    .rw[z1 hq];have av:pm.getD q N≠j:=by
      intro he;rcases zh q pm.length with mR|mR
      .have h1:pm[q]=j:=by simpa [z4,mR] using he
       exact hq ((List.getElem_inj (h₀:=mR) (h₁:=hp) ja).1 (h1.trans rR.symm))
      .simp[z4,zj mR] at he;have:=hN j bU;omega
     rw[Bool.eq_iff_iff];simp only[List.contains_iff_mem,zu,z8,av,or_false]
   rw[qy];exact ih (pre++[j]) (by rw[hl];simp)
theorem On {ops:Array Oper}{vs:List VOper}(h:ops.toList.mapM (J5 P ops)=some vs) (ai:(K6 ops.toList vs).okB=true):DBase ops (K6 ops.toList vs):=by
 have hlen:vs.length=ops.size:=by have:=(Wl _ _ _ h).1;simpa using this
 have kn:(K6 ops.toList vs).ks.length=ops.size:=by simp[K6,hlen]
 have c_:=ai;unfold DInfo.okB at c_;rw[z2,zi] at c_;obtain⟨tL,lu⟩:=c_;have h0:∀ j,j<ops.size->(K6 ops.toList vs).okE j=true/\(K6 ops.toList vs).an.getD j 0<2 ^ j/\((List.range j).all λi=>!((K6 ops.toList vs).lt i j)||((K6 ops.toList vs).ed.getD j []).any (λe=>e==i||decide (i<e)&&(K6 ops.toList vs).lt i e))=true:=λj hj=>by have:=z6.1 lu j (zr.2 (by rw[kn];exact hj));rw[z2,z2,zi] at this;exact this
 have nR:∀ j,j<ops.size->∀ e∈(K6 ops.toList vs).ed.getD j [],e<j:=λj hj e he=>by have:=z6.1 (h0 j hj).1 e he;simpa using this
 refine⟨λj o ho=>by simp[K6,z4,ho],nR,λj hj i hi ah=>?_,λi j ah=>?_,kn⟩
 .have:=z6.1 (h0 j hj).2.2 i (zr.2 hi);simp only[ah,xW,Bool.false_or,xi,zp,z2,zi,zS] at this;exact this
 .rcases zh i j with h|h
  .exact h
  .exfalso;unfold DInfo.lt at ah;rcases zh j ops.size with hj|hj
   .have h1:=(h0 j hj).2.1;have h2:(K6 ops.toList vs).an.getD j 0<2 ^ i:=x8 h1 (Nat.pow_le_pow_right (by omega) h);rw[Nat.testBit_lt_two_pow h2] at ah;cases ah
   .have:(K6 ops.toList vs).an.getD j 0=0:=by
     rw[z4,zj (by rw[tL,kn];exact hj)];rfl
    rw[this,Nat.zero_testBit] at ah;cases ah
theorem Aj {t:Nat}:∀ (l:List Nat),l.Pairwise (λj i=>¬ (i<t/\t<=j))->l=l.filter (λi=>decide (i<t))++l.filter (λi=>decide (t<=i))
 |[],_=>rfl
 |x::l,h=>by
  obtain⟨h1,h2⟩:=xw.1 h;have ih:=Aj l h2;by_cases hx:x<t
  .have na:¬ t<=x:=by omega
   simp only[wu,hx,decide_true,zx,na,decide_false,zY,zA,if_false];rw[<-ih]
  .have na:t<=x:=by omega
   have iw:l.filter (λi=>decide (i<t))=[]:=List.filter_eq_nil_iff.2 λi hi=>by have:=h1 i hi;simp;omega
   have ae:l.filter (λi=>decide (t<=i))=l:=List.filter_eq_self.2 λi hi=>by have:=h1 i hi;simp;omega
   simp only[wu,hx,decide_false,na,decide_true,zx,iw,ae];simp
theorem P4 (hS:OkSpecs P S) {ro:Option Nat}{n:Nat}{ops:Array Oper}{vs:List VOper}(cE:ops.toList.mapM (J5 P ops)=some vs) {d0:DInfo}(_hb:DBase ops d0) {l l2 idx pm:List Nat}(gk:l.Nodup) (ah:∀ i∈l,i<ops.size) (qz:∀ i,i∈l<->i∈idx)
  (bW:∀ pre j post,l=pre++j::post->∀ e∈d0.ed.getD j [],e∈l->e∈pre) (eW:Z1f d0 vs idx (l.filter λi=>d0.k i==2) pm=true)
  {env:Env}{M:Heap}{K:Env->Heap->Prop}{ρ:Plc}{w:World}{a:Act}(qA:Zm S ((LN d0 vs pm).opers (VI vs pm) 0) env [M] M [] K) (hH:HRel ρ M w) (hL:LRel ρ M.n env a.tmps.toList) (dC:Mks B a.defers w)
  {Q:Exit->Act->World->Prop}(hQ:∀ a' w',By B (List.length env) ρ M w K a' w'->wpOpsIn (FF ro) n P ops Q l2 a' w'):wpOpsIn (FF ro) n P ops Q (l++l2) a w:=by
 have ni:vs.length=ops.size:=by have:=(Wl _ _ _ cE).1;simpa using this
 simp only[Z1f,z2,zi,z6,List.contains_iff_mem] at eW;obtain⟨m1,m2,m3,m4,m5⟩:=eW;have kD:∀ i,i∈pm<->i∈l:=λi=>by rw[qz i];exact⟨λhi=>m2 i hi,λhi=>m1 i hi⟩
 have jc:∀ i∈pm,i<vs.length:=λi hi=>by have:=ah i ((kD i).1 hi);omega
 have hl:DLink P ops pm (LN d0 vs pm) (VI vs pm):=DLink.of cE jc;have qB:(VI vs pm).length=pm.length:=by simp[VI]
 have kn:(LN d0 vs pm).ks.length=(VI vs pm).length:=by simp[LN]
 have hd:=DOk.of m5;rw[kn] at hd;have iv:∀ p,p<pm.length->(LN d0 vs pm).ed.getD p []=Q5b d0 pm p:=λp hp=>by simp[LN,z4,hp]
 have iA:=Sq (d:=LN d0 vs pm) ops.size ah m3 gk kD bW iv m4 l [] (by simp);have ef:∀ i v,(VI vs pm)[i]?=some v->(LN d0 vs pm).k i=v.op.kind:=λi v hv=>(hl.comp i v hv).choose_spec.2.2;obtain⟨k,tr,hp,_,_,k2,k3⟩:=Q8k (LN d0 vs pm) (VI vs pm) ef env K (VI vs pm) 0 (by omega) rfl [] (λ_=>undef) (λ_=>M) [] (λl hl=>by omega) (λl hl=>by omega) (by simpa [DInfo.rank,EL] using qA);have qC:hp 0=M:=k2 0 (by omega);have nS:(λq=>([]:List Nat).contains (pm.getD q ops.size))=λ_=>false:=by funext q;rfl
 rw[nS] at iA;refine E2 (B:=B) (pm:=pm) hS hl hd hQ k3 l (λ_=>false) a w (by rw[qB];exact iA) ?_ (λ_ _ _=>rfl) (λj hj=>by cases hj) (ρ0:=ρ) (σ0:=M) (w0:=w)
 .refine⟨λj hj hA=>(by cases hA),0,ρ,λl aU hk=>by simp,by omega,by rw[qC];exact hH,?_,dC,by rw[qC];exact Ext.refl _ _ _⟩;have e:EL (VI vs pm) env tr (λ_=>false) (VI vs pm).length=env:=by
   have:∀ m,EL (VI vs pm) env tr (λ_=>false) m=env:=by
    intro m;induction m with
    |zero=>rfl
    |succ m ih=>simp only[EL,zA,if_false];exact ih
   exact this _
  rw[e,qC];exact hL
theorem RR (d:DInfo):∀ (lv:List VOper) (i:Nat),(∀ v∈lv,v.op.kind≠2)->∀ (env:Env) (M:Heap) (pend:List (Nat×(Heap->Prop))) (K:Env->Heap->Prop),T1 S lv env M K->Zm S (d.opers lv i) env [M] M pend K:=by
 intro lv;induction lv with
 |nil=>intro i _ env M pend K h;exact h
 |cons v rest ih =>
  intro i hk env M pend K h;have au:v.op.kind≠2:=hk v (by simp);have dU:∀ u∈rest,u.op.kind≠2:=λu hu=>hk u (by simp[hu]);simp only[T1] at h;simp only[DInfo.opers,Zm];cases hw:J3 env v.guard with
  |none=>rw[hw] at h;exact h.elim
  |some b =>
   rw[hw] at h;obtain⟨ht,hf⟩:=h;refine⟨λe=>?_,λe=>?_⟩
   .have ht:=ht e;have gh:∃ p,Q6 v.op (Q3 env) M=some p/\T1 S rest (X7 env v.dst p.1) p.2 K:=by
     have cG:∀ x:XOp,v.op=.ext x->(∀ y,x≠.nextMap y):=λx hx y hy=>by rw[hx,hy] at au;exact au rfl
     have:=ht;unfold vop at this;split at this
     .rename_i f bN heq;rw[heq] at au;exact absurd rfl au
     .rename_i f bN heq;rw[heq] at au;exact absurd rfl au
     .rename_i x heq;rw[heq] at au;exact absurd rfl au
     .cases dS:Q6 v.op (Q3 env) M with
      |none=>rw[dS] at this;exact this.elim
      |some p=>rw[dS] at this;exact⟨p,rfl,this⟩
    obtain⟨p,hp,hr⟩:=gh;have hq:p.2=M:=Dr au (v:=p.1) (M':=p.2) hp;rw[hq] at hr;rw[z1 au];split
    .rw[hp];refine⟨λU hτ=>?_,ih (i+1) dU _ _ _ _ hr⟩;have:U=M:=by
      have:=List.mem_of_mem_drop hτ;simpa using this
     subst this;show QW (Q6 v.op (Q3 env) U) _;rw[hp];rfl
    .rw[hp];exact ih (i+1) dU _ _ _ _ hr
   .rw[z1 au];exact ih (i+1) dU _ _ _ _ (hf e)
theorem Ol (hS:OkSpecs P S) {ro:Option Nat}{n:Nat}{ops:Array Oper}{vs:List VOper}(cE:ops.toList.mapM (J5 P ops)=some vs) {d0:DInfo}(hb:DBase ops d0) (_hk0:∀ i v,vs[i]?=some v->d0.k i=v.op.kind) {s len:Nat}(hlen:0<len) (gG:s+len<=ops.size) {x:DSeg}(hx:Z26 d0 vs s len=some x)
  {l l2:List Nat}(gk:l.Nodup) (aH:∀ i,i∈l<->(s<=i/\i<s+len)) (bW:∀ pre j post,l=pre++j::post->∀ e∈d0.ed.getD j [],e∈l->e∈pre) (g8:l.Pairwise λj i=>d0.lt i j=false)
  {rest:List DSeg}{env:Env}{M:Heap}{K:Env->Heap->Prop}{ρ:Plc}{w:World}{a:Act}(h:Mn S (x::rest) env M K) (hH:HRel ρ M w) (hL:LRel ρ M.n env a.tmps.toList) (dC:Mks B a.defers w)
  {Q:Exit->Act->World->Prop}(hQ:∀ a' w',By B (List.length env) ρ M w (λenv M=>Mn S rest env M K) a' w'->wpOpsIn (FF ro) n P ops Q l2 a' w'):wpOpsIn (FF ro) n P ops Q (l++l2) a w:=by
 have ni:vs.length=ops.size:=by have:=(Wl _ _ _ cE).1;simpa using this
 unfold Z26 at hx;split at hx
 .rename_i h1;subst h1;obtain rfl:=osj hx;have hs:s<ops.size:=by omega
  have eR:l=[s]:=by
   have hm:∀ i,i∈l<->i=s:=λi=>by rw[aH i];omega
   have hp:l.Perm [s]:=(xG gk (by simp)).2 λi=>by rw[hm i];simp
   exact List.perm_singleton.1 hp
  subst eR;obtain⟨v,hv,hc⟩:=(Wl _ _ _ cE).2 s ops[s] (by simp[hs]);have hg:vs.getD s default=v:=by simp[z4,hv]
  simp only[Mn,hg] at h;simp only[T1] at h;rw[List.singleton_append,wpOpsIn_cons];unfold wpOpIn;rw[xh hs];simp only;cases hw:J3 env v.guard with
  |none=>rw[hw] at h;exact h.elim
  |some b =>
   rw[hw] at h;obtain⟨ht,hf⟩:=h;obtain⟨dy,bD,bG⟩:=GO hc hL hw;rw[dy];cases b with
   |false =>rw[z1 (by simp)];refine⟨λf _=>Ev _ _,hQ _ _ ⟨_,ρ,M,hf rfl,Zp _ _ _,hH,by rw[bD];exact YQ hL Js _,by rw[X1];exact dC,Ext.refl _ _ _⟩⟩
   |true =>rw[z0 rfl];refine Vr hS bG hH hL (ht rfl) λc w' ⟨u,ρ',M',hK,eF,gH,hE⟩=>?_;exact hQ _ _ ⟨_,ρ',M',hK,Zp _ _ _,gH,by rw[bD];exact YQ (hE.lrel hL) eF _,by rw[X1];exact dC.ext hH hE,hE⟩
 .rename_i fM;simp only at hx;split at hx
  .rename_i hP;obtain rfl:=osj hx;simp only[Mn] at h;have fy:(l.filter λi=>d0.k i==2).Perm ((List.range' s len).filter λi=>d0.k i==2):=by
    refine (List.Perm.filter _ ?_);refine (xG gk List.nodup_range').2 λj=>?_;rw[aH j,List.mem_range'_1]
   have hs:=Rm d0.lt _ _ len fy (by
    refine zZ (List.length_filter_le _ _) (by simp)) (g8.filter _)
   have eW:=z6.1 hP _ (zq.2 ⟨_,hs,rfl⟩);have qA:=h _ (zq.2 ⟨_,zq.2 ⟨_,hs,rfl⟩,rfl⟩);exact P4 hS cE hb gk (λi hi=>by have:=(aH i).1 hi;omega) (λi=>by rw[aH i,List.mem_range'_1]) bW eW qA hH hL dC (λa' w' hn=>by
    obtain⟨af,ρ',M',⟨aT,M2,hD,hR⟩,n1,n2,n3,n4,n5⟩:=hn;obtain⟨ρ2,d1,d2,d3⟩:=hD ρ w ρ' w' a'.tmps.toList hH n5 n2 n3;exact hQ a' w' ⟨aT,ρ2,M2,hR,(d1.1.trans n3.1.symm).trans n1,d2,d1,n4,d3⟩)
  .cases hx
theorem AG (hS:OkSpecs P S) {ro:Option Nat}{n:Nat}{ops:Array Oper}{vs:List VOper}(cE:ops.toList.mapM (J5 P ops)=some vs) {d0:DInfo}(hb:DBase ops d0) (iZ:∀ i v,vs[i]?=some v->d0.k i=v.op.kind)
  {Q:Exit->Act->World->Prop}{K:Env->Heap->Prop}:∀ (f s:Nat) (aQ:List DSeg),Oz d0 vs f s=some aQ->s<=ops.size->∀ (l:List Nat),l.Nodup->(∀ i,i∈l<->(s<=i/\i<ops.size)) ->
   (∀ pre j post,l=pre++j::post->∀ e∈d0.ed.getD j [],e∈l->e∈pre)->(l.Pairwise λj i=>d0.lt i j=false) ->
   ∀ (env:Env) (M:Heap) (ρ:Plc) (w:World) (a:Act),Mn S aQ env M K->HRel ρ M w->LRel ρ M.n env a.tmps.toList->Mks B a.defers w->(∀ a' w',By B (List.length env) ρ M w K a' w'->Q .normal a' w') ->
   wpOpsIn (FF ro) n P ops Q l a w:=by
 intro f
 have fin:∀ (s:Nat) (aQ:List DSeg),s=d0.ks.length->[]=aQ->∀ (l:List Nat),(∀ i,i∈l<->(s<=i/\i<ops.size))->∀ (env:Env) (M:Heap) (ρ:Plc) (w:World) (a:Act),Mn S aQ env M K->HRel ρ M w->LRel ρ M.n env a.tmps.toList->Mks B a.defers w->(∀ a' w',By B (List.length env) ρ M w K a' w'->Q .normal a' w') ->
   wpOpsIn (FF ro) n P ops Q l a w:=by
  intro s aQ hs eX l aH env M ρ w a h hH hL dC hQ;subst eX;have:l=[]:=by
   cases l with
   |nil=>rfl
   |cons x l =>have:=(aH x).1 (by simp);rw[hs,hb.size] at this;omega
  subst this;exact hQ a w ⟨env,ρ,M,h,rfl,hH,hL,dC,Ext.refl _ _ _⟩
 induction f with
 |zero =>
  intro s aQ eX hs l gk aH bW g8 env M ρ w a h hH hL dC hQ;simp only[Oz] at eX;split at eX
  .rename_i he;exact fin s aQ he (osj eX) l aH env M ρ w a h hH hL dC hQ
  .cases eX
 |succ f ih =>
  intro s aQ eX hs l gk aH bW g8 env M ρ w a h hH hL dC hQ;simp only[Oz] at eX;split at eX
  .rename_i he;exact fin s aQ he (osj eX) l aH env M ρ w a h hH hL dC hQ
  .rename_i av;split at eX
   .cases eX
   .rename_i t ht;have qD:=List.find?_some ht;have nT:=List.mem_range'_1.1 (List.mem_of_find?_eq_some ht);rw[hb.size] at nT;split at eX
    .rename_i x r hx hr;obtain rfl:=osj eX;have ah:∀ i p,i<t->t<=p->p<ops.size->d0.lt i p=true:=λi p hi hp ja=>by
      have h1:=z6.1 qD p (List.mem_range'_1.2 ⟨hp,by rw[hb.size];omega⟩);exact z6.1 h1 i (zr.2 hi)
     have qE:l.Pairwise (λj i=>¬ (i<t/\t<=j)):=by refine (List.pairwise_iff_forall_sublist.2 λ{j i} eU=>?_);rintro⟨h1,h2⟩;have hj:j∈l:=eU.subset (by simp);have h3:=(List.pairwise_iff_forall_sublist.1 g8) eU;rw[ah i j h1 h2 ((aH j).1 hj).2] at h3;cases h3
     have dt:=Aj l qE;have nM:∀ i,i∈l.filter (λi=>decide (i<t))<->(s<=i/\i<s+(t-s)):=λi=>by rw[zy,aH i,zi];omega
     have jb:∀ i,i∈l.filter (λi=>decide (t<=i))<->(t<=i/\i<ops.size):=λi=>by rw[zy,aH i,zi];omega
     rw[dt];refine Ol hS cE hb iZ (by omega) (by omega) hx (gk.filter _) nM ?_ (g8.filter _) h hH hL dC ?_
     .intro pre j post he e gm hel;refine bW pre j (post++l.filter (λi=>decide (t<=i))) ?_ e gm (zy.1 hel).1;exact dt.trans (by rw[he,x7];rfl)
     .intro a' w' ⟨af,ρ',M',k1,k0,k2,k3,k4,k5⟩;refine ih t r hr (by omega) _ (gk.filter _) jb ?_ (g8.filter _) af M' ρ' w' a' k1 k2 k3 k4 ?_
      .intro pre j post he e gm hel;have:=bW (l.filter (λi=>decide (i<t))++pre) j post (dt.trans (by rw[he,x7])) e gm (zy.1 hel).1;rcases zu.1 this with h1|h1
       .have h2:=(zy.1 h1).2;have h3:=(zy.1 hel).2;simp at h2 h3;omega
       .exact h1
      .intro a2 w2 ⟨aT,ρ2,M2,m1,m0,m2,m3,m4,m5⟩;exact hQ a2 w2 ⟨aT,ρ2,M2,m1,m0.trans k0,m2,m3,m4,k5.trans m5⟩
    .cases eX
theorem Ei (hm:P.follows .mixedOrders=true) (hS:OkSpecs P S) {ro:Option Nat}{n:Nat}{id:Nat}{ops:Array Oper}{vs:List VOper}(cE:ops.toList.mapM (J5 P ops)=some vs) {aQ:List DSeg}(ai:Q4x (K6 ops.toList vs) vs=some aQ)
  {env:Env}{M:Heap}{K:Env->Heap->Prop}{ρ:Plc}{w:World}{a:Act}(h:Mn S aQ env M K) (hH:HRel ρ M w) (hL:LRel ρ M.n env a.tmps.toList) (dC:Mks B a.defers w)
  {Q:Exit->Act->World->Prop}(hQ:∀ a' w',By B (List.length env) ρ M w K a' w'->Q .normal a' w'):(Code.region id ops true).wpIn (FF ro) n P Q a w:=by
 unfold Q4x at ai;split at ai
 .rename_i hB;have hb:=On cE hB;have ef:∀ i v,vs[i]?=some v->(K6 ops.toList vs).k i=v.op.kind:=λi v hv=>by
   simp[DInfo.k,K6,z4,hv]
  generalize ql:K6 ops.toList vs=d0 at *
  refine wpIn_region_draw λt=>?_;simp only[Region.schedule,hm,Bool.true_or,zx];have gp:∀ (j:Nat) (o:Oper),ops[j]?=some o->∀ e∈Be o,e<j:=λj o ho e he=>hb.edge j (x3.1 ho).1 e (by rw[hb.ed j o ho];exact he);have ae:∀ i,(Array.replicate ops.size false).getD i false=false:=λi=>by rw[Array.getD_eq_getD_getElem?,Array.getElem?_replicate];split<;>rfl
  have gT:=Q45 gp ops.size t (Array.replicate ops.size false) (by simp) (by
   have:∀ m,cnt (λi=>(Array.replicate ops.size false).getD i false) m<=m:=by
    intro m;induction m with
    |zero=>exact z5 _
    |succ m ih=>simp only[cnt];split<;>omega
   exact this _)
  change wpOpsIn _ _ _ _ _ (Region.linearise.go .any ops ops.size t (Array.replicate ops.size false) []) _ _;generalize Region.linearise.go .any ops ops.size t (Array.replicate ops.size false) []=l at *
  obtain⟨eA,aH⟩:=Cm l _ (by simp) gT;have g8:=Q87 hb l _ (by simp) (λj _ hA=>by rw[ae] at hA;cases hA) gT;have bW:=A5 hb l _ (by simp) gT;refine AG hS cE hb ef _ 0 aQ ai (by omega) l eA (λi=>by rw[aH i,ae];simp) (λpre j post he e gm _=>?_) g8 env M ρ _ a h hH.drew hL (dC.ext hH (Ext.drew _ _ _)) (λa' w' hn=>?_)
  .rcases bW pre j post he e gm with h1|h1
   .rw[ae] at h1;cases h1
   .exact h1
  .obtain⟨af,ρ',M',n0,n1,n2,n3,n4,n5⟩:=hn;exact hQ a' w' ⟨af,ρ',M',n0,n1,n2,n3,n4,(Ext.drew _ _ _).trans n5⟩
 .cases ai
theorem LA (hm:P.follows .mixedOrders=true) (hS:OkSpecs P S) {ro:Option Nat}{n:Nat}{id:Nat}{ops:Array Oper}{vs:List VOper}(cE:ops.toList.mapM (J5 P ops)=some vs) (ai:G3 (K6 ops.toList vs) vs=true)
  {env:Env}{M:Heap}{K:Env->Heap->Prop}{ρ:Plc}{w:World}{a:Act}(h:T1 S vs env M K) (hH:HRel ρ M w) (hL:LRel ρ M.n env a.tmps.toList) (dC:Mks B a.defers w)
  {Q:Exit->Act->World->Prop}(hQ:∀ a' w',By B (List.length env) ρ M w K a' w'->Q .normal a' w'):(Code.region id ops true).wpIn (FF ro) n P Q a w:=by
 simp only[G3,z2] at ai;obtain⟨hB,lJ,jW⟩:=ai;have hb:=On cE hB;have ni:vs.length=ops.size:=by have:=(Wl _ _ _ cE).1;simpa using this
 have au:∀ v∈vs,v.op.kind≠2:=λv hv=>by have:=z6.1 lJ v hv;simpa using this
 have ef:∀ i v,vs[i]?=some v->(K6 ops.toList vs).k i=v.op.kind:=λi v hv=>by simp[DInfo.k,K6,z4,hv]
 generalize ql:K6 ops.toList vs=d0 at *
 refine wpIn_region_draw λt=>?_;simp only[Region.schedule,hm,Bool.true_or,zx];have gp:∀ (j:Nat) (o:Oper),ops[j]?=some o->∀ e∈Be o,e<j:=λj o ho e he=>hb.edge j (x3.1 ho).1 e (by rw[hb.ed j o ho];exact he);have ae:∀ i,(Array.replicate ops.size false).getD i false=false:=λi=>by rw[Array.getD_eq_getD_getElem?,Array.getElem?_replicate];split<;>rfl
 have gT:=Q45 gp ops.size t (Array.replicate ops.size false) (by simp) (by
  have:∀ m,cnt (λi=>(Array.replicate ops.size false).getD i false) m<=m:=by
   intro m;induction m with
   |zero=>exact z5 _
   |succ m ih=>simp only[cnt];split<;>omega
  exact this _)
 change wpOpsIn _ _ _ _ _ (Region.linearise.go .any ops ops.size t (Array.replicate ops.size false) []) _ _;generalize Region.linearise.go .any ops ops.size t (Array.replicate ops.size false) []=l at *
 obtain⟨eA,aH⟩:=Cm l _ (by simp) gT;have bW:=A5 hb l _ (by simp) gT;have ah:∀ i∈l,i<ops.size:=λi hi=>((aH i).1 hi).1;have iw:l.filter (λi=>d0.k i==2)=[]:=List.filter_eq_nil_iff.2 λi hi=>by have aO:=ah i hi;have rS:vs[i]?=some vs[i]:=z3 (by omega);rw[ef i _ rS];simpa using au _ (zE rS)
 have tM:VI vs (List.range' 0 d0.ks.length)=vs:=by
  apply zT;intro i;unfold VI;rw[zQ];rcases zh i vs.length with hi|hi
  .rw[List.getElem?_range' (by rw[hb.size];omega),z3 hi];simp[z4,hi]
  .rw[zj (by simp[hb.size];omega),zj hi];rfl
 have hd:=RR (S:=S) (LN d0 vs (List.range' 0 d0.ks.length)) vs 0 au env M [] K h;rw[<-xC l];refine P4 hS cE hb eA ah (λi=>by rw[aH i,ae,List.mem_range'_1,hb.size];simp) (λpre j post he e gm _=>?_) (idx:=List.range' 0 d0.ks.length) (pm:=List.range' 0 d0.ks.length) (by rw[iw];exact jW) (by rw[tM];exact hd) hH.drew hL (dC.ext hH (Ext.drew _ _ _)) (λa' w' hn=>?_)
 .rcases bW pre j post he e gm with h1|h1
  .rw[ae] at h1;cases h1
  .exact h1
 .obtain⟨af,ρ',M',n0,n1,n2,n3,n4,n5⟩:=hn;exact hQ a' w' ⟨af,ρ',M',n0,n1,n2,n3,n4,(Ext.drew _ _ _).trans n5⟩
theorem Sj (hS:OkSpecs P S) {id:Nat}{ops:Array Oper}{lv:List VOper}(bR:ops.toList.mapM (J5 P ops)=some lv):Sound P S (.region id ops false) (.region lv):=by intro B de ro n Q env M ρ w a h hH hL hd hR Q' hQ;simp only[vwp] at h;refine wpIn_region ?_;rw[List.range_eq_range',<-Array.length_toList,wpOpsIn_eq_wpListIn ops.toList 0 (by simp)];exact AH hS ops Q' ops.toList lv bR env M _ ρ w a h hH hL hd (λa' w' hn=>hQ .normal a' w' hn)
theorem cond_true {v:Value}{A B:Prop}(h:ID v A B):∃ t,v=.bool t/\(t=true->A)/\(t=false->B):=by
 unfold ID at h;split at h
 .exact⟨_,rfl,h⟩
 .exact h.elim
theorem E9 {c:Code}{vc:VCode}(ih:Sound P S c vc):Sound P S (.loop c) (.loop vc):=by
 intro B de ro n Q env M ρ w a h hH hL hd hR Q' hQ;simp only[vwp] at h;obtain⟨live,I,n0,h0,lK⟩:=h;refine wpIn_loop_ghost (λk a' w'=>By B (List.length env) ρ M w (λaf M'=>I k (BE live af) M') a' w') n0 ⟨env,ρ,M,h0,rfl,hH,hL,hd,Ext.refl _ _ _⟩ ?_;rintro k a1 w1 ⟨bz,ρ1,σ1,k1,k0,k2,k3,k4,k5⟩;have hlen:List.length (XD live (BE live bz) (List.replicate env.length poison))=List.length env:=by rw[RC];simp
 refine ih de ro n _ _ σ1 ρ1 w1 a1 (lK k (BE live bz) σ1 k1) k2 (EC live bz _ _ k3 (EM _ (by rw[<-k3.1,k0]))) k4 (hR.ext k5) _ ?_;rintro e a2 w2 ⟨aT,ρ2,M2,m1,m0,m2,m3,m4,m5⟩;rw[hlen] at m0;cases e with
 |normal =>obtain⟨n',pC,hI⟩:=m1;exact⟨n',pC,aT,ρ2,M2,hI,m0,m2,m3,m4,k5.trans m5⟩
 |_=>exact hQ _ a2 w2 ⟨aT,ρ2,M2,m1,m0,m2,m3,m4,k5.trans m5⟩
theorem GC (c:Code):Sound P S c .bad:=by intro B de ro n Q env M ρ w a h;exact h.elim
theorem AQ (hm:P.follows .mixedOrders=true) (hS:OkSpecs P S):∀ (c:Code) (vc:VCode),comp P c=some vc->Sound P S c vc:=by
 intro c;induction c with
 |skip =>intro vc hc;simp[comp] at hc;subst hc;intro B de ro n Q env M ρ w a h hH hL hd hR Q' hQ;exact wpIn_skip (hQ _ _ _ ⟨env,ρ,M,h,rfl,hH,hL,hd,Ext.refl _ _ _⟩)
 |region id ops dr =>
  intro vc hc;cases dr with
  |false =>simp only[comp,zJ,x4] at hc;obtain⟨lv,bR,hc⟩:=hc;simp at hc;subst hc;exact Sj hS bR
  |true =>
   simp only[comp,zJ,x4] at hc;obtain⟨lv,bR,hc⟩:=hc;split at hc
   .rename_i ai;simp at hc;subst hc;intro B de ro n Q env M ρ w a h hH hL hd hR Q' hQ;exact LA hm hS bR ai h hH hL hd (λa' w' hn=>hQ .normal a' w' hn)
   split at hc
   .rename_i aQ ai;simp at hc;subst hc;intro B de ro n Q env M ρ w a h hH hL hd hR Q' hQ;exact Ei hm hS bR ai h hH hL hd (λa' w' hn=>hQ .normal a' w' hn)
   .simp at hc;subst hc;exact GC _
 |seq x y jI nU =>
  intro vc hc;simp only[comp,zJ,x4] at hc;obtain⟨vx,hx,vy,hy,hc⟩:=hc;simp at hc;subst hc;intro B de ro n Q env M ρ w a h hH hL hd hR Q' hQ;simp only[vwp] at h;refine wpIn_seq (jI vx hx de ro n _ env M ρ w a h hH hL hd hR _ ?_);rintro e a1 w1 ⟨bz,ρ1,σ1,k1,k0,k2,k3,k4,k5⟩;cases e with
  |normal =>refine nU vy hy de ro n _ bz σ1 ρ1 w1 a1 k1 k2 k3 k4 (hR.ext k5) _ ?_;rintro e2 a2 w2 ⟨aT,ρ2,M2,m1,m0,m2,m3,m4,m5⟩;exact hQ e2 a2 w2 ⟨aT,ρ2,M2,m1,m0.trans k0,m2,m3,m4,k5.trans m5⟩
  |_=>exact hQ _ a1 w1 ⟨bz,ρ1,σ1,k1,k0,k2,k3,k4,k5⟩
 |cond c x y jI nU =>
  intro vc hc;simp only[comp] at hc;split at hc
  .rename_i ai;simp only[zJ,x4] at hc;obtain⟨vx,hx,vy,hy,hc⟩:=hc;simp at hc;subst hc;intro B de ro n Q env M ρ w a h hH hL hd hR Q' hQ;simp only[vwp] at h;obtain⟨t,ht,h1,h2⟩:=cond_true h;have hv:=W2 hL ai;rw[ht] at hv;refine wpIn_cond_split hv.q1d (λe=>?_) (λe=>?_)
   .exact jI vx hx de ro n Q env M ρ w a (h1 e) hH hL hd hR Q' hQ
   .exact nU vy hy de ro n Q env M ρ w a (h2 e) hH hL hd hR Q' hQ
  .simp at hc;subst hc;exact GC _
 |block id x jI =>
  intro vc hc;simp only[comp,zJ,x4] at hc;obtain⟨vx,hx,hc⟩:=hc;simp at hc;subst hc;intro B de ro n Q env M ρ w a h hH hL hd hR Q' hQ;simp only[vwp] at h;refine wpIn_block (jI vx hx de ro n _ env M ρ w a h hH hL hd hR _ ?_);rintro e a1 w1 ⟨bz,ρ1,σ1,k1,k0,k2,k3,k4,k5⟩;cases e with
  |exit hZ =>
   simp only[AD] at k1;simp only[Exit.inBlock];split at k1
   .rename_i he;rw[z0 he];exact hQ _ a1 w1 ⟨bz,ρ1,σ1,k1,k0,k2,k3,k4,k5⟩
   .rename_i he;rw[z1 he];exact hQ _ a1 w1 ⟨bz,ρ1,σ1,k1,k0,k2,k3,k4,k5⟩
  |_=>exact hQ _ a1 w1 ⟨bz,ρ1,σ1,k1,k0,k2,k3,k4,k5⟩
 |loop x jI =>intro vc hc;simp only[comp,zJ,x4] at hc;obtain⟨vx,hx,hc⟩:=hc;simp at hc;subst hc;exact E9 (jI vx hx)
 |rangeFunc g ps x y jI nU =>
  intro vc hc;simp only[comp] at hc;split at hc
  .rename_i ai;simp only[zJ,x4] at hc;obtain⟨vx,hx,vy,hy,hc⟩:=hc;simp at hc;subst hc;exact LS hS (jI vx hx) (nU vy hy) g ai ps
  .simp at hc;subst hc;exact GC _
 |exit id =>intro vc hc;simp[comp] at hc;subst hc;intro B de ro n Q env M ρ w a h hH hL hd hR Q' hQ;exact wpIn_exit (hQ _ _ _ ⟨env,ρ,M,h,rfl,hH,hL,hd,Ext.refl _ _ _⟩)
 |ret =>intro vc hc;simp[comp] at hc;subst hc;intro B de ro n Q env M ρ w a h hH hL hd hR Q' hQ;exact wpIn_ret (hQ _ _ _ ⟨env,ρ,M,h,rfl,hH,hL,hd,Ext.refl _ _ _⟩)
 |_ =>intro vc hc;simp[comp] at hc;subst hc;exact GC _
end
end Go.V
namespace Go.V
open Go
inductive Ren (n:Nat) (π:Nat->Nat):Value->Value->Prop
 |plain (v:Value) (h:QN v=true):Ren n π v v
 |poison (c:Value):Ren n π poison c
 |glob (g o s:Nat):Ren n π (.pointer (some ⟨g,o,some s⟩)) (.pointer (some ⟨g,o,some s⟩))
 |ptr (i o:Nat) (hi:i<n):Ren n π (.pointer (some ⟨i,o,none⟩)) (.pointer (some ⟨π i,o,none⟩))
 |sl (i o len cap:Nat) (hi:i<n):Ren n π (.slice (some ⟨i,o,none⟩) len cap) (.slice (some ⟨π i,o,none⟩) len cap)
 |slx (i o len cap:Nat) (hi:i<n):Ren n π (.slice (some ⟨i,o,some 0⟩) len cap) (.slice (some ⟨π i,o,some 0⟩) len cap)
 |map (i:Nat) (hi:i<n):Ren n π (.map (some i)) (.map (some (π i)))
 |iface (t:TypeId) (v c:Value) (h:Ren n π v c):Ren n π (.iface t v) (.iface t c)
 |yield (i:Nat) (hi:i<n):Ren n π (.func (.yield i) #[] #[]) (.func (.yield (π i)) #[] #[])
 |func (fn:FuncId) (fs gs cs ds:Array Value) (hf:fs.size=gs.size) (hc:cs.size=ds.size)
   (h1:∀ i (h1:i<fs.size) (h2:i<gs.size),Ren n π fs[i] gs[i]) (h2:∀ i (h1:i<cs.size) (h2:i<ds.size),Ren n π cs[i] ds[i]):Ren n π (.func (.func fn) fs cs) (.func (.func fn) gs ds)
 |agg (cs ds:Array Value) (hc:cs.size=ds.size) (h:∀ i (h1:i<cs.size) (h2:i<ds.size),Ren n π cs[i] ds[i]):Ren n π (.agg cs) (.agg ds)
 |tuple (cs ds:Array Value) (hc:cs.size=ds.size) (h:∀ i (h1:i<cs.size) (h2:i<ds.size),Ren n π cs[i] ds[i]):Ren n π (.tuple cs) (.tuple ds)
def LRen (n:Nat) (π:Nat->Nat) (vs cs:List Value):Prop:=vs.length=cs.length/\∀ (i:Nat) (v c:Value),vs[i]?=some v->cs[i]?=some c->Ren n π v c
theorem Ren.rel {ρ:Plc}{nf n':Nat}{π:Nat->Nat}{v' v:Value}(h:Ren n' π v' v):∀ {c:Value},VRel ρ nf v c->VRel (λi=>if i<n' then ρ (π i) else none) n' v' c:=by
 induction h with
 |plain v h =>intro c hv;have:c=v:=KQ h hv;subst this;exact W1 h
 |poison c=>intro c _;exact .poison _
 |glob g o s=>intro c hv;cases hv;exact .glob _ _ _
 |ptr i o hi =>intro c hv;obtain⟨a,rfl,_,h⟩:=hv.q1g;exact .ptr _ _ _ hi λp hp=>h p (by simpa [hi] using hp)
 |sl i o len cap hi =>intro c hv;obtain⟨a,aq,rfl,_,h⟩:=hv.q1b;exact .sl _ _ _ _ _ _ hi λp hp=>h p (by simpa [hi] using hp)
 |slx i o len cap hi =>
  intro c hv;cases hv with
  |slx _ _ _ _ a _ h=>exact .slx _ _ _ _ _ hi λp hp=>h p (by simpa [hi] using hp)
 |map i hi =>
  intro c hv;cases hv with
  |map _ r _ h=>exact .map _ _ hi λp hp=>h p (by simpa [hi] using hp)
 |yield i hi =>
  intro c hv;cases hv with
  |yield _ r _ h=>exact .yield _ _ hi λp hp=>h p (by simpa [hi] using hp)
 |iface t v c h ih =>
  intro c hv;cases hv with
  |iface _ _ _ h=>exact .iface _ _ _ (ih h)
 |func fn fs gs cs ds hf hc h1 h2 lg lh =>
  intro c hv;cases hv with
  |func _ _ vn _ ds' lL cO jd mS =>exact .func _ _ _ _ _ (hf.trans lL) (hc.trans cO) (λi k1 k2=>lg i k1 (by omega) (jd i (by omega) k2)) (λi k1 k2=>lh i k1 (by omega) (mS i (by omega) k2))
 |agg cs ds hc h ih =>
  intro c hv;cases hv with
  |agg _ ds' cO h'=>exact .agg _ _ (hc.trans cO) λi k1 k2=>ih i k1 (by omega) (h' i (by omega) k2)
 |tuple cs ds hc h ih =>
  intro c hv;cases hv with
  |tuple _ ds' cO h'=>exact .tuple _ _ (hc.trans cO) λi k1 k2=>ih i k1 (by omega) (h' i (by omega) k2)
theorem VRel.ren {ρ:Plc}{n n':Nat}{π:Nat->Nat}(hn:n<=n') (hπ:∀ i,i<n->π i=i) {v c:Value}(h:VRel ρ n v c):Ren n' π v v:=by
 induction h with
 |poison c=>exact .poison _
 |bool b=>exact .plain _ rfl
 |int k x=>exact .plain _ rfl
 |string s=>exact .plain _ rfl
 |nilPtr=>exact .plain _ rfl
 |nilSl=>exact .plain _ rfl
 |nilMap=>exact .plain _ rfl
 |nilFunc=>exact .plain _ rfl
 |nilIface=>exact .plain _ rfl
 |glob g o s=>exact .glob _ _ _
 |ptr i o a hi h=>have:=Ren.ptr (n:=n') (π:=π) i o (by omega);rwa [hπ i hi] at this
 |sl i o len cap a aq hi h=>have:=Ren.sl (n:=n') (π:=π) i o len cap (by omega);rwa [hπ i hi] at this
 |slx i o len cap a hi h=>have:=Ren.slx (n:=n') (π:=π) i o len cap (by omega);rwa [hπ i hi] at this
 |map i r hi h=>have:=Ren.map (n:=n') (π:=π) i (by omega);rwa [hπ i hi] at this
 |yield i r hi h=>have:=Ren.yield (n:=n') (π:=π) i (by omega);rwa [hπ i hi] at this
 |iface t v c _ ih=>exact .iface _ _ _ ih
 |func fn fs gs cs ds hf hc _ _ lg lh=>exact .func _ _ _ _ _ rfl rfl (λi k1 _=>lg i k1 (by omega)) (λi k1 _=>lh i k1 (by omega))
 |agg cs ds hc _ ih=>exact .agg _ _ rfl λi k1 _=>ih i k1 (by omega)
 |tuple cs ds hc _ ih=>exact .tuple _ _ rfl λi k1 _=>ih i k1 (by omega)
theorem LRen.rel {ρ:Plc}{nf n':Nat}{π:Nat->Nat}{cN vs:List Value}(h:LRen n' π cN vs) {cs:List Value}(hL:LRel ρ nf vs cs):LRel (λi=>if i<n' then ρ (π i) else none) n' cN cs:=by
 refine⟨h.1.trans hL.1,λi v c hv hc=>?_⟩;have ah:i<vs.length:=by rw[<-h.1];exact(z7.1 hv).1
 exact(h.2 i v _ hv (z3 ah)).rel (hL.2 i _ c (z3 ah) hc)
theorem LRel.ren {ρ:Plc}{n n':Nat}{π:Nat->Nat}(hn:n<=n') (hπ:∀ i,i<n->π i=i) {vs cs:List Value}(h:LRel ρ n vs cs):LRen n' π vs vs :=
 ⟨rfl,λi v u hv hu=>by
  obtain rfl:v=u:=osj (hv.symm.trans hu);obtain⟨c,_,hc⟩:=h.get hv;exact hc.ren hn hπ⟩
def ORen (n:Nat) (π:Nat->Nat):VObj->VObj->Prop
 |.map es clock,.map fs lM=>clock=lM/\es.length=fs.length/\∀ (k:Nat) (a b:Jo),es[k]?=some a->fs[k]?=some b->a.1=b.1/\a.2.2=b.2.2/\Ren n π a.2.1 b.2.1
 |.iter m since seen last,.iter m' lN nV nW=>m'=π m/\m<n/\since=lN/\seen=nV/\last=nW
 |.lp env r st pend,.lp af r' mP bV=>LRen n π env af/\r=r'/\st=mP/\pend=bV
 |_,_=>False
theorem ORen.rel {ρ:Plc}{nf n':Nat}{π:Nat->Nat}{o' o:VObj}(h:ORen n' π o' o) {O:Obj}(hO:ORel ρ nf o O):ORel (λi=>if i<n' then ρ (π i) else none) n' o' O:=by
 cases o'<;>cases o<;>try exact h.elim
 .obtain⟨rfl,hl,hk⟩:=h;obtain⟨entries,h1,h2,h3⟩:=hO;refine⟨entries,h1,by rw[hl];exact h2,λk a ha=>?_⟩;have bg:=(z7.1 ha).1;rw[hl] at bg;obtain⟨e,he,h4,h5,h6⟩:=h3 k _ (z3 bg);obtain⟨k1,k2,k3⟩:=hk k a _ ha (z3 bg);exact⟨e,he,h4.trans k1.symm,h5.trans k2.symm,k3.rel h6⟩
 .obtain⟨rfl,hm,rfl,rfl,rfl⟩:=h;obtain⟨rm,h1,h2⟩:=hO;exact⟨rm,h1,(Ren.map _ hm).rel h2⟩
 .obtain⟨hl,rfl,rfl,rfl⟩:=h;exact⟨hO.1,hl.rel hO.2⟩
theorem ORel.ren {ρ:Plc}{n n':Nat}{π:Nat->Nat}(hn:n<=n') (hπ:∀ i,i<n->π i=i) {o:VObj}{O:Obj}(h:ORel ρ n o O):ORen n' π o o:=by
 cases o with
 |map es clock =>obtain⟨entries,h1,h2,h3⟩:=h;refine⟨rfl,rfl,λk a b ha hb=>?_⟩;obtain rfl:a=b:=osj (ha.symm.trans hb);obtain⟨e,_,_,_,hv⟩:=h3 k a ha;exact⟨rfl,rfl,hv.ren hn hπ⟩
 |iter m since seen last =>
  obtain⟨rm,h1,h2⟩:=h;cases h2 with
  |map _ _ hi _=>exact⟨(hπ m hi).symm,by omega,rfl,rfl,rfl⟩
 |lp env r st pend=>exact⟨h.2.ren hn hπ,rfl,rfl,rfl⟩
def BRen (n:Nat) (π:Nat->Nat):Blk->Blk->Prop
 |.cells c esz wr tight,.cells d nX lA iB=>esz=nX/\wr=lA/\tight=iB/\LRen n π c d
 |.obj o wr,.obj o' lA=>wr=lA/\ORen n π o o'
 |_,_=>False
theorem BRen.wr {n:Nat}{π:Nat->Nat}{b c:Blk}(h:BRen n π b c):b.wr=c.wr:=by cases b<;>cases c<;>first|(exact h.elim)|exact h.2.1|exact h.1
theorem BRen.rel {ρ:Plc}{nf n':Nat}{π:Nat->Nat}{p:Pl}{w:World}{b' b:Blk}(h:BRen n' π b' b) (hB:BRel ρ nf p w b):BRel (λi=>if i<n' then ρ (π i) else none) n' p w b':=by
 cases b' with
 |cells c esz wr tight =>
  cases b with
  |cells d nX lA iB =>
   obtain⟨rfl,rfl,rfl,hl⟩:=h;obtain⟨h1,h2,h3,h4,h5,h6⟩:=hB;refine⟨h1,h2,by rw[hl.1];exact h3,h4,λk v hk=>?_,h6⟩;have bg:k<d.length:=by rw[<-hl.1];exact(z7.1 hk).1
   obtain⟨u,hu,hv⟩:=h5 k _ (z3 bg);exact⟨u,hu,(hl.2 k v _ hk (z3 bg)).rel hv⟩
  |obj _ _=>exact h.elim
 |obj o wr =>
  cases b with
  |cells _ _ _ _=>exact h.elim
  |obj o' lA =>obtain⟨rfl,ho⟩:=h;obtain⟨h0,O,h1,h2⟩:=hB;exact⟨h0,O,h1,ho.rel h2⟩
def VObj.plain:VObj->Bool
 |.map es _=>es.all λkv=>QN kv.2.1
 |_=>false
def Blk.plain:Blk->Bool
 |.cells c _ _ _=>c.all QN
 |.obj o _=>o.plain
theorem LRen.plain {n:Nat}{π:Nat->Nat}{c:List Value}(h:c.all QN=true):LRen n π c c :=
 ⟨rfl,λi v u hv hu=>by
  obtain rfl:v=u:=osj (hv.symm.trans hu);exact .plain _ (z6.1 h v (zE hv))⟩
theorem BRen.plain {n:Nat}{π:Nat->Nat}{b:Blk}(h:b.plain=true):BRen n π b b:=by
 cases b with
 |cells c esz wr tight=>exact⟨rfl,rfl,rfl,LRen.plain h⟩
 |obj o wr =>
  cases o with
  |map es clock =>refine⟨rfl,rfl,rfl,λk a b ha hb=>?_⟩;obtain rfl:a=b:=osj (ha.symm.trans hb);exact⟨rfl,rfl,.plain _ (z6.1 h a (zE ha))⟩
  |_=>cases h
theorem BRel.ren {ρ:Plc}{n n':Nat}{π:Nat->Nat}(hn:n<=n') (hπ:∀ i,i<n->π i=i) {p:Pl}{w:World}{b:Blk}(h:BRel ρ n p w b):BRen n' π b b:=by
 cases b with
 |cells c esz wr tight =>refine⟨rfl,rfl,rfl,rfl,λi v u hv hu=>?_⟩;obtain rfl:v=u:=osj (hv.symm.trans hu);obtain⟨_,_,tN⟩:=h.2.2.2.2.1 i v hv;exact tN.ren hn hπ
 |obj o wr =>obtain⟨_,O,_,ho⟩:=h;exact⟨rfl,ho.ren hn hπ⟩
def DropTo (σ0:Heap) (v:Value) (σf:Heap) (v':Value) (M':Heap):Prop :=
 ∀ ρ0 w0 ρ w c,HRel ρ0 σ0 w0->Ext ρ0 σ0 w0 ρ σf w->HRel ρ σf w->VRel ρ σf.n v c->∃ ρ',VRel ρ' M'.n v' c/\HRel ρ' M' w/\Ext ρ0 σ0 w0 ρ' M' w
theorem DropTo.refl (σ0:Heap) (v:Value) (σf:Heap):DropTo σ0 v σf v σf:=λ_ _ ρ _ _ _ hE hH hv=>⟨ρ,hv,hH,hE⟩
theorem DropTo.rename {σ0 σf M':Heap}{v v':Value}(π:Nat->Nat) (h1:σ0.n<=M'.n)
  (h2:∀ i,i<σ0.n->π i=i/\M'.get i=σf.get i/\(σf.get i=σ0.get i\/∃ b,σf.get i=some b/\b.plain=true))
  (h3:∀ i,σ0.n<=i->i<M'.n->σ0.n<=π i/\∃ b' b,M'.get i=some b'/\σf.get (π i)=some b/\BRen M'.n π b' b)
  (h4:∀ i j,σ0.n<=i->i<M'.n->σ0.n<=j->j<M'.n->π i=π j->i=j) (h5:Ren M'.n π v' v):DropTo σ0 v σf v' M':=by
 intro ρ0 w0 ρ w c gi hE hH hv;have hπ:∀ i,i<σ0.n->π i=i:=λi hi=>(h2 i hi).1;have aB:∀ i b',M'.get i=some b'->∃ b,σf.get (π i)=some b/\BRen M'.n π b' b:=λi b' hb=>by
  have hi:=M'.lt hb;rcases zh i σ0.n with ah|bw
  .obtain⟨k1,k2,k3⟩:=h2 i ah;rw[k1];rw[k2] at hb;refine⟨b',hb,?_⟩;rcases k3 with k3|⟨b,k3,k4⟩
   .rw[k3] at hb;obtain⟨p,_,hB⟩:=gi.live i b' hb;exact hB.ren h1 hπ
   .rw[k3] at hb;obtain rfl:=osj hb;exact BRen.plain k4
  .obtain⟨_,b1,b,k1,k2,k3⟩:=h3 i bw hi;rw[k1] at hb;obtain rfl:=osj hb;exact⟨b,k2,k3⟩
 have eY:∀ i j,i<M'.n->j<M'.n->π i=π j->i=j:=λi j hi hj he=>by
  rcases zh i σ0.n with ah|bw<;>rcases zh j σ0.n with b6|iC
  .rw[hπ i ah,hπ j b6] at he;exact he
  .have:=(h3 j iC hj).1;rw[hπ i ah] at he;omega
  .have:=(h3 i bw hi).1;rw[hπ j b6] at he;omega
  .exact h4 i j bw hi iC hj he
 have hX:Ext ρ0 σ0 w0 (λi=>if i<M'.n then ρ (π i) else none) M' w:=by
  refine⟨hE.os,hE.tape,hE.output,hE.size,hE.keep,?_,h1,λi hi p hp=>?_⟩
  .rintro B hB ⟨i,p,b,hp,hb,hw,rfl⟩;change (if i<M'.n then ρ (π i) else none)=some p at hp;split at hp
   .obtain⟨b0,bm,bE⟩:=aB i b hb;exact hE.wr _ hB ⟨π i,p,b0,hp,bm,by rw[<-bE.wr];exact hw,rfl⟩
   .cases hp
  .change (if i<M'.n then ρ (π i) else none)=some p at hp;split at hp
   .rw[hπ i hi] at hp;exact hE.pl i hi p hp
   .cases hp
 refine⟨λi=>if i<M'.n then ρ (π i) else none,h5.rel hv,gi.ext ⟨λi b' hb=>?_,λi hi=>?_,λi p hp=>?_,λi j p q b bY hp hq hb hw hx=>?_⟩ hX,hX⟩
 .obtain⟨b,bm,bE⟩:=aB i b' hb;obtain⟨p,hp,hB⟩:=hH.live _ b bm;exact⟨p,by simp[M'.lt hb,hp],bE.rel hB⟩
 .show (if i<M'.n then ρ (π i) else none)=none;split
  .rename_i ah;rcases zh i σ0.n with b6|bw
   .obtain⟨k1,k2,_⟩:=h2 i b6;rw[k1];exact hH.dead i (by rw[<-k2];exact hi)
   .obtain⟨_,b1,b,k1,_⟩:=h3 i bw ah;rw[k1] at hi;cases hi
  .rfl
 .change (if i<M'.n then ρ (π i) else none)=some p at hp;split at hp
  .exact hH.lt _ p hp
  .cases hp
 .change (if i<M'.n then ρ (π i) else none)=some p at hp;change (if j<M'.n then ρ (π j) else none)=some q at hq;split at hp
  .rename_i hi;split at hq
   .rename_i hj;obtain⟨b0,bm,bE⟩:=aB i b hb;exact hH.sep (π i) (π j) p q b0 (λe=>bY (eY i j hi hj e)) hp hq bm (by rw[<-bE.wr];exact hw) hx
   .cases hq
  .cases hp
def Agree (σ0 σf:Heap):Prop:=∀ i,i<σ0.n->σf.get i=σ0.get i
theorem Agree.refl (M:Heap):Agree M M:=λ_ _=>rfl
theorem Agree.push {σ0 M:Heap}(h:Agree σ0 M) (hn:σ0.n<=M.n) (b:Blk):Agree σ0 (M.push b):=λi hi=>(Heap.q0i M b (by omega)).trans (h i hi)
theorem Agree.trans {σ0 σ1 M2:Heap}(h:Agree σ0 σ1) (k:Agree σ1 M2) (hn:σ0.n<=σ1.n):Agree σ0 M2:=λi hi=>(k i (by omega)).trans (h i hi)
section
variable {P:Program}{S:VSpecs}
def Vn (tmps:Array Value):ResultVar->Sem Value
 |.tmp t=>pure (tmps.getD t undef)
 |.cell a t=>do loadVar t (<-asAddr (tmps.getD a undef))
theorem TQ (fn:Func) (tmps:Array Value):results fn tmps=(do
  let vs <-fn.results.mapM (Vn tmps)
  pure (if h:vs.size=1 then vs[0] else .tuple vs)):=by
 unfold results;congr 1
theorem Ro {ρ:Plc}{M:Heap}{w:World}{env:Env}{tmps:Array Value}(hH:HRel ρ M w) (hL:LRel ρ M.n env tmps.toList) {r:ResultVar}{vr:VResult}
  (hc:Jx P r=some vr) {v:Value}(h:Jm env M vr=some v):∃ c,VRel ρ M.n v c/\(Vn tmps r).run P w=.ok c w:=by
 have aj:∀ t,VRel ρ M.n (env.getD t undef) (tmps.getD t undef):=λt=>W2 (a:=⟨tmps,[]⟩) hL (x:=.tmp t) rfl;cases r with
 |tmp t =>simp[Jx] at hc;subst hc;simp only[Jm,xd] at h;subst h;exact⟨_,aj t,rfl⟩
 |cell a t =>
  simp only[Jx] at hc;split at hc
  .rename_i i d hi hu;simp at hc;subst hc;simp only[Jm,zo] at h;obtain⟨p,hp,rfl⟩:=h;simp only[Q6,Q3] at hp;have ha:=aj a;split at hp
   .rename_i g o s h1;rw[h1] at ha;split at hp
    .rename_i c hb;split at hp
     .rename_i ae;split at hp
      .rename_i v0 hv;simp at hp;subst hp;obtain⟨u,cD,hr⟩:=Su hH hi hu hb ae hv ha;refine⟨u,cD,?_⟩;have:=hr w (Like.refl ρ w);have nY:tmps.getD a undef=.pointer (some ⟨g,o,none⟩):=by
        generalize tmps.getD a undef=c at ha;cases ha;rfl
       rw[nY] at this;simp only[Instr.loadAt,Instr.sureAddr,zt,x5,zd] at this;simp only[Vn,nY,asAddr,zt,x5,zd];exact this
      .cases hp
     .cases hp
    .cases hp
   .rename_i i' o h1;rw[h1] at ha;split at hp
    .rename_i c esz wr tight hb;split at hp
     .rename_i v0 hv;simp at hp;subst hp;obtain⟨u,cD,hr⟩:=Ag hH hi hu hb hv ha;refine⟨u,cD,?_⟩;have:=hr w (Like.refl ρ w);obtain⟨ad,nY,_⟩:=ha.q1g;rw[nY] at this;simp only[Instr.loadAt,Instr.sureAddr,zt,x5,zd] at this;simp only[Vn,nY,asAddr,zt,x5,zd];exact this
     .cases hp
    .cases hp
   .cases hp
  .cases hc
theorem Co {α:Type}{ρ:Plc}{n:Nat}(g:α->Sem Value) (w:World) (f:α->Option Value):∀ (l:List α) (vs:List Value),l.mapM f=some vs ->
  (∀ a∈l,∀ v,f a=some v->∃ c,VRel ρ n v c/\(g a).run P w=.ok c w)->∃ cs,LRel ρ n vs cs/\(l.mapM g).run P w=.ok cs w:=by
 intro l;induction l with
 |nil=>intro vs h _;simp at h;subst h;exact⟨[],LRel.nil _ _,rfl⟩
 |cons a l ih =>
  intro vs h hg;rw[xk] at h;cases hf:f a with
  |none=>simp[hf] at h
  |some v =>
   cases hm:l.mapM f with
   |none=>simp[hf,hm] at h
   |some cN =>simp[hf,hm] at h;subst h;obtain⟨c,fJ,g9⟩:=hg a (by simp) v hf;obtain⟨cs,qF,jJ⟩:=ih cN hm (λb hb=>hg b (by simp[hb]));refine⟨c::cs,LRel.cons fJ qF,?_⟩;rw[xk];simp[g9,jJ]
theorem Tv {ρ:Plc}{M:Heap}{w:World}{env:Env}{tmps:Array Value}(hH:HRel ρ M w) (hL:LRel ρ M.n env tmps.toList) {fn:Func}{rs:List VResult}
  (hc:U3 P fn.results.toList=some rs) {v:Value}(h:ZM env M rs=some v):∃ c,VRel ρ M.n v c/\(results fn tmps).run P w=.ok c w:=by
 unfold U3 at hc;have ae:∀ vs,rs.mapM (Jm env M)=some vs->∃ cs,LRel ρ M.n vs cs/\(fn.results.mapM (Vn tmps)).run P w=.ok cs.toArray w:=by
  intro vs cE;have nZ:fn.results.toList.mapM (λr=>(Jx P r).bind (Jm env M))=some vs:=by
   have:∀ (l:List ResultVar) (rs:List VResult) (vs:List Value),l.mapM (Jx P)=some rs->rs.mapM (Jm env M)=some vs->l.mapM (λr=>(Jx P r).bind (Jm env M))=some vs:=by
    intro l;induction l with
    |nil=>intro rs vs h1 h2;simp at h1;subst h1;simpa using h2
    |cons r l ih =>
     intro rs vs h1 h2;rw[xk] at h1;cases hg:Jx P r with
     |none=>simp[hg] at h1
     |some x =>
      cases hm:l.mapM (Jx P) with
      |none=>simp[hg,hm] at h1
      |some bn =>
       simp[hg,hm] at h1;subst h1;rw[xk] at h2;cases hx:Jm env M x with
       |none=>simp[hx] at h2
       |some y =>
        cases jb:bn.mapM (Jm env M) with
        |none=>simp[hx,jb] at h2
        |some cN =>simp[hx,jb] at h2;subst h2;rw[xk];simp[hg,hx,ih bn cN hm jb]
   exact this _ _ _ hc cE
  obtain⟨cs,k1,k2⟩:=Co (P:=P) (ρ:=ρ) (n:=M.n) (Vn tmps) w _ _ _ nZ (λr _ v hv=>by
   cases hr:Jx P r with
   |none=>rw[hr] at hv;cases hv
   |some vr=>rw[hr] at hv;exact Ro hH hL hr hv)
  refine⟨cs,k1,?_⟩;rw[Array.mapM_eq_mapM_toList];simp[k2]
 unfold ZM at h;split at h
 .rename_i r;obtain⟨cs,k1,k2⟩:=ae [v] (by simp[h]);have cg:cs.length=1:=by rw[<-k1.1];rfl
  obtain⟨c,rfl⟩:=z_.1 cg;refine⟨c,k1.2 0 v c rfl rfl,?_⟩;rw[TQ];simp only[zt];rw[k2];simp
 .rename_i av;simp only[zo] at h;obtain⟨vs,cE,rfl⟩:=h;obtain⟨cs,k1,k2⟩:=ae vs cE;refine⟨.tuple cs.toArray,VRel.q0j k1,?_⟩;have hl:cs.length≠1:=by
   rw[<-k1.1,(Wl _ _ _ cE).1];intro e;obtain⟨r,hr⟩:=z_.1 e;exact av r hr
  rw[TQ];simp only[zt];rw[k2];simp[hl]
theorem SJ {ρ:Plc}{n:Nat}(k:Nat):LRel ρ n (List.replicate k undef) (List.replicate k undef) :=
 ⟨rfl,λi v c hv hc=>by
  obtain rfl:v=c:=osj (hv.symm.trans hc);have:=zE hv;rw[List.mem_replicate] at this;rw[this.2];exact Js⟩
theorem BZ {w:World}{D:Nat}{ds:List Deferred}(h:w.heap[D]?=some (.deferred (some ds))):(Instr.takeDeferred D).run P w=.ok ds (Pk w D (.deferred none)):=by simp[Instr.takeDeferred,Qv h (λ_ _ _ e=>by cases e),QJ h (λ_ _ _ e=>by cases e)]
theorem Ext.mark {ρ0 ρ:Plc}{σ0 M:Heap}{w0 w:World}(hE:Ext ρ0 σ0 w0 ρ M w) {D:Nat}(hD:w0.heap.size<=D) (O:Obj):Ext ρ0 σ0 w0 ρ M (Pk w D O) :=
 ⟨hE.os,hE.tape,hE.output,by rw[GW];exact hE.size,λB hB hW=>(YZ w D O B (by omega)).trans (hE.keep B hB hW),hE.wr,hE.n,hE.pl⟩
theorem HRel.mark {ρ:Plc}{M:Heap}{w:World}(hH:HRel ρ M w) {D:Nat}{d:Option (List Deferred)}(hD:w.heap[D]?=some (.deferred d)) (O:Obj):HRel ρ M (Pk w D O) :=
 hH.world (by rw[GW];exact z5 _) (λi p hp=>YZ w D O p.blk (hH.q0l hD i p hp)) λg cs hg=>YZ w D O g λe=>by obtain⟨⟨e',f,h1⟩,_⟩:=hH.tab g cs hg;rw[e,hD] at h1;cases h1
theorem SA {fn:Func}{tmps:Array Value}{R:Ending->World->Prop}{ρ0:Plc}{σ0:Heap}{w0:World}{ρ:Plc}{M:Heap}
  (qG:∀ w,HRel ρ M w->Ext ρ0 σ0 w0 ρ M w->∃ v,(results fn tmps).run P w=.ok v w/\R (.returned v) w) :
  ∀ (Ds:List Nat) (w:World),Ds.Nodup->(∀ D∈Ds,w0.heap.size<=D/\w.heap[D]?=some (.deferred (some [])))->HRel ρ M w->Ext ρ0 σ0 w0 ρ M w ->
   LeavesInM Fence.wide 0 P fn tmps R (Ds.map λD=>⟨.collected D,#[]⟩) .returning w:=by
 intro Ds;induction Ds with
 |nil=>intro w _ _ hH hE;exact qG w hH hE
 |cons D Ds ih =>intro w eA ae hH hE;obtain⟨h1,h2⟩:=zU.1 eA;obtain⟨h3,h4⟩:=ae D (by simp);refine⟨by simp,.inl ⟨D,_,rfl,BZ h4,ih _ h2 (λE bZ=>?_) (hH.mark h4 _) (hE.mark h3 _)⟩⟩;obtain⟨k1,k2⟩:=ae E (by simp[bZ]);exact⟨k1,by rw[YZ _ _ _ _ (by rintro rfl;exact h1 bZ)];exact k2⟩
theorem B8 (hm:P.follows .mixedOrders=true) (hS:OkSpecs P S) {f:FuncId}{fn:Func}{c:Code}{vc:VCode}{rs:List VResult}(hf:P.funcs[f]?=some fn) (hb:fn.body=some c) (hc:comp P c=some vc) (hr:U3 P fn.results.toList=some rs)
  {args:List Value}{M:Heap}{R:Value->Heap->Prop}(h:vwp S vc none (Q8u rs λv σf=>∃ v' M',DropTo M v σf v' M'/\R v' M') (args++List.replicate (fn.ntmps-args.length) undef) M):VCallsTo P f args M R:=by
 intro ρ w az hH hL;refine callsIn_wide.1 (callsIn_of_wp_marks (n:=0) hf hb trivial (AQ hm hS c vc hc (B:=w.heap.size) none none 0 _ _ M ρ w _ h hH ?_ (Mks.nil (z5 _)) (.inl ⟨rfl,rfl⟩) _ ?_) rfl)
 .have hl:args.length=az.size:=by have:=hL.1;simpa using this
  have:=hL.append (SJ (ρ:=ρ) (n:=M.n) (fn.ntmps-args.length));simpa [hl] using this
 .intro e a' w' ⟨af,ρ',M',k1,_,k2,k3,⟨_,Ds,k4,k6,k7⟩,k5⟩;have fin:(QW (ZM af M' rs) λv=>∃ v' aE,DropTo M v M' v' aE/\R v' aE)->LeavesInM Fence.wide 0 P fn a'.tmps (λe w'=>∃ c,e=.returned c/\Got ρ M w R c w') a'.defers .returning w':=by
   intro hk;rw[k4];refine SA (λw1 iV fL=>?_) Ds w' k6 k7 k2 k5;cases hv:ZM af M' rs with
   |none=>rw[hv] at hk;exact hk.elim
   |some v =>rw[hv] at hk;obtain⟨v',aE,hd,hR⟩:=hk;obtain⟨c,fJ,g9⟩:=Tv iV k3 hr hv;obtain⟨eP,j1,j2,j3⟩:=hd ρ w ρ' w1 c hH fL iV fJ;exact⟨c,g9,c,rfl,v',eP,aE,hR,j1,j2,j3⟩
  cases e with
  |normal=>exact fin k1
  |ret=>exact fin k1
  |_=>exact k1.elim
end
end Go.V
namespace Go.V
open Go
def Fun (P:Program) (f:FuncId) (vc:VCode) (rs:List VResult) (nt:Nat):Prop :=
 ∃ fn,P.funcs[f]?=some fn/\fn.body.bind (comp P)=some vc/\U3 P fn.results.toList=some rs/\fn.ntmps=nt/\(fn.name=="runtime.NumGoroutine")=false
def Z1m (M:Heap) (rs:List VResult) (R:Value->Heap->Prop):Exit->Env->Heap->Prop:=Q8u rs λv σf=>∃ v' M',DropTo M v σf v' M'/\R v' M'
section
variable {P:Program}{S:VSpecs}{f:FuncId}{vc:VCode}{rs:List VResult}{nt:Nat}
theorem Fun.calls (h:Fun P f vc rs nt) (hm:P.follows .mixedOrders=true) (hS:OkSpecs P S) {args:List Value}{M:Heap}{R:Value->Heap->Prop}
  (hw:vwp S vc none (Z1m M rs R) (args++List.replicate (nt-args.length) undef) M):VCalled P f args M R:=by
 obtain⟨fn,h1,h2,h3,h4,h5⟩:=h;cases hb:fn.body with
 |none=>rw[hb] at h2;cases h2
 |some c =>rw[hb] at h2;exact VCallsTo.called ⟨fn,h1,by rw[hb];rfl,h5⟩ (B8 hm hS h1 hb h2 h3 (by rw[h4];exact hw))
theorem Fun.enterable (h:Fun P f vc rs nt):Xf P f:=by
 obtain⟨fn,h1,h2,h3,h4,h5⟩:=h;refine⟨fn,h1,?_,h5⟩;cases hb:fn.body with
 |none=>rw[hb] at h2;cases h2
 |some c=>rfl
theorem Fun.callsTo (h:Fun P f vc rs nt) (hm:P.follows .mixedOrders=true) (hS:OkSpecs P S) {args:List Value}{M:Heap}{R:Value->Heap->Prop}
  (hw:vwp S vc none (Z1m M rs R) (args++List.replicate (nt-args.length) undef) M):VCallsTo P f args M R:=by
 obtain⟨fn,h1,h2,h3,h4,h5⟩:=h;cases hb:fn.body with
 |none=>rw[hb] at h2;cases h2
 |some c =>rw[hb] at h2;exact B8 hm hS h1 hb h2 h3 (by rw[h4];exact hw)
def Q2 (P:Program):VSpecs where
 fn f:=some λargs M K=>VCalled P f args M K
 yl i:=some λargs M K=>Pb P i args M K
 it f:=@ite _ (Xf P f) (Classical.propDecidable _) (some λi Y args M K=>Vg P i Y->VCallsTo P f args M K) none
theorem BL:OkSpecs P (Q2 P) :=
  ⟨λf s h => by obtain rfl:=osj h; exactλargs M K h => h,
   λf s h => by obtain rfl:=osj h; exactλargs M K h => h,
   λf T h => by
    simp only [Q2] at h;split at h
    . rename_i he; obtain rfl:=osj h; exact ⟨he, λi Y hY args M K h => h hY⟩
    . cases h⟩
end
end Go.V
namespace Go.V
open Go
inductive EB where
 |cells (c:List Value) (esz:El) (wr tight:Bool)
 |map (es:List Jo) (clock:Nat) (wr:Bool)
 |iter (m since:Nat) (seen:List Nat) (last:Nat)
 |lp (st:LoopState) (pend:Option Code)
inductive GT (α:Type) where
 |nil
 |node (v:α) (l r:GT α)
def GT.get {α:Type}(d:α) (t:GT α):Nat->α :=
 GT.rec (motive:=λ_=>Nat->α) (λ_=>d)
  (λv _ _ gl gr i=>Bool.rec (motive:=λ_=>α) (Bool.rec (motive:=λ_=>α) (gr (i / 2-1)) (gl (i / 2)) (Nat.beq (i % 2) 1)) v (Nat.beq i 0)) t
def GT.set {α:Type}(d:α) (f:Nat):GT α->Nat->α->GT α :=
 Nat.rec (motive:=λ_=>GT α->Nat->α->GT α) (λt _ _=>t)
  (λ_ ih t i b=>GT.rec (motive:=λ_=>GT α)
   (Bool.rec (motive:=λ_=>GT α) (Bool.rec (motive:=λ_=>GT α) (.node d .nil (ih .nil (i / 2-1) b)) (.node d (ih .nil (i / 2) b) .nil) (Nat.beq (i % 2) 1)) (.node b .nil .nil) (Nat.beq i 0))
   (λv l r _ _=>Bool.rec (motive:=λ_=>GT α) (Bool.rec (motive:=λ_=>GT α) (.node v l (ih r (i / 2-1) b)) (.node v (ih l (i / 2) b) r) (Nat.beq (i % 2) 1)) (.node b l r) (Nat.beq i 0)) t) f
theorem GT.q0x {α:Type}(d v:α) (l r:GT α) (k:Nat):(GT.node v l r).get d k=if k=0 then v else if k % 2=1 then l.get d (k / 2) else r.get d (k / 2-1):=by
 show (Bool.rec (motive:=λ_=>α) (Bool.rec (motive:=λ_=>α) (r.get d (k / 2-1)) (l.get d (k / 2)) (Nat.beq (k % 2) 1)) v (Nat.beq k 0))=_;by_cases h0:k=0
 .subst h0;rfl
 .have:Nat.beq k 0=false:=by
   cases h:Nat.beq k 0 with
   |false=>rfl
   |true=>exact absurd (zH h) h0
  rw[this,z1 h0];by_cases h1:k % 2=1
  .rw[z0 h1,h1];rfl
  .have:Nat.beq (k % 2) 1=false:=by
    cases h:Nat.beq (k % 2) 1 with
    |false=>rfl
    |true=>exact absurd (zH h) h1
   rw[this,z1 h1]
theorem GT.q1z {α:Type}(d v:α) (f:Nat) (l r:GT α) (i:Nat) (b:α):(GT.node v l r).set d (f+1) i b=if i=0 then .node b l r else if i % 2=1 then .node v (l.set d f (i / 2) b) r else .node v l (r.set d f (i / 2-1) b):=by
 show (Bool.rec (motive:=λ_=>GT α) (Bool.rec (motive:=λ_=>GT α) (.node v l (r.set d f (i / 2-1) b)) (.node v (l.set d f (i / 2) b) r) (Nat.beq (i % 2) 1)) (.node b l r) (Nat.beq i 0))=_;by_cases h0:i=0
 .subst h0;rfl
 .have:Nat.beq i 0=false:=by
   cases h:Nat.beq i 0 with
   |false=>rfl
   |true=>exact absurd (zH h) h0
  rw[this,z1 h0];by_cases h1:i % 2=1
  .rw[z0 h1,h1];rfl
  .have:Nat.beq (i % 2) 1=false:=by
    cases h:Nat.beq (i % 2) 1 with
    |false=>rfl
    |true=>exact absurd (zH h) h1
   rw[this,z1 h1]
theorem GT.set_nil {α:Type}(d:α) (f i:Nat) (b:α):(GT.nil:GT α).set d (f+1) i b=(GT.node d .nil .nil).set d (f+1) i b:=rfl
theorem GT.q1e {α:Type}(d:α):∀ (f:Nat) (t:GT α) (i:Nat) (b:α) (j:Nat),i+1<2 ^ f->(t.set d f i b).get d j=if j=i then b else t.get d j:=by
 intro f;induction f with
 |zero=>intro t i b j h;simp at h
 |succ f ih =>
  intro t i b j h;have hp:2 ^ (f+1)=2*2 ^ f:=by rw[Nat.pow_succ];omega
  have gJ:∀ v l r,((GT.node v l r).set d (f+1) i b).get d j=if j=i then b else (GT.node v l r).get d j:=by
   intro v l r;rw[GT.q1z];by_cases hi:i=0
   .subst hi;rw[z0 rfl,GT.q0x,GT.q0x];split<;>rfl
   .rw[z1 hi];by_cases ho:i % 2=1
    .rw[z0 ho,GT.q0x,GT.q0x,ih _ _ _ _ (by omega)];by_cases fI:j=0
     .subst fI;rw[z0 rfl,z1 (Ne.symm hi),z0 rfl]
     .rw[z1 fI,z1 fI];by_cases iD:j % 2=1
      .rw[z0 iD,z0 iD];by_cases aL:j=i
       .subst aL;simp
       .rw[z1 aL,z1 (by omega)]
      .rw[z1 iD,z1 iD,z1 (by rintro rfl;exact iD ho)]
    .rw[z1 ho,GT.q0x,GT.q0x,ih _ _ _ _ (by omega)];by_cases fI:j=0
     .subst fI;rw[z0 rfl,z1 (Ne.symm hi),z0 rfl]
     .rw[z1 fI,z1 fI];by_cases iD:j % 2=1
      .rw[z0 iD,z0 iD,z1 (by rintro rfl;exact ho iD)]
      .rw[z1 iD,z1 iD];by_cases aL:j=i
       .subst aL;simp
       .rw[z1 aL,z1 (by omega)]
  cases t with
  |node v l r=>exact gJ v l r
  |nil =>
   rw[GT.set_nil,gJ d .nil .nil,GT.q0x];split
   .rfl
   .split
    .rfl
    .split<;>rfl
structure CH where
 t:GT (Option EB)
 n:Nat
def CH.get (h:CH) (i:Nat):Option EB:=Bool.rec (motive:=λ_=>Option EB) none (h.t.get none i) (Nat.blt i h.n)
def CH.upd (h:CH) (i:Nat) (b:EB):CH:=⟨h.t.set none 32 i (some b),h.n⟩
def CH.kill (h:CH) (i:Nat):CH:=⟨h.t.set none 32 i none,h.n⟩
def CH.push (h:CH) (b:EB):CH:=⟨h.t.set none 32 h.n (some b),h.n+1⟩
def CH.room (h:CH):Bool:=Nat.ble h.n 1000000000
def CH.empty:CH:=⟨.nil,0⟩
theorem CH.q0v {h:CH}{i:Nat}(hi:i<h.n):h.get i=h.t.get none i:=by unfold CH.get;rw[show Nat.blt i h.n=true from Nat.ble_eq_true_of_le hi]
theorem CH.q0r {h:CH}{i:Nat}(hi:h.n<=i):h.get i=none:=by
 unfold CH.get;cases hb:Nat.blt i h.n with
 |false=>rfl
 |true=>have:=zC hb;omega
theorem CH.q2f {h:CH}{i:Nat}{b:EB}(hi:i<h.n) (hs:h.n<=1000000001) (j:Nat):(h.upd i b).get j=if j=i then some b else h.get j:=by
 rcases zh j h.n with hj|hj
 .rw[CH.q0v (h:=h.upd i b) hj,CH.q0v hj];exact GT.q1e none 32 _ _ _ _ (by omega)
 .rw[CH.q0r (h:=h.upd i b) hj,CH.q0r hj,z1 (by omega)]
theorem CH.q1y {h:CH}{i:Nat}(hi:i<h.n) (hs:h.n<=1000000001) (j:Nat):(h.kill i).get j=if j=i then none else h.get j:=by
 rcases zh j h.n with hj|hj
 .rw[CH.q0v (h:=h.kill i) hj,CH.q0v hj];exact GT.q1e none 32 _ _ _ _ (by omega)
 .rw[CH.q0r (h:=h.kill i) hj,CH.q0r hj];simp
theorem CH.q1q {h:CH}{b:EB}(hs:h.n<=1000000001) (j:Nat):(h.push b).get j=if j=h.n then some b else h.get j:=by
 rcases zh j (h.n+1) with hj|hj
 .rw[CH.q0v (h:=h.push b) hj];show (h.t.set none 32 h.n (some b)).get none j=_;rw[GT.q1e none 32 _ _ _ _ (by omega)];split
  .rfl
  .rw[CH.q0v (by omega)]
 .rw[CH.q0r (h:=h.push b) hj,CH.q0r (by omega),z1 (by omega)]
def EB.to (q:Env×Loop):EB->Blk
 |.cells c e w t=>.cells c e w t
 |.map es cl w=>.obj (.map es cl) w
 |.iter m s sn l=>.obj (.iter m s sn l) true
 |.lp st pend=>.obj (.lp q.1 q.2 st pend) true
structure CSim (rs:Nat->Env×Loop) (h:CH) (M:Heap):Prop where
 n:h.n=M.n
 sm:h.n<=1000000001
 get:∀ i,M.get i=(h.get i).map (EB.to (rs i))
theorem CSim.cells {rs:Nat->Env×Loop}{h:CH}{M:Heap}(hs:CSim rs h M) {i:Nat}{c:List Value}{e:El}{w t:Bool}(hg:h.get i=some (.cells c e w t)):M.get i=some (.cells c e w t):=by rw[hs.get,hg];rfl
theorem CSim.map {rs:Nat->Env×Loop}{h:CH}{M:Heap}(hs:CSim rs h M) {i:Nat}{es:List Jo}{cl:Nat}{w:Bool}(hg:h.get i=some (.map es cl w)):M.get i=some (.obj (.map es cl) w):=by rw[hs.get,hg];rfl
theorem CSim.iter {rs:Nat->Env×Loop}{h:CH}{M:Heap}(hs:CSim rs h M) {i m s:Nat}{sn:List Nat}{l:Nat}(hg:h.get i=some (.iter m s sn l)):M.get i=some (.obj (.iter m s sn l) true):=by rw[hs.get,hg];rfl
theorem CSim.lp {rs:Nat->Env×Loop}{h:CH}{M:Heap}(hs:CSim rs h M) {i:Nat}{st:LoopState}{pend:Option Code}(hg:h.get i=some (.lp st pend)):M.get i=some (.obj (.lp (rs i).1 (rs i).2 st pend) true):=by rw[hs.get,hg];rfl
theorem CSim.lt {rs:Nat->Env×Loop}{h:CH}{M:Heap}(hs:CSim rs h M) {i:Nat}{b:EB}(hg:h.get i=some b):i<h.n:=by
 have:M.get i=some (b.to (rs i)):=by rw[hs.get,hg];rfl
 rw[hs.n];exact M.lt this
theorem CSim.upd {rs:Nat->Env×Loop}{h:CH}{M:Heap}(hs:CSim rs h M) {i:Nat}(hi:i<h.n) {b:EB}{b':Blk}(hb:b.to (rs i)=b'):CSim rs (h.upd i b) (M.upd i b'):=by
 refine⟨hs.n,hs.sm,λj=>?_⟩;rw[CH.q2f hi hs.sm];show (if j=i/\i<M.n then some b' else M.get j)=_;by_cases hj:j=i
 .subst hj;rw[z0 ⟨rfl,by rw[<-hs.n];exact hi⟩,z0 rfl,<-hb];rfl
 .rw[z1 (λe=>hj e.1),z1 hj];exact hs.get j
theorem CSim.kill {rs:Nat->Env×Loop}{h:CH}{M:Heap}(hs:CSim rs h M) {i:Nat}(hi:i<h.n):CSim rs (h.kill i) (M.kill i):=by
 refine⟨hs.n,hs.sm,λj=>?_⟩;rw[CH.q1y hi hs.sm];show (if j=i then none else M.get j)=_;by_cases hj:j=i
 .rw[z0 hj,z0 hj];rfl
 .rw[z1 hj,z1 hj];exact hs.get j
theorem CSim.push {rs:Nat->Env×Loop}{h:CH}{M:Heap}(hs:CSim rs h M) (hr:h.room=true) {b:EB}{b':Blk}(hb:b.to (rs h.n)=b'):CSim rs (h.push b) (M.push b'):=by
 have hr:h.n<=1000000000:=zC hr;refine⟨by show h.n+1=M.n+1;rw[hs.n],by show h.n+1<=_;omega,λj=>?_⟩;rw[CH.q1q hs.sm];show (if j=M.n then some b' else M.get j)=_;rw[<-hs.n];by_cases hj:j=h.n
 .subst hj;rw[z0 rfl,z0 rfl,<-hb];rfl
 .rw[z1 hj,z1 hj];exact hs.get j
theorem CSim.rs {rs bn:Nat->Env×Loop}{h:CH}{M:Heap}(hs:CSim rs h M) (hr:∀ i,i<h.n->bn i=rs i):CSim bn h M :=
 ⟨hs.n,hs.sm,λi=>by
  rw[hs.get];cases hg:h.get i with
  |none=>rfl
  |some b=>rw[hr i (hs.lt hg)]⟩
def CH.sl (M:CH) (esz:Nat):Value->Option (List Value)
 |.slice none 0 0=>some []
 |.slice (some ⟨i,o,none⟩) n _ =>
  match M.get i with
  |some (.cells c e _ _)=>if e.sz=esz/\o+n*esz<=c.length then some ((c.drop o).take (n*esz)) else none
  |_=>none
 |_=>none
def CH.mapAt (M:CH) (m:Nat):Option (List Jo×Nat×Bool):=match M.get m with
 |some (.map es clock wr)=>some (es,clock,wr)
 |_=>none
def UM (M:CH) (b:EB) (v:Value):Option (Value×CH):=if M.room=true then some (v,M.push b) else none
def RU (esz:El) (bytes:Nat) (M:CH) (s:Value) (m:Nat) (xs:List Value):Option (Value×CH) :=
 match s with
 |.slice none 0 0 =>
  if m=0 then some (s,M) else
  if m*bytes<=2 ^ 46 then UM M (.cells xs esz true false) (.slice (some ⟨M.n,0,none⟩) m m) else none
 |.slice (some ⟨i,o,none⟩) n cap =>
  match M.get i with
  |some (.cells c e wr tight) =>
   if e=esz/\n<=cap/\o+n*esz.sz<=c.length then
    if m=0 then some (s,M) else
    if n+m<=cap then
     (if wr=true/\o+(n+m)*esz.sz<=c.length then some (.slice (some ⟨i,o,none⟩) (n+m) cap,M.upd i (.cells (Yx c (o+n*esz.sz) xs) e wr tight)) else none)
    else if (n+m)*bytes<=2 ^ 46 then
     (if tight then UM M (.cells ((c.drop o).take (n*esz.sz)++xs) esz true false) (.slice (some ⟨M.n,0,none⟩) (n+m) (n+m))
     else if wr then UM (M.kill i) (.cells ((c.drop o).take (n*esz.sz)++xs) esz true false) (.slice (some ⟨M.n,0,none⟩) (n+m) (n+m))
     else none)
    else none
   else none
  |_=>none
 |.slice (some ⟨i,o,some 0⟩) n cap =>
  match M.get i with
  |some (.cells c e _ _) =>
   if e=esz/\n=cap/\o+n*esz.sz<=c.length/\m≠0/\(n+m)*bytes<=2 ^ 46 then
    UM M (.cells ((c.drop o).take (n*esz.sz)++xs) esz true false) (.slice (some ⟨M.n,0,none⟩) (n+m) (n+m))
   else none
  |_=>none
 |_=>none
def CM (size:Nat) (M:CH) (s:Value) (l h:Nat) (m:Option Nat):Option (Value×CH) :=
 match s with
 |.slice none 0 0=>if l=0/\h=0/\(m.getD 0)=0 then some (.slice none 0 0,M) else none
 |.slice (some ⟨i,o,none⟩) _ cap =>
  match M.get i with
  |some (.cells _ e _ t) =>
   match m with
   |none=>if e.sz=size/\l<=h/\h<=cap then some (.slice (some ⟨i,o+l*size,none⟩) (h-l) (cap-l),M) else none
   |some m =>
    if e.sz=size/\l<=h/\h<=m/\m<=cap then
     if m=l then UM M (.cells [] e false true) (.slice (some ⟨M.n,0,none⟩) 0 0)
     else if t=false/\h=m then some (.slice (some ⟨i,o+l*size,some 0⟩) (h-l) (m-l),M)
     else some (.slice (some ⟨i,o+l*size,none⟩) (h-l) (m-l),M)
    else none
  |_=>none
 |_=>none
def Q6f:Nat->Value->Value->CH->Option Bool
 |0,.pointer none,.pointer none,_=>some true
 |0,.pointer none,.pointer (some _),_=>some false
 |0,.pointer (some _),.pointer none,_=>some false
 |0,.pointer (some ⟨i,o,none⟩),.pointer (some ⟨j,q,none⟩),M=>if i=j/\o=q/\(M.get i).isSome=true then some true else none
 |1,.slice none _ _,.slice none _ _,_=>some true
 |1,.slice none _ _,.slice (some _) _ _,_=>some false
 |1,.slice (some _) _ _,.slice none _ _,_=>some false
 |2,.map none,.map none,_=>some true
 |2,.map none,.map (some _),_=>some false
 |2,.map (some _),.map none,_=>some false
 |3,.nilFunc,.nilFunc,_=>some true
 |3,.nilFunc,.func _ _ _,_=>some false
 |3,.func _ _ _,.nilFunc,_=>some false
 |_,_,_,_=>none
def XO (o:XOp) (ev:Operand->Value) (M:CH):Option (Value×CH) :=
 match o with
 |.eqAgg neg s x y=>match ev x,ev y with
  |.agg a,.agg b=>if fits s a.toList=true/\fits s b.toList=true then some (.bool (if neg then !(Ql a.toList b.toList) else Ql a.toList b.toList),M) else none
  |_,_=>none
 |.eqNil kd neg x y=>match Q6f kd (ev x) (ev y) M with|some b=>some (.bool (if neg then !b else b),M)|none=>none
 |.makeMap=>UM M (.map [] 0 true) (.map (some M.n))
 |.lookup mk z ok x i =>
  let k:=ev i
  if Zk mk k then
   match ev x with
   |.map none=>some (if ok then .tuple #[z,.bool false] else z,M)
   |.map (some m)=>match M.mapAt m with
    |some (es,_,_)=>if es.all (λe=>Zk mk e.1) then
      (match Qf k es with
      |some e=>some (if ok then .tuple #[e.2.1,.bool true] else e.2.1,M)
      |none=>some (if ok then .tuple #[z,.bool false] else z,M)) else none
    |none=>none
   |_=>none
  else none
 |.mapUpdate mk m k v=>match ev m with
  |.map (some i)=>match M.mapAt i with
   |some (es,clock,true)=>if Zk mk (ev k)&&es.all (λe=>Zk mk e.1) then some (undef,M.upd i (.map (Qq (ev k) (ev v) clock es).1 (Qq (ev k) (ev v) clock es).2 true)) else none
   |_=>none
  |_=>none
 |.delete mk m k=>match ev m with
  |.map (some i)=>match M.mapAt i with
   |some (es,clock,true)=>if Zk mk (ev k)&&es.all (λe=>Zk mk e.1) then some (.tuple #[],M.upd i (.map (V2 (ev k) es) clock true)) else none
   |_=>none
  |_=>none
 |.lenMap x=>match ev x with
  |.map none=>some (.int .i64 0,M)
  |.map (some m)=>match M.mapAt m with
   |some (es,_,_)=>some (.int .i64 es.length,M)
   |none=>none
  |_=>none
 |.rangeMap x=>match ev x with
  |.map (some m)=>match M.mapAt m with
   |some (_,clock,_)=>UM M (.iter m clock [] clock) (.pointer (some ⟨M.n,0,none⟩))
   |none=>none
  |_=>none
 |.entry x=>match ev x with
  |.pointer (some ⟨i,0,none⟩)=>match M.get i with
   |some (.iter m _ seen last)=>match M.mapAt m,seen.getLast? with
    |some (es,clock,_),some b=>if clock=last then (match es.find? (λe=>e.2.2==b) with|some e=>if V5 e.1 then some (.tuple #[e.1,e.2.1],M) else none|none=>none) else none
    |_,_=>none
   |_=>none
  |_=>none
 |.copy size d s=>match ev d,ev s with
  |.slice db dn _,.slice sb sn sc =>
   if min sn dn=0 then some (.int .i64 0,M) else
   match db,M.sl size (.slice sb (min sn dn) sc) with
   |some ⟨i,o,none⟩,some xs=>match M.get i with
    |some (.cells c e wr tight)=>if wr=true/\e.sz=size/\o+xs.length<=c.length/\xs.all cellOk=true then some (.int .i64 (min sn dn:Nat),M.upd i (.cells (Yx c o xs) e wr tight)) else none
    |_=>none
   |_,_=>none
  |_,_=>none
 |.clear z x=>match ev x with
  |.slice b n _ =>
   if n=0 then some (.tuple #[],M) else
   match b with
   |some ⟨i,o,none⟩=>match M.get i with
    |some (.cells c e wr tight)=>if wr=true/\o+n*z.length<=c.length/\z.all cellOk=true then some (.tuple #[],M.upd i (.cells (Yx c o (H7 n z)) e wr tight)) else none
    |_=>none
   |_=>none
  |_=>none
 |.toUnsafe x=>match ev x with
  |.pointer none=>some (.pointer none,M)
  |.pointer (some ⟨i,o,none⟩)=>match M.get i with
   |some (.cells c _ _ _)=>if o<c.length then some (.pointer (some ⟨i,o,none⟩),M) else none
   |_=>none
  |_=>none
 |.fromUnsafe u size x=>match ev x with
  |.pointer none=>some (.pointer none,M)
  |.pointer (some ⟨i,o,none⟩)=>match M.get i with
   |some (.cells c e true true)=>if o=0/\e.ty=u/\size<=c.length then some (.pointer (some ⟨i,o,none⟩),M) else none
   |_=>none
  |_=>none
 |.sliceData x=>match ev x with
  |.slice none _ _=>some (.pointer none,M)
  |.slice (some ⟨i,o,none⟩) _ cap=>if cap≠0/\(M.get i).isSome=true then some (.pointer (some ⟨i,o,none⟩),M) else none
  |_=>none
 |.unsafeStr e x n=>match ev x,ev n with
  |.pointer p,.int .i64 k =>
   if k=0 then some (.string ⟨#[]⟩,M) else
   match p with
   |some ⟨i,o,none⟩=>match M.get i with
    |some (.cells c el true tight) =>
     if 0<k/\k<=2 ^ 62/\el.ty=e/\o+k.toNat<=c.length then
      (match B9 ((c.drop o).take k.toNat) with
      |some s=>some (.string s,M.upd i (.cells c el false tight))
      |none=>none) else none
    |_=>none
   |_=>none
  |_,_=>none
 |.bytesStr x=>match ev x with
  |.slice a n c=>match M.sl 1 (.slice a n c) with
   |some xs=>match B9 xs with|some s=>some (.string s,M)|none=>none
   |none=>none
  |_=>none
 |.strBytes e x=>match ev x with
  |.string s=>if s.size<=2 ^ 62 then UM M (.cells (s.data.toList.map λb=>.int .u8 b.toNat) ⟨1,e⟩ true false) (.slice (some ⟨M.n,0,none⟩) s.size s.size) else none
  |_=>none
 |_=>none
def Heap.empty:Heap:=⟨λ_=>none,0,λ_ _=>rfl⟩
def OG (o:VOp) (ev:Operand->Value) (M:CH):Option (Value×CH) :=
 match o with
 |.alloc t z=>UM M (.cells z ⟨z.length,t⟩ true true) (.pointer (some ⟨M.n,0,none⟩))
 |.box t x=>match KG (ev x) with
  |some vs=>UM M (.cells vs ⟨vs.length,t⟩ true true) (.pointer (some ⟨M.n,0,none⟩))
  |none=>none
 |.buildSlice esz z len parts=>match M0 (H7 len z) (parts.map λp=>(p.1*esz.sz,esz.sz,ev p.2)) with
  |some cs=>UM M (.cells cs esz true true) (.slice (some ⟨M.n,0,none⟩) len len)
  |none=>none
 |.load agg size a=>match ev a with
  |.pointer (some ⟨g,o,some _⟩)=>(match OY g with
   |some c=>if c.all QN then (match WA agg size c o with|some v=>some (v,M)|none=>none) else none
   |none=>none)
  |.pointer (some ⟨i,o,none⟩)=>match M.get i with
   |some (.cells c _ _ _)=>match WA agg size c o with|some v=>some (v,M)|none=>none
   |_=>none
  |_=>none
 |.store size a v=>match ev a,KG (ev v) with
  |.pointer (some ⟨i,o,none⟩),some vs=>match M.get i with
   |some (.cells c e wr tight)=>if wr=true/\vs.length=size/\o+size<=c.length/\vs.all cellOk=true then some (undef,M.upd i (.cells (Yx c o vs) e wr tight)) else none
   |_=>none
  |_,_=>none
 |.slice size x lo hi mx =>
  match ev x with
  |.slice a n cap =>
   match J1 ev lo 0,J1 ev hi n,mx with
   |some l,some h,none=>CM size M (.slice a n cap) l h none
   |some l,some h,some _=>match J1 ev mx 0,hi with
    |some m,some _=>CM size M (.slice a n cap) l h (some m)
    |_,_=>none
   |_,_,_=>none
  |_=>none
 |.makeSlice esz bytes z l c =>
  match ev l,ev c with
  |.int _ a,.int _ b=>if 0<=a/\a<=b/\b*bytes<=2 ^ 46/\b<=2 ^ 46 then UM M (.cells (H7 b.toNat z) esz true true) (.slice (some ⟨M.n,0,none⟩) a.toNat b.toNat) else none
  |_,_=>none
 |.append esz bytes s x =>
  match M.sl esz.sz (ev x),ev x with
  |some xs,.slice _ m _=>if xs.all cellOk then RU esz bytes M (ev s) m xs else none
  |_,_=>none
 |.ext o=>XO o ev M
 |o=>if o.kind=0 then (match Q6 o ev Heap.empty with|some p=>some (p.1,M)|none=>none) else none
def ESnd (rs:Nat->Env×Loop) (h:CH) (_σ:Heap) (r:Option (Value×Heap)) (p:Value×CH):Prop:=h.n<=p.2.n/\∃ M',r=some (p.1,M')/\CSim rs p.2 M'
theorem ESnd.same {rs:Nat->Env×Loop}{h:CH}{M:Heap}(hs:CSim rs h M) {r:Option (Value×Heap)}{v:Value}(hr:r=some (v,M)):ESnd rs h M r (v,h):=⟨z5 _,M,hr,hs⟩
theorem ESnd.upd {rs:Nat->Env×Loop}{h:CH}{M:Heap}(hs:CSim rs h M) {r:Option (Value×Heap)}{v:Value}{i:Nat}{b:EB}{b0:EB}(hg:h.get i=some b0) {b':Blk}(hb:b.to (rs i)=b') (hr:r=some (v,M.upd i b')):ESnd rs h M r (v,h.upd i b):=by have hi:=hs.lt hg;have mT:=hs.sm;exact⟨z5 _,_,hr,hs.upd hi hb⟩
theorem ESnd.push {rs:Nat->Env×Loop}{h:CH}{M:Heap}(hs:CSim rs h M) {r:Option (Value×Heap)}{v:Value}{p:Value×CH}{b:EB}(hp:UM h b v=some p) {b':Blk}(hb:b.to (rs h.n)=b') (hr:r=some (v,M.push b')):ESnd rs h M r p:=by
 unfold UM at hp;split at hp
 .rename_i a7;obtain rfl:=osj hp;have mT:=hs.sm;exact⟨Nat.le_succ _,_,hr,hs.push a7 hb⟩
 .cases hp
theorem CSim.sl {rs:Nat->Env×Loop}{h:CH}{M:Heap}(hs:CSim rs h M) {esz:Nat}{v:Value}{xs:List Value}(hx:h.sl esz v=some xs):M.sl esz v=some xs:=by
 unfold CH.sl at hx;unfold Heap.sl;split at hx
 .exact hx
 .rename_i i o n c;split at hx
  .rename_i cs e wr t hb;simp only[hs.cells hb];exact hx
  .cases hx
 .cases hx
theorem CSim.mapAt {rs:Nat->Env×Loop}{h:CH}{M:Heap}(hs:CSim rs h M) {m:Nat}{x:List Jo×Nat×Bool}(hx:h.mapAt m=some x):M.mapAt m=some x/\h.get m=some (.map x.1 x.2.1 x.2.2):=by
 unfold CH.mapAt at hx;unfold Heap.mapAt;split at hx
 .rename_i es clock wr hb;obtain rfl:=osj hx;exact⟨by simp only[hs.map hb],hb⟩
 .cases hx
theorem LX {rs:Nat->Env×Loop}{h:CH}{M:Heap}(hs:CSim rs h M) {kd:Nat}{a b:Value}{r:Bool}(hx:Q6f kd a b h=some r):J6 kd a b M=some r:=by
 unfold Q6f at hx;unfold J6
 split at hx<;>first
  |exact hx
  |(cases hx;done)
  |skip
 rename_i i o j q;split at hx
 .rename_i hc;obtain⟨h1,h2,h3⟩:=hc;have cO:i=j/\o=q/\(M.get i).isSome=true:=⟨h1,h2,by rw[hs.get];simpa using h3⟩;simp only[z0 cO];exact hx
 .cases hx
theorem RK {rs:Nat->Env×Loop}{h:CH}{M:Heap}(hs:CSim rs h M) {esz:El}{bytes:Nat}{s:Value}{m:Nat}{xs:List Value}{p:Value×CH}(hx:RU esz bytes h s m xs=some p):ESnd rs h M (Yv esz bytes M s m xs) p:=by
 unfold RU at hx;unfold Yv;split at hx
 .split at hx
  .rename_i hm;simp only[z0 hm];obtain rfl:=osj hx;exact .same hs rfl
  .rename_i hm;simp only[z1 hm];split at hx
   .rename_i hb;simp only[z0 hb];rw[hs.n] at hx;exact .push hs hx rfl rfl
   .cases hx
 .rename_i i o n cap;split at hx
  .rename_i c e wr tight hg;have mT:=hs.sm;have hi:=hs.lt hg;simp only[hs.cells hg];split at hx
   .rename_i h1;simp only[z0 h1];split at hx
    .rename_i h2;simp only[z0 h2];obtain rfl:=osj hx;exact .same hs rfl
    .rename_i h2;simp only[z1 h2];split at hx
     .rename_i h3;simp only[z0 h3];split at hx
      .rename_i h4;simp only[z0 h4];obtain rfl:=osj hx;exact .upd hs hg rfl rfl
      .cases hx
     .rename_i h3;simp only[z1 h3];split at hx
      .rename_i h4;simp only[z0 h4];split at hx
       .rename_i h5;simp only[z0 h5];rw[hs.n] at hx;exact .push hs hx rfl rfl
       .rename_i h5;simp only[z1 h5];split at hx
        .rename_i h6;simp only[z0 h6];rw[hs.n] at hx;have hk:=hs.kill hi;obtain⟨k1,M',k2,k3⟩:=ESnd.push (r:=some (.slice (some ⟨M.n,0,none⟩) (n+m) (n+m),(M.kill i).push (.cells ((c.drop o).take (n*esz.sz)++xs) esz true false))) hk hx rfl rfl;exact⟨k1,M',k2,k3⟩
        .cases hx
      .cases hx
   .cases hx
  .cases hx
 .rename_i i o n cap;split at hx
  .rename_i c e wr tight hg;simp only[hs.cells hg];split at hx
   .rename_i h1;simp only[z0 h1];rw[hs.n] at hx;exact .push hs hx rfl rfl
   .cases hx
  .cases hx
 .cases hx
theorem Bv {rs:Nat->Env×Loop}{h:CH}{M:Heap}(hs:CSim rs h M) {size:Nat}{s:Value}{l k:Nat}{m:Option Nat}{p:Value×CH}(hx:CM size h s l k m=some p):ESnd rs h M (WD size M s l k m) p:=by
 unfold CM at hx;unfold WD;split at hx
 .split at hx
  .rename_i hm;simp only[z0 hm];obtain rfl:=osj hx;exact .same hs rfl
  .cases hx
 .rename_i i o n cap;split at hx
  .rename_i c e wr tight hg;simp only[hs.cells hg];split at hx
   .split at hx
    .rename_i h1;simp only[z0 h1];obtain rfl:=osj hx;exact .same hs rfl
    .cases hx
   .split at hx
    .rename_i h1;simp only[z0 h1];split at hx
     .rename_i h2;simp only[z0 h2];rw[hs.n] at hx;exact .push hs hx rfl rfl
     .rename_i h2;simp only[z1 h2];split at hx
      .rename_i h3;simp only[z0 h3];obtain rfl:=osj hx;exact .same hs rfl
      .rename_i h3;simp only[z1 h3];obtain rfl:=osj hx;exact .same hs rfl
    .cases hx
  .cases hx
 .cases hx
theorem Ho {rs:Nat->Env×Loop}{h:CH}{M:Heap}(hs:CSim rs h M) {o:XOp}{ev:Operand->Value}{p:Value×CH}(hx:XO o ev h=some p):ESnd rs h M (Zc o ev M) p:=by
 cases o
 case eqAgg neg s x y =>
  simp only[XO] at hx;simp only[Zc];split at hx
  .rename_i a b ha hb;split at hx
   .rename_i hc;rw[ha,hb];simp only;rw[z0 hc];obtain rfl:=osj hx;exact .same hs rfl
   .cases hx
  .cases hx
 case eqNil kd neg x y =>
  simp only[XO] at hx;simp only[Zc];split at hx
  .rename_i b hb;rw[LX hs hb];obtain rfl:=osj hx;exact .same hs rfl
  .cases hx
 case makeMap =>
  simp only[XO] at hx;simp only[Zc];rw[hs.n] at hx;exact .push hs hx rfl rfl
 case lookup mk z ok x i =>
  simp only[XO] at hx;simp only[Zc];generalize ev x=q0 at hx |-;generalize ev i=q1 at hx |-;split at hx
  .rename_i hk;simp only[z0 hk];split at hx
   .obtain rfl:=osj hx;exact .same hs rfl
   .rename_i m hm;split at hx
    .rename_i es cl wr fz;obtain⟨k1,k2⟩:=hs.mapAt fz;simp only[k1];split at hx
     .rename_i ae;simp only[z0 ae];split at hx
      .rename_i e hf;simp only[hf];obtain rfl:=osj hx;exact .same hs rfl
      .rename_i hf;simp only[hf];obtain rfl:=osj hx;exact .same hs rfl
     .cases hx
    .cases hx
   .cases hx
  .cases hx
 case mapUpdate mk m k v =>
  simp only[XO] at hx;simp only[Zc];generalize ev m=q0 at hx |-;split at hx
  .rename_i i hi;split at hx
   .rename_i es cl fz;obtain⟨k1,k2⟩:=hs.mapAt fz;simp only[k1];split at hx
    .rename_i hc;simp only[z0 hc];obtain rfl:=osj hx;exact .upd hs k2 rfl rfl
    .cases hx
   .cases hx
  .cases hx
 case delete mk m k =>
  simp only[XO] at hx;simp only[Zc];generalize ev m=q0 at hx |-;split at hx
  .rename_i i hi;split at hx
   .rename_i es cl fz;obtain⟨k1,k2⟩:=hs.mapAt fz;simp only[k1];split at hx
    .rename_i hc;simp only[z0 hc];obtain rfl:=osj hx;exact .upd hs k2 rfl rfl
    .cases hx
   .cases hx
  .cases hx
 case mapEntry=>cases hx
 case entryStore=>cases hx
 case lenMap x =>
  simp only[XO] at hx;simp only[Zc];generalize ev x=q0 at hx |-;split at hx
  .obtain rfl:=osj hx;exact .same hs rfl
  .split at hx
   .rename_i es cl wr fz;obtain⟨k1,k2⟩:=hs.mapAt fz;simp only[k1];obtain rfl:=osj hx;exact .same hs rfl
   .cases hx
  .cases hx
 case rangeMap x =>
  simp only[XO] at hx;simp only[Zc];generalize ev x=q0 at hx |-;split at hx
  .split at hx
   .rename_i es cl wr fz;obtain⟨k1,k2⟩:=hs.mapAt fz;simp only[k1];rw[hs.n] at hx;exact .push hs hx rfl rfl
   .cases hx
  .cases hx
 case nextMap=>cases hx
 case entry x =>
  simp only[XO] at hx;simp only[Zc];generalize ev x=q0 at hx |-;split at hx
  .split at hx
   .rename_i m since seen last hg;simp only[hs.iter hg];split at hx
    .rename_i es clock wr b fz cJ;obtain⟨k1,_⟩:=hs.mapAt fz;simp only[k1,cJ];split at hx
     .rename_i hc;rw[z0 hc];split at hx
      .rename_i e hf;split at hx
       .rename_i hp;rw[hf];simp only[hp,zx];obtain rfl:=osj hx;exact .same hs rfl
       .cases hx
      .cases hx
     .cases hx
    .cases hx
   .cases hx
  .cases hx
 case copy size d s =>
  simp only[XO] at hx;simp only[Zc];generalize ev d=q0 at hx |-;generalize ev s=q1 at hx |-;split at hx
  .rename_i db dn dc sb sn sc h1 h2;split at hx
   .rename_i hm;simp only[z0 hm];obtain rfl:=osj hx;exact .same hs rfl
   .rename_i hm;simp only[z1 hm];split at hx
    .rename_i i o xs bB;simp only[hs.sl bB];split at hx
     .rename_i c e wr tight hg;simp only[hs.cells hg];split at hx
      .rename_i hc;simp only[z0 hc];obtain rfl:=osj hx;exact .upd hs hg rfl rfl
      .cases hx
     .cases hx
    .cases hx
  .cases hx
 case clear z x =>
  simp only[XO] at hx;simp only[Zc];generalize ev x=q0 at hx |-;split at hx
  .rename_i b n cap;split at hx
   .rename_i hm;simp only[z0 hm];obtain rfl:=osj hx;exact .same hs rfl
   .rename_i hm;simp only[z1 hm];split at hx
    .rename_i i o;split at hx
     .rename_i c e wr tight hg;simp only[hs.cells hg];split at hx
      .rename_i hc;simp only[z0 hc];obtain rfl:=osj hx;exact .upd hs hg rfl rfl
      .cases hx
     .cases hx
    .cases hx
  .cases hx
 case toUnsafe x =>
  simp only[XO] at hx;simp only[Zc];generalize ev x=q0 at hx |-;split at hx
  .obtain rfl:=osj hx;exact .same hs rfl
  .split at hx
   .rename_i c e wr tight hg;simp only[hs.cells hg];split at hx
    .rename_i hc;simp only[z0 hc];obtain rfl:=osj hx;exact .same hs rfl
    .cases hx
   .cases hx
  .cases hx
 case fromUnsafe u size x =>
  simp only[XO] at hx;simp only[Zc];generalize ev x=q0 at hx |-;split at hx
  .obtain rfl:=osj hx;exact .same hs rfl
  .split at hx
   .rename_i c e hg;simp only[hs.cells hg];split at hx
    .rename_i hc;simp only[z0 hc];obtain rfl:=osj hx;exact .same hs rfl
    .cases hx
   .cases hx
  .cases hx
 case sliceData x =>
  simp only[XO] at hx;simp only[Zc];generalize ev x=q0 at hx |-;split at hx
  .obtain rfl:=osj hx;exact .same hs rfl
  .rename_i i o n cap;split at hx
   .rename_i hc;simp only[z0 (show cap≠0/\(M.get i).isSome=true from ⟨hc.1,by rw[hs.get];simpa using hc.2⟩)];obtain rfl:=osj hx;exact .same hs rfl
   .cases hx
  .cases hx
 case unsafeStr e x n =>
  simp only[XO] at hx;simp only[Zc];generalize ev x=q0 at hx |-;generalize ev n=q1 at hx |-;split at hx
  .rename_i q k h1 h2;split at hx
   .rename_i hk;simp only[z0 hk];obtain rfl:=osj hx;exact .same hs rfl
   .rename_i hk;simp only[z1 hk];split at hx
    .rename_i i o;split at hx
     .rename_i c el tight hg;simp only[hs.cells hg];split at hx
      .rename_i hc;simp only[z0 hc];split at hx
       .rename_i u hu;simp only[hu];obtain rfl:=osj hx;exact .upd hs hg rfl rfl
       .cases hx
      .cases hx
     .cases hx
    .cases hx
  .cases hx
 case bytesStr x =>
  simp only[XO] at hx;simp only[Zc];generalize ev x=q0 at hx |-;split at hx
  .split at hx
   .rename_i xs bB;simp only[hs.sl bB];split at hx
    .rename_i u hu;simp only[hu];obtain rfl:=osj hx;exact .same hs rfl
    .cases hx
   .cases hx
  .cases hx
 case strBytes e x =>
  simp only[XO] at hx;simp only[Zc];generalize ev x=q0 at hx |-;split at hx
  .split at hx
   .rename_i h1;simp only[z0 h1];rw[hs.n] at hx;exact .push hs hx rfl rfl
   .cases hx
  .cases hx
theorem Oo {rs:Nat->Env×Loop}{h:CH}{M:Heap}(hs:CSim rs h M) {o:VOp}{ev:Operand->Value}{p:Value×CH}
  (hx:(if o.kind=0 then (match Q6 o ev Heap.empty with|some p=>some (p.1,h)|none=>none) else none)=some p):ESnd rs h M (Q6 o ev M) p:=by
 split at hx
 .rename_i hk;split at hx
  .rename_i q hq;obtain rfl:=osj hx;exact .same hs (PN hk (v:=q.1) (σ1:=q.2) hq)
  .cases hx
 .cases hx
theorem Y5 {rs:Nat->Env×Loop}{h:CH}{M:Heap}(hs:CSim rs h M) {o:VOp}{ev:Operand->Value}{p:Value×CH}(hx:OG o ev h=some p):ESnd rs h M (Q6 o ev M) p:=by
 cases o
 case alloc t z =>
  simp only[OG] at hx;simp only[Q6];rw[hs.n] at hx;exact .push hs hx rfl rfl
 case box t x =>
  simp only[OG] at hx;simp only[Q6];generalize KG (ev x)=q0 at hx |-;split at hx
  .rw[hs.n] at hx;exact .push hs hx rfl rfl
  .cases hx
 case buildSlice esz z len parts =>
  simp only[OG] at hx;simp only[Q6];generalize M0 (H7 len z) (parts.map λp=>(p.1*esz.sz,esz.sz,ev p.2))=q0 at hx |-;split at hx
  .rw[hs.n] at hx;exact .push hs hx rfl rfl
  .cases hx
 case load agg size a =>
  simp only[OG] at hx;simp only[Q6];generalize ev a=q0 at hx |-;split at hx
  .split at hx
   .rename_i c hg;split at hx
    .rename_i ae;simp only[hg,z0 ae];split at hx
     .rename_i u hu;simp only[hu];obtain rfl:=osj hx;exact .same hs rfl
     .cases hx
    .cases hx
   .cases hx
  .split at hx
   .rename_i c e wr tight hg;simp only[hs.cells hg];split at hx
    .rename_i u hu;simp only[hu];obtain rfl:=osj hx;exact .same hs rfl
    .cases hx
   .cases hx
  .cases hx
 case store size a v =>
  simp only[OG] at hx;simp only[Q6];generalize KG (ev v)=q0 at hx |-;generalize ev a=q1 at hx |-;split at hx
  .rename_i i o vs h1 h2;split at hx
   .rename_i c e wr tight hg;simp only[hs.cells hg];split at hx
    .rename_i hc;simp only[z0 hc];obtain rfl:=osj hx;exact .upd hs hg rfl rfl
    .cases hx
   .cases hx
  .cases hx
 case slice size x lo hi mx =>
  simp only[OG] at hx;simp only[Q6];generalize ev x=q0 at hx |-;split at hx
  .rename_i a n cap;dsimp only;generalize J1 ev lo 0=q1 at hx |-;generalize J1 ev hi n=q2 at hx |-;split at hx
   .exact Bv hs hx
   .rename_i l k m;dsimp only;generalize J1 ev (some m) 0=q3 at hx |-;split at hx
    .exact Bv hs hx
    .cases hx
   .cases hx
  .cases hx
 case makeSlice esz bytes z l c =>
  simp only[OG] at hx;simp only[Q6];generalize ev l=q0 at hx |-;generalize ev c=q1 at hx |-;split at hx
  .split at hx
   .rename_i hc;simp only[z0 hc];rw[hs.n] at hx;exact .push hs hx rfl rfl
   .cases hx
  .cases hx
 case append esz bytes s x =>
  simp only[OG] at hx;simp only[Q6];generalize ev x=q0 at hx |-;split at hx
  .rename_i bB;simp only[hs.sl bB];split at hx
   .rename_i hc;simp only[z0 hc];exact RK hs hx
   .cases hx
  .cases hx
 case ext o=>exact Ho hs hx
 all_goals exact Oo hs hx
def EJ (k:IntKind) (n:Int):Int:=match n with
 |.ofNat x=>match Nat.ble x 127 with
  |true=>.ofNat x
  |false=>k.wrap (.ofNat x)
 |.negSucc x=>k.wrap (.negSucc x)
theorem A6 (k:IntKind) (n:Int):EJ k n=k.wrap n:=by
 cases n with
 |negSucc x=>rfl
 |ofNat x =>
  simp only[EJ];split
  .rename_i h;have hx:x<=127:=zC h;show (x:Int)=k.wrap (x:Int);cases k<;>simp[IntKind.wrap,IntKind.bits,IntKind.signed]<;>omega
  .rfl
def Q78 (c a b:Value):Option Value:=match c with|.bool t=>some (if t then a else b)|_=>none
def Q2j (op:BinOp) (x y:Value):Option Value:=match x,y with|.int k a,.int k' b=>if k=k' then some (.int k (match op with|.add=>EJ k (a+b)|.sub=>EJ k (a-b)|_=>EJ k (a*b))) else none|_,_=>none
def Z55 (op:BinOp) (x y:Value):Option Value:=match x,y with|.int k a,.int k' b=>if k=k'/\b≠0 then some (.int k (Q6r op k a b)) else none|_,_=>none
def Q79 (op:BinOp) (x y:Value):Option Value:=match x,y with|.int k a,.int k' b=>if k=k' then some (.int k (Q7 op k a b)) else none|_,_=>none
def Q23 (op:BinOp) (x y:Value):Option Value:=match x,y with|.int k a,.int _ b=>if 0<=b then some (.int k (R9 op k a b)) else none|_,_=>none
def Z4l (op:BinOp) (x y:Value):Option Value:=match x,y with|.int k a,.int k' b=>if k=k' then some (.bool (Z1b op a b)) else none|_,_=>none
def Z4h (op:BinOp) (x y:Value):Option Value:=match x,y with
  |.string a,.string b=>match op with
   |.add=>if a.size+b.size<=2 ^ 62 then some (.string (a++b)) else none
   |.eql=>some (.bool (a.data.toList==b.data.toList))
   |.neq=>some (.bool (!(a.data.toList==b.data.toList)))
   |.lss=>some (.bool (Op.bytesLess a.data.toList b.data.toList))
   |_=>none
  |_,_=>none
def Z4m (neg:Bool) (x y:Value):Option Value:=match x,y with|.bool a,.bool b=>some (.bool (if neg then !(a==b) else (a==b)))|_,_=>none
def pUn (op:UnOp) (x:Value):Option Value:=match op,x with
  |.not,.bool b=>some (.bool (!b))
  |.neg,.int k n=>some (.int k (k.wrap (0-n)))
  |.xor,.int k n=>some (.int k (Q7 .xor k (if k.signed then -1 else k.max) n))
  |_,_=>none
def Q2g (k:IntKind) (x:Value):Option Value:=match x with|.int _ n=>some (.int k (EJ k n))|_=>none
def Q37 (x:Value):Option Value:=match x with|.string s=>some (.string s)|_=>none
def Q26 (z:List Value) (l:List (Nat×Nat×Value)):Option Value:=match M0 z l with|some cs=>some (.agg cs.toArray)|none=>none
def TK (off:Nat) (a:Value):Option Value:=match a with
  |.pointer (some ⟨i,o,none⟩)=>some (.pointer (some ⟨i,o+off,none⟩))
  |_=>none
def Q1x (agg:Bool) (off size:Nat) (x:Value):Option Value:=match x with
  |.agg cs=>WA agg size cs.toList off
  |_=>none
def TP (size:Nat) (x i:Value):Option Value:=match x,i with
  |.slice (some ⟨b,o,none⟩) n _,.int _ k=>if 0<=k/\k<n then some (.pointer (some ⟨b,o+k.toNat*size,none⟩)) else none
  |_,_=>none
def Da (len size:Nat) (x i:Value):Option Value:=match x,i with
  |.pointer (some ⟨g,o,some s⟩),.int _ k=>if 0<=k/\k<len then some (.pointer (some ⟨g,o+k.toNat*size,some s⟩)) else none
  |.pointer (some ⟨b,o,none⟩),.int _ k=>if 0<=k/\k<len then some (.pointer (some ⟨b,o+k.toNat*size,none⟩)) else none
  |_,_=>none
def SC (x i:Value):Option Value:=match x,i with
  |.string s,.int _ k=>if 0<=k then (match s.data.toList[k.toNat]? with|some b=>some (.int .u8 b.toNat)|none=>none) else none
  |_,_=>none
def Lw (len:Nat) (agg:Bool) (size:Nat) (x i:Value):Option Value:=match x,i with
  |.agg cs,.int _ k=>if 0<=k/\k<len then WA agg size cs.toList (k.toNat*size) else none
  |_,_=>none
def LB (ev:Operand->Value) (x:Value) (lo hi:Option Operand):Option Value:=match x with
  |.string s =>
   match J1 ev lo 0,J1 ev hi s.size with
   |some l,some h=>if l<=h/\h<=s.size then some (.string (s.extract l h)) else none
   |_,_=>none
  |_=>none
def Z51 (x:Value):Option Value:=match x with|.slice _ n _=>some (.int .i64 n)|_=>none
def IN (x:Value):Option Value:=match x with|.string s=>some (.int .i64 s.size)|_=>none
def Q7f (x y z w:Value):Option Value:=match x,y,z,w with|.int k a,.int k2 b,.int k3 c,.int k4 d=>if k=k2/\k=k3/\k=k4 then some (.int k (EY (EY (EY a b) c) d)) else none|_,_,_,_=>none
def Z4w (x y:Value):Option Value:=match x,y with|.int k a,.int k' b=>if k=k' then some (.int k (if b > a then b else a)) else none|_,_=>none
def Z4v (x y:Value):Option Value:=match x,y with|.int k a,.int k' b=>if k=k' then some (.int k (if b<a then b else a)) else none|_,_=>none
def Q47 (t:TypeId) (x:Value):Option Value:=match x with|.chan _=>none|v=>some (.iface t v)
def Af (i:Nat) (x:Value):Option Value:=match x with
  |.tuple vs=>vs.toList[i]?
  |_=>none
def LH (x:Value):Option Value:=match x with
  |.pointer (some a)=>some (.pointer (some a))
  |.func (.func f) first cap=>some (.func (.func f) first cap)
  |_=>none
def ppp (r:Option Value) (M:CH):Option (Value×CH):=match r with|some v=>some (v,M)|none=>none
def Z5e (t:Nat) (x:Value) (M:CH):Option (Value×CH):=match KG x with
  |some vs=>UM M (.cells vs ⟨vs.length,t⟩ true true) (.pointer (some ⟨M.n,0,none⟩))
  |none=>none
def Cq (esz:El) (z:List Value) (len:Nat) (l:List (Nat×Nat×Value)) (M:CH):Option (Value×CH):=match M0 (H7 len z) l with
  |some cs=>UM M (.cells cs esz true true) (.slice (some ⟨M.n,0,none⟩) len len)
  |none=>none
def Z08 (agg:Bool) (size:Nat) (a:Value) (M:CH):Option (Value×CH):=match a with
  |.pointer (some ⟨g,o,some _⟩)=>(match OY g with
   |some c=>if c.all QN then (match WA agg size c o with|some v=>some (v,M)|none=>none) else none
   |none=>none)
  |.pointer (some ⟨i,o,none⟩)=>match M.get i with
   |some (.cells c _ _ _)=>match WA agg size c o with|some v=>some (v,M)|none=>none
   |_=>none
  |_=>none
def stL (c:List Value) (o:Nat) (vs:List Value):List Value:=match vs with
 |[v]=>c.set o v
 |vs=>c.take o++(vs++c.drop (o+vs.length))
theorem C_:∀ (vs a b c:List Value),vs.length=b.length->Yx (a++(b++c)) a.length vs=a++(vs++c)
 |[],a,b,c,h=>by have:b=[]:=List.eq_nil_of_length_eq_zero (by simpa using h.symm);subst this;rfl
 |v::vs,a,[],c,h=>by simp at h
 |v::vs,a,x::b,c,h=>by
  simp only[Yx];have e:(a++(x::b++c)).set a.length v=(a++[v])++(b++c):=by simp
  rw[e];have:=C_ vs (a++[v]) b c (by simpa using h);rw[zB,xy] at this;rw[this];simp
theorem Q8j {c:List Value}{o:Nat}{vs:List Value}(h:o+vs.length<=c.length):stL c o vs=Yx c o vs:=by
 unfold stL;split
 .rfl
 .have h1:c=c.take o++((c.drop o).take vs.length++c.drop (o+vs.length)):=by
   rw[<-List.drop_drop,xK,xK]
  have h2:(c.take o).length=o:=by simp;omega
  have:=C_ vs (c.take o) ((c.drop o).take vs.length) (c.drop (o+vs.length)) (by simp;omega);rw[h2,<-h1] at this;exact this.symm
def Q30 (size:Nat) (a v:Value) (M:CH):Option (Value×CH):=match a,KG v with
  |.pointer (some ⟨i,o,none⟩),some vs=>match M.get i with
   |some (.cells c e wr tight)=>if wr=true/\vs.length=size/\o+size<=c.length/\vs.all cellOk=true then some (undef,M.upd i (.cells (stL c o vs) e wr tight)) else none
   |_=>none
  |_,_=>none
def Ej (esz:El) (bytes:Nat) (z:List Value) (l c:Value) (M:CH):Option (Value×CH) :=
  match l,c with
  |.int _ a,.int _ b=>if 0<=a/\a<=b/\b*bytes<=2 ^ 46/\b<=2 ^ 46 then UM M (.cells (H7 b.toNat z) esz true true) (.slice (some ⟨M.n,0,none⟩) a.toNat b.toNat) else none
  |_,_=>none
def Z5b (esz:El) (bytes:Nat) (s x:Value) (M:CH):Option (Value×CH) :=
  match M.sl esz.sz x,x with
  |some xs,.slice _ m _=>if xs.all cellOk then RU esz bytes M s m xs else none
  |_,_=>none
def Cr (o:VOp) (ev:Operand->Value) (M:CH):Option (Value×CH) :=
 match o with
 |.move x=>some (ev x,M)
 |.pick c a b=>ppp (Q78 (ev c) (ev a) (ev b)) M
 |.arith op x y=>ppp (Q2j op (ev x) (ev y)) M
 |.div op x y=>ppp (Z55 op (ev x) (ev y)) M
 |.bits op x y=>ppp (Q79 op (ev x) (ev y)) M
 |.shift op x y=>ppp (Q23 op (ev x) (ev y)) M
 |.cmp op x y=>ppp (Z4l op (ev x) (ev y)) M
 |.str op x y=>ppp (Z4h op (ev x) (ev y)) M
 |.eqB n x y=>ppp (Z4m n (ev x) (ev y)) M
 |.un op x=>ppp (pUn op (ev x)) M
 |.convI k x=>ppp (Q2g k (ev x)) M
 |.convS x=>ppp (Q37 (ev x)) M
 |.build z parts=>ppp (Q26 z (parts.map λp=>(p.1,p.2.1,ev p.2.2))) M
 |.fieldAddr off a=>ppp (TK off (ev a)) M
 |.field agg off size x=>ppp (Q1x agg off size (ev x)) M
 |.indexAddr size x i=>ppp (TP size (ev x) (ev i)) M
 |.indexAddrArr len size x i=>ppp (Da len size (ev x) (ev i)) M
 |.indexStr x i=>ppp (SC (ev x) (ev i)) M
 |.indexArr len agg size x i=>ppp (Lw len agg size (ev x) (ev i)) M
 |.sliceStr x lo hi=>ppp (LB ev (ev x) lo hi) M
 |.len x=>ppp (Z51 (ev x)) M
 |.lenStr x=>ppp (IN (ev x)) M
 |.max x y=>ppp (Z4w (ev x) (ev y)) M
 |.max4 x y z w=>ppp (Q7f (ev x) (ev y) (ev z) (ev w)) M
 |.min x y=>ppp (Z4v (ev x) (ev y)) M
 |.makeFunc fn first cap=>some (.func fn (first.map ev).toArray (cap.map ev).toArray,M)
 |.iface t x=>ppp (Q47 t (ev x)) M
 |.extract x i=>ppp (Af i (ev x)) M
 |.nilCheck x=>ppp (LH (ev x)) M
 |.alloc t z=>UM M (.cells z ⟨z.length,t⟩ true true) (.pointer (some ⟨M.n,0,none⟩))
 |.box t x=>Z5e t (ev x) M
 |.buildSlice esz z len parts=>Cq esz z len (parts.map λp=>(p.1*esz.sz,esz.sz,ev p.2)) M
 |.load agg size a=>Z08 agg size (ev a) M
 |.store size a v=>Q30 size (ev a) (ev v) M
 |.slice size x lo hi mx=>OG (.slice size x lo hi mx) ev M
 |.makeSlice esz bytes z l c=>Ej esz bytes z (ev l) (ev c) M
 |.append esz bytes s x=>Z5b esz bytes (ev s) (ev x) M
 |.ext o=>XO o ev M
 |_=>none
theorem O6 {rs:Nat->Env×Loop}{h:CH}{M:Heap}(hs:CSim rs h M) {r:Option Value}{r':Option (Value×Heap)}{p:Value×CH}(hr:∀ v,r=some v->r'=some (v,M)) (hx:ppp r h=some p):ESnd rs h M r' p:=by
 unfold ppp at hx;split at hx
 .rename_i v;obtain rfl:=osj hx;exact .same hs (hr v rfl)
 .cases hx
theorem Kt {rs:Nat->Env×Loop}{h:CH}{M:Heap}(hs:CSim rs h M) {o:VOp}{ev:Operand->Value}{p:Value×CH}(hx:Cr o ev h=some p):ESnd rs h M (Q6 o ev M) p:=by
 cases o
 case move x=>exact .same hs (by obtain rfl:=osj hx;rfl) |> λ(h:ESnd rs _ M (Q6 (.move x) ev M) (ev x,_))=>by obtain rfl:=osj hx;exact h
 case makeFunc fn a b=>obtain rfl:=osj hx;exact .same hs rfl
 case alloc t z=>exact Y5 (o:=.alloc t z) hs hx
 case box t x=>exact Y5 (o:=.box t x) hs hx
 case buildSlice a b c d=>exact Y5 (o:=.buildSlice a b c d) hs hx
 case load a b c=>exact Y5 (o:=.load a b c) hs hx
 case store size a v =>
  simp only[Cr] at hx;simp only[Q6];unfold Q30 at hx;generalize KG (ev v)=q0 at hx |-;generalize ev a=q1 at hx |-;split at hx
  .rename_i i o vs;split at hx
   .rename_i c e wr tight hg;simp only[hs.cells hg];split at hx
    .rename_i hc;simp only[z0 hc];rw[Q8j (by omega)] at hx;obtain rfl:=osj hx;exact .upd hs hg rfl rfl
    .cases hx
   .cases hx
  .cases hx
 case slice a b c d e=>exact Y5 (o:=.slice a b c d e) hs hx
 case makeSlice a b c d e=>exact Y5 (o:=.makeSlice a b c d e) hs hx
 case append a b c d=>exact Y5 (o:=.append a b c d) hs hx
 case ext o=>exact Ho hs hx
 case callF=>cases hx
 case callV=>cases hx
 case bad=>cases hx
 all_goals refine O6 hs (λv hv=>?_) hx
 case arith op x y =>
  simp only[Q6];generalize ev x=a at hv |-;generalize ev y=b at hv |-;unfold Q2j at hv;split at hv
  .split at hv
   .rename_i hk;simp only[z0 hk];obtain rfl:=osj hv;cases op<;>simp only[R4,A6]
   .cases hv
  .cases hv
 case convI k x =>
  simp only[Q6];generalize ev x=a at hv |-;unfold Q2g at hv;split at hv
  .obtain rfl:=osj hv;simp only[A6]
  .cases hv
 case pick c a b =>
  simp only[Q6];generalize ev c=q0 at hv |-;generalize ev a=q1 at hv |-;generalize ev b=q2 at hv |-;unfold Q78 at hv
  (repeat' split at hv)<;>first|(cases hv;done)|(obtain rfl:=osj hv;first|rfl|(simp_all;done)|(simp_all;intros;omega))
 case div op x y =>
  simp only[Q6];generalize ev x=q0 at hv |-;generalize ev y=q1 at hv |-;unfold Z55 at hv
  (repeat' split at hv)<;>first|(cases hv;done)|(obtain rfl:=osj hv;first|rfl|(simp_all;done)|(simp_all;intros;omega))
 case bits op x y =>
  simp only[Q6];generalize ev x=q0 at hv |-;generalize ev y=q1 at hv |-;unfold Q79 at hv
  (repeat' split at hv)<;>first|(cases hv;done)|(obtain rfl:=osj hv;first|rfl|(simp_all;done)|(simp_all;intros;omega))
 case shift op x y =>
  simp only[Q6];generalize ev x=q0 at hv |-;generalize ev y=q1 at hv |-;unfold Q23 at hv
  (repeat' split at hv)<;>first|(cases hv;done)|(obtain rfl:=osj hv;first|rfl|(simp_all;done)|(simp_all;intros;omega))
 case cmp op x y =>
  simp only[Q6];generalize ev x=q0 at hv |-;generalize ev y=q1 at hv |-;unfold Z4l at hv
  (repeat' split at hv)<;>first|(cases hv;done)|(obtain rfl:=osj hv;first|rfl|(simp_all;done)|(simp_all;intros;omega))
 case eqB n x y =>
  simp only[Q6];generalize ev x=q0 at hv |-;generalize ev y=q1 at hv |-;unfold Z4m at hv
  (repeat' split at hv)<;>first|(cases hv;done)|(obtain rfl:=osj hv;first|rfl|(simp_all;done)|(simp_all;intros;omega))
 case un op x =>
  simp only[Q6];generalize ev x=q0 at hv |-;unfold pUn at hv
  (repeat' split at hv)<;>first|(cases hv;done)|(obtain rfl:=osj hv;first|rfl|(simp_all;done)|(simp_all;intros;omega))
 case convS x =>
  simp only[Q6];generalize ev x=q0 at hv |-;unfold Q37 at hv
  (repeat' split at hv)<;>first|(cases hv;done)|(obtain rfl:=osj hv;first|rfl|(simp_all;done)|(simp_all;intros;omega))
 case fieldAddr off a =>
  simp only[Q6];generalize ev a=q0 at hv |-;unfold TK at hv
  (repeat' split at hv)<;>first|(cases hv;done)|(obtain rfl:=osj hv;first|rfl|(simp_all;done)|(simp_all;intros;omega))
 case indexAddr size x i =>
  simp only[Q6];generalize ev x=q0 at hv |-;generalize ev i=q1 at hv |-;unfold TP at hv
  (repeat' split at hv)<;>first|(cases hv;done)|(obtain rfl:=osj hv;first|rfl|(simp_all;done)|(simp_all;intros;omega))
 case indexAddrArr len size x i =>
  simp only[Q6];generalize ev x=q0 at hv |-;generalize ev i=q1 at hv |-;unfold Da at hv
  (repeat' split at hv)<;>first|(cases hv;done)|(obtain rfl:=osj hv;first|rfl|(simp_all;done)|(simp_all;intros;omega))
 case len x =>
  simp only[Q6];generalize ev x=q0 at hv |-;unfold Z51 at hv
  (repeat' split at hv)<;>first|(cases hv;done)|(obtain rfl:=osj hv;first|rfl|(simp_all;done)|(simp_all;intros;omega))
 case lenStr x =>
  simp only[Q6];generalize ev x=q0 at hv |-;unfold IN at hv
  (repeat' split at hv)<;>first|(cases hv;done)|(obtain rfl:=osj hv;first|rfl|(simp_all;done)|(simp_all;intros;omega))
 case max4 x y z w =>
  simp only[Q6];generalize ev x=q0 at hv |-;generalize ev y=q1 at hv |-;generalize ev z=q2 at hv |-;generalize ev w=q3 at hv |-;unfold Q7f at hv
  (repeat' split at hv)<;>first|(cases hv;done)|(rename_i qs;obtain⟨rfl,rfl,rfl⟩:=qs;obtain rfl:=osj hv;simp_all;done)
 case max x y =>
  simp only[Q6];generalize ev x=q0 at hv |-;generalize ev y=q1 at hv |-;unfold Z4w at hv
  (repeat' split at hv)<;>first|(cases hv;done)|(obtain rfl:=osj hv;first|rfl|(simp_all;done)|(simp_all;intros;omega))
 case min x y =>
  simp only[Q6];generalize ev x=q0 at hv |-;generalize ev y=q1 at hv |-;unfold Z4v at hv
  (repeat' split at hv)<;>first|(cases hv;done)|(obtain rfl:=osj hv;first|rfl|(simp_all;done)|(simp_all;intros;omega))
 case nilCheck x =>
  simp only[Q6];generalize ev x=q0 at hv |-;unfold LH at hv
  (repeat' split at hv)<;>first|(cases hv;done)|(obtain rfl:=osj hv;first|rfl|(simp_all;done)|(simp_all;intros;omega))
 case str op x y =>
  simp only[Q6];generalize ev x=q0 at hv |-;generalize ev y=q1 at hv |-;unfold Z4h at hv
  (repeat' split at hv)<;>first|(cases hv;done)|(obtain rfl:=osj hv;first|rfl|(simp_all;done)|(simp_all;intros;omega))
 case build z parts =>
  simp only[Q6];unfold Q26 at hv;split at hv
  .rename_i cs hc;rw[hc];obtain rfl:=osj hv;rfl
  .cases hv
 case field agg off size x =>
  simp only[Q6];generalize ev x=q0 at hv |-;unfold Q1x at hv;split at hv
  .dsimp only;rw[hv]
  .cases hv
 case indexStr x i =>
  simp only[Q6];generalize ev x=q0 at hv |-;generalize ev i=q1 at hv |-;unfold SC at hv;split at hv
  .split at hv
   .rename_i hc;simp only[z0 hc];split at hv
    .rename_i b hb;simp only[hb];obtain rfl:=osj hv;rfl
    .cases hv
   .cases hv
  .cases hv
 case indexArr len agg size x i =>
  simp only[Q6];generalize ev x=q0 at hv |-;generalize ev i=q1 at hv |-;unfold Lw at hv;split at hv
  .split at hv
   .rename_i hc;simp only[z0 hc,hv]
   .cases hv
  .cases hv
 case sliceStr x lo hi =>
  simp only[Q6];generalize ev x=q0 at hv |-;unfold LB at hv;split at hv
  .rename_i s;split at hv
   .rename_i l h h1 h2;split at hv
    .rename_i hc;simp only[h1,h2,z0 hc];obtain rfl:=osj hv;rfl
    .cases hv
   .cases hv
  .cases hv
 case iface t x =>
  simp only[Q6];generalize ev x=q0 at hv |-;unfold Q47 at hv;split at hv
  .cases hv
  .rename_i av;obtain rfl:=osj hv;split
   .exact absurd rfl (av _)
   .rfl
 case extract x i =>
  simp only[Q6];generalize ev x=q0 at hv |-;unfold Af at hv;split at hv
  .dsimp only;rw[hv]
  .cases hv
inductive Sh (a m d:Nat):Value->Value->Prop
 |plain (v:Value) (h:QN v=true):Sh a m d v v
 |ptr (i o:Nat) (h:a<=i) (hi:i<m):Sh a m d (.pointer (some ⟨i,o,none⟩)) (.pointer (some ⟨d+(i-a),o,none⟩))
 |sl (i o len cap:Nat) (h:a<=i) (hi:i<m):Sh a m d (.slice (some ⟨i,o,none⟩) len cap) (.slice (some ⟨d+(i-a),o,none⟩) len cap)
 |agg (cs ds:Array Value) (hc:cs.size=ds.size) (h:∀ i (h1:i<cs.size) (h2:i<ds.size),Sh a m d cs[i] ds[i]):Sh a m d (.agg cs) (.agg ds)
 |tuple (cs ds:Array Value) (hc:cs.size=ds.size) (h:∀ i (h1:i<cs.size) (h2:i<ds.size),Sh a m d cs[i] ds[i]):Sh a m d (.tuple cs) (.tuple ds)
theorem Sh.rel {ρ ρ':Plc}{a m d n':Nat}(hn:d+(m-a)<=n') (hρ:∀ i,a<=i->i<m->ρ' (d+(i-a))=ρ i) {v v':Value}(h:Sh a m d v v') :
  ∀ {c:Value},VRel ρ m v c->VRel ρ' n' v' c:=by
 induction h with
 |plain v h =>intro c hv;have:c=v:=KQ h hv;subst this;exact W1 h
 |ptr i o h hi =>intro c hv;obtain⟨a',rfl,_,bk⟩:=hv.q1g;exact .ptr _ _ _ (by omega) λp hp=>bk p (by rw[<-hρ i h hi];exact hp)
 |sl i o len cap h hi =>intro c hv;obtain⟨a',aq,rfl,_,bk⟩:=hv.q1b;exact .sl _ _ _ _ _ _ (by omega) λp hp=>bk p (by rw[<-hρ i h hi];exact hp)
 |agg cs ds hc h ih =>
  intro c hv;cases hv with
  |agg _ ds' cO h'=>exact .agg _ _ (hc.symm.trans cO) λi k1 k2=>ih i (by omega) k1 (h' i (by omega) k2)
 |tuple cs ds hc h ih =>
  intro c hv;cases hv with
  |tuple _ ds' cO h'=>exact .tuple _ _ (hc.symm.trans cO) λi k1 k2=>ih i (by omega) k1 (h' i (by omega) k2)
theorem BRel.any {ρ ρ':Plc}{n n':Nat}{p:Pl}{w:World}{c:List Value}{esz:El}{wr tight:Bool}(hp:c.all QN=true) (h:BRel ρ n p w (.cells c esz wr tight)) :
  BRel ρ' n' p w (.cells c esz wr tight):=by
 obtain⟨h1,h2,h3,h4,h5,h6⟩:=h;refine⟨h1,h2,h3,h4,λk v hk=>?_,h6⟩;obtain⟨u,hu,hv⟩:=h5 k v hk;have aY:QN v=true:=z6.1 hp v (zE hk);obtain rfl:u=v:=KQ aY hv;exact⟨u,hu,W1 aY⟩
theorem BRel.renRo {ρ:Plc}{nf n':Nat}{π:Nat->Nat}{p:Pl}{w:World}{c c':List Value}{esz:El}{wr tight:Bool}(hr:LRen n' π c c') (h:BRel ρ nf p w (.cells c' esz wr tight)) :
  BRel (λi=>if i<n' then ρ (π i) else none) n' p w (.cells c esz false tight):=by
 obtain⟨h1,h2,h3,h4,h5,h6⟩:=h;refine⟨h1,h2,by rw[hr.1];exact h3,h4,λk v hk=>?_,λh=>by cases h⟩;have ah:k<c'.length:=by rw[<-hr.1];exact(z7.1 hk).1
 obtain⟨u,hu,hv⟩:=h5 k _ (z3 ah);exact⟨u,hu,(hr.2 k v _ hk (z3 ah)).rel hv⟩
structure PB where
 c:List Value
 esz:El
 tight:Bool
def PB.blk (wr:Bool) (b:PB):Blk:=.cells b.c b.esz wr b.tight
def Qt (bl fr:List PB):Heap where
 get i:=if i<bl.length then (bl[i]?).map (PB.blk false) else (fr[i-bl.length]?).map (PB.blk true)
 n:=bl.length+fr.length
 wf i h:=by rw[z1 (by omega),zj (by omega)];rfl
def XY (M:Heap) (fr:List PB):Heap where
 get i:=if i<M.n then M.get i else (fr[i-M.n]?).map (PB.blk true)
 n:=M.n+fr.length
 wf i h:=by rw[z1 (by omega),zj (by omega)];rfl
theorem VCalled.localize {P:Program}{f:FuncId}{iE args:List Value}{bl fr:List PB}{vm v:Value}{M:Heap}{π:Nat->Nat}{K:Value->Heap->Prop}
  (hm:VCalled P f iE (Qt bl []) λu U=>u=vm/\U=Qt bl fr)
  (cQ:∀ b∈fr,b.c.all QN=true)
  (hπ:∀ i b,bl[i]?=some b->∃ wr c',M.get (π i)=some (.cells c' b.esz wr b.tight)/\LRen bl.length π b.c c')
  (ax:LRen bl.length π iE args) (hv:Sh bl.length (bl.length+fr.length) M.n vm v) (hK:K v (XY M fr)):VCalled P f args M K:=by
 intro ρ w az hH hL;have bL:∀ B,¬ Wr (λi=>if i<bl.length then ρ (π i) else none) (Qt bl []) B:=by
  rintro B ⟨i,p,b,_,hb,hw,_⟩;have hi:i<bl.length:=by have:=(Qt bl []).lt hb;simpa [Qt] using this
  simp only[Qt,z0 hi] at hb;cases eZ:bl[i]? with
  |none=>rw[eZ] at hb;cases hb
  |some b0=>rw[eZ] at hb;obtain rfl:=osj hb;cases hw
 have tO:HRel (λi=>if i<bl.length then ρ (π i) else none) (Qt bl []) w:=by
  refine⟨⟨λi b hb=>?_,λi hi=>?_,λi p hp=>?_,λi j p q b _ hp _ hb hw _=>(bL _ ⟨i,p,b,hp,hb,hw,rfl⟩).elim⟩,λg cs hg=>⟨(hH.tab g cs hg).1,bL g⟩⟩
  .have hi:i<bl.length:=by have:=(Qt bl []).lt hb;simpa [Qt] using this
   simp only[Qt,z0 hi] at hb;cases eZ:bl[i]? with
   |none=>rw[eZ] at hb;cases hb
   |some b0 =>rw[eZ] at hb;obtain rfl:=osj hb;obtain⟨wr,c',hg,qH⟩:=hπ i b0 eZ;obtain⟨p,hp,hB⟩:=hH.live _ _ hg;exact⟨p,by simp[hi,hp],BRel.renRo qH hB⟩
  .by_cases h:i<bl.length
   .simp only[Qt,z0 h,z3 h] at hi;cases hi
   .simp[h]
  .skip
   split at hp
   .exact hH.lt _ p hp
   .cases hp
 have tP:LRel (λi=>if i<bl.length then ρ (π i) else none) (Qt bl []).n iE az.toList:=by have:=ax.rel hL;simpa [Qt] using this
 have lift:∀ c w',Got (λi=>if i<bl.length then ρ (π i) else none) (Qt bl []) w (λu U=>u=vm/\U=Qt bl fr) c w'->Got ρ M w K c w':=by
  rintro c w' ⟨_,ρm,_,⟨rfl,rfl⟩,cH,iF,hE⟩;have dX:∀ B,B<w.heap.size->w'.heap[B]?=w.heap[B]?:=λB hB=>hE.keep B hB (bL B);have gu:∀ i p,bl.length<=i->ρm i=some p->w.heap.size<=p.blk:=λi p hi hp=>by
   rcases zh p.blk w.heap.size with h|h
   .refine (bL _ (hE.wr p.blk h ?_)).elim;have fP:=iF.idlt hp;cases hb:(Qt bl fr).get i with
    |none=>rw[iF.dead i hb] at hp;cases hp
    |some b =>
     refine⟨i,p,b,hp,hb,?_,rfl⟩;simp only[Qt,z1 (wi.2 hi)] at hb;cases eZ:fr[i-bl.length]? with
     |none=>rw[eZ] at hb;cases hb
     |some b0=>rw[eZ] at hb;obtain rfl:=osj hb;rfl
   .exact h
  have hρ:∀ i,M.n<=i->(if i<M.n then ρ i else if i<M.n+fr.length then ρm (bl.length+(i-M.n)) else none)=if i<M.n+fr.length then ρm (bl.length+(i-M.n)) else none:=λi hi=>z1 (by omega)
  have hX:Ext ρ M w (λi=>if i<M.n then ρ i else if i<M.n+fr.length then ρm (bl.length+(i-M.n)) else none) (XY M fr) w':=by
   refine⟨hE.os,hE.tape,hE.output,hE.size,λB hB _=>dX B hB,?_,by simp[XY],λi hi p hp=>?_⟩
   .rintro B hB ⟨i,p,b,hp,hb,hw,rfl⟩
    replace hp:(if i<M.n then ρ i else if i<M.n+fr.length then ρm (bl.length+(i-M.n)) else none)=some p:=hp
    by_cases hi:i<M.n
    .rw[z0 hi] at hp;simp only[XY,z0 hi] at hb;exact⟨i,p,b,hp,hb,hw,rfl⟩
    .rw[z1 hi] at hp;split at hp
     .have:=gu _ p (by omega) hp;omega
     .cases hp
   .skip
    rwa [z0 hi] at hp
  refine⟨v,λi=>if i<M.n then ρ i else if i<M.n+fr.length then ρm (bl.length+(i-M.n)) else none,XY M fr,hK,?_,hH.ext ⟨λi b hb=>?_,λi hi=>?_,λi p hp=>?_,λi j p q b bY hp hq hb hw hx=>?_⟩ hX,hX⟩
  .refine hv.rel (by simp[XY]) (λi h1 h2=>?_) cH;rw[z1 (by omega),z0 (by omega)];congr 1;omega
  .by_cases hi:i<M.n
   .simp only[XY,z0 hi] at hb;obtain⟨p,hp,hB⟩:=hH.live i b hb;exact⟨p,by simp[hi,hp],hB.mono (by simp[XY]) (λj hj q hq=>by simpa [hj] using hq) (dX _ (hH.lt i p hp))⟩
   .simp only[XY,z1 hi] at hb;cases eZ:fr[i-M.n]? with
    |none=>rw[eZ] at hb;cases hb
    |some b0 =>
     rw[eZ] at hb;obtain rfl:=osj hb;have ah:i-M.n<fr.length:=(z7.1 eZ).1;obtain⟨p,hp,hB⟩:=iF.live (bl.length+(i-M.n)) (b0.blk true) (by
      show (if _ then _ else _)=_;rw[z1 (by omega),show bl.length+(i-M.n)-bl.length=i-M.n by omega,eZ];rfl)
     exact⟨p,by rw[z1 hi,z0 (by omega)];exact hp,BRel.any (cQ b0 (zE eZ)) hB⟩
  .by_cases h:i<M.n
   .simp only[XY,z0 h] at hi;rw[z0 h];exact hH.dead i hi
   .simp only[XY,z1 h] at hi;rw[z1 h];split
    .rename_i h2;have ah:i-M.n<fr.length:=by omega
     rw[z3 ah] at hi;cases hi
    .rfl
  .skip
   split at hp
   .exact x8 (hH.lt i p hp) hE.size
   .split at hp
    .exact iF.lt _ p hp
    .cases hp
  .skip
   by_cases hi:i<M.n<;>by_cases hj:j<M.n
   .rw[z0 hi] at hp;rw[z0 hj] at hq;simp only[XY,z0 hi] at hb;exact hH.sep i j p q b bY hp hq hb hw hx
   .rw[z0 hi] at hp;rw[z1 hj] at hq;split at hq
    .have h1:=hH.lt i p hp;have h2:=gu _ q (by omega) hq;omega
    .cases hq
   .rw[z1 hi] at hp;rw[z0 hj] at hq;split at hp
    .have h1:=hH.lt j q hq;have h2:=gu _ p (by omega) hp;omega
    .cases hp
   .rw[z1 hi] at hp;rw[z1 hj] at hq;split at hp
    .split at hq
     .simp only[XY,z1 hi] at hb;refine iF.sep (bl.length+(i-M.n)) (bl.length+(j-M.n)) p q b (by omega) hp hq ?_ hw hx;show (if _ then _ else _)=_;rw[z1 (by omega),show bl.length+(i-M.n)-bl.length=i-M.n by omega];exact hb
     .cases hq
    .cases hp
 rcases hm _ w az tO tP with⟨h1,h2⟩|⟨c,h1,h2⟩
 .refine .inl ⟨h1,?_⟩;exact h2.mono λe w' he=>by
   obtain⟨c,rfl,hc⟩:=he;exact⟨c,rfl,lift c w' hc⟩
 .refine .inr ⟨c,lift c w h1,λw' dp=>h2 w' ⟨dp.1,λi p hp=>?_,dp.tab⟩⟩
  replace hp:(if i<bl.length then ρ (π i) else none)=some p:=hp
  split at hp
  .exact dp.2 _ p hp
  .cases hp
def IG {α:Type}(p:α->α->Bool):List α->List α->Bool
 |[],[]=>true
 |a::l,b::m=>p a b&&IG p l m
 |_,_=>false
theorem Ug {α:Type}{p:α->α->Bool}(hp:∀ a b,p a b=true->a=b):∀ l m,IG p l m=true->l=m
 |[],[],_=>rfl
 |a::l,b::m,h=>by simp only[IG,z2] at h;rw[hp a b h.1,Ug hp l m h.2]
 |[],_::_,h=>by cases h
 |_::_,[],h=>by cases h
def TZ:Nat->Value->Value->Bool
 |0,_,_=>false
 |f+1,a,b=>match a,b with
  |.bool x,.bool y=>x==y
  |.int k x,.int k' y=>decide (k=k')&&decide (x=y)
  |.string s,.string t=>decide (s.data.toList=t.data.toList)
  |.pointer none,.pointer none=>true
  |.pointer (some ⟨i,o,none⟩),.pointer (some ⟨j,q,none⟩)=>Nat.beq i j&&Nat.beq o q
  |.slice none l c,.slice none l' c'=>Nat.beq l l'&&Nat.beq c c'
  |.slice (some ⟨i,o,none⟩) l c,.slice (some ⟨j,q,none⟩) l' c'=>Nat.beq i j&&(Nat.beq o q&&(Nat.beq l l'&&Nat.beq c c'))
  |.slice (some ⟨i,o,some 0⟩) l c,.slice (some ⟨j,q,some 0⟩) l' c'=>Nat.beq i j&&(Nat.beq o q&&(Nat.beq l l'&&Nat.beq c c'))
  |.map x,.map y=>decide (x=y)
  |.chan none,.chan none=>true
  |.nilFunc,.nilFunc=>true
  |.nilIface,.nilIface=>true
  |.func (.func g) fs cs,.func (.func g') rT cs'=>decide (g=g')&&(IG (TZ f) fs.toList rT.toList&&IG (TZ f) cs.toList cs'.toList)
  |.func (.yield i) ⟨[]⟩ ⟨[]⟩,.func (.yield j) ⟨[]⟩ ⟨[]⟩=>Nat.beq i j
  |.iface t v,.iface t' v'=>decide (t=t')&&TZ f v v'
  |.agg cs,.agg ds=>IG (TZ f) cs.toList ds.toList
  |.tuple cs,.tuple ds=>IG (TZ f) cs.toList ds.toList
  |_,_=>false
theorem Re {α:Type}{a b:Array α}(h:a.toList=b.toList):a=b:=by cases a;cases b;simp at h;rw[h]
theorem NA:∀ (f:Nat) (a b:Value),TZ f a b=true->a=b:=by
 intro f;induction f with
 |zero=>intro a b h;cases h
 |succ f ih =>
  intro a b h;unfold TZ at h
  split at h<;>first
   |(cases h;done)
   |rfl
   |(simp at h;subst h;rfl)
   |(simp at h;obtain⟨rfl,rfl⟩:=h;rfl)
   |(simp at h;obtain⟨rfl,rfl,rfl,rfl⟩:=h;rfl)
   |skip
  .rename_i s t;have h:=zl h;have:=Re h;cases s;cases t;simp at this;rw[this]
  .rename_i g fs cs g' rT cs';simp only[z2,zi] at h;obtain⟨rfl,h1,h2⟩:=h;rw[Re (Ug ih _ _ h1),Re (Ug ih _ _ h2)]
  .rename_i t v t' v';simp only[z2,zi] at h;obtain⟨rfl,h1⟩:=h;rw[ih _ _ h1]
  .rw[Re (Ug ih _ _ h)]
  .rw[Re (Ug ih _ _ h)]
def EB.beq:EB->EB->Bool
 |.cells c e w t,.cells c' e' w' t'=>decide (e=e')&&(w==w'&&(t==t'&&IG (TZ 20) c c'))
 |.map es cl w,.map bS tQ w'=>Nat.beq cl tQ&&(w==w'&&IG (λa b=>TZ 20 a.1 b.1&&(TZ 20 a.2.1 b.2.1&&Nat.beq a.2.2 b.2.2)) es bS)
 |.iter m s sn l,.iter m' s' tR l'=>Nat.beq m m'&&(Nat.beq s s'&&(Nat.beq l l'&&decide (sn=tR)))
 |.lp .ready none,.lp .ready none=>true
 |.lp .busy none,.lp .busy none=>true
 |_,_=>false
theorem EB.beq_eq {a b:EB}(h:a.beq b=true):a=b:=by
 unfold EB.beq at h
 split at h<;>first
  |(cases h;done)
  |rfl
  |skip
 .simp only[z2,zi,zS] at h;obtain⟨rfl,rfl,rfl,h⟩:=h;rw[Ug (NA 20) _ _ h]
 .simp only[z2,zS,Nat.beq_eq] at h;obtain⟨rfl,rfl,h⟩:=h;rw[Ug (λa b h=>by
   simp only[z2,Nat.beq_eq] at h;obtain⟨a1,a2,a3⟩:=a;obtain⟨b1,b2,b3⟩:=b;obtain⟨h1,h2,h3⟩:=h;simp at h1 h2 h3;rw[NA _ _ _ h1,NA _ _ _ h2,h3]) _ _ h]
 .simp only[z2,zi,Nat.beq_eq] at h;obtain⟨rfl,rfl,rfl,rfl⟩:=h;rfl
def CH.newOk (h h':CH):Bool:=Nat.ble h.n h'.n&&(h'.room&&(List.range' h.n (h'.n-h.n)).all λi=>match h'.get i with
 |some (.lp _ _)=>false
 |_=>true)
structure AnsOps (A:Type) where
 fail:A
 both:A->A->A
structure Good {A:Type}(R:AnsOps A) (G:A->Prop):Prop where
 fail:¬ G R.fail
 both:∀ a b,G (R.both a b)->G a/\G b
def Xx:AnsOps Bool:=⟨false,and⟩
theorem Rr:Good Xx (·=true):=⟨by simp[Xx],λa b h=>by simpa [Xx] using h⟩
def CD:AnsOps (Option (Value×CH)):=⟨none,λ_ _=>none⟩
theorem Q59 (x:Value×CH):Good CD (·=some x):=⟨by simp[CD],λa b h=>by simp[CD] at h⟩
def CH.same (h h':CH):Bool:=Nat.beq h.n h'.n&&(List.range h.n).all λi=>match h.get i,h'.get i with
 |none,none=>true
 |some a,some b=>a.beq b
 |_,_=>false
def EB.plainE:EB->Bool
 |.cells c _ _ _=>c.all QN
 |.map es _ _=>es.all λkv=>QN kv.2.1
 |_=>false
def CH.keepOk (h h':CH):Bool:=Nat.ble h.n h'.n&&(List.range h.n).all λi=>match h.get i,h'.get i with
 |none,none=>true
 |some a,some b=>b.plainE||a.beq b
 |_,_=>false
def gcI (n0:Nat) (refs:List Nat) (i:Nat):Nat×List Nat :=
 if i<n0 then (i,refs) else if refs.contains i=true then (n0+refs.idxOf i,refs) else (n0+refs.length,refs++[i])
def OJ (g:List Nat->Value->Option (Value×List Nat)):List Value->List Nat->Option (List Value×List Nat)
 |[],refs=>some ([],refs)
 |v::vs,refs=>match g refs v with
  |none=>none
  |some p=>match OJ g vs p.2 with
   |none=>none
   |some q=>some (p.1::q.1,q.2)
def gcX (n0:Nat):Nat->List Nat->Value->Option (Value×List Nat)
 |0,_,_=>none
 |f+1,refs,v=>match v with
  |.pointer (some ⟨i,o,none⟩)=>some (.pointer (some ⟨(gcI n0 refs i).1,o,none⟩),(gcI n0 refs i).2)
  |.slice (some ⟨i,o,none⟩) l c=>some (.slice (some ⟨(gcI n0 refs i).1,o,none⟩) l c,(gcI n0 refs i).2)
  |.slice (some ⟨i,o,some 0⟩) l c=>some (.slice (some ⟨(gcI n0 refs i).1,o,some 0⟩) l c,(gcI n0 refs i).2)
  |.map (some i)=>some (.map (some (gcI n0 refs i).1),(gcI n0 refs i).2)
  |.chan none=>some (.chan none,refs)
  |.iface t u=>match gcX n0 f refs u with
   |some p=>some (.iface t p.1,p.2)
   |none=>none
  |.agg cs=>match OJ (gcX n0 f) cs.toList refs with
   |some p=>some (.agg p.1.toArray,p.2)
   |none=>none
  |.tuple cs=>match OJ (gcX n0 f) cs.toList refs with
   |some p=>some (.tuple p.1.toArray,p.2)
   |none=>none
  |.func (.func g) fs cs=>match OJ (gcX n0 f) fs.toList refs with
   |some p=>match OJ (gcX n0 f) cs.toList p.2 with
    |some q=>some (.func (.func g) p.1.toArray q.1.toArray,q.2)
    |none=>none
   |none=>none
  |.func (.yield i) ⟨[]⟩ ⟨[]⟩=>if i<n0 then some (.func (.yield i) ⟨[]⟩ ⟨[]⟩,refs) else none
  |v=>if QN v=true then some (v,refs) else none
def Z13 (n0:Nat):List Jo->List Nat->Option (List Jo×List Nat)
 |[],refs=>some ([],refs)
 |e::es,refs=>match gcX n0 8 refs e.2.1 with
  |none=>none
  |some p=>match Z13 n0 es p.2 with
   |none=>none
   |some q=>some ((e.1,p.1,e.2.2)::q.1,q.2)
def gcB (n0:Nat) (refs:List Nat):EB->Option (EB×List Nat)
 |.cells c e w t=>match OJ (gcX n0 8) c refs with
  |some p=>some (.cells p.1 e w t,p.2)
  |none=>none
 |.map es cl w=>match Z13 n0 es refs with
  |some p=>some (.map p.1 cl w,p.2)
  |none=>none
 |_=>none
def Q0z (h':CH) (n0:Nat):Nat->Nat->List Nat->CH->Option (CH×List Nat)
 |0,_,_,_=>none
 |f+1,k,refs,acc=>if refs.length<=k then (if k=refs.length then some (acc,refs) else none) else match h'.get (refs.getD k 0) with
  |none=>none
  |some b=>match gcB n0 refs b with
   |none=>none
   |some p=>if acc.room=true then Q0z h' n0 f (k+1) p.2 (acc.push p.1) else none
def Q39 (h h':CH) (refs:List Nat):Option (CH×List Nat) :=
 if h.keepOk h'=true then Q0z h' h.n 100000 0 refs ⟨h'.t,h.n⟩ else none
def LD (h h':CH) (v:Value):Option (Value×CH):=match gcX h.n 8 [] v with
 |none=>none
 |some p=>match Q39 h h' p.2 with
  |none=>none
  |some q=>some (p.1,q.1)
def joinOps:AnsOps (Option (Value×CH)):=⟨none,λa b=>match a with
 |some x=>match b with
  |some y=>if TZ 20 x.1 y.1=true/\x.2.same y.2=true then some x else none
  |none=>none
 |none=>none⟩
structure ET where
 t:GT Value
 m:Nat
def ET.get (e:ET) (i:Nat):Value:=Bool.rec (motive:=λ_=>Value) undef (e.t.get undef i) (Nat.blt i e.m)
def ET.set (e:ET) (i:Nat) (v:Value):ET:=Bool.rec (motive:=λ_=>ET) e ⟨e.t.set undef 32 i v,e.m⟩ (Nat.blt i e.m)
def ET.put (e:ET) (d:Option Nat) (v:Value):ET:=Option.rec (motive:=λ_=>ET) e (λd=>e.set d v) d
def etL (l:List Value):Nat->GT Value->GT Value:=List.rec (motive:=λ_=>Nat->GT Value->GT Value) (λ_ t=>t) (λv _ ih i t=>ih (i+1) (t.set undef 32 i v)) l
def ET.of (args:List Value) (nt:Nat):ET:=⟨etL args 0 .nil,args.length+(nt-args.length)⟩
def MW (e:ET) (x:Operand):Value:=Operand.rec (motive:=λ_=>Value) (λt=>e.get t) (λv=>v) (λg=>.pointer (some ⟨g,0,some 0⟩)) (λf=>.func (.func f) #[] #[]) x
def Q1p (e:ET) (ps:List Nat):List Value->ET:=List.rec (motive:=λ_=>ET->List Value->ET) (λe _=>e) (λp _ ih e vs=>List.rec (motive:=λ_=>ET) e (λv vs _=>ih (e.set p v) vs) vs) ps e
def Fy (e:ET) (g:Option (Nat×Bool)):Option Bool:=match g with
 |none=>some true
 |some (d,want)=>match e.get d with
  |.bool b=>some (b==want)
  |.tuple _=>some false
  |_=>none
def ET.list (e:ET):List Value:=(List.range e.m).map e.get
def Q7g (h h':CH) (e:ET):Option (Value×CH):=LD h h' (.tuple e.list.toArray)
structure RCtx where
 ps:List Nat
 a:VCode
 b:VCode
 env:ET
abbrev Ys:=List (Nat×RCtx)
def Ys.find:Ys->Nat->Option RCtx
 |[],_=>none
 |(j,c)::l,i=>if Nat.beq i j=true then some c else Ys.find l i
structure Memo where
 args:List Value
 bl:List PB
 v:Value
 fr:List PB
def Z03 (g:Value->Option Value):List Value->Option (List Value)
 |[]=>some []
 |v::vs=>match g v with
  |none=>none
  |some u=>match Z03 g vs with
   |none=>none
   |some us=>some (u::us)
def shX (a m d:Nat):Nat->Value->Option Value
 |0,_=>none
 |f+1,v=>match v with
  |.pointer (some ⟨i,o,none⟩)=>if a<=i/\i<m then some (.pointer (some ⟨d+(i-a),o,none⟩)) else none
  |.slice (some ⟨i,o,none⟩) l c=>if a<=i/\i<m then some (.slice (some ⟨d+(i-a),o,none⟩) l c) else none
  |.agg cs=>match Z03 (shX a m d f) cs.toList with
   |some p=>some (.agg p.toArray)
   |none=>none
  |.tuple cs=>match Z03 (shX a m d f) cs.toList with
   |some p=>some (.tuple p.toArray)
   |none=>none
  |v=>if QN v=true then some v else none
def TI (h:CH):Nat->List Nat->List PB->Option (List Nat)
 |k,refs,[]=>if refs.length=k then some refs else none
 |k,refs,b::m=>if k<refs.length then
   match h.get (refs.getD k 0) with
   |some (.cells c e _ t)=>(match OJ (gcX 0 8) c refs with
    |some p=>if (decide (e=b.esz)&&(t==b.tight&&IG (TZ 20) p.1 b.c))=true then TI h (k+1) p.2 m else none
    |none=>none)
   |_=>none
  else none
def X3:List PB->CH->CH
 |[],h=>h
 |b::l,h=>X3 l (h.push (.cells b.c b.esz true b.tight))
def Ad (h:CH) (args:List Value) (refs:List Nat):List Memo->Option Memo
 |[]=>none
 |m::ms=>if (IG (TZ 20) args m.args&&(TI h 0 refs m.bl).isSome)=true then some m else Ad h args refs ms
def Sb (h:CH) (args:List Value) (ms:List Memo):Option (Value×CH) :=
 match OJ (gcX 0 8) args [] with
 |none=>none
 |some p=>match Ad h p.1 p.2 ms with
  |none=>none
  |some m=>match Nat.ble (h.n+m.fr.length) 1000000000 with
   |false=>none
   |true=>match shX m.bl.length (m.bl.length+m.fr.length) h.n 8 m.v with
    |some v=>some (v,X3 m.fr h)
    |none=>none
inductive FEnt where
 |code (vc:VCode) (rs:List VResult) (nt:Nat)
 |codeJ (vc:VCode) (rs:List VResult) (nt:Nat)
 |codeM (vc:VCode) (rs:List VResult) (nt:Nat) (ms:List Memo)
 |same
abbrev Tab:=FuncId->Option FEnt
abbrev Q6p:=∀ {A:Type},AnsOps A->Ys->VCode->Option Nat->ET->CH->(Exit->ET->CH->A)->A
def HH (env:ET) (M:CH):VResult->Option Value
 |.tmp t=>some (env.get t)
 |.cell a agg size=>match Z08 agg size (env.get a) M with|some p=>some p.1|none=>none
def GK (env:ET) (M:CH):List VResult->Option (List Value)
 |[]=>some []
 |r::rs=>match HH env M r with
  |none=>none
  |some v=>match GK env M rs with
   |none=>none
   |some vs=>some (v::vs)
def Md (env:ET) (M:CH) (rs:List VResult):Option Value :=
 match rs with
 |[r]=>HH env M r
 |rs=>match GK env M rs with|some vs=>some (.tuple vs.toArray)|none=>none
section
variable (T:Tab) (ev:Q6p) {A:Type}(R:AnsOps A) (ys:Ys)
def Q63 (fail:A) (rs:List VResult) (k:Value->CH->A):Exit->ET->CH->A:=λe env h'=>match e with
  |.normal=>(match Md env h' rs with|some v=>k v h'|none=>fail)
  |.ret=>(match Md env h' rs with|some v=>k v h'|none=>fail)
  |_=>fail
def DS (f:FuncId) (args:List Value) (h:CH) (k:Value->CH->A):A :=
 match T f with
 |some (.code vc rs nt)=>match Nat.ble (ET.of args nt).m 1000000 with
  |true=>ev R ys vc none (ET.of args nt) h (Q63 R.fail rs k)
  |false=>R.fail
 |some (.codeJ vc rs nt)=>match Nat.ble (ET.of args nt).m 1000000 with
  |true=>(match ev joinOps ys vc none (ET.of args nt) h (Q63 none rs λv h'=>LD h h' v) with
   |some x=>if x.2.room=true/\Nat.ble h.n x.2.n=true then k x.1 x.2 else R.fail
   |none=>R.fail)
  |false=>R.fail
 |some (.codeM vc rs nt ms)=>match Sb h args ms with
  |some p=>k p.1 p.2
  |none=>match Nat.ble (ET.of args nt).m 1000000 with
   |true=>ev R ys vc none (ET.of args nt) h (Q63 R.fail rs k)
   |false=>R.fail
 |some .same=>match args with
  |[v]=>k v h
  |_=>R.fail
 |none=>R.fail
def I2 (i:Nat) (k:Value->CH->A):Exit->ET->CH->A:=λe _ h =>
 match h.get i with
 |some (.lp .busy none)=>match e with
  |.normal=>k (.bool true) (h.upd i (.lp .ready none))
  |.ret=>k (.bool false) (h.upd i (.lp .done (some .ret)))
  |.exit id=>k (.bool false) (h.upd i (.lp .done (some (.exit id))))
  |_=>R.fail
 |_=>R.fail
def Q1r (c:RCtx) (i:Nat) (k:Value->CH->A):Exit->ET->CH->A:=λe bz h1=>match e with
 |.normal=>(match h1.get i with
  |some (.lp .ready none)=>ev R ys c.b (some i) bz (h1.upd i (.lp .busy none)) (I2 R i k)
  |_=>R.fail)
 |_=>R.fail
def FM (i:Nat) (args:List Value) (h:CH) (k:Value->CH->A):A :=
 match ys.find i with
 |some c=>match h.get i with
  |some (.lp .ready none)=>if args.length=c.ps.length then ev R ys c.a (some i) (Q1p c.env c.ps args) h (Q1r ev R ys c i k) else R.fail
  |_=>R.fail
 |none=>R.fail
def Mv (i m since clock:Nat) (seen:List Nat) (h:CH) (k:Value->CH->A):List Jo->Option A
 |[]=>none
 |e::es=>if seen.contains e.2.2=true then Mv i m since clock seen h k es
  else match Mv i m since clock seen h k es with
   |none=>some (k (.tuple #[.bool true,e.1,e.2.1]) (h.upd i (.iter m since (seen++[e.2.2]) clock)))
   |some a=>some (R.both (k (.tuple #[.bool true,e.1,e.2.1]) (h.upd i (.iter m since (seen++[e.2.2]) clock))) a)
def Q4q (x:Value) (h:CH) (k:Value->CH->A):A :=
 match x with
 |.pointer (some ⟨i,0,none⟩)=>match h.get i with
  |some (.iter m since seen last)=>match h.mapAt m with
   |some (es,clock,_) =>
    if (seen.isEmpty||es.isEmpty||es.any (λe=>decide (e.2.2<last)))=true/\es.all (λe=>V5 e.1)=true then
     (match Mv R i m since clock seen h k es with
     |none=>if es.all (λe=>seen.contains e.2.2||decide (since<=e.2.2))=true then k (.tuple #[.bool false]) h else R.fail
     |some a=>if es.all (λe=>seen.contains e.2.2||decide (since<=e.2.2))=true then R.both (k (.tuple #[.bool false]) h) a else a)
    else R.fail
   |none=>R.fail
  |_=>R.fail
 |_=>R.fail
def Q1w (f:Value) (args:List Value) (h:CH) (k:Value->CH->A):A:=match f with
  |.func (.func g) first cap=>DS T ev R ys g (first.toList++args++cap.toList) h k
  |.func (.yield i) _ _=>FM ev R ys i args h k
  |_=>R.fail
def It (r:Option (Value×CH)) (k:Value->CH->A):A:=match r with
  |some p=>k p.1 p.2
  |none=>R.fail
def Q5a (o:VOp) (env:ET) (h:CH) (k:Value->CH->A):A :=
 match o with
 |.callF f args=>DS T ev R ys f (args.map (MW env)) h k
 |.callV f args=>Q1w T ev R ys (MW env f) (args.map (MW env)) h k
 |.ext (.nextMap x)=>Q4q R (MW env x) h k
 |o=>It R (Cr o (MW env) h) k
def I6 (l:List VOper):ET->CH->(ET->CH->A)->A :=
 List.rec (motive:=λ_=>ET->CH->(ET->CH->A)->A) (λenv h k=>k env h)
  (λo _ ih env h k=>match Fy env o.guard with
   |none=>R.fail
   |some true=>Q5a T ev R ys o.op env h λv h'=>ih (env.put o.dst v) h' k
   |some false=>ih (env.put o.dst undef) h k) l
def CB (op:VOp) (ev:Operand->Value) (v:Value) (h:CH):Bool:=match Cr op ev h with
 |some q=>TZ 20 q.1 v
 |none=>false
def I7 (r:Nat) (h:CH):List (Nat×(CH->Bool))->Bool
 |[]=>true
 |c::l=>(!(Nat.ble r c.1)||c.2 h)&&I7 r h l
def Mx:List DOper->ET->List CH->CH->List (Nat×(CH->Bool))->(ET->CH->A)->A
 |[],env,_,h,_,k=>k env h
 |o::rest,env,hs,h,pend,k=>match Fy env o.guard with
  |none=>R.fail
  |some true=>if o.kind=2 then
    (match Q5a T ev CD ys o.op env h (λv h'=>some (v,h')) with
    |some p=>if h.newOk p.2=true/\I7 hs.length p.2 pend=true then Mx rest (env.put o.dst p.1) (hs++[p.2]) p.2 pend k else R.fail
    |none=>R.fail)
   else if o.kind=1 then
    (match Cr o.op (MW env) h with
    |some p=>if (hs.drop o.kmin).all (CB o.op (MW env) p.1)=true then
      Mx rest (env.put o.dst p.1) hs h (if hs.length<=o.kmax then (o.kmax,CB o.op (MW env) p.1)::pend else pend) k else R.fail
    |none=>R.fail)
   else match Cr o.op (MW env) h with
    |some p=>Mx rest (env.put o.dst p.1) hs h pend k
    |none=>R.fail
  |some false=>if o.kind=2 then
    (if I7 hs.length h pend=true then Mx rest (env.put o.dst undef) (hs++[h]) h pend k else R.fail)
   else Mx rest (env.put o.dst undef) hs h pend k
def Q60 (env:ET) (h:CH) (a:List DOper):Option (Value×CH):=Mx T ev joinOps ys a env [h] h [] λenv h'=>Q7g h h' env
def CL (env:ET) (h:CH):List (List DOper)->Option (Value×CH)
 |[]=>none
 |[a]=>Q60 T ev ys env h a
 |a::b::r=>joinOps.both (Q60 T ev ys env h a) (CL env h (b::r))
def Hu:List DSeg->ET->CH->(ET->CH->A)->A
 |[],env,h,k=>k env h
 |.one o::rest,env,h,k=>I6 T ev R ys [o] env h λenv h=>Hu rest env h k
 |.alts [a]::rest,env,h,k=>Mx T ev R ys a env [h] h [] λenv h=>Hu rest env h k
 |.alts l::rest,env,h,k=>match CL T ev ys env h l with
  |some x=>(match x.1 with
   |.tuple vs=>if x.2.room=true/\Nat.ble h.n x.2.n=true/\vs.toList.length=env.m then Hu rest (ET.of vs.toList 0) x.2 k else R.fail
   |_=>R.fail)
  |none=>R.fail
def Q4f (h:CH):Option Nat->Bool
 |none=>true
 |some i=>match h.get i with
  |some (.lp _ _)=>true
  |_=>false
def Q5e:LoopState->Bool
 |.busy=>false
 |_=>true
def Z06 (env:ET) (i:Nat) (k:Exit->ET->CH->A):Value->CH->A:=λ_ h =>
 match h.get i with
 |some (.lp st pend)=>if Q5e st=true then (match pend with
   |none=>k .normal env (h.kill i)
   |some .ret=>k .ret env (h.kill i)
   |some (.exit id)=>k (.exit id) env (h.kill i)
   |some _=>R.fail) else R.fail
 |_=>R.fail
def Z0h (kb k:Exit->ET->CH->A):Exit->ET->CH->A:=λe env h=>match e with
 |.normal=>kb .normal env h
 |e=>k e env h
def Iw (id:Nat) (k:Exit->ET->CH->A):Exit->ET->CH->A:=λe env h=>match e with
 |.exit hZ=>if hZ=id then k .normal env h else k (.exit hZ) env h
 |e=>k e env h
def Q4m (v:Value) (a b:A):A:=match v with
 |.bool true=>a
 |.bool false=>b
 |_=>R.fail
def Iy (g:Value) (ps:List Nat) (a b:VCode) (ro:Option Nat) (env:ET) (h:CH) (k:Exit->ET->CH->A):A:=match g with
 |.func (.func f) first cap=>match T f with
  |some (.code _ _ _)=>if Q4f h ro=true/\h.room=true then
    DS T ev R ((h.n,⟨ps,a,b,env⟩)::ys) f (first.toList++[.func (.yield h.n) #[] #[]]++cap.toList) (h.push (.lp .ready none)) (Z06 R env h.n k)
   else R.fail
  |_=>R.fail
 |_=>R.fail
def LJ (c:VCode):Option Nat->ET->CH->(Exit->ET->CH->A)->A :=
 VCode.rec (motive:=λ_=>Option Nat->ET->CH->(Exit->ET->CH->A)->A)
  (λ_ env h k=>k .normal env h)
  (λops _ env h k=>I6 T ev R ys ops env h (k .normal))
  (λaQ _ env h k=>Hu T ev R ys aQ env h (k .normal))
  (λg ps a b _ _ ro env h k=>Iy T ev R ys (MW env g) ps a b ro env h k)
  (λ_ _ fA e6 ro env h k=>fA ro env h (Z0h (λ_ af h'=>e6 ro af h' k) k))
  (λc _ _ fA e6 ro env h k=>Q4m R (MW env c) (fA ro env h k) (e6 ro env h k))
  (λid _ ih ro env h k=>ih ro env h (Iw id k))
  (λb ih ro env h k=>ih ro env h (Z0h (λ_ af h'=>ev R ys (.loop b) ro af h' k) k))
  (λid _ env h k=>k (.exit id) env h)
  (λ_ env h k=>k .ret env h)
  (λ_ _ _ _=>R.fail) c
end
def D6 (T:Tab) (n:Nat):Q6p :=
 Nat.rec (motive:=λ_=>Q6p) (λR _ _ _ _ _ _=>R.fail) (λ_ ih {_} R ys c ro env h k=>LJ T ih R ys c ro env h k) n
end Go.V