
import Derived.RangeFuncLeaves
import Derived.RangeFuncCalls
import Derived.OrdersIn
import Derived.TacticsIn
import Derived.Sort.LoopGhostIn
import Derived.Deep.LoopGhost
import Derived.Test.YtdpcdbeklccfnaaGreatDoorE1
noncomputable section
namespace Go.V
open Go
section
variable {P:Program}{S:VSpecs}{B:Nat}
def FF:Option Nat->Fence
 |none=>Fence.wide
 |some l=>Fence.wide.inRound l
theorem AA (ro:Option Nat) (f:FuncId):(FF ro).fn f:=by cases ro<;>trivial
theorem T1 (ro:Option Nat):(FF ro).depth=none:=by cases ro<;>rfl
theorem OT (ro:Option Nat):(FF ro).round=ro:=by cases ro<;>rfl
theorem Am {ro:Option Nat}{n:Nat}{f:FuncId}{args:Array Value}{w:World}{R:Ending->World->Prop}(h:Calls P f args w R):CallsIn (FF ro) n P f args w R:=by
 cases ro with
 |none=>exact callsIn_wide.2 h
 |some l=>exact CallsIn.inRound l (callsIn_wide.2 h)
theorem LQ {ro:Option Nat}{n m:Nat}{l:Nat}{f:FuncId}{tmps:Array Value}{fe body:Code}{w:World}{R:Ending->World->Prop}(h:RoundIn Fence.wide m P l f tmps fe body w R):RoundIn (FF ro) n P l f tmps fe body w R:=by refine⟨AA _ _,λc cs _=>?_⟩;obtain⟨e,w',r,s⟩:=h.2 c cs (room_wide _);refine⟨e,w',r,?_⟩;cases ro<;>exact s
def Got (ρ:Plc) (U:Heap) (w:World) (R:Value->Heap->Prop) (c:Value) (w':World):Prop :=
 ∃ v ρ' U',R v U'/\VRel ρ' U'.n v c/\HRel ρ' U' w'/\Ext ρ U w ρ' U' w'
def VCallsTo (P:Program) (f:FuncId) (args:List Value) (U:Heap) (R:Value->Heap->Prop):Prop :=
 ∀ ρ w (au:Array Value),HRel ρ U w->LRel ρ U.n args au.toList->Calls P f au w λe w'=>∃ c,e=.returned c/\Got ρ U w R c w'
def VCalled (P:Program) (f:FuncId) (args:List Value) (U:Heap) (R:Value->Heap->Prop):Prop :=
 ∀ ρ w (au:Array Value),HRel ρ U w->LRel ρ U.n args au.toList ->
  ((∀ w,(callFunc f au).run P w=.ok (.enter f au) w)/\Calls P f au w λe w'=>∃ c,e=.returned c/\Got ρ U w R c w') \/
  (∃ c,Got ρ U w R c w/\∀ w',Like ρ w w'->(callFunc f au).run P w'=.ok (.value c) w')
def BD (P:Program) (i:Nat) (args:List Value) (U:Heap) (R:Value->Heap->Prop):Prop :=
 ∀ ρ w (au:Array Value),HRel ρ U w->LRel ρ U.n args au.toList ->
  ∃ p,ρ i=some p/\∃ fn tmps fe body,(Instr.yield p.blk au).run P w=.ok (.round p.blk fn tmps fe body) w /\
   RoundIn Fence.wide 0 P p.blk fn tmps fe body w λe w'=>∃ c,e=.returned c/\Got ρ U w R c w'
def ZT (P:Program) (f:FuncId):Prop:=∃ fn,P.funcs[f]?=some fn/\fn.body.isSome=true/\(fn.name=="runtime.NumGoroutine")=false
def Q2x (P:Program) (f:FuncId) (s:Hr):Prop:=∀ args U K,s args U K->VCalled P f args U K
def Yr (P:Program) (i:Nat) (s:Hr):Prop:=∀ args U K,s args U K->BD P i args U K
def Q2l (P:Program) (f:FuncId) (T:Nat->Hr->Hr):Prop:=ZT P f/\∀ i Y,Yr P i Y->∀ args U K,T i Y args U K->VCallsTo P f args U K
structure OkSpecs (P:Program) (S:VSpecs):Prop where
 fn:∀ f s,S.fn f=some s->Q2x P f s
 yl:∀ i s,S.yl i=some s->Yr P i s
 it:∀ f T,S.it f=some T->Q2l P f T
theorem Y0 {f:FuncId}(h:ZT P f) (args:Array Value) (w:World):(callFunc f args).run P w=.ok (.enter f args) w:=by
 obtain⟨fn,h1,h2,h3⟩:=h;have h4:¬ fn.body=none:=λe=>by rw[e] at h2;cases h2
 have h5:¬ fn.name="runtime.NumGoroutine":=λe=>by rw[e] at h3;simp at h3
 simp[callFunc,h1,h4,h5]
theorem VCallsTo.called {f:FuncId}{args:List Value}{U:Heap}{R:Value->Heap->Prop}(he:ZT P f) (h:VCallsTo P f args U R):VCalled P f args U R :=
 fun ρ w au hH hL=>.inl ⟨λw=>Y0 he au w,h ρ w au hH hL⟩
theorem Got.mono {ρ:Plc}{U:Heap}{w:World}{R R':Value->Heap->Prop}{c:Value}{w':World}(h:Got ρ U w R c w') (hr:∀ v U',R v U'->R' v U'):Got ρ U w R' c w' :=
 let ⟨v,ρ',U',h1,h2⟩:=h;⟨v,ρ',U',hr _ _ h1,h2⟩
theorem VCallsTo.mono {f:FuncId}{args:List Value}{U:Heap}{R R':Value->Heap->Prop}(h:VCallsTo P f args U R) (hr:∀ v U',R v U'->R' v U'):VCallsTo P f args U R' :=
 fun ρ w au hH hL=>(h ρ w au hH hL).mono λ_ _ ⟨c,he,hg⟩=>⟨c,he,hg.mono hr⟩
theorem Wd {ρ:Plc}{n:Nat}{env:Env}{a:Act}(h:LRel ρ n env a.tmps.toList) {v c:Value}(hv:VRel ρ n v c) (d:Option Nat):LRel ρ n (Jb env d v) (a.put d c).tmps.toList:=by
 cases d with
 |none=>exact h
 |some d=>simp only[Jb,Act.put,Array.toList_setIfInBounds];exact h.set d hv
theorem Z8 (env:Env) (d:Option Nat) (v:Value):List.length (Jb env d v)=List.length env:=by cases d<;>simp[Jb]
theorem Jh (a:Act) (d:Option Nat) (c:Value):(a.put d c).defers=a.defers:=by cases d<;>rfl
theorem M1 {ρ:Plc}{n:Nat}{env:Env}{a:Act}{ops:Array Oper}{o:Oper}{vo:VOper}(hc:Zs P ops o=some vo) (hL:LRel ρ n env a.tmps.toList) {b:Bool}(h:Zr env vo.guard=some b) :
  Region.wanted o (yielded ops a.tmps)=b/\vo.dst=o.dst/\WY P o.op=vo.op:=by
 unfold Zs at hc;simp only[zJ] at hc;cases hg:o.guard with
 |none =>simp[hg] at hc;subst hc;simp[Zr] at h;subst h;simp[Region.wanted,hg]
 |some jw =>
  obtain⟨j,want⟩:=jw;simp[hg] at hc;cases hj:ops[j]? with
  |none=>simp[hj] at hc
  |some oj =>
   cases hd:oj.dst with
   |none=>simp[hj,hd] at hc
   |some d =>
    simp[hj,hd] at hc;subst hc;refine⟨?_,rfl,rfl⟩;simp only[Zr] at h;simp only[Region.wanted,hg,yielded,hj,xl,hd];have hlen:List.length env=a.tmps.size:=by have:=hL.1;omega
    rcases zr d (List.length env) with ai|bu
    .have cS:d<a.tmps.size:=by rw[<-hlen];exact ai
     have hr:=hL.2 d env[d] a.tmps[d] (z8 ai) (by simp[cS]);have he:env.getD d undef=env[d]:=by simp[List.getD,ai]
     rw[he] at h;simp only[xF cS];split at h
     .rename_i b' heq;rw[heq] at hr;rw[hr.q1e];simp at h;simp[<-h]
     .rename_i vs heq;rw[heq] at hr;obtain⟨ds,hds,_⟩:=hr.q1l;simp_all
     .cases h
    .have he:env.getD d undef=undef:=by simp_all
     rw[he] at h;have:a.tmps[d]?=none:=(by simp_all);simp only[this];simp[undef] at h;subst h;simp
theorem IG {o:Oper}{vo:VOp}(hc:YJ P o.op=some vo) {ρ:Plc}{U:Heap}{env:Env}{a:Act}(hL:LRel ρ U.n env a.tmps.toList) {K:Value->Heap->Prop}
  (aB:(∃ f bQ,vo=.callF f bQ)\/(∃ f bQ,vo=.callV f bQ)) {σ0:Heap}(h:vop S vo env σ0 K) :
  (∃ f args au,vcall S f args σ0 K/\LRel ρ U.n args au.toList/\∀ w,(execOp a.eval o).run P w=(callFunc f au).run P w) \/
  (∃ i r args au,Cp S i args σ0 K/\VRel ρ U.n (.func (.yield i) #[] #[]) (.func (.yield r) #[] #[])/\LRel ρ U.n args au.toList/\∀ w,(execOp a.eval o).run P w=(Instr.yield r au).run P w):=by
 have bp:=hc;cases dT:YJ P o.op with
 |none=>rw[dT] at hc;cases hc
 |some tw =>
  clear dT hc tw;obtain⟨dst,op,ty,pos,after,guard⟩:=o;simp only at bp;unfold YJ at bp;split at bp
  .cases bp
  rename_i al;simp only[x5,zV] at al;cases op
  case call c =>
   simp only[Op.operands] at al bp;split at bp
   .rename_i f aF;simp at bp;subst bp;simp only[vop] at h;have av:(c.args.toList).all Ji=true:=by
     simp only[Call.operands,aF,Array.toList_append,List.all_append,z1] at al;exact al.2
    refine .inl ⟨f,_,c.args.map a.eval,h,by have:=Rk (λx hx=>X3 hL hx) av;simpa using this,λw=>?_⟩;simp[execOp,resolve,aF,Act.eval,Deferred.ofValue,invoke]
   .rename_i fo aK aF;simp at bp;subst bp;simp only[vop] at h;simp only[Call.operands,aF,Array.toList_append,List.all_append,z1] at al;have hf:=X3 hL (x:=fo) (by simpa using al.1);have has:=Rk (λx hx=>X3 hL hx) al.2;split at h
    .rename_i g first cap heq
     rw[heq] at hf;cases kf:a.eval fo with
     |func fn gs ds =>
      rw[kf] at hf;cases hf with
      |func _ _ _ _ _ h1 h2 h3 h4 =>
       refine .inl ⟨g,_,gs++c.args.map a.eval++ds,h,?_,λw=>?_⟩
       .have dS:=LRel.of_array h1 h3;have b9:=LRel.of_array h2 h4;have:=(dS.append has).append b9;simpa using this
       .simp[execOp,resolve,aF,kf,Deferred.ofValue,invoke]
     |_=>rw[kf] at hf;cases hf
    .rename_i i first cap heq
     rw[heq] at hf;have hinv:∀ c,VRel ρ U.n (.func (.yield i) first cap) c->∃ r,c=.func (.yield r) #[] #[]/\VRel ρ U.n (.func (.yield i) #[] #[]) (.func (.yield r) #[] #[]):=by
      intro c h;cases h with
      |yield _ r hi hr=>exact⟨r,rfl,.yield i r hi hr⟩
     obtain⟨r,kf,hv⟩:=hinv _ hf;refine .inr ⟨i,r,_,c.args.map a.eval,h,hv,by simpa using has,λw=>?_⟩;simp[execOp,resolve,aF,kf,Deferred.ofValue,invoke]
    .cases h
   all_goals
    repeat' first
     |(cases bp;done)
     |(simp at bp;subst bp;rcases aB with⟨f,bQ,h⟩|⟨f,bQ,h⟩<;>cases h;done)
     |split at bp
   grind [Option.bind_eq_bind,Option.bind_eq_some_iff]
  all_goals simp only[Op.operands] at al bp
  all_goals
   repeat' first
    |(cases bp;done)
    |(simp at bp;subst bp;rcases aB with⟨f,bQ,h⟩|⟨f,bQ,h⟩<;>cases h;done)
    |split at bp
  all_goals simp only[zJ,x3,reduceCtorEq,and_false,exists_false] at bp
  all_goals first
   |(obtain⟨_,_,bp⟩:=bp;simp at bp;subst bp;rcases aB with⟨f,bQ,h⟩|⟨f,bQ,h⟩<;>cases h;done)
   |(obtain⟨_,_,_,_,bp⟩:=bp;simp at bp;subst bp;rcases aB with⟨f,bQ,h⟩|⟨f,bQ,h⟩<;>cases h;done)
   |(obtain⟨_,_,_,_,_,_,bp⟩:=bp;simp at bp;subst bp;rcases aB with⟨f,bQ,h⟩|⟨f,bQ,h⟩<;>cases h;done)
   |(obtain⟨d,_,bp⟩:=bp;cases d<;>simp at bp<;>subst bp<;>rcases aB with⟨f,bQ,h⟩|⟨f,bQ,h⟩<;>cases h;done)
   |(obtain⟨_,_,_,_,bp⟩:=bp;split at bp<;>simp at bp;subst bp;rcases aB with⟨f,bQ,h⟩|⟨f,bQ,h⟩<;>cases h;done)
   |(obtain⟨_,_,bp⟩:=bp;split at bp<;>simp at bp;subst bp;rcases aB with⟨f,bQ,h⟩|⟨f,bQ,h⟩<;>cases h;done)
theorem KH {o:Op}{vo:VOp}(h:WY P o=vo) (hv:vo≠.bad):YJ P o=some vo\/∃ x,HZ P o=some x/\vo=.ext x:=by
 unfold WY at h
 grind
theorem Eb {o:Op}{x:XOp}(h:YJ P o=some (.ext x)):False:=by
 unfold YJ at h
 repeat' first
  |contradiction
  |(cases h;done)
  |(simp at h;done)
  |(rw[zJ,x3] at h;obtain⟨_,_,h⟩:=h)
  |split at h
theorem TD {o:Op}{vo:VOp}(h:WY P o=vo) (hv:vo≠.bad) (c:Call):o≠.defer c:=by
 rintro rfl;rcases KH h hv with h|⟨x,h,_⟩
 .unfold YJ at h;split at h<;>simp at h
 .unfold HZ at h;split at h<;>simp at h
theorem Au {o:Oper}{x:Operand}(hc:HZ P o.op=some (.nextMap x)) {ρ:Plc}{U:Heap}{w:World}{env:Env}{ev:Operand->Value}(hH:HRel ρ U w) (hE:∀ x,Ji x=true->VRel ρ U.n (Q6 env x) (ev x))
  {K:Value->Heap->Prop}(h:LI (Q6 env x) U K):∃ c w',(execOp ev o).run P w=.ok (.value c) w'/\Got ρ U w K c w':=by
 obtain⟨dst,op,ty,pos,after,guard⟩:=o;simp only at hc;unfold HZ at hc;split at hc
 .cases hc
 rename_i al;simp only[x5,zV] at al;have bB:op=.next x false:=by
  cases op
  case next y b=>cases b<;>simp at hc;subst hc;rfl
  all_goals
   simp only at hc
   repeat' first
    |contradiction
    |(obtain⟨_,h⟩:=As hc;cases h;done)
    |(cases hc;done)
    |(simp at hc;done)
    |(rw[zJ,x3] at hc;obtain⟨_,_,hc⟩:=hc)
    |split at hc
 subst bB;clear hc;simp[Op.operands] at al;have hx:=hE x al;unfold LI at h;split at h
 .rename_i i aY;rw[aY] at hx;split at h
  .rename_i m since seen last hb;split at h
   .rename_i es clock wr aE;obtain⟨h1,hall,h2,h3⟩:=h;obtain⟨p,hp,⟨_,ek⟩,O,hO,rm,rfl,oX⟩:=hH.live i _ hb;obtain⟨q,entries,iE,dJ,aC,aD⟩:=Jv hH aE oX;simp at iE;subst iE;obtain⟨_,_,bV⟩:=hx.q0x hp;rw[ek,zQ] at bV;have ia:(getObj p.blk).run P w=.ok (.mapIter (some q.blk) since seen.toArray last) w:=(by grind [Qt]);have di:(getObj q.blk).run P w=.ok (.map entries clock) w:=(by grind [Qt]);let left:=entries.filter λe=>!seen.toArray.contains e.born;let bE:=left.filter (·.born<since);let new:=left.filter (·.born>=since);let bZ:Array (Option MapEntry):=(if bE.isEmpty then #[none] else #[])++(bE++new).map some;have cT:0<bZ.size:=by
     by_cases ho:bE.isEmpty=true
     .grind
     .have:bE.size≠0:=(by simp_all)
      grind
    obtain⟨k,w1,hk,eR,o3⟩:∃ k w1,k<bZ.size/\(choose (.mapNext bZ.size)).run P w=.ok k w1/\(w1=w\/w1=w.drew):=by
     rw[run_choose_drew];by_cases hf:(Question.mapNext bZ.size).forced=true
     .exact⟨0,w,cT,by rw[z6 hf],.inl rfl⟩
     .refine⟨_,w.drew,?_,by rw[z7 hf],.inr rfl⟩;exact wh _ cT
    have jq:HRel ρ U w1:=by rcases o3 with rfl|rfl;exact hH;exact hH.drew
    have fE:Ext ρ U w ρ U w1:=by grind [Ext.refl,Ext.drew]
    have tx:w1.heap[p.blk]?=some (.mapIter (some q.blk) since seen.toArray last):=by rcases o3 with rfl|rfl<;>exact hO
    have aj:¬ ((!seen.toArray.isEmpty&&!entries.isEmpty&&entries.all (λe=>decide (e.born>=last)))=true):=by
     intro hh;simp only[z1] at hh;obtain⟨⟨h4,h5⟩,h6⟩:=hh;simp only[zt] at h1;rcases h1 with (h1|h1)|h1
     .simp_all
     .rw[List.isEmpty_iff] at h1;subst h1;have:entries=#[]:=by have:=aD.1;simpa using this
      subst this;simp at h5
     .obtain⟨kv,d_,ai⟩:=xJ.1 h1;obtain⟨j,hj⟩:=x8.1 d_;have cQ:j<entries.toList.length:=by rw[aD.1];grind
      have he:=aD.2 j entries.toList[j] kv (z8 cQ) hj;have:=Array.all_eq_true'.1 h6 entries.toList[j] (by rw[<-Array.mem_toList_iff];exact zq cQ);have h7:=he.2.1
      grind
    have aO:∀ r,(match bZ[k]? with
      |some (some e)=>(do setObj p.blk (.mapIter (some q.blk) since (seen.toArray.push e.born) clock);pure (Value.tuple #[.bool true,e.key,e.val]):Sem Value)
      |some none=>pure (.tuple #[.bool false])
      |none=>stuck "Next: no such candidate").run P w1=r->(Instr.next (ev x) false ty).run P w=r:=by
     intro r hr;rw[<-hr];simp only[Instr.next,bV,zy,ia,di,zi];rw[z7 aj];simp only[zy];change ((choose (Question.mapNext bZ.size)).run P w).andThen _=_;rw[eR];rfl
    have hval:∀ c w',(Instr.next (ev x) false ty).run P w=.ok c w'->(execOp ev ⟨dst,.next x false,ty,pos,after,guard⟩).run P w=.ok (.value c) w':=λc w' h=>by simp[execOp,h]
    have fc:bZ[k]?=some bZ[k]:=xF hk;cases hx:bZ[k] with
    |none =>
     rw[hx] at fc;have aW:none∈bZ:=hx▸Array.getElem_mem hk;have hold:bE.isEmpty=true:=by
      grind
     refine⟨_,w1,hval _ _ (aO _ (by rw[fc];rfl)),_,ρ,U,h2 ?_,VRel.q0j (LRel.cons (.bool _) (LRel.nil _ _)),jq,fE⟩;refine zf.2 λkv d_=>?_;obtain⟨j,hj⟩:=x8.1 d_;have cQ:j<entries.toList.length:=by rw[aD.1];grind
     have he:=aD.2 j entries.toList[j] kv (z8 cQ) hj;cases tz:seen.contains kv.2.2 with
     |true=>rfl
     |false =>
      simp only[Bool.false_or,zg];rcases zr kv.2.2 since with ai|bu
      .exfalso;have:entries.toList[j]∈bE:=by
        simp only[bE,left,Array.mem_filter,zg];refine⟨⟨by simp_all,?_⟩,by rw[he.2.1];exact ai⟩;rw[he.2.1];simpa using tz
       simp_all
      .exact bu
    |some e =>
     rw[hx] at fc;have aW:some e∈bZ:=hx▸Array.getElem_mem hk;have nk:e∈left:=by
      have h4:e∈bE++new:=by simp only[bZ,Array.mem_append,Array.mem_map] at aW;simp_all
      grind
     obtain⟨hel,mC⟩:=Array.mem_filter.1 nk;rw[<-Array.mem_toList_iff] at hel;obtain⟨j,hj⟩:=x8.1 hel;have cQ:j<es.length:=by rw[<-aD.1];grind
     have he:=aD.2 j e es[j] hj (z8 cQ);have jD:=h3 es[j] (zq cQ) (by rw[<-he.2.1];simpa using mC);obtain⟨k1,k2⟩:=jq.setObj (o':=.iter m since (seen++[es[j].2.2]) clock) (O':=.mapIter (some q.blk) since (seen.toArray.push e.born) clock) hp hb ⟨q.blk,by rw[he.2.1];simp,oX⟩;have cm:VRel ρ U.n es[j].1 e.key:=by rw[he.1];exact YK (by grind)
     refine⟨_,_,hval _ _ (aO _ (by
      rw[fc];simp only[zy,Qw tx (λ_ _ _ e=>by cases e),zi,xg])),_,ρ,_,jD,VRel.q0j (LRel.cons (.bool _) (LRel.cons cm (LRel.cons he.2.2 (LRel.nil _ _)))),k1,fE.trans k2⟩
   .exact h.elim
  .exact h.elim
 .exact h.elim
theorem It (hS:OkSpecs P S) {f:FuncId}{args:List Value}{U:Heap}{K:Value->Heap->Prop}(h:vcall S f args U K):VCalled P f args U K:=by
 unfold vcall at h;split at h
 .rename_i s hs;exact hS.fn f s hs _ _ _ h
 .exact h.elim
theorem En (hS:OkSpecs P S) {i:Nat}{args:List Value}{U:Heap}{K:Value->Heap->Prop}(h:Cp S i args U K):BD P i args U K:=by
 unfold Cp at h;split at h
 .rename_i s hs;exact hS.yl i s hs _ _ _ h
 .exact h.elim
theorem EI {o:Oper}{vo:VOp}(hc:WY P o.op=vo) {ρ:Plc}{U:Heap}{w:World}{env:Env}{a:Act}(hH:HRel ρ U w) (hL:LRel ρ U.n env a.tmps.toList) {v:Value}{U':Heap}
  (h:Q8 vo (Q6 env) U=some (v,U')):R8 P ρ U w v U' (execOp a.eval o):=by
 cases hq:vo.quiet with
 |false=>exact(by grind [O2,X3])
 |true =>obtain⟨rfl,c,eB,hr⟩:=Fb hc hq hH (λx hx=>X3 hL hx) h;exact⟨c,w,ρ,.inl (hr w (Like.refl ρ w)),eB,hH,Ext.refl _ _ _⟩
theorem Yx (hS:OkSpecs P S) {ro:Option Nat}{n:Nat}{o:Oper}{vo:VOp}(bB:WY P o.op=vo) {ρ:Plc}{U:Heap}{w:World}{env:Env}{a:Act}(hH:HRel ρ U w) (hL:LRel ρ U.n env a.tmps.toList)
  {K:Value->Heap->Prop}(h:vop S vo env U K) {next:Act->World->Prop}{Q':Exit->Act->World->Prop}(hn:∀ c w',Got ρ U w K c w'->next (a.put o.dst c) w'):o.wpIn (FF ro) n P a w next Q':=by
 refine⟨λf _=>AA _ _,?_⟩;have cR:vo≠.bad:=by rintro rfl;exact h.elim
 rw[Oper.semAt_eq _ _ _ (TD bB cR)];by_cases aB:(∃ f bQ,vo=.callF f bQ)\/(∃ f bQ,vo=.callV f bQ)
 .have hc:YJ P o.op=some vo:=by
   grind [KH]
  rcases IG (S:=S) hc hL aB h with⟨f,args,au,hv,m9,hr⟩|⟨i,r,args,au,hv,cA,m9,hr⟩
  .rcases It hS hv ρ w au hH m9 with⟨h1,h2⟩|⟨c,hg,h2⟩
   .rw[hr,h1];exact⟨(by grind [T1]),(Am h2).mono (by simp_all)⟩
   .rw[hr,h2 w (Like.refl ρ w)];exact hn c w hg
  .obtain⟨p,hp,fn,tmps,fe,body,h1,h2⟩:=En hS hv ρ w au hH m9;have tA:r=p.blk:=by
    cases cA with
    |yield _ _ _ hh=>exact hh p hp
   rw[hr,tA,h1];exact⟨(by grind [T1]),(LQ h2).mono (by simp_all)⟩
 .by_cases iH:∃ x,vo=.ext (.nextMap x)
  .obtain⟨x,rfl⟩:=iH;have hc:HZ P o.op=some (.nextMap x):=by
    rcases KH bB cR with hc|⟨y,hy,hx⟩
    .have:=Eb hc;exact this.elim
    .cases hx;exact hy
   obtain⟨c,w',hr,hg⟩:=Au hc hH (λx hx=>X3 hL hx) h;rw[hr];exact hn c w' hg
  .have ln:∃ v U',Q8 vo (Q6 env) U=some (v,U')/\K v U':=by
    unfold vop at h;split at h
    .simp_all
    .simp_all
    .exact absurd ⟨_,rfl⟩ iH
    .cases dL:Q8 vo (Q6 env) U with
     |none=>rw[dL] at h;exact h.elim
     |some p=>rw[dL] at h;exact⟨p.1,p.2,rfl,h⟩
   obtain⟨v,U',dL,hK⟩:=ln;obtain⟨c,w',ρ',aO,eB,gv,hE⟩:=EI bB hH hL dL;have hg:Got ρ U w K c w':=⟨v,ρ',U',hK,eB,gv,hE⟩;rcases aO with aO|⟨aO,rfl⟩
   .rw[aO];exact hn c w' hg
   .rw[aO];exact hn undef w' hg
def Mks (B:Nat) (ds:List Deferred) (w:World):Prop:=B<=w.heap.size/\∃ Ds:List Nat,ds=Ds.map (λD=>⟨.collected D,#[]⟩)/\Ds.Nodup/\∀ D∈Ds,B<=D/\w.heap[D]?=some (.deferred (some []))
theorem Mks.nil {w:World}(h:B<=w.heap.size):Mks B [] w:=⟨h,[],rfl,List.nodup_nil,λ_ h=>by cases h⟩
theorem Mks.ext {ds:List Deferred}{ρ ρ':Plc}{U U':Heap}{w w':World}(h:Mks B ds w) (hH:HRel ρ U w) (hE:Ext ρ U w ρ' U' w'):Mks B ds w':=by
 obtain⟨h0,Ds,h1,h2,h3⟩:=h;refine⟨zW h0 hE.size,Ds,h1,h2,λD hD=>⟨(h3 D hD).1,?_⟩⟩;have hb:=(h3 D hD).2;have ai:D<w.heap.size:=by
  grind
 rw[hE.keep D ai (λ⟨i,p,b,hp,_,_,tB⟩=>hH.q0p hb i p hp tB)];exact hb
def GN (B m:Nat) (ρ:Plc) (U:Heap) (w:World) (K:Env->Heap->Prop) (a':Act) (w':World):Prop :=
 ∃ ae ρ' U',K ae U'/\List.length ae=m/\HRel ρ' U' w'/\LRel ρ' U'.n ae a'.tmps.toList/\Mks B a'.defers w'/\Ext ρ U w ρ' U' w'
theorem AF (hS:OkSpecs P S) {ro:Option Nat}{n:Nat}(ops:Array Oper) (Q:Exit->Act->World->Prop):∀ (l:List Oper) (lv:List VOper),l.mapM (Zs P ops)=some lv ->
  ∀ (env:Env) (U:Heap) (K:Env->Heap->Prop) (ρ:Plc) (w:World) (a:Act),P5 S lv env U K->HRel ρ U w->LRel ρ U.n env a.tmps.toList->Mks B a.defers w ->
  (∀ a' w',GN B (List.length env) ρ U w K a' w'->Q .normal a' w')->wpListIn (FF ro) n P ops Q l a w:=by
 intro l;induction l with
 |nil =>intro lv bX env U K ρ w a h hH hL hd hQ;simp at bX;subst bX;exact hQ a w ⟨env,ρ,U,h,rfl,hH,hL,hd,Ext.refl _ _ _⟩
 |cons o l ih =>
  intro lv bX env U K ρ w a h hH hL hd hQ;rw[xd] at bX;cases bp:Zs P ops o with
  |none=>simp[bp] at bX
  |some vo =>
   cases iD:l.mapM (Zs P ops) with
   |none=>simp[bp,iD] at bX
   |some rN =>
    simp[bp,iD] at bX;subst bX;simp only[P5] at h;cases hw:Zr env vo.guard with
    |none=>rw[hw] at h;exact h.elim
    |some b =>
     rw[hw] at h;obtain⟨dm,bH,bB⟩:=M1 bp hL hw;obtain⟨ht,hf⟩:=h;simp only[wpListIn];rw[dm];cases b with
     |false =>rw[z7 (by simp)];exact⟨λf _=>AA _ _,ih rN iD (Jb env vo.dst undef) U K ρ w _ (hf rfl) hH (by rw[bH];exact Wd hL ZV o.dst) (by rw[Jh];exact hd) (by grind [Z8])⟩
     |true =>
      rw[z6 rfl];refine Yx hS bB hH hL (ht rfl) λc w' ⟨v,ρ',U',hK,eB,gv,hE⟩=>?_
      exact ih rN iD (Jb env vo.dst v) U' K ρ' w' _ hK gv (by rw[bH];exact Wd (hE.lrel hL) eB o.dst) (by rw[Jh];exact hd.ext hH hE)
       (λa' oN ⟨nq,eM,aI,k1,k0,k2,k3,k4,k5⟩=>hQ a' oN ⟨nq,eM,aI,k1,by rw[k0,Z8],k2,k3,k4,hE.trans k5⟩)
theorem TU:∀ (l:List Nat) (vs:List Value) (env:Env),(JM l vs env).length=env.length:=by
 intro l;induction l with
 |nil=>intro vs env;cases vs<;>rfl
 |cons i l ih =>
  intro vs env;cases vs with
  |nil=>rfl
  |cons v vs=>simp only[JM];rw[ih];simp
theorem Aq {ρ:Plc}{n:Nat}:∀ (l:List Nat) (env base:Env) (cs:List Value),LRel ρ n env cs->LRel ρ n base cs->LRel ρ n (JM l (GJ l env) base) cs:=by
 intro l;induction l with
 |nil=>intro env base cs _ hb;exact hb
 |cons i l ih =>
  intro env base cs he hb;simp only[GJ,zS,JM];refine ih env _ cs he ?_;refine⟨by simp[hb.1],λj v c hv hc=>?_⟩;by_cases cB:i=j
  .subst cB;rcases zr i (List.length base) with ai|bu
   .rw[List.getElem?_set_self ai] at hv;obtain rfl:=osj hv;have cS:i<List.length env:=by rw[he.1,<-hb.1];exact ai
    have:env.getD i poison=env[i]:=by simp[List.getD,cS]
    rw[this];exact he.2 i _ c (z8 cS) hc
   simp_all
  .rw[List.getElem?_set_ne cB] at hv;exact hb.2 j v c hv hc
theorem E4 {ρ:Plc}{n:Nat}(cs:List Value) {m:Nat}(h:m=cs.length):LRel ρ n (List.replicate m poison) cs :=
 ⟨by simp[h],λi v c hv _=>by
  have:=xc hv;rw[List.mem_replicate] at this;rw[this.2];exact .poison c⟩
def RoRel (cJ ro:Option Nat) (ρ:Plc) (n:Nat):Prop:=(cJ=none/\ro=none)\/∃ i l,cJ=some i/\ro=some l/\i<n/\∀ p,ρ i=some p->p.blk=l
theorem RoRel.ext {cJ ro:Option Nat}{ρ ρ':Plc}{U U':Heap}{w w':World}(h:RoRel cJ ro ρ U.n) (hE:Ext ρ U w ρ' U' w'):RoRel cJ ro ρ' U'.n:=by
 rcases h with h|⟨i,l,h1,h2,h3,h4⟩
 .exact .inl h
 .exact .inr ⟨i,l,h1,h2,xm h3 hE.n,λp hp=>h4 p (hE.pl i h3 p hp)⟩
def Sound (P:Program) (S:VSpecs) (c:Code) (vc:VCode):Prop :=
 ∀ ⦃B:Nat⦄ (cJ ro:Option Nat) (n:Nat) (Q:Exit->Env->Heap->Prop) (env:Env) (U:Heap) (ρ:Plc) (w:World) (a:Act),vwp S vc cJ Q env U->HRel ρ U w->LRel ρ U.n env a.tmps.toList->Mks B a.defers w->RoRel cJ ro ρ U.n ->
  ∀ (Q':Exit->Act->World->Prop),(∀ e a' w',GN B (List.length env) ρ U w (Q e) a' w'->Q' e a' w')->c.wpIn (FF ro) n P Q' a w
theorem EK {ρ:Plc}{n:Nat}:∀ (ps:List Nat) (vs cs:List Value) (env:Env) (tmps:Array Value),LRel ρ n env tmps.toList->LRel ρ n vs cs ->
  LRel ρ n (Dt env ps vs) ((ps.zip cs).foldl (λ(tmps:Array Value) (q:Nat×Value)=>tmps.setIfInBounds q.1 q.2) tmps).toList:=by
 intro ps;induction ps with
 |nil=>intro vs cs env tmps h _;cases vs<;>exact h
 |cons p ps ih =>
  intro vs cs env tmps h hv;cases vs with
  |nil =>
   cases cs with
   |nil=>exact h
   |cons _ _=>have:=hv.1;simp at this
  |cons v vs =>
   cases cs with
   |nil=>have:=hv.1;simp at this
   |cons c cs =>simp only[Dt,List.zip_cons_cons,xu];refine ih vs cs _ _ ?_ ⟨by have:=hv.1;simpa using this,λi a b ha hb=>hv.2 (i+1) a b (by simpa using ha) (by simpa using hb)⟩;rw[Array.toList_setIfInBounds];exact h.set p (hv.2 0 v c rfl rfl)
theorem JL {w:World}{l:Nat}{r:Loop}(h:w.heap[l]?=some (.loop r)):(Instr.getLoop l).run P w=.ok r w:=by simp[Instr.getLoop,Qt h (λ_ _ _ e=>by cases e)]
theorem VK {ρ:Plc}{U:Heap}{w:World}(hH:HRel ρ U w) {i:Nat}{env:Env}{r:Loop}{st:LoopState}{pend:Option Code}{wr:Bool}(h:U.get i=some (.obj (.lp env r st pend) wr)) :
  ∃ p,ρ i=some p/\w.heap[p.blk]?=some (.loop {r with state:=st,pending:=pend})/\LRel ρ U.n env r.tmps.toList:=by
 obtain⟨p,hp,_,O,h1,rfl,h2⟩:=hH.live i _ h;exact⟨p,hp,h1,h2⟩
theorem SD {ρ:Plc}{U:Heap}{w:World}(hH:HRel ρ U w) {i:Nat}{env:Env}{r:Loop}{st:LoopState}{pend:Option Code}{p:Pl}(hp:ρ i=some p) (h:U.get i=some (.obj (.lp env r st pend) true)) (kg:LoopState) (bM:Option Code) :
  HRel ρ (U.upd i (.obj (.lp env r kg bM) true)) (Da w p.blk (.loop {r with state:=kg,pending:=bM})) /\
  Ext ρ U w ρ (U.upd i (.obj (.lp env r kg bM) true)) (Da w p.blk (.loop {r with state:=kg,pending:=bM})):=by
 obtain⟨p',bw,h1,h2⟩:=VK hH h;exact hH.setObj hp h ⟨rfl,h2⟩
theorem C6 {fe body:Code}{va vb:VCode}(ha:Sound P S fe va) (hb:Sound P S body vb) (ps:List Nat) (env:Env) (r:Loop) (ff:r.assign=fe) (dD:r.body=body) (lq:r.params.toList=ps) (i:Nat) :
  Yr P i (Cw (vwp S va (some i)) (vwp S vb (some i)) ps env r i):=by
 intro args U K h ρ w au hH hL;obtain⟨h1,h2,h3⟩:=h;obtain⟨p,hp,aC,lu⟩:=VK hH h1;refine⟨p,hp,r.fn,(r.params.zip au).foldl (λtmps (t,a)=>tmps.setIfInBounds t a) r.tmps,r.assign,r.body,?_,?_⟩
 .have az:au.size=r.params.size:=by
   have h4:=hL.1
   grind
  simp[Instr.yield,JL aC,az]
 .refine roundIn_of_wpIn (F:=Fence.wide) trivial ?_;rw[ff,dD];refine ha (some i) (some p.blk) 0 _ _ U ρ w _ h3 hH ?_ (Mks.nil (zd _)) (.inr ⟨i,p.blk,rfl,rfl,U.lt h1,(by simp_all)⟩) _ ?_
  .have:=EK ps args au.toList env r.tmps lu hL;rw[<-lq,<-Array.toList_zip,Array.foldl_toList] at this;rw[lq] at this;exact this
  .intro e a1 w1 ⟨bj,ρ1,σ1,k1,k0,k2,k3,k4,k5⟩;cases e with
   |normal =>
    obtain⟨k6,k7⟩:=k1;obtain⟨p1,p8,ki,rO⟩:=VK k2 k6;have p9:p1=p:=by have:=k5.pl i (U.lt h1) p1 p8;simp_all
    subst p9;obtain⟨j1,j2⟩:=SD k2 p8 k6 .busy none;refine⟨_,by simp[Instr.beginRound,JL ki,Qw ki (λ_ _ _ e=>by cases e)];rfl,?_⟩;refine hb (some i) (some p1.blk) 0 _ _ _ ρ1 _ a1 k7 j1 k3 (k4.ext k2 j2) (.inr ⟨i,p1.blk,rfl,rfl,σ1.lt k6,(by simp_all)⟩) _ ?_;intro e2 a2 w2 ⟨aR,ρ2,σ2,m1,m0,m2,m3,m4,m5⟩;obtain⟨m6,m7⟩:=m1;obtain⟨p2,dK,eI,rP⟩:=VK m2 m6;have p9:p2=p1:=by have h8:=m5.pl i (by rw[Heap.q2q];exact σ1.lt k6) p2 dK;simp_all
    subst p9;cases e2 with
    |normal =>obtain⟨q1,q2⟩:=SD m2 dK m6 .ready none;refine⟨.bool true,_,?_,_,rfl,.bool true,ρ2,_,m7,.bool _,q1,k5.trans (j2.trans (m5.trans q2))⟩;simp[Instr.endRound,JL eI,Qw eI (λ_ _ _ e=>by cases e)]
    |ret =>obtain⟨q1,q2⟩:=SD m2 dK m6 .done (some .ret);refine⟨.bool false,_,?_,_,rfl,.bool false,ρ2,_,m7,.bool _,q1,k5.trans (j2.trans (m5.trans q2))⟩;simp[Instr.endRound,JL eI,Qw eI (λ_ _ _ e=>by cases e)]
    |exit id =>obtain⟨q1,q2⟩:=SD m2 dK m6 .done (some (.exit id));refine⟨.bool false,_,?_,_,rfl,.bool false,ρ2,_,m7,.bool _,q1,k5.trans (j2.trans (m5.trans q2))⟩;simp[Instr.endRound,JL eI,Qw eI (λ_ _ _ e=>by cases e)]
    |goto l=>exact m7.elim
    |panic ch=>exact m7.elim
    |outgrown=>exact m7.elim
   |exit id=>exact k1.elim
   |goto l=>exact k1.elim
   |ret=>exact k1.elim
   |panic ch=>exact k1.elim
   |outgrown=>exact k1.elim
theorem Heap.ext' {U U':Heap}(h:∀ j,U.get j=U'.get j) (hn:U.n=U'.n):U=U':=by obtain⟨g,n,wf⟩:=U;obtain⟨g',n',vu⟩:=U';have hg:g=g':=funext h;simp_all
theorem Mks.push {ds:List Deferred}{w:World}(h:Mks B ds w):Mks B ({target:=.collected w.heap.size,args:=#[]}::ds) (w.alloc (.deferred (some []))):=by
 obtain⟨h0,Ds,h1,h2,h3⟩:=h;have ai:∀ D∈Ds,D<w.heap.size:=(by grind);refine⟨by rw[World.size_alloc];omega,w.heap.size::Ds,by rw[h1];rfl,(by grind),λD hD=>?_⟩;rcases zD.1 hD with rfl|hD
 .refine⟨h0,?_⟩;show (w.heap.push _)[w.heap.size]?=_;simp
 .refine⟨(h3 D hD).1,?_⟩;show (w.heap.push _)[D]?=_
  grind
theorem Ext.q1h {ρ:Plc}{U:Heap}(w:World) (O:Obj):Ext ρ U w ρ U (w.alloc O) :=
 ⟨rfl,rfl,rfl,by have:=World.size_alloc w O;omega,λB hB _=>by show (w.heap.push _)[B]?=_;grind,λ_ _ h=>h,zd _,λ_ _ _ h=>h⟩
theorem HRel.q1h {ρ:Plc}{U:Heap}{w:World}(h:HRel ρ U w) (O:Obj):HRel ρ U (w.alloc O) :=
 h.world (by have:=World.size_alloc w O;omega) (λi p hp=>by show (w.heap.push _)[p.blk]?=_;rw[Array.getElem?_push,z7 (by have:=h.lt i p hp;omega)]) λg cs hg=>by show (w.heap.push _)[g]?=_;rw[Array.getElem?_push,z7 (by have:=h.tab.lt hg;omega)]
theorem Ce {cJ ro:Option Nat}{ρ:Plc}{U:Heap}{w:World}{a:Act}{env:Env}(hH:HRel ρ U w) (hL:LRel ρ U.n env a.tmps.toList) (hd:Mks B a.defers w) (hR:RoRel cJ ro ρ U.n) (aQ:Q7l U cJ) (fn:FuncId) (ps:Array Nat) (fe body:Code) :
  ∃ (r:Loop) (mark:List Deferred) (w1:World) (ρ1:Plc),(Instr.enterLoop fn a.tmps ps fe body ro).run P w=.ok (w1.heap.size-1,mark) w1/\r.assign=fe/\r.body=body/\r.params=ps /\
   HRel ρ1 (U.push (.obj (.lp env r .ready none) true)) w1/\Ext ρ U w ρ1 (U.push (.obj (.lp env r .ready none) true)) w1/\Mks B (mark++a.defers) w1 /\
   (∀ p,ρ1 U.n=some p->p.blk=w1.heap.size-1):=by
 rcases hR with⟨rfl,rfl⟩|⟨i,l,rfl,rfl,hi,iI⟩
 .let w0:=w.alloc (.deferred (some []));have fS:HRel ρ U w0:=hH.q1h _;have p_:Ext ρ U w ρ U w0:=Ext.q1h _ _;let r:Loop:={state:=.ready,pending:=none,fn,tmps:=a.tmps,params:=ps,assign:=fe,body:=body,defers:=w.heap.size};obtain⟨ρ1,h1,h2,h3⟩:=fS.newObj (.lp env r .ready none) (.loop r) ⟨rfl,hL⟩;have az:(w0.alloc (.loop r)).heap.size-1=w0.heap.size:=by simp_all
  refine⟨r,[{target:=.collected w.heap.size,args:=#[]}],w0.alloc (.loop r),ρ1,?_,rfl,rfl,rfl,h2,p_.trans h3,?_,λp hp=>?_⟩
  .rw[az];simp[Instr.enterLoop];exact⟨(World.size_alloc w _).symm,rfl⟩
  .exact(hd.push).ext fS h3
  simp_all
 .obtain⟨tC,r0,st,pend,hb⟩:=aQ;obtain⟨p,hp,aC,_⟩:=VK hH hb;have aU:=iI p hp;subst aU;let r:Loop:={state:=.ready,pending:=none,fn,tmps:=a.tmps,params:=ps,assign:=fe,body:=body,defers:=r0.defers};obtain⟨ρ1,h1,h2,h3⟩:=hH.newObj (.lp env r .ready none) (.loop r) ⟨rfl,hL⟩;have az:(w.alloc (.loop r)).heap.size-1=w.heap.size:=by simp_all
  refine⟨r,[],w.alloc (.loop r),ρ1,?_,rfl,rfl,rfl,h2,h3,?_,λp hp=>?_⟩
  .rw[az];simp[Instr.enterLoop,JL aC];rfl
  .exact hd.ext hH h3
  simp_all
theorem Ll (hS:OkSpecs P S) {fe body:Code}{va vb:VCode}(ha:Sound P S fe va) (hb:Sound P S body vb) (g:Operand) (hg:Ji g=true) (ps:Array Nat):Sound P S (.rangeFunc g ps fe body) (.rangeF g ps.toList va vb):=by
 intro B cJ ro n Q env U ρ w a h hH hL hd hR Q' hQ;simp only[vwp,L5] at h;have gL:=X3 hL hg;split at h
 .rename_i f first cap bu
  rw[bu] at gL;split at h
  .rename_i T hT;obtain⟨aQ,h⟩:=h;refine wpIn_rangeFunc λfn _=>?_;obtain⟨r,mark,w1,ρ1,he,ff,dD,lq,jq,fE,cW,dS⟩:=Ce (P:=P) hH hL hd hR aQ fn ps fe body;obtain⟨iJ,hit⟩:=hS.it f T hT;obtain⟨gs,ds,o4,mz,jX⟩:∃ gs ds,a.eval g=.func (.func f) gs ds/\LRel ρ U.n first.toList gs.toList/\LRel ρ U.n cap.toList ds.toList:=by
    cases o4:a.eval g with
    |func vw gs ds =>
     rw[o4] at gL;cases gL with
     |func _ _ _ _ _ k1 k2 k3 k4=>exact⟨gs,ds,rfl,LRel.of_array k1 k3,LRel.of_array k2 k4⟩
    |_=>rw[o4] at gL;cases gL
   have hY:Yr P U.n (Cw (vwp S va (some U.n)) (vwp S vb (some U.n)) ps.toList env r U.n):=(by grind [C6]);have lx:=hit U.n _ hY _ _ _ (h r) ρ1 w1 (gs++#[.func (.yield (w1.heap.size-1)) #[] #[]]++ds) jq (by
    have k1:=fE.lrel mz;have k2:=fE.lrel jX;have k3:LRel ρ1 (U.push (.obj (.lp env r .ready none) true)).n [.func (.yield U.n) #[] #[]] [.func (.yield (w1.heap.size-1)) #[] #[]] :=
     LRel.cons (.yield _ _ (by simp) (λp hp=>(dS p hp).symm)) (LRel.nil _ _)
    have:=(k1.append k3).append k2;simpa using this)
   refine⟨w1.heap.size-1,mark,w1,{target:=.fn (.func f) ds,args:=gs++#[.func (.yield (w1.heap.size-1)) #[] #[]]},w1,f,gs++#[.func (.yield (w1.heap.size-1)) #[] #[]]++ds,w1,?_,?_,λ_ _=>AA _ _,?_,(by grind [T1]),?_⟩
   .rw[OT];exact he
   .simp[resolve,o4,Deferred.ofValue];rfl
   .simp only[invoke];exact Y0 iJ _ _
   .refine (Am lx).mono λe w3 ⟨c,tD,v,ρ3,σ3,k1,k2,k3,k4⟩=>?_;subst tD;unfold Oy at k1;split at k1
    .rename_i ae r' st pend lf;obtain⟨bK,k1⟩:=k1;obtain⟨p3,rQ,iK,rR⟩:=VK k3 lf;have aU:p3.blk=w1.heap.size-1:=dS p3 (k4.pl U.n (by simp) p3 rQ);obtain⟨q1,q2⟩:=SD k3 rQ lf .exhausted pend;rw[aU] at iK q1 q2;obtain⟨q3,q4⟩:=q1.kill U.n;have fQ:(σ3.upd U.n (.obj (.lp ae r' .exhausted pend) true)).kill U.n=σ3.kill U.n:=by
      apply Heap.ext'
      .grind [Heap.q0i,Heap.q0c,Heap.q0b]
      .rfl
     rw[fQ] at q3 q4;have kj:=fE.trans (k4.trans (q2.trans q4));have dw:=cW.ext jq (k4.trans (q2.trans q4));refine⟨pend,_,by simp[Instr.endLoop,JL iK,Qw iK (λ_ _ _ e=>by cases e),bK];rfl,?_⟩;have iH:∀ K:Env->Heap->Prop,K env (σ3.kill U.n)->GN B (List.length env) ρ U w K {a with defers:=mark++a.defers} (Da w3 (w1.heap.size-1) (.loop {r' with state:=.exhausted,pending:=pend})):=λK hK =>
      ⟨env,_,_,hK,rfl,q3,kj.lrel hL,dw,kj⟩
     grind [wpIn_ret,wpIn_exit]
    .exact k1.elim
  .exact h.elim
 .exact h.elim
end
end Go.V
namespace Go.V
open Go
theorem XW {ev fF:Operand->Value}(x:Option Operand) (d:Nat) (h:∀ y∈x.toList,ev y=fF y):Zq ev x d=Zq fF x d:=by
 cases x with
 |none=>rfl
 |some y=>simp only[Zq];rw[h y (by simp)]
theorem E3 {o:XOp}{ev fF:Operand->Value}{U:Heap}(h:∀ x∈o.opds,ev x=fF x):QT o ev U=QT o fF U:=by cases o<;>simp only[XOp.opds,zD,List.not_mem_nil,or_false,forall_eq_or_imp,forall_eq] at h<;>simp only[QT]<;>(try simp only[h])
theorem MS {o:VOp}{ev fF:Operand->Value}{U:Heap}(h:∀ x∈o.opds,ev x=fF x):Q8 o ev U=Q8 o fF U:=by
 cases o
 case build z ps =>
  have:(ps.map λp=>(p.1,p.2.1,ev p.2.2))=ps.map λp=>(p.1,p.2.1,fF p.2.2):=x4 λp hp=>by rw[h p.2.2 (x7.2 ⟨p,hp,rfl⟩)]
  simp only[Q8,this]
 case buildSlice e z n ps =>
  have:(ps.map λp=>(p.1*e.sz,e.sz,ev p.2))=ps.map λp=>(p.1*e.sz,e.sz,fF p.2):=x4 λp hp=>by rw[h p.2 (x7.2 ⟨p,hp,rfl⟩)]
  simp only[Q8,this]
 case makeFunc fn a b =>
  have h1:a.map ev=a.map fF:=x4 λx hx=>h x (xG _ hx);have h2:b.map ev=b.map fF:=x4 λx hx=>h x (xn _ hx);simp only[Q8,h1,h2]
 case slice size x lo hi mx =>
  have h1:=XW lo 0 (λy hy=>h y (by simp[VOp.opds] at *;exact .inr (.inl hy)));have h2:∀ n,Zq ev hi n=Zq fF hi n:=λn=>XW hi n (λy hy=>h y (by simp[VOp.opds] at *;exact .inr (.inr (.inl hy))));have h3:=XW mx 0 (λy hy=>h y (by simp[VOp.opds] at *;exact .inr (.inr (.inr hy))));have h4:=h x (by simp[VOp.opds]);simp only[Q8,h4];cases fF x<;>simp only[h1,h2,h3]
 case sliceStr x lo hi =>
  have h1:=XW lo 0 (λy hy=>h y (by simp[VOp.opds] at *;exact .inr (.inl hy)));have h2:∀ n,Zq ev hi n=Zq fF hi n:=λn=>XW hi n (λy hy=>h y (by simp[VOp.opds] at *;exact .inr (.inr hy)));have h4:=h x (by simp[VOp.opds]);simp only[Q8,h4];cases fF x<;>simp only[h1,h2]
 case ext o=>exact E3 h
 all_goals
  simp only[VOp.opds,zD,List.not_mem_nil,or_false,forall_eq_or_imp,forall_eq] at h;simp only[Q8];try simp only[h]
theorem S4 {S:VSpecs}{o:VOp}{env ae:Env}{U:Heap}{K:Value->Heap->Prop}(h:∀ x∈o.opds,Q6 env x=Q6 ae x):vop S o env U K=vop S o ae U K:=by
 cases o
 case callF f bQ =>
  have:bQ.map (Q6 env)=bQ.map (Q6 ae):=x4 h;simp only[vop,this]
 case callV f bQ =>
  have h1:Q6 env f=Q6 ae f:=h f (by simp[VOp.opds]);have h2:bQ.map (Q6 env)=bQ.map (Q6 ae):=x4 λx hx=>h x (by simp[VOp.opds,hx]);simp only[vop,h1,h2]
 case ext o =>
  by_cases hx:∃ x,o=.nextMap x
  .obtain⟨x,rfl⟩:=hx;have h1:Q6 env x=Q6 ae x:=h x (by simp[VOp.opds,XOp.opds]);simp only[vop,h1]
  .have e1:=MS (U:=U) h;cases o<;>first|exact absurd ⟨_,rfl⟩ hx|(simp only[vop];rw[e1])
 all_goals
  have e1:=MS (U:=U) h;simp only[vop];rw[e1]
theorem Heap.Le.refl (U:Heap):U.Le U:=⟨zd _,λ_ _ h=>h⟩
theorem Heap.Le.trans {U U' aI:Heap}(h:U.Le U') (k:U'.Le aI):U.Le aI:=⟨zW h.1 k.1,λi b hb=>k.2 i b (h.2 i b hb)⟩
theorem Q4s {U U':Heap}(h:U.Le U') {esz:Nat}{v:Value}{xs:List Value}(hx:U.sl esz v=some xs):U'.sl esz v=some xs:=by
 unfold Heap.sl at hx |-;split at hx
 .exact hx
 .rename_i i o n c;split at hx
  .rename_i cs e wr t hb;simp only[h.2 i _ hb];exact hx
  .cases hx
 .cases hx
theorem R1 {U U':Heap}(h:U.Le U') {m:Nat}{x:List ZZ×Nat×Bool}(hx:U.mapAt m=some x):U'.mapAt m=some x:=by
 unfold Heap.mapAt at hx |-;split at hx
 .rename_i es clock wr hb;simp only[h.2 m _ hb];exact hx
 .cases hx
theorem Ek {U U':Heap}(h:U.Le U') {kd:Nat}{a b:Value}{r:Bool}(hx:ZA kd a b U=some r):ZA kd a b U'=some r:=by
 unfold ZA at hx |-
 split at hx<;>first
  |exact hx
  |(cases hx;done)
  |skip
 rename_i i o j q;split at hx
 .rename_i hc;obtain⟨h1,h2,h3⟩:=hc;obtain⟨b,hb⟩:=Option.isSome_iff_exists.1 h3;rw[z6 ⟨h1,h2,by rw[h.2 _ _ hb];rfl⟩];exact hx
 .cases hx
theorem Lh {neg:Bool}{s:List MK}{x y:Operand}{ev:Operand->Value}{U U' σ1:Heap}{v:Value}(h:QT (.eqAgg neg s x y) ev U=some (v,σ1)):QT (.eqAgg neg s x y) ev U'=some (v,U'):=by
 simp only[QT] at h |-;split at h
 .simp_all
 .cases h
theorem EW {o:XOp}{ev:Operand->Value}{U U' σ1:Heap}{v:Value}(hk:(VOp.ext o).kind≠2) (h:QT o ev U=some (v,σ1)) (hl:U.Le U'):QT o ev U'=some (v,U'):=by
 cases o<;>simp only[VOp.kind,VOp.quiet,XOp.quiet] at hk<;>try (exact absurd rfl hk)
 case eqAgg neg s x y=>exact Lh h
 case eqNil kd neg x y =>
  simp only[QT] at h |-
  grind [Ek]
 case lookup mk z ok x i =>
  simp only[QT] at h |-;split at h
  .rename_i bG;rw[z6 bG];split at h
   .simp_all
   .rename_i m vz;split at h
    .rename_i es clock wr hm;simp only[R1 hl hm]
     grind
    .cases h
   .cases h
  .cases h
 case lenMap x =>
  simp only[QT] at h |-
  grind [R1]
 case entry x =>
  simp only[QT] at h |-;split at h
  .rename_i i hx;split at h
   .rename_i m since seen last wr hb;simp only[hl.2 i _ hb];split at h
    .rename_i es clock lj b hm dI;simp only[R1 hl hm,dI]
     grind
    .cases h
   .cases h
  .cases h
 case toUnsafe x =>
  simp only[QT] at h |-;split at h
  .simp_all
  .rename_i i o hx;split at h
   .rename_i c e wr t hb;simp only[hl.2 i _ hb];simp_all
   .cases h
  .cases h
 case fromUnsafe u sz x =>
  simp only[QT] at h |-;split at h
  .simp_all
  .rename_i i o hx;split at h
   .rename_i c e hb;simp only[hl.2 i _ hb];simp_all
   .cases h
  .cases h
 case sliceData x =>
  simp only[QT] at h |-;split at h
  .simp_all
  .rename_i i o n cap hx;split at h
   .rename_i hc;obtain⟨h1,h2⟩:=hc;obtain⟨b,hb⟩:=Option.isSome_iff_exists.1 h2;rw[z6 ⟨h1,by rw[hl.2 _ _ hb];rfl⟩];simp_all
   .cases h
  .cases h
 case bytesStr x =>
  simp only[QT] at h |-;split at h
  .grind [Q4s]
  .cases h
theorem BX {o:VOp}{ev:Operand -> Value}{U U' σ1:Heap}{v:Value}(hk:o.kind = 0) (h:Q8 o ev U = some (v, σ1)):Q8 o ev U' = some (v, U'):=by
  cases o
  case ext o =>
    cases o <;> first | (simp [VOp.kind, VOp.quiet, XOp.quiet] at hk; done) | skip
    case eqAgg neg s x y => exact Lh h
  case slice size x lo hi mx => cases mx <;> simp [VOp.kind, VOp.quiet] at hk
  case build z ps =>
    simp only [Q8] at h |-;split at h
    . simp_all
    . cases h
  all_goals first
    | (simp [VOp.kind, VOp.quiet] at hk; done)
    | skip
  all_goals
    simp only [Q8] at h |-
    (repeat' split at h) <;> first
      | (cases h; done)
      | (rename_i qa; obtain ⟨rfl, rfl, rfl⟩:=qa; simp_all; done)
      | (simp_all; done)
      | (simp_all
         obtain ⟨rfl, _⟩:=h
         first
          | rw [z7 (by omega)]
          | rw [z6 (by omega)])
theorem Bt {o:VOp}{ev:Operand->Value}{U U' σ1:Heap}{v:Value}(hk:o.kind≠2) (h:Q8 o ev U=some (v,σ1)) (hl:U.Le U'):Q8 o ev U'=some (v,U'):=by
 cases o
 case ext o=>exact EW hk h hl
 case load agg size a =>
  simp only[Q8] at h |-;split at h
  .split at h
   .split at h
    .rename_i hall;rw[z6 hall];split at h
     .simp_all
     .cases h
    .cases h
   .cases h
  .rename_i i o hx;split at h
   .rename_i c e wr t hb;simp only[hl.2 i _ hb];split at h
    .simp_all
    .cases h
   .cases h
  .cases h
 case slice size x lo hi mx =>
  cases mx with
  |some m=>simp[VOp.kind,VOp.quiet] at hk
  |none =>
   simp only[Q8] at h |-;split at h
   .rename_i a n cap hx;split at h
    .rename_i l k dS b9;unfold Xe at h |-;split at h
     .simp_all
     .rename_i i o n' ao heq;split at h
      .rename_i c e wr t hb;simp only[hl.2 i _ hb];simp_all
      .cases h
     .cases h
    .rename_i hm;cases hm
    .cases h
   .cases h
 all_goals first
  |(exact absurd rfl hk)
  |(exact BX rfl h)
section
variable {P:Program}{S:VSpecs}{B:Nat}
def EL (lv:List VOper) (env:Env) (tr:Nat->Value) (A:Nat->Bool):Nat->Env
 |0=>env
 |i+1=>if A i then Jb (EL lv env tr A i) ((lv[i]?).bind (·.dst)) (tr i) else EL lv env tr A i
theorem WL (lv:List VOper) (env:Env) (tr:Nat->Value) (A:Nat->Bool):∀ i,List.length (EL lv env tr A i)=List.length env
 |0=>rfl
 |i+1=>by
  simp only[EL];split
  .rw[Z8];exact WL lv env tr A i
  .exact WL lv env tr A i
theorem Yg (lv:List VOper) (env:Env) {tr tr':Nat->Value}{A B:Nat->Bool}:∀ i,(∀ l,l<i->tr l=tr' l)->(∀ l,l<i->A l=B l)->EL lv env tr A i=EL lv env tr' B i
 |0,_,_=>rfl
 |i+1,h,h'=>by simp only[EL];rw[Yg lv env i (λl hl=>h l (by omega)) (λl hl=>h' l (by omega)),h i (by omega),h' i (by omega)]
theorem UG (env:Env) (d:Option Nat) (v:Value) {x:Nat}(h:d≠some x):(Jb env d v)[x]?=env[x]?:=by
 cases d with
 |none=>rfl
 |some d=>simp only[Jb];rw[List.getElem?_set_ne (by rintro rfl;exact h rfl)]
theorem Q3x (lv:List VOper) (env:Env) {tr tr':Nat->Value}{A:Nat->Bool}:∀ i,(∀ l,l<i->A l=true->tr l=tr' l)->EL lv env tr A i=EL lv env tr' A i
 |0,_=>rfl
 |i+1,h=>by simp only[EL];rw[Q3x lv env i λl hl hA=>h l (by omega) hA];simp_all
theorem US (lv:List VOper) (env:Env) (tr:Nat->Value) {A B:Nat->Bool}(x:Nat):∀ i,(∀ l,l<i->(lv[l]?).bind (·.dst)=some x->A l=B l)->(EL lv env tr A i)[x]?=(EL lv env tr B i)[x]?
 |0,_=>rfl
 |i+1,h=>by
  have ih:=US lv env tr x i (λl hl hd=>h l (by omega) hd);by_cases hd:(lv[i]?).bind (·.dst)=some x
  .have mF:=h i (by omega) hd;simp only[EL];rw[mF];split
   .rw[hd];simp only[Jb,xE];rw[WL,WL];rfl
   .exact ih
  .simp only[EL]
   grind [UG]
theorem NO (lv:List VOper) (env:Env) (tr:Nat->Value) (j:Nat):∀ i,j<=i->EL lv env tr (λl=>decide (l<j)) i=EL lv env tr (λ_=>true) j
 |0,h=>by
  obtain rfl:j=0:=by omega
  rfl
 |i+1,h=>by
  by_cases hj:j=i+1
  .subst hj;exact Yg lv env _ (λ_ _=>rfl) (λl hl=>by simp[hl])
  .simp only[EL];rw[z7 (by simp;omega)];exact NO lv env tr j i (by omega)
def DFact (S:VSpecs) (d:DInfo) (lv:List VOper) (env:Env) (tr:Nat->Value) (hp:Nat->Heap) (u:Nat) (i:Nat):Prop :=
 ∀ v,lv[i]?=some v->∃ b,Zr (EL lv env tr (λ_=>true) i) v.guard=some b /\
  (b=true->v.op.kind=2->vop S v.op (EL lv env tr (λ_=>true) i) (hp (d.rank i)) (λv' U'=>v'=tr i/\U'=hp (d.rank i+1))) /\
  (b=true->v.op.kind=1->∀ r,d.kmin i<=r->r<=d.kmax i->r<=u->∃ U',Q8 v.op (Q6 (EL lv env tr (λ_=>true) i)) (hp r)=some (tr i,U')) /\
  (b=true->v.op.kind≠1->v.op.kind≠2->∃ U',Q8 v.op (Q6 (EL lv env tr (λ_=>true) i)) (hp (d.rank i))=some (tr i,U')) /\
  (b=false->tr i=undef/\(v.op.kind=2->hp (d.rank i+1)=hp (d.rank i)))
def Q27 (d:DInfo) (lv:List VOper) (env:Env) (tr:Nat->Value) (i:Nat) (pend:List (Nat×(Heap->Prop))):Prop :=
 ∀ l,l<i->∀ v,lv[l]?=some v->Zr (EL lv env tr (λ_=>true) l) v.guard=some true->v.op.kind=1->d.rank i+1<=d.kmax l->(d.kmax l,J4 v.op (Q6 (EL lv env tr (λ_=>true) l)) (tr l))∈pend
inductive Know (S:VSpecs) (d:DInfo) (lv:List VOper) (env:Env) (K:Env->Heap->Prop):List Nat->Nat->(Nat->Value)->(Nat->Heap)->Prop
 |full {nd:List Nat}{tr:Nat->Value}{hp:Nat->Heap}(hF:∀ l,l<lv.length->l∉nd->DFact S d lv env tr hp (d.rank lv.length) l) (hK:K (EL lv env tr (λ_=>true) lv.length) (hp (d.rank lv.length))):Know S d lv env K nd lv.length tr hp
 |part {nd:List Nat}{i:Nat}{tr:Nat->Value}{hp:Nat->Heap}{v:VOper}(hv:lv[i]?=some v) (hk:v.op.kind=2) (hw:Zr (EL lv env tr (λ_=>true) i) v.guard=some true)
   (hF:∀ l,l<i->l∉nd->DFact S d lv env tr hp (d.rank i) l) (kn:∀ j,i<j->j<lv.length->∃ e u,i<=e/\e<j/\lv[e]?=some u/\((∃ x,u.dst=some x/\∀ v,lv[j]?=some v->x∈Y7 v)\/(u.op.kind=2/\∀ v,lv[j]?=some v->v.op.kind=2)))
   (R:Value->Heap->Prop) (fT:vop S v.op (EL lv env tr (λ_=>true) i) (hp (d.rank i)) R)
   (I:∀ u U',R u U'->Nat) (T:∀ u U',R u U'->Nat->Value) (H:∀ u U',R u U'->Nat->Heap)
   (hT:∀ u U' h,i<I u U' h/\(∀ l,l<i->T u U' h l=tr l)/\T u U' h i=u/\(∀ r,r<=d.rank i->H u U' h r=hp r)/\H u U' h (d.rank i+1)=U')
   (next:∀ u U' h,Know S d lv env K (i::nd) (I u U' h) (T u U' h) (H u U' h)):Know S d lv env K nd i tr hp
theorem RI {r:Nat}{U:Heap}:∀ {l:List (Nat×(Heap->Prop))},J8 r U l->∀ c∈l,r<=c.1->c.2 U
 |[],_,_,h=>by cases h
 |x::l,h,c,hc=>by
  rcases zD.1 hc with rfl|hc
  .exact h.1
  .exact RI h.2 c hc
theorem Dk {op:VOp}{ev:Operand->Value}{v:Value}{Z:Heap}(h:J4 op ev v Z):∃ U',Q8 op ev Z=some (v,U'):=by
 unfold J4 at h;cases hv:Q8 op ev Z with
 |none=>rw[hv] at h;exact h.elim
 |some q =>rw[hv] at h;have h:q.1=v:=h;exact⟨q.2,by rw[<-h]⟩
theorem DFact.congr {d:DInfo}{lv:List VOper}{env:Env}{tr tr':Nat->Value}{hp bw:Nat->Heap}{u u' l:Nat}(h:DFact S d lv env tr hp u l) (ht:∀ k,k<=l->tr' k=tr k) (hh:∀ r,r<=u->bw r=hp r) (hr:d.rank l<=u) (h2:∀ v,lv[l]?=some v->v.op.kind=2->d.rank l+1<=u)
  (hu:∀ v,lv[l]?=some v->Zr (EL lv env tr (λ_=>true) l) v.guard=some true->v.op.kind=1->∀ r,u<r->r<=u'->r<=d.kmax l->∃ U',Q8 v.op (Q6 (EL lv env tr (λ_=>true) l)) (bw r)=some (tr l,U')):DFact S d lv env tr' bw u' l:=by
 intro v hv;obtain⟨b,f1,f2,f3,f4,f5⟩:=h v hv;have e:=Yg lv env (tr:=tr') (tr':=tr) (A:=λ_=>true) (B:=λ_=>true) l (λk hk=>ht k (by omega)) (λ_ _=>rfl);rw[e,ht l (zd _),hh _ hr]
 grind
theorem Pn:∀ (d:DInfo) (rest:List VOper) (i:Nat) (xs:List Nat),waits xs (d.opers rest i)=true->∀ (k:Nat) (v:VOper),rest[k]?=some v->v.op.kind=2\/(∃ x∈xs,x∈Y7 v)\/∃ (e:Nat) (u:VOper) (x:Nat),e<k/\rest[e]?=some u/\u.dst=some x/\x∈Y7 v
 |d,[],i,xs,_,k,v,hv=>by simp at hv
 |d,o::rest,i,xs,h,k,v,hv=>by
  simp only[DInfo.opers,waits,z1,zt,xJ,zj] at h;obtain⟨h1,h2⟩:=h;cases k with
  |zero =>
   obtain rfl:o=v:=by simpa using hv
   rcases h1 with h1|⟨x,hx,aZ⟩
   .exact .inl h1
   refine .inr (.inl ⟨x,by simpa using aZ,?_⟩);simp only[Y7,zR] at hx |-;rcases hx with hx|hx
   .exact .inl (.inr hx)
   .exact .inr hx
  |succ k =>
   rcases Pn d rest (i+1) _ h2 k v (by simpa using hv) with h3|⟨y,hy,rS⟩|⟨e,u,y,he,hu,hd,hn⟩
   .exact .inl h3
   .rcases zR.1 hy with hy|hy
    .exact .inr (.inr ⟨0,o,y,by omega,rfl,by simpa using hy,rS⟩)
    .exact .inr (.inl ⟨y,hy,rS⟩)
   .exact .inr (.inr ⟨e+1,u,y,by omega,by simpa using hu,hd,hn⟩)
theorem SC (d:DInfo) {i j:Nat}(h:i<=j):d.rank i<=d.rank j:=by
 induction j with
 |zero =>
  obtain rfl:i=0:=by omega
  exact zd _
 |succ j ih =>
  by_cases cB:i=j+1
  .subst cB;exact zd _
  .have:=ih (by omega);simp only[DInfo.rank];split<;>omega
theorem Q3l (d:DInfo) (lv:List VOper) (mG:∀ i v,lv[i]?=some v->d.k i=v.op.kind) (env:Env) (K:Env->Heap->Prop):∀ (rest:List VOper) (i:Nat),i<=lv.length->lv.drop i=rest->∀ (nd:List Nat) (tp:Nat->Value) (hq:Nat->Heap) (pend:List (Nat×(Heap->Prop))),
  (∀ l,l<i->l∉nd->DFact S d lv env tp hq (d.rank i) l)->Q27 d lv env tp i pend ->
  Z9 S (d.opers rest i) (EL lv env tp (λ_=>true) i) ((List.range (d.rank i+1)).map hq) (hq (d.rank i)) pend K ->
  ∃ k tr hp,i<=k/\(∀ l,l<i->tr l=tp l)/\(∀ r,r<=d.rank i->hp r=hq r)/\Know S d lv env K nd k tr hp:=by
 intro rest;induction rest with
 |nil =>
  intro i iI hi nd tp hq pend hF hP h;have hl:lv.length<=i:=by simpa using hi
  obtain rfl:i=lv.length:=by omega
  simp only[DInfo.opers,Z9] at h;exact⟨_,tp,hq,zd _,λ_ _=>rfl,λ_ _=>rfl,.full hF h⟩
 |cons v rest ih =>
  intro i iI hi nd tp hq pend hF hP h;have ai:i<lv.length:=by
   grind
  have hv:lv[i]?=some v:=by
   have:=congrArg List.head? hi
   grind [List.head?_drop]
  have gw:lv.drop (i+1)=rest:=by have:=congrArg List.tail hi;simpa using this
  have hk:=mG i v hv;have ff:v.op.kind=2->d.rank (i+1)=d.rank i+1:=λe=>by simp only[DInfo.rank,hk,e,zx]
  have j_:v.op.kind≠2->d.rank (i+1)=d.rank i:=λe=>by simp only[DInfo.rank,hk,e,if_false]
  have dU:∀ l,l<i->d.rank l<=d.rank i/\∀ w,lv[l]?=some w->w.op.kind=2->d.rank l+1<=d.rank i:=λl hl=>by have h1:=SC d (show l+1<=i by omega);refine⟨by simp only[DInfo.rank] at h1;split at h1<;>omega,λw hw h2=>?_⟩;simp only[DInfo.rank,mG l w hw,h2,zx] at h1;exact h1
  simp only[DInfo.opers,Z9] at h;have hlen:((List.range (d.rank i+1)).map hq).length=d.rank i+1:=by simp
  cases hw:Zr (EL lv env tp (λ_=>true) i) v.guard with
  |none=>rw[hw] at h;exact h.elim
  |some b =>
   rw[hw] at h;obtain⟨ht,hf⟩:=h
   have go:∀ (jQ:List Nat) (u:Value) (U':Heap) (bM:List (Nat×(Heap->Prop))),(∀ l,l∈nd->l∈jQ) ->
     Z9 S (d.opers rest (i+1)) (Jb (EL lv env tp (λ_=>true) i) v.dst u) (if v.op.kind=2 then (List.range (d.rank i+1)).map hq++[U'] else (List.range (d.rank i+1)).map hq) (if v.op.kind=2 then U' else hq (d.rank i)) bM K ->
     (v.op.kind=2->J8 (d.rank i+1) U' pend)->(∀ c∈pend,c∈bM) ->
     (b=true->v.op.kind=1->d.rank i+1<=d.kmax i->(d.kmax i,J4 v.op (Q6 (EL lv env tp (λ_=>true) i)) u)∈bM) ->
     (i∉jQ->∀ tr hp,(∀ l,l<i->tr l=tp l)->tr i=u->(∀ r,r<=d.rank i->hp r=hq r)->(v.op.kind=2->hp (d.rank i+1)=U')->DFact S d lv env tr hp (d.rank (i+1)) i) ->
     ∃ k tr hp,i<k/\(∀ l,l<i->tr l=tp l)/\tr i=u/\(∀ r,r<=d.rank i->hp r=hq r)/\(v.op.kind=2->hp (d.rank i+1)=U')/\Know S d lv env K jQ k tr hp:=by
    intro jQ u U' bM eS h kp cX ly nr;let iL:Nat->Value:=λl=>if l=i then u else tp l
    let dJ:Nat->Heap:=λr=>if v.op.kind=2/\r=d.rank i+1 then U' else hq r
    have et:∀ l,l<i->iL l=tp l:=(by grind);have ei:iL i=u:=by simp[iL]
    have eh:∀ r,r<=d.rank i->dJ r=hq r:=(by grind);have rT:v.op.kind=2->dJ (d.rank i+1)=U':=λaA=>by simp[dJ,aA]
    have e1:EL lv env iL (λ_=>true) (i+1)=Jb (EL lv env tp (λ_=>true) i) v.dst u:=by simp only[EL,zx];rw[Yg lv env (tr:=iL) (tr':=tp) i et (λ_ _=>rfl),hv,ei];rfl
    have e2:(List.range (d.rank (i+1)+1)).map dJ=if v.op.kind=2 then (List.range (d.rank i+1)).map hq++[U'] else (List.range (d.rank i+1)).map hq:=by
     grind [List.range_succ,List.map_congr_left]
    have e3:dJ (d.rank (i+1))=if v.op.kind=2 then U' else hq (d.rank i):=by simp only[DInfo.rank,hk];split<;>rename_i aA<;>simp[dJ,aA]
    have tE:∀ l,l<i+1->l∉jQ->DFact S d lv env iL dJ (d.rank (i+1)) l:=λl hl iM=>by
     by_cases iN:l=i
     .subst iN;exact nr iM iL dJ et ei eh rT
     .have iN:l<i:=by omega
      refine (hF l iN λh=>iM (eS l h)).congr (λk hk=>et k (by omega)) eh (dU l iN).1 (dU l iN).2 λw fU o5 aV r r1 r2 r3=>?_;by_cases aA:v.op.kind=2
      .rw[ff aA] at r2;obtain rfl:r=d.rank i+1:=by omega
       rw[rT aA];exact Dk (RI (kp aA) _ (hP l iN w fU o5 aV (by omega)) (by simpa using r3))
      .rw[j_ aA] at r2;omega
    have tF:Q27 d lv env iL (i+1) bM:=λl hl w fU o5 aV rM=>by
     by_cases iN:l=i
     .subst iN;rw[hv] at fU;obtain rfl:=osj fU;have e:=Yg lv env (tr:=iL) (tr':=tp) (A:=λ_=>true) (B:=λ_=>true) l et (λ_ _=>rfl);simp_all
     .have iN:l<i:=by omega
      have e:=Yg lv env (tr:=iL) (tr':=tp) (A:=λ_=>true) (B:=λ_=>true) l (λk hk=>et k (by omega)) (λ_ _=>rfl);rw[e] at o5 |-;rw[et l iN];have hle:d.rank i<=d.rank (i+1):=by simp only[DInfo.rank];split<;>omega
      exact cX _ (hP l iN w fU o5 aV (by omega))
    obtain⟨k,tr,hp,k0,k1,k2,k3⟩:=ih (i+1) (by omega) gw jQ iL dJ bM tE tF (by rw[e1,e2,e3];exact h)
    grind
   have weak:∀ {jQ:List Nat}{u:Value}{U':Heap},(∃ k tr hp,i<k/\(∀ l,l<i->tr l=tp l)/\tr i=u/\(∀ r,r<=d.rank i->hp r=hq r)/\(v.op.kind=2->hp (d.rank i+1)=U')/\Know S d lv env K jQ k tr hp)->∃ k tr hp,i<=k/\(∀ l,l<i->tr l=tp l)/\(∀ r,r<=d.rank i->hp r=hq r)/\Know S d lv env K jQ k tr hp:=by
    grind
   have fact:∀ {u:Value}{U':Heap},(b=true->v.op.kind=1->∀ r,d.kmin i<=r->r<=d.rank i->J4 v.op (Q6 (EL lv env tp (λ_=>true) i)) u (hq r))->(b=true->v.op.kind≠1->v.op.kind≠2->∃ aI,Q8 v.op (Q6 (EL lv env tp (λ_=>true) i)) (hq (d.rank i))=some (u,aI))->(b=false->u=undef/\(v.op.kind=2->U'=hq (d.rank i)))->(b=true->v.op.kind=2->vop S v.op (EL lv env tp (λ_=>true) i) (hq (d.rank i)) (λv' aI=>v'=u/\aI=U')) ->
     ∀ tr hp,(∀ l,l<i->tr l=tp l)->tr i=u->(∀ r,r<=d.rank i->hp r=hq r)->(v.op.kind=2->hp (d.rank i+1)=U')->DFact S d lv env tr hp (d.rank (i+1)) i:=by
    intro u U' g1 g2 g3 k5 tr hp k1 k2 k3 k4 v' ku;rw[hv] at ku;obtain rfl:=osj ku;have e:=Yg lv env (tr:=tr) (tr':=tp) (A:=λ_=>true) (B:=λ_=>true) i k1 (λ_ _=>rfl);rw[e,k2,k3 _ (zd _)]
    grind [Dk]
   cases b with
   |false =>
    have hf:=hf rfl;by_cases aA:v.op.kind=2
    .rw[z6 aA] at hf;obtain⟨p8,hf⟩:=hf;exact weak (go nd undef (hq (d.rank i)) pend (λ_ h=>h) (by rw[z6 aA,ite_self];exact hf) (by grind) (λ_ h=>h) (λh=>by cases h) (λ_=>fact (λh=>by cases h) (λh=>by cases h) (λ_=>⟨rfl,λ_=>rfl⟩) (λh=>by cases h)))
    .rw[z7 aA] at hf;exact weak (go nd undef (hq (d.rank i)) pend (λ_ h=>h) (by rw[z7 aA,ite_self];exact hf) (λh=>absurd h aA) (λ_ h=>h) (λh=>by cases h) (λ_=>fact (λh=>by cases h) (λh=>by cases h) (λ_=>⟨rfl,λ_=>rfl⟩) (λh=>by cases h)))
   |true =>
    have ht:=ht rfl;by_cases aA:v.op.kind=2
    .rw[z6 aA] at ht;rw[hlen] at ht;rcases ht with⟨u,U',h1,h2,h3⟩|⟨ie,fT⟩
     .exact weak (go nd u U' pend (λ_ h=>h) (by rw[z6 aA,z6 aA];exact h3) (λ_=>h2) (λ_ h=>h) (λ_ hk=>by omega) (λ_=>fact (λ_ hk=>by omega) (λ_ _ hk=>absurd aA hk) (λh=>by cases h) (λ_ _=>h1)))
     .have nx:∀ u U',(J8 (d.rank i+1) U' pend/\Z9 S (d.opers rest (i+1)) (Jb (EL lv env tp (λ_=>true) i) v.dst u) ((List.range (d.rank i+1)).map hq++[U']) U' pend K) ->
        ∃ k tr hp,i<k/\(∀ l,l<i->tr l=tp l)/\tr i=u/\(∀ r,r<=d.rank i->hp r=hq r)/\(v.op.kind=2->hp (d.rank i+1)=U')/\Know S d lv env K (i::nd) k tr hp:=λu U' ⟨h2,h3⟩ =>
       go (i::nd) u U' pend (λ_ h=>zA _ h) (by rw[z6 aA,z6 aA];exact h3) (λ_=>h2) (λ_ h=>h) (λ_ hk=>by omega) (λh=>absurd zl h)
      refine⟨i,tp,hq,zd _,λ_ _=>rfl,λ_ _=>rfl,.part hv aA hw hF (λj hj aN=>?_) _ fT (λu U' h=>(nx u U' h).choose) (λu U' h=>(nx u U' h).choose_spec.choose) (λu U' h=>(nx u U' h).choose_spec.choose_spec.choose) (λu U' h=>?_) (λu U' h=>?_)⟩
      .obtain⟨n,hn⟩:∃ n,j=i+1+n:=⟨j-(i+1),by omega⟩;subst hn;have tG:∀ k w,lv[i+1+k]?=some w->rest[k]?=some w:=(by grind);have qb:∀ k w,rest[k]?=some w->lv[i+1+k]?=some w:=(by grind);have tH:=z8 aN;rcases Pn d rest (i+1) _ ie n _ (tG n _ tH) with qc|⟨x,hx,lz⟩|⟨e,u,x,he,hu,hd,lz⟩
       .exact⟨i,v,zd _,by omega,hv,(by grind)⟩
       .exact⟨i,v,zd _,by omega,hv,(by grind)⟩
       .exact⟨i+1+e,u,by omega,by omega,qb e u hu,(by grind)⟩
      .grind
      grind
    .rw[z7 aA] at ht;by_cases aV:v.op.kind=1
     .rw[z6 aV] at ht;cases dL:Q8 v.op (Q6 (EL lv env tp (λ_=>true) i)) (hq (d.rank i)) with
      |none=>rw[dL] at ht;exact ht.elim
      |some p =>
       rw[dL] at ht;obtain⟨g1,g2⟩:=ht;refine weak (go nd p.1 (hq (d.rank i)) _ (λ_ h=>h) (by rw[z7 aA,ite_self];exact g2) (λh=>absurd h aA) (λc hc=>?_) (λ_ _ hr=>?_) (λ_=>fact (λ_ _ r tI tJ=>?_) (λ_ hk=>absurd aV hk) (λh=>by cases h) (λ_ hk=>absurd hk aA)))
       .grind
       .grind
       .refine g1 _ ?_;rw[x8];refine⟨r-d.kmin i,?_⟩
        grind
     .rw[z7 aV] at ht;cases dL:Q8 v.op (Q6 (EL lv env tp (λ_=>true) i)) (hq (d.rank i)) with
      |none=>rw[dL] at ht;exact ht.elim
      |some p =>rw[dL] at ht;exact weak (go nd p.1 (hq (d.rank i)) pend (λ_ h=>h) (by rw[z7 aA,ite_self];exact ht) (λh=>absurd h aA) (λ_ h=>h) (λ_ hk=>absurd hk aV) (λ_=>fact (λ_ hk=>absurd hk aV) (λ_ _ _=>⟨p.2,dL⟩) (λh=>by cases h) (λ_ hk=>absurd hk aA)))
structure DOk (d:DInfo) (n:Nat):Prop where
 edge:∀ j,j<n->∀ e∈d.ed.getD j [],e<j
 path:∀ j,j<n->∀ i,i<j->d.lt i j=true->∃ e∈d.ed.getD j [],e=i\/(i<e/\d.lt i e=true)
 free:∀ j,j<n->∀ i,i<j->d.lt i j=false->d.touch i j=false/\¬(d.k i=2/\d.k j=2)
 kmin:∀ j,j<n->d.k j=1->(d.kmin j<=d.rank j/\d.rank j<=d.kmax j)/\d.kmax j<=d.rank n/\∀ l,l<n->d.k l=2->((d.lt l j=true<->d.rank l<d.kmin j)/\(d.lt j l=true<->d.kmax j<=d.rank l))
theorem DOk.of {d:DInfo}(h:d.ok=true):DOk d d.ks.length:=by
 have h0:∀ j,j<d.ks.length->d.okE j=true/\d.okP j=true/\d.okK j=true:=λj hj=>by have:=zf.1 h j (zL.2 hj);simpa [z1] using this
 refine⟨λj hj e he=>?_,λj hj i hi ai=>?_,λj hj i hi ai=>?_,λj hj hk=>?_⟩
 .have:=zf.1 (h0 j hj).1 e he;simpa using this
 .have:=zf.1 (h0 j hj).2.1 i (zL.2 hi);simp_all
 .have:=zf.1 (h0 j hj).2.1 i (zL.2 hi)
  grind
 .have:=(h0 j hj).2.2;simp only[DInfo.okK,hk,BEq.rfl,xQ,Bool.false_or,z1,zg] at this
  grind
theorem Bg (d:DInfo) {i j:Nat}(h:i<j) (hk:d.k i=2):d.rank i<d.rank j:=by have:=SC d (show i+1<=j from h);simp only[DInfo.rank,hk,zx] at this;omega
theorem K7 (d:DInfo):∀ j r,r<d.rank j->∃ l,l<j/\d.k l=2/\d.rank l=r
 |0,r,h=>by simp[DInfo.rank] at h
 |j+1,r,h=>by
  simp only[DInfo.rank] at h;split at h
  .rename_i hk;rcases zr r (d.rank j) with h'|h'
   .obtain⟨l,h1,h2⟩:=K7 d j r h';exact⟨l,by omega,h2⟩
   grind
  .obtain⟨l,h1,h2⟩:=K7 d j r h;exact⟨l,by omega,h2⟩
theorem NB {d:DInfo}{n:Nat}(hd:DOk d n) {A:Nat->Bool}(hc:∀ j,j<n->A j=true->∀ e∈d.ed.getD j [],A e=true):∀ j,j<n->A j=true->∀ i,i<j->d.lt i j=true->A i=true:=by
 intro j;induction j using Nat.strongRecOn with
 |ind j ih =>
  intro hj hA i hi ai;obtain⟨e,he,h⟩:=hd.path j hj i hi ai;have nu:=hd.edge j hj e he;have ig:=hc j hj hA e he;rcases h with rfl|⟨h1,h2⟩
  .exact ig
  .exact ih e nu (by omega) ig i h1 h2
def cnt (A:Nat->Bool):Nat->Nat
 |0=>0
 |i+1=>cnt A i+if A i then 0 else 1
theorem Ah {A:Nat->Bool}:∀ {n},cnt A n=0->∀ i,i<n->A i=true
 |0,_,i,h=>by omega
 |n+1,hc,i,h=>by
  simp only[cnt] at hc;by_cases hi:i=n
  .simp_all
  .exact Ah (n:=n) (by omega) i (by omega)
theorem Ft {A B:Nat->Bool}{j:Nat}(hA:A j=false) (hB:B j=true) (h:∀ i,i≠j->A i=B i):∀ n,j<n->cnt A n=cnt B n+1
 |0,hj=>by omega
 |n+1,hj=>by
  simp only[cnt];by_cases aN:j=n
  .subst aN;have:cnt A j=cnt B j:=by
    have key:∀ m,m<=j->cnt A m=cnt B m:=by
     intro m;induction m with
     |zero=>intro _;rfl
     |succ m ih=>intro hm;simp only[cnt];rw[ih (by omega),h m (by omega)]
    exact key j (zd _)
   simp[hA,hB,this]
  .have:=Ft hA hB h n (by omega);rw[h n (by omega)];omega
theorem Q0x (o:VOp):o.kind<=2:=by
 unfold VOp.kind;split<;>try omega
 split<;>omega
theorem Q1n {o:VOp}{env:Env}{U:Heap}{p:Value×Heap}{K:Value->Heap->Prop}(hk:o.kind≠2) (h:Q8 o (Q6 env) U=some p) (hK:K p.1 p.2):vop S o env U K:=by
 cases o
 case callF=>exact absurd rfl hk
 case callV=>exact absurd rfl hk
 case ext x =>
  cases x
  case nextMap=>exact absurd rfl hk
  all_goals (simp only[vop];rw[h];exact hK)
 all_goals (simp only[vop];rw[h];exact hK)
theorem NI {o:VOp}{ev:Operand->Value}{U U':Heap}{v:Value}(hk:o.kind≠2) (h:Q8 o ev U=some (v,U')):U'=U:=by have:=Bt hk h (Heap.Le.refl U);simp_all
theorem Pz {env ae:Env}{g:Option (Nat×Bool)}(h:∀ x b,g=some (x,b)->env[x]?=ae[x]?):Zr env g=Zr ae g:=by
 cases g with
 |none=>rfl
 |some p =>obtain⟨x,b⟩:=p;simp only[Zr,ze];rw[h x b rfl]
theorem PN {env ae:Env}{x:Operand}(h:∀ t,x=.tmp t->env[t]?=ae[t]?):Q6 env x=Q6 ae x:=by
 cases x<;>try rfl
 rename_i t;simp only[Q6,ze];rw[h t rfl]
structure DInv (B:Nat) (d:DInfo) (lv:List VOper) (env:Env) (tr:Nat->Value) (hp:Nat->Heap) (ρ0:Plc) (σ0:Heap) (w0:World) (A:Nat->Bool) (a:Act) (w:World):Prop where
 closed:∀ j,j<lv.length->A j=true->∀ e∈d.ed.getD j [],A e=true
 run:∃ m ρ,(∀ l,l<lv.length->d.k l=2->(A l=true<->d.rank l<m))/\m<=d.rank lv.length/\HRel ρ (hp m) w/\LRel ρ (hp m).n (EL lv env tr A lv.length) a.tmps.toList/\Mks B a.defers w/\Ext ρ0 σ0 w0 ρ (hp m) w
structure DLink (P:Program) (ops:Array Oper) (pm:List Nat) (d:DInfo) (lv:List VOper):Prop where
 comp:∀ (p:Nat) (v:VOper),lv[p]?=some v->∃ o,ops[pm.getD p 0]?=some o/\Zs P ops o=some v/\d.k p=v.op.kind
 touch:∀ (i j:Nat) (u v:VOper),lv[i]?=some u->lv[j]?=some v->d.touch i j=false->(∀ x,u.dst=some x->x∉Y7 v)/\(∀ x,v.dst=some x->x∉Y7 u)
 size:pm.length=lv.length
theorem DLink.of {ops:Array Oper}{vs:List VOper}(h:ops.toList.mapM (Zs P ops)=some vs) {d0:DInfo}{pm:List Nat}(jl:∀ i∈pm,i<vs.length):DLink P ops pm (Cg d0 vs pm) (YN vs pm):=by
 obtain⟨h1,h2⟩:=X7 _ _ _ h;refine⟨λp v hv=>?_,λi j u v hu hv ht=>?_,by simp[YN]⟩
 .simp only[YN,xp,zk] at hv;obtain⟨i,hi,rfl⟩:=hv;have aQ:=jl i (xc hi);have lA:i<ops.toList.length:=by omega
  obtain⟨v,hv,hc⟩:=h2 i _ (z8 lA);have hg:vs.getD i default=v:=by simp[ze,hv]
  have hp:pm.getD p 0=i:=by simp[ze,hi]
  refine⟨ops.toList[i],?_,by rw[hg];exact hc,?_⟩
  .rw[hp];simp
  .simp[DInfo.k,Cg,YN,ze,hi]
 .simp only[DInfo.touch,Cg,OV,ze,xp,hu,hv,xN,Option.getD_some,Bool.or_eq_false_iff] at ht
  grind
theorem A9 {v:VOper}{x:Nat}(h:v.dst=some x):x∈Y7 v:=by simp[Y7,h]
theorem Ai {v:VOper}{x:Nat}(h:Operand.tmp x∈v.op.opds):x∈Y7 v:=by refine xG _ (xn _ ?_);exact List.mem_filterMap.2 ⟨_,h,rfl⟩
theorem PA {v:VOper}{x:Nat}{b:Bool}(h:v.guard=some (x,b)):x∈Y7 v:=by refine xn _ ?_;simp[h]
theorem BK (hS:OkSpecs P S) {ro:Option Nat}{n:Nat}{ops:Array Oper}{pm:List Nat}{d:DInfo}{lv:List VOper}(hl:DLink P ops pm d lv) (hd:DOk d lv.length) {env:Env}{tr:Nat->Value}{hp:Nat->Heap}
  {bd j:Nat}(hF:DFact S d lv env tr hp bd j)
  {Q:Exit->Act->World->Prop}{ρ0:Plc}{σ0:Heap}{w0:World}{A:Nat->Bool}{a:Act}{w:World}(mH:∀ m,(∀ l,l<lv.length->d.k l=2->(A l=true<->d.rank l<m))->m<=d.rank lv.length->m<=bd) (hI:DInv B d lv env tr hp ρ0 σ0 w0 A a w)
  (aN:j<lv.length) (lB:A j=false) (fW:∀ e∈d.ed.getD j [],A e=true) {A':Nat->Bool}(bn:∀ i,A' i=if i=j then true else A i) {K:Act->World->Prop}(hK:∀ a' w',DInv B d lv env tr hp ρ0 σ0 w0 A' a' w'->K a' w'):wpOpIn (FF ro) n P ops Q (pm.getD j 0) K a w:=by
 obtain⟨v,hv⟩:∃ v,lv[j]?=some v:=⟨_,z8 aN⟩;obtain⟨o,ho,hc,hk⟩:=hl.comp j v hv;obtain⟨cK,m,ρ,hm,o6,hH,hL,en,hE⟩:=hI;have nw:∀ i,i<j->d.lt i j=true->A i=true:=by
  intro i hi ai;obtain⟨e,he,h⟩:=hd.path j aN i hi ai;have nu:=hd.edge j aN e he;have ig:A e=true:=fW e he;rcases h with rfl|⟨h1,h2⟩
  .exact ig
  .exact NB hd cK e (by omega) ig i h1 h2
 have dM:∀ i,i<lv.length->j<i->d.lt j i=true->A i=false:=by
  intro i hi aL ai;cases hA:A i with
  |false=>rfl
  |true=>rw[NB hd cK i hi hA j aL ai] at lB;cases lB
 have ny:∀ x,x∈Y7 v->(EL lv env tr A lv.length)[x]?=(EL lv env tr (λ_=>true) j)[x]?:=by
  intro x hx;rw[<-NO lv env tr j lv.length (by omega)];refine US lv env tr x lv.length λl bk bH=>?_;cases bX:lv[l]? with
  |none=>rw[bX] at bH;cases bH
  |some u =>
   rw[bX] at bH;rcases Nat.lt_trichotomy l j with h|h|h
   .have ai:d.lt l j=true:=by
     cases ai:d.lt l j with
     |true=>rfl
     |false=>exact absurd hx ((hl.touch l j u v bX hv (hd.free j aN l h ai).1).1 x bH)
    simp_all
   .simp_all
   .have ai:d.lt j l=true:=by
     cases ai:d.lt j l with
     |true=>rfl
     |false=>exact absurd hx ((hl.touch j l v u hv bX (hd.free l bk j h ai).1).2 x bH)
    grind
 obtain⟨b,f1,f2,f3,tK,f4⟩:=hF v hv;have hw:Zr (EL lv env tr A lv.length) v.guard=some b:=by
  grind [Pz,PA]
 have jR:∀ x∈v.op.opds,Q6 (EL lv env tr A lv.length) x=Q6 (EL lv env tr (λ_=>true) j) x:=(by grind [PN,Ai]);obtain⟨dm,bH,bB⟩:=M1 hc hL hw;have eT:EL lv env tr A' lv.length=Jb (EL lv env tr A lv.length) v.dst (tr j):=by
  apply zN;intro x;by_cases hx:v.dst=some x
  .have h1:(EL lv env tr A' lv.length)[x]?=(EL lv env tr (λl=>decide (l<j+1)) lv.length)[x]?:=by
    refine US lv env tr x lv.length λl bk cy=>?_;rw[bn];by_cases iO:l=j
    .subst iO;simp
    .rw[z7 iO];cases bX:lv[l]? with
     |none=>rw[bX] at cy;cases cy
     |some u =>
      rw[bX] at cy;have ky:=A9 hx;rcases zr l j with h|h
      .have ai:d.lt l j=true:=by
        cases ai:d.lt l j with
        |true=>rfl
        |false=>exact absurd ky ((hl.touch l j u v bX hv (hd.free j aN l h ai).1).1 x cy)
       grind
      .have h':j<l:=by omega
       have ai:d.lt j l=true:=by
        cases ai:d.lt j l with
        |true=>rfl
        |false=>exact absurd ky ((hl.touch j l v u hv bX (hd.free l bk j h' ai).1).2 x cy)
       grind
   rw[h1,NO lv env tr (j+1) lv.length (by omega)];simp only[EL,zx,hv,xl,hx,Jb];rw[xE,xE];simp only[zx,WL]
  grind [UG,US]
 have cn:∀ i,i<lv.length->A' i=true->∀ e∈d.ed.getD i [],A' e=true:=by
  grind
 have qd:d.k j=2->d.rank j=m:=by
  intro aA;have h1:¬ d.rank j<m:=(by grind);by_cases h2:d.rank j=m
  .exact h2
  .obtain⟨l,iO,cP,dU⟩:=K7 d j m (by omega);have ai:d.lt l j=true:=by
    cases ai:d.lt l j with
    |true=>rfl
    |false=>exact absurd ⟨cP,aA⟩ (hd.free j aN l iO ai).2
   grind
 have jS:d.k j=2->∀ l,l<lv.length->d.k l=2->(A' l=true<->d.rank l<m+1):=by
  grind [Nat.lt_or_ge,Bg]
 have mI:d.k j≠2->∀ l,l<lv.length->d.k l=2->(A' l=true<->d.rank l<m):=by
  grind
 have lC:d.k j=2->m+1<=d.rank lv.length:=(by grind [Bg]);unfold wpOpIn;simp only[ho];cases b with
 |false =>
  rw[dm,z7 (by simp)];obtain⟨g1,g2⟩:=f4 rfl;refine⟨λf _=>AA _ _,hK _ _ ⟨cn,?_⟩⟩;by_cases aA:d.k j=2
  .grind [Jh,Wd,ZV]
  .grind [Jh,Wd,ZV]
 |true =>
  rw[dm,z6 rfl];by_cases aA:d.k j=2
  .have fg:=qd aA;have g1:=f2 rfl (hk▸aA);rw[fg] at g1;rw[<-S4 jR] at g1;refine Yx hS bB hH hL g1 λc w' ⟨u,ρ',U',⟨hu,hσ⟩,eB,gv,bT⟩=>hK _ _ ⟨cn,?_⟩;subst hu;subst hσ;refine⟨m+1,ρ',jS aA,lC aA,gv,?_,by rw[Jh];exact en.ext hH bT,hE.trans bT⟩;rw[eT,bH];exact Wd (bT.lrel hL) eB o.dst
  .have g2:∃ σ1,Q8 v.op (Q6 (EL lv env tr A lv.length)) (hp m)=some (tr j,σ1):=by
    rw[MS jR];by_cases aV:d.k j=1
    .obtain⟨⟨k1,k4⟩,k3,k2⟩:=hd.kmin j aN aV;refine f3 rfl (hk▸aV) m ?_ ?_ (mH m hm o6)
     .rcases zr m (d.kmin j) with h|h
      .obtain⟨l,bk,cP,dU⟩:=K7 d j m (by omega)
       grind
      .exact h
     .rcases zr (d.kmax j) m with h|h
      .obtain⟨l,bk,cP,dU⟩:=K7 d lv.length (d.kmax j) (by omega);have ai:=(k2 l bk cP).2.2 (by omega);have rU:=(hm l bk cP).2 (by omega);rcases Nat.lt_trichotomy j l with h'|h'|h'
       .simp_all
       .subst h';omega
       .exfalso;have ff:d.rank l<d.rank j:=Bg d h' cP;omega
      .exact h
    .have ll:v.op.kind=0:=by
      grind [Q0x]
     obtain⟨σ1,g1⟩:=tK rfl (by omega) (by omega);exact⟨hp m,BX ll g1⟩
   obtain⟨σ1,g2⟩:=g2;have hq:=NI (hk▸aA) g2;subst hq;refine Yx hS (K:=λv' U'=>v'=tr j/\U'=hp m) bB hH hL (by grind [Q1n]) λc w' ⟨u,ρ',U',⟨hu,hσ⟩,eB,gv,bT⟩=>hK _ _ ⟨cn,?_⟩;subst hu;subst hσ;refine⟨m,ρ',mI aA,o6,gv,?_,by rw[Jh];exact en.ext hH bT,hE.trans bT⟩;rw[eT,bH];exact Wd (bT.lrel hL) eB o.dst
theorem C8 (hS:OkSpecs P S) {ro:Option Nat}{n:Nat}{ops:Array Oper}{pm:List Nat}{d:DInfo}{lv:List VOper}(hl:DLink P ops pm d lv) (hd:DOk d lv.length) {env:Env}{tr:Nat->Value}{hp:Nat->Heap}
  {j:Nat}{v:VOper}(hv:lv[j]?=some v) (qe:v.op.kind=2) (vA:Zr (EL lv env tr (λ_=>true) j) v.guard=some true) {R:Value->Heap->Prop}(fT:vop S v.op (EL lv env tr (λ_=>true) j) (hp (d.rank j)) R)
  {Q:Exit->Act->World->Prop}{ρ0:Plc}{σ0:Heap}{w0:World}{A:Nat->Bool}{a:Act}{w:World}(hI:DInv B d lv env tr hp ρ0 σ0 w0 A a w) (rV:∀ l,j<=l->l<lv.length->A l=false)
  (aN:j<lv.length) (lB:A j=false) (fW:∀ e∈d.ed.getD j [],A e=true) {A':Nat->Bool}(bn:∀ i,A' i=if i=j then true else A i) {K:Act->World->Prop}
  (hK:∀ u U' a' w',R u U'->(∀ tr' bw,(∀ l,l<j->tr' l=tr l)->tr' j=u->(∀ r,r<=d.rank j->bw r=hp r)->bw (d.rank j+1)=U'->DInv B d lv env tr' bw ρ0 σ0 w0 A' a' w')->K a' w'):wpOpIn (FF ro) n P ops Q (pm.getD j 0) K a w:=by
 obtain⟨o,ho,hc,hk⟩:=hl.comp j v hv;obtain⟨cK,m,ρ,hm,o6,hH,hL,en,hE⟩:=hI;have nw:∀ i,i<j->d.lt i j=true->A i=true:=by
  intro i hi ai;obtain⟨e,he,h⟩:=hd.path j aN i hi ai;have nu:=hd.edge j aN e he;have ig:A e=true:=fW e he;rcases h with rfl|⟨h1,h2⟩
  .exact ig
  .exact NB hd cK e (by omega) ig i h1 h2
 have dM:∀ i,i<lv.length->j<i->d.lt j i=true->A i=false:=by
  grind
 have ny:∀ x,x∈Y7 v->(EL lv env tr A lv.length)[x]?=(EL lv env tr (λ_=>true) j)[x]?:=by
  intro x hx;rw[<-NO lv env tr j lv.length (by omega)];refine US lv env tr x lv.length λl bk bH=>?_;cases bX:lv[l]? with
  |none=>rw[bX] at bH;cases bH
  |some u =>
   rw[bX] at bH;rcases Nat.lt_trichotomy l j with h|h|h
   .have ai:d.lt l j=true:=by
     cases ai:d.lt l j with
     |true=>rfl
     |false=>exact absurd hx ((hl.touch l j u v bX hv (hd.free j aN l h ai).1).1 x bH)
    simp_all
   .simp_all
   .grind
 have hw:Zr (EL lv env tr A lv.length) v.guard=some true:=by
  grind [Pz,PA]
 have jR:∀ x∈v.op.opds,Q6 (EL lv env tr A lv.length) x=Q6 (EL lv env tr (λ_=>true) j) x:=(by grind [PN,Ai]);obtain⟨dm,bH,bB⟩:=M1 hc hL hw;have eT:∀ tr:Nat->Value,EL lv env tr A' lv.length=Jb (EL lv env tr A lv.length) v.dst (tr j):=λtr=>by
  apply zN;intro x;by_cases hx:v.dst=some x
  .have h1:(EL lv env tr A' lv.length)[x]?=(EL lv env tr (λl=>decide (l<j+1)) lv.length)[x]?:=by
    refine US lv env tr x lv.length λl bk cy=>?_;rw[bn];by_cases iO:l=j
    .subst iO;simp
    .rw[z7 iO];cases bX:lv[l]? with
     |none=>rw[bX] at cy;cases cy
     |some u =>
      rw[bX] at cy;have ky:=A9 hx;rcases zr l j with h|h
      .have ai:d.lt l j=true:=by
        cases ai:d.lt l j with
        |true=>rfl
        |false=>exact absurd ky ((hl.touch l j u v bX hv (hd.free j aN l h ai).1).1 x cy)
       grind
      .grind
   rw[h1,NO lv env tr (j+1) lv.length (by omega)];simp only[EL,zx,hv,xl,hx,Jb];rw[xE,xE];simp only[zx,WL]
  grind [UG,US]
 have cn:∀ i,i<lv.length->A' i=true->∀ e∈d.ed.getD i [],A' e=true:=by
  grind
 have qd:d.k j=2->d.rank j=m:=by
  intro aA;have h1:¬ d.rank j<m:=(by grind);by_cases h2:d.rank j=m
  .exact h2
  .obtain⟨l,iO,cP,dU⟩:=K7 d j m (by omega);have ai:d.lt l j=true:=by
    cases ai:d.lt l j with
    |true=>rfl
    |false=>exact absurd ⟨cP,aA⟩ (hd.free j aN l iO ai).2
   grind
 have jS:d.k j=2->∀ l,l<lv.length->d.k l=2->(A' l=true<->d.rank l<m+1):=by
  grind [Nat.lt_or_ge,Bg]
 have mI:d.k j≠2->∀ l,l<lv.length->d.k l=2->(A' l=true<->d.rank l<m):=by omega
 have lC:d.k j=2->m+1<=d.rank lv.length:=(by grind [Bg]);unfold wpOpIn;simp only[ho];rw[dm,z6 rfl];have aA:d.k j=2:=hk.trans qe;have fg:=qd aA;rw[fg,<-S4 jR] at fT;refine Yx hS bB hH hL fT λc w' ⟨u,ρ',U',hR,eB,gv,bT⟩=>hK u U' _ _ hR λtr' bw t1 t2 t3 t4=>⟨cn,m+1,ρ',jS aA,lC aA,?_,?_,?_,?_⟩
 .rw[<-fg,t4];exact gv
 .have e0:EL lv env tr' A lv.length=EL lv env tr A lv.length:=(by grind [Q3x,Nat.lt_or_ge]);rw[<-fg,t4,eT tr',e0,bH,t2];exact Wd (bT.lrel hL) eB o.dst
 .rw[Jh];exact en.ext hH bT
 .rw[<-fg,t4];exact hE.trans bT
theorem Q7w {ops:Array Oper}{pm:List Nat}{d:DInfo}{lv:List VOper}(_hl:DLink P ops pm d lv) {env:Env}{tr:Nat->Value}{hp:Nat->Heap}{ρ0:Plc}{σ0:Heap}{w0:World}{A:Nat->Bool}{a:Act}{w:World}
  (hI:DInv B d lv env tr hp ρ0 σ0 w0 A a w) (hall:∀ j,j<lv.length->A j=true):GN B (List.length env) ρ0 σ0 w0 (λae U'=>ae=EL lv env tr (λ_=>true) lv.length/\U'=hp (d.rank lv.length)) a w:=by
 obtain⟨cK,m,ρ,hm,o6,hH,hL,en,hE⟩:=hI;have fX:m=d.rank lv.length:=by
  rcases zr m (d.rank lv.length) with h|h
  .grind [K7]
  .omega
 subst fX;have e:=Yg lv env (tr:=tr) (tr':=tr) (A:=A) (B:=λ_=>true) lv.length (λ_ _=>rfl) (λl hl=>hall l hl);exact⟨_,ρ,_,⟨rfl,rfl⟩,WL _ _ _ _ _,hH,by rw[<-e];exact hL,en,hE⟩
def Fm (pm:List Nat) (d:DInfo) (n:Nat):(Nat->Bool)->List Nat->Prop
 |A,[]=>∀ p,p<n->A p=true
 |A,j::rest=>∃ p,p<n/\pm.getD p 0=j/\A p=false/\(∀ e∈d.ed.getD p [],A e=true)/\Fm pm d n (λq=>if q=p then true else A q) rest
theorem AN (hS:OkSpecs P S) {ro:Option Nat}{n:Nat}{ops:Array Oper}{pm:List Nat}{d:DInfo}{lv:List VOper}(hl:DLink P ops pm d lv) (hd:DOk d lv.length) {env:Env}{K:Env->Heap->Prop}
  {Q:Exit->Act->World->Prop}{ρ0:Plc}{σ0:Heap}{w0:World}{l2:List Nat}(hQ:∀ a w,GN B (List.length env) ρ0 σ0 w0 K a w->wpOpsIn (FF ro) n P ops Q l2 a w) {nd:List Nat}{i:Nat}{tr:Nat->Value}{hp:Nat->Heap}(tL:Know S d lv env K nd i tr hp) :
  ∀ (l:List Nat) (A:Nat->Bool) (a:Act) (w:World),Fm pm d lv.length A l->DInv B d lv env tr hp ρ0 σ0 w0 A a w->(∀ j,i<=j->j<lv.length->A j=false)->(∀ j,j∈nd->j<lv.length->A j=true)->wpOpsIn (FF ro) n P ops Q (l++l2) a w:=by
 induction tL with
 |full hF hK =>
  intro l;induction l with
  |nil =>intro A a w hs hI _ _;obtain⟨ae,ρ',U',⟨e1,e2⟩,n1⟩:=Q7w hl hI hs;exact hQ a w ⟨ae,ρ',U',by rw[e1,e2];exact hK,n1⟩
  |cons j rest ih =>
   intro A a w hs hI hA hN;obtain⟨p,bw,rfl,kz,he,a7⟩:=hs;rw[xw,wpOpsIn_cons];refine BK hS hl hd (hF p bw λh=>?_) (λm _ h=>h) hI bw kz he (λ_=>rfl) λa' w' nz=>ih _ a' w' a7 nz (λj h1 h2=>by omega) (λj hj e_=>?_)
   .rw[hN p h bw] at kz;cases kz
   .simp_all
 |part hv hk hw hF kn R fT I T H hT next o7 =>
  rename_i nd i tr hp v;have aQ:i<lv.length:=by
   grind
  intro l;induction l with
  |nil =>intro A a w hs hI hA _;have:=hs i aQ;rw[hA i (zd _) aQ] at this;cases this
  |cons j rest ih =>
   intro A a w hs hI hA hN;obtain⟨p,bw,rfl,kz,he,a7⟩:=hs;rw[xw,wpOpsIn_cons];have kV:d.k i=2:=by obtain⟨_,_,_,h⟩:=hl.comp i v hv;exact h.trans hk
   rcases Nat.lt_trichotomy p i with kA|rfl|kA
   .refine BK hS hl hd (hF p kA λh=>?_) (λm hm _=>?_) hI bw kz he (λ_=>rfl) λa' w' nz=>ih _ a' w' a7 nz (λj h1 h2=>?_) (λj hj e_=>?_)
    .rw[hN p h bw] at kz;cases kz
    .grind
    .grind
    simp_all
   .refine C8 hS hl hd hv hk hw fT hI hA bw kz he (λ_=>rfl) λu U' a' w' hR nz=>?_;obtain⟨q1,q2,q3,q4,q5⟩:=hT u U' hR;refine o7 u U' hR _ _ a' w' a7 (nz _ _ q2 q3 q4 q5) (λj h1 h2=>?_) (λj hj e_=>?_)
    .grind
    grind
   .exfalso;obtain⟨e,u,h1,h2,hu,hn⟩:=kn p kA bw;have kp:=z8 bw;have ai:d.lt e p=true:=by
     cases h:d.lt e p with
     |true=>rfl
     |false =>
      rcases hn with⟨x,hx,hn⟩|⟨gu,eU⟩
      .exact absurd (hn _ kp) ((hl.touch e p u _ hu kp (hd.free p bw e h2 h).1).1 x hx)
      .obtain⟨_,_,_,q1⟩:=hl.comp e u hu;obtain⟨_,_,_,q2⟩:=hl.comp p _ kp;exact absurd ⟨q1.trans gu,q2.trans (eU _ kp)⟩ (hd.free p bw e h2 h).2
    have ig:A e=true:=by
     obtain⟨e',o8,h3⟩:=hd.path p bw e h2 ai;have nB:=he e' o8;rcases h3 with rfl|⟨h3,h4⟩
     .exact nB
     .exact NB hd hI.closed e' (by have:=hd.edge p bw e' o8;omega) nB e h3 h4
    grind
def Y4 (ops:Array Oper):Array Bool->List Nat->Prop
 |L,[]=>∀ j,j<ops.size->L.getD j false=true
 |L,j::rest=>j∈Region.ready .any ops L/\Y4 ops (L.setIfInBounds j true) rest
theorem YT (L:Array Bool) (j i:Nat) (hj:j<L.size):(L.setIfInBounds j true).getD i false=if i=j then true else L.getD i false:=by
 by_cases h:i=j
 .subst h;simp[hj]
 .simp[h,Array.getElem?_setIfInBounds_ne (Ne.symm h)]
theorem Fi {ops:Array Oper}(iP:∀ (j:Nat) (o:Oper),ops[j]?=some o->∀ e∈Gg o,e<j) {L:Array Bool}(hs:L.size=ops.size) (h:Region.ready .any ops L=[]):∀ j,j<ops.size->L.getD j false=true:=by
 intro j;induction j using Nat.strongRecOn with
 |ind j ih =>
  intro hj;cases hA:L.getD j false with
  |true=>rfl
  |false =>
   exfalso;have:j∈Region.ready .any ops L:=by
    refine mem_ready.2 ⟨?_,ops[j],xF hj,λe he hb=>?_⟩
    .simp_all
    .have:=iP j ops[j] (xF hj) e.on (x7.2 (by grind));exact ih _ this (by omega)
   rw[h] at this;cases this
theorem D5 {ops:Array Oper}{L:Array Bool}(hs:L.size=ops.size) {j:Nat}(h:j∈Region.ready .any ops L):j<ops.size/\L.getD j false=false/\∃ o,ops[j]?=some o/\∀ e∈Gg o,L.getD e false=true:=by obtain⟨h1,o,ho,h2⟩:=mem_ready.1 h;have aN:j<ops.size:=(xH.1 ho).1;refine⟨aN,by simp[hs,aN] at h1 |-;exact h1,o,ho,λe he=>?_⟩;obtain⟨x,hx,rfl⟩:=x7.1 he;simp_all
theorem Q0b {ops:Array Oper}(iP:∀ (j:Nat) (o:Oper),ops[j]?=some o->∀ e∈Gg o,e<j):∀ (fuel t:Nat) (L:Array Bool),L.size=ops.size->cnt (λi=>L.getD i false) ops.size<=fuel ->
  Y4 ops L (Region.linearise.go .any ops fuel t L []):=by
 intro fuel;induction fuel with
 |zero =>intro t L hs hc;simp only[Region.linearise.go,List.reverse_nil,Y4];exact Ah (by omega)
 |succ fuel ih =>
  intro t L hs hc;simp only[Region.linearise.go]
  change Y4 ops L (match (Region.ready .any ops L)[t % (Region.ready .any ops L).length]? with
   |some i=>Region.linearise.go .any ops fuel (t / (Region.ready .any ops L).length) (L.setIfInBounds i true) [i]
   |none=>[].reverse)
  cases hi:(Region.ready .any ops L)[t % (Region.ready .any ops L).length]? with
  |none =>
   have gM:Region.ready .any ops L=[]:=by
    cases hr:Region.ready .any ops L with
    |nil=>rfl
    |cons x xs =>rw[hr] at hi;have ai:t % (x::xs).length<(x::xs).length:=wh _ (by simp);simp at hi;simp at ai;omega
   simp only[List.reverse_nil,Y4];exact Fi iP hs gM
  |some i =>
   simp only[];rw[linearise_go_acc,List.reverse_singleton,List.singleton_append];have kB:=xc hi;obtain⟨aQ,o9,_⟩:=D5 hs kB;refine⟨kB,ih _ _ (by simp[hs]) ?_⟩;have kC:i<L.size:=by rw[hs];exact aQ
   have:=Ft (A:=λi=>L.getD i false) (B:=λk=>(L.setIfInBounds i true).getD k false) (j:=i) o9 (by simp only[YT L i i kC,zx]) (λk hk=>by simp only[YT L i k kC,z7 hk]) ops.size aQ;omega
theorem LW {ops:Array Oper}:∀ (l:List Nat) (L:Array Bool),L.size=ops.size->Y4 ops L l->l.Nodup/\∀ j,j∈l<->(j<ops.size/\L.getD j false=false):=by
 intro l;induction l with
 |nil=>intro L hs h;exact⟨List.nodup_nil,λj=>⟨λh=>(by cases h),λ⟨h1,h2⟩=>by rw[h j h1] at h2;cases h2⟩⟩
 |cons i l ih =>
  intro L hs h;obtain⟨kB,h'⟩:=h;obtain⟨aQ,o9,_⟩:=D5 hs kB;have kC:i<L.size:=by rw[hs];exact aQ
  obtain⟨k1,k2⟩:=ih _ (by simp[hs]) h';refine⟨zO.2 ⟨λhm=>?_,k1⟩,λj=>?_⟩
  .simp_all
  .grind [YT]
structure DBase (ops:Array Oper) (d:DInfo):Prop where
 ed:∀ (j:Nat) (o:Oper),ops[j]?=some o->d.ed.getD j []=Gg o
 edge:∀ j,j<ops.size->∀ e∈d.ed.getD j [],e<j
 path:∀ j,j<ops.size->∀ i,i<j->d.lt i j=true->∃ e∈d.ed.getD j [],e=i\/(i<e/\d.lt i e=true)
 up:∀ i j,d.lt i j=true->i<j
 size:d.ks.length=ops.size
theorem Lr {ops:Array Oper}{d:DInfo}(hb:DBase ops d) {A:Nat->Bool}(hc:∀ j,j<ops.size->A j=true->∀ e∈d.ed.getD j [],A e=true):∀ j,j<ops.size->A j=true->∀ i,i<j->d.lt i j=true->A i=true:=by
 intro j;induction j using Nat.strongRecOn with
 |ind j ih =>
  intro hj hA i hi ai;obtain⟨e,he,h⟩:=hb.path j hj i hi ai;have nu:=hb.edge j hj e he;have ig:=hc j hj hA e he;rcases h with rfl|⟨h1,h2⟩
  .exact ig
  .exact ih e nu (by omega) ig i h1 h2
theorem Q2k {ops:Array Oper}{d:DInfo}(hb:DBase ops d):∀ (l:List Nat) (L:Array Bool),L.size=ops.size->(∀ j,j<ops.size->L.getD j false=true->∀ e∈d.ed.getD j [],L.getD e false=true)->Y4 ops L l ->
  l.Pairwise λj i=>d.lt i j=false:=by
 intro l;induction l with
 |nil=>intro L _ _ _;exact List.Pairwise.nil
 |cons j l ih =>
  intro L hs hc h;obtain⟨kB,h'⟩:=h;obtain⟨aQ,o9,o,ho,iP⟩:=D5 hs kB;have kC:j<L.size:=by rw[hs];exact aQ
  have cO:∀ k,k<ops.size->(L.setIfInBounds j true).getD k false=true->∀ e∈d.ed.getD k [],(L.setIfInBounds j true).getD e false=true:=by
   intro k hk hA e he;rw[YT L j e kC];split
   .rfl
   .rw[YT L j k kC] at hA;split at hA
    .rename_i tM;subst tM;rw[hb.ed _ o ho] at he;exact iP e he
    .exact hc k hk hA e he
  obtain⟨k1,k2⟩:=LW l _ (by simp[hs]) h';refine List.Pairwise.cons (λi hi=>?_) (ih _ (by simp[hs]) cO h');cases ai:d.lt i j with
  |false=>rfl
  |true =>
   exfalso;have cB:=hb.up i j ai;have hA:(L.setIfInBounds j true).getD j false=true:=by rw[YT L j j kC,z6 rfl]
   have:=Lr hb cO j aQ hA i cB ai;rw[((k2 i).1 hi).2] at this;cases this
theorem TE (lt:Nat->Nat->Bool):∀ (s l:List Nat) (n:Nat),s.Perm l->l.length<=n->s.Pairwise (λj i=>lt i j=false)->s∈exts lt n l:=by
 intro s;induction s with
 |nil =>intro l n hp hn _;have:l=[]:=hp.symm.eq_nil;subst this;cases n<;>simp[exts]
 |cons k s ih =>
  intro l n hp hn hs;have hk:k∈l:=hp.mem_iff.1 (by simp);cases l with
  |nil=>cases hk
  |cons x xs =>
   cases n with
   |zero=>simp at hn
   |succ n =>
    simp only[exts];refine List.mem_flatMap.2 ⟨k,hk,?_⟩;obtain⟨h1,h2⟩:=List.pairwise_cons.1 hs;have hall:((x::xs).all λi=>i==k||!lt i k)=true:=by
     grind
    rw[z6 hall];refine x7.2 ⟨s,ih _ n ?_ ?_ h2,rfl⟩
    .grind
    .simp_all
theorem Og {j:Nat}:∀ (a a' b b':List Nat),j∉a->j∉a'->a++j::b=a'++j::b'->a=a':=by
 intro a;induction a with
 |nil =>
  intro a' b b' _ h' h;cases a' with
  |nil=>rfl
  |cons x a'=>simp at h;exact(by simp_all)
 |cons x a ih =>
  intro a' b b' h1 h2 h;cases a' with
  |nil=>simp at h;exact(by simp_all)
  |cons y a' =>simp at h;obtain⟨rfl,h⟩:=h;rw[ih a' b b' (λhm=>h1 (by simp[hm])) (λhm=>h2 (by simp[hm])) h]
theorem Cz {ops:Array Oper}{d:DInfo}(hb:DBase ops d):∀ (l:List Nat) (L:Array Bool),L.size=ops.size->Y4 ops L l->∀ pre j post,l=pre++j::post->∀ e∈d.ed.getD j [],L.getD e false=true\/e∈pre:=by
 intro l;induction l with
 |nil=>intro L _ _ pre j post h;simp at h
 |cons i l ih =>
  intro L hs h pre j post he e iQ;obtain⟨kB,h'⟩:=h;obtain⟨aQ,o9,o,ho,iP⟩:=D5 hs kB;have kC:i<L.size:=by rw[hs];exact aQ
  cases pre with
  |nil =>simp at he;obtain⟨rfl,_⟩:=he;rw[hb.ed _ o ho] at iQ;exact .inl (iP e iQ)
  |cons x pre =>
   simp at he;obtain⟨rfl,he⟩:=he;rcases ih _ (by simp[hs]) h' pre j post he e iQ with h1|h1
   .grind [YT]
   .exact .inr (by simp[h1])
theorem SQ {d0 d:DInfo}{pm l:List Nat}(N:Nat) (hN:∀ i∈l,i<N) (ly:pm.Nodup) (iM:l.Nodup) (aW:∀ i,i∈pm<->i∈l) (cL:∀ pre j post,l=pre++j::post->∀ e∈d0.ed.getD j [],e∈l->e∈pre)
  (iP:∀ p,p<pm.length->d.ed.getD p []=Q12 d0 pm p) (hf:pm.filter (λi=>d0.k i==2)=l.filter (λi=>d0.k i==2)) :
  ∀ (post pre:List Nat),l=pre++post->Fm pm d pm.length (λq=>pre.contains (pm.getD q N)) post:=by
 intro post;induction post with
 |nil =>
  intro pre hl p hp;have hm:pm.getD p N∈pm:=by simp[ze,hp]
  have:=(aW _).1 hm;rw[hl,xA] at this;simpa using this
 |cons j post ih =>
  intro pre hl;have cQ:j∈l:=by rw[hl];simp
  have fg:=(aW j).2 cQ;have hp:pm.idxOf j<pm.length:=List.idxOf_lt_length_of_mem fg;have vB:pm[pm.idxOf j]'hp=j:=List.getElem_idxOf hp;have hg:∀ z,pm.getD (pm.idxOf j) z=j:=(by simp_all);have nC:j∉pre:=(by grind);refine⟨pm.idxOf j,hp,hg 0,by simp only[hg];simpa using nC,λe he=>?_,?_⟩
  .rw[iP _ hp] at he;rcases zR.1 he with he|he
   .obtain⟨e0,mD,rfl⟩:=x7.1 he
    grind
   .split at he
    .rename_i aA;rw[hg] at aA;obtain⟨hq,hk⟩:=xV.1 (List.mem_of_getLast? (Option.mem_toList.1 he));have dJ:e<pm.idxOf j:=zL.1 hq;have hel:e<pm.length:=by omega
     have heq:pm.getD e N=pm[e]'hel:=by simp[ze,hel]
     have qf:pm.getD e 0=pm[e]'hel:=by simp[ze,hel]
     rw[qf] at hk;simp only[heq];have fY:pm=pm.take (pm.idxOf j)++j::pm.drop (pm.idxOf j+1):=by
      grind [List.take_append_drop,List.drop_eq_getElem_cons]
     have rW:j∉pm.take (pm.idxOf j):=by
      grind
     have qg:(pm.take (pm.idxOf j)).filter (λi=>d0.k i==2)++j::(pm.drop (pm.idxOf j+1)).filter (λi=>d0.k i==2)=pre.filter (λi=>d0.k i==2)++j::post.filter (λi=>d0.k i==2):=by
      grind
     have:=Og _ _ _ _ (by grind) (by grind) qg;have aQ:pm[e]∈(pm.take (pm.idxOf j)).filter (λi=>d0.k i==2):=(by grind)
     grind
    .cases he
  .have qh:(λq=>if q=pm.idxOf j then true else pre.contains (pm.getD q N))=λq=>(pre++[j]).contains (pm.getD q N):=by
    grind
   rw[qh];exact ih (pre++[j]) (by rw[hl];simp)
theorem FC {ops:Array Oper}{vs:List VOper}(h:ops.toList.mapM (Zs P ops)=some vs) (al:(Yj ops.toList vs).okB=true):DBase ops (Yj ops.toList vs):=by
 have hlen:vs.length=ops.size:=by have:=(X7 _ _ _ h).1;simpa using this
 have mG:(Yj ops.toList vs).ks.length=ops.size:=by simp[Yj,hlen]
 have cI:=al;unfold DInfo.okB at cI;rw[z1,zg] at cI;obtain⟨vC,mZ⟩:=cI;have h0:∀ j,j<ops.size->(Yj ops.toList vs).okE j=true/\(Yj ops.toList vs).an.getD j 0<2 ^ j/\((List.range j).all λi=>!((Yj ops.toList vs).lt i j)||((Yj ops.toList vs).ed.getD j []).any (λe=>e==i||decide (i<e)&&(Yj ops.toList vs).lt i e))=true:=(by simp_all);have nD:∀ j,j<ops.size->∀ e∈(Yj ops.toList vs).ed.getD j [],e<j:=λj hj e he=>by have:=zf.1 (h0 j hj).1 e he;simpa using this
 refine⟨λj o ho=>by simp[Yj,ze,ho],nD,λj hj i hi ai=>?_,λi j ai=>?_,mG⟩
 .grind
 .rcases zr i j with h|h
  .exact h
  .exfalso;unfold DInfo.lt at ai
   grind [Nat.lt_or_ge,Nat.lt_of_lt_of_le,Nat.pow_le_pow_right,Nat.testBit_lt_two_pow,List.getElem?_eq_none]
theorem CJ {t:Nat}:∀ (l:List Nat),l.Pairwise (λj i=>¬ (i<t/\t<=j))->l=l.filter (λi=>decide (i<t))++l.filter (λi=>decide (t<=i))
 |[],_=>rfl
 |x::l,h=>by
  obtain⟨h1,h2⟩:=List.pairwise_cons.1 h;have ih:=CJ l h2;by_cases hx:x<t
  .grind
  .have rG:t<=x:=by omega
   have gM:l.filter (λi=>decide (i<t))=[]:=(by grind [List.filter_eq_nil_iff])
   grind
theorem BO (hS:OkSpecs P S) {ro:Option Nat}{n:Nat}{ops:Array Oper}{vs:List VOper}(ct:ops.toList.mapM (Zs P ops)=some vs) {d0:DInfo}(_hb:DBase ops d0) {l l2 idx pm:List Nat}(iM:l.Nodup) (ai:∀ i∈l,i<ops.size) (tN:∀ i,i∈l<->i∈idx)
  (cL:∀ pre j post,l=pre++j::post->∀ e∈d0.ed.getD j [],e∈l->e∈pre) (fX:Q4m d0 vs idx (l.filter λi=>d0.k i==2) pm=true)
  {env:Env}{U:Heap}{K:Env->Heap->Prop}{ρ:Plc}{w:World}{a:Act}(mJ:Z9 S ((Cg d0 vs pm).opers (YN vs pm) 0) env [U] U [] K) (hH:HRel ρ U w) (hL:LRel ρ U.n env a.tmps.toList) (en:Mks B a.defers w)
  {Q:Exit->Act->World->Prop}(hQ:∀ a' w',GN B (List.length env) ρ U w K a' w'->wpOpsIn (FF ro) n P ops Q l2 a' w'):wpOpsIn (FF ro) n P ops Q (l++l2) a w:=by
 have mV:vs.length=ops.size:=by have:=(X7 _ _ _ ct).1;simpa using this
 simp only[Q4m,z1,zg,zf,List.contains_iff_mem] at fX;obtain⟨m1,m2,m3,m4,m5⟩:=fX;have nE:∀ i,i∈pm<->i∈l:=(by grind);have kA:∀ i∈pm,i<vs.length:=(by simp_all);have hl:DLink P ops pm (Cg d0 vs pm) (YN vs pm):=DLink.of ct kA;have qi:(YN vs pm).length=pm.length:=by simp[YN]
 have mG:(Cg d0 vs pm).ks.length=(YN vs pm).length:=by simp[Cg]
 have hd:=DOk.of m5;rw[mG] at hd;have iP:∀ p,p<pm.length->(Cg d0 vs pm).ed.getD p []=Q12 d0 pm p:=λp hp=>by simp[Cg,ze,hp]
 have iR:=SQ (d:=Cg d0 vs pm) ops.size ai m3 iM nE cL iP m4 l [] (by simp);have fQ:∀ i v,(YN vs pm)[i]?=some v->(Cg d0 vs pm).k i=v.op.kind:=λi v hv=>(hl.comp i v hv).choose_spec.2.2;obtain⟨k,tr,hp,_,_,k2,k3⟩:=Q3l (Cg d0 vs pm) (YN vs pm) fQ env K (YN vs pm) 0 (by omega) rfl [] (λ_=>undef) (λ_=>U) [] (λl hl=>by omega) (λl hl=>by omega) (by simpa [DInfo.rank,EL] using mJ);have qj:hp 0=U:=k2 0 (by omega);have nF:(λq=>([]:List Nat).contains (pm.getD q ops.size))=λ_=>false:=by funext q;rfl
 rw[nF] at iR;refine AN (B:=B) (pm:=pm) hS hl hd hQ k3 l (λ_=>false) a w (by rw[qi];exact iR) ?_ (λ_ _ _=>rfl) (λj hj=>by cases hj) (ρ0:=ρ) (σ0:=U) (w0:=w)
 .refine⟨λj hj hA=>(by cases hA),0,ρ,λl bk hk=>by simp,by omega,by rw[qj];exact hH,?_,en,by rw[qj];exact Ext.refl _ _ _⟩;have e:EL (YN vs pm) env tr (λ_=>false) (YN vs pm).length=env:=by
   have:∀ m,EL (YN vs pm) env tr (λ_=>false) m=env:=by
    intro m;induction m with
    |zero=>rfl
    |succ m ih=>simp only[EL,zz,if_false];exact ih
   exact this _
  rw[e,qj];exact hL
theorem R0 (d:DInfo):∀ (lv:List VOper) (i:Nat),(∀ v∈lv,v.op.kind≠2)->∀ (env:Env) (U:Heap) (pend:List (Nat×(Heap->Prop))) (K:Env->Heap->Prop),P5 S lv env U K->Z9 S (d.opers lv i) env [U] U pend K:=by
 intro lv;induction lv with
 |nil=>intro i _ env U pend K h;exact h
 |cons v rest ih =>
  intro i hk env U pend K h;have aA:v.op.kind≠2:=hk v (by simp);have gw:∀ u∈rest,u.op.kind≠2:=λu hu=>hk u (by simp[hu]);simp only[P5] at h;simp only[DInfo.opers,Z9];cases hw:Zr env v.guard with
  |none=>rw[hw] at h;exact h.elim
  |some b =>
   rw[hw] at h;obtain⟨ht,hf⟩:=h;refine⟨λe=>?_,λe=>?_⟩
   .have ht:=ht e;have ln:∃ p,Q8 v.op (Q6 env) U=some p/\P5 S rest (Jb env v.dst p.1) p.2 K:=by
     have cR:∀ x:XOp,v.op=.ext x->(∀ y,x≠.nextMap y):=λx hx y hy=>by rw[hx,hy] at aA;exact aA rfl
     have:=ht;unfold vop at this;split at this
     .rename_i f bQ heq;rw[heq] at aA;exact absurd rfl aA
     .rename_i f bQ heq;rw[heq] at aA;exact absurd rfl aA
     .simp_all
     .cases dL:Q8 v.op (Q6 env) U with
      |none=>rw[dL] at this;exact this.elim
      |some p=>rw[dL] at this;exact⟨p,rfl,this⟩
    obtain⟨p,hp,hr⟩:=ln;have hq:p.2=U:=(by grind [NI]);rw[hq] at hr;rw[z7 aA];split
    .rw[hp];refine⟨λZ hτ=>?_,ih (i+1) gw _ _ _ _ hr⟩;have:Z=U:=by
      grind
     subst this;show QM (Q8 v.op (Q6 env) Z) _;rw[hp];rfl
    .rw[hp];exact ih (i+1) gw _ _ _ _ hr
   .simp_all
theorem I1 (hS:OkSpecs P S) {ro:Option Nat}{n:Nat}{ops:Array Oper}{vs:List VOper}(ct:ops.toList.mapM (Zs P ops)=some vs) {d0:DInfo}(hb:DBase ops d0) (_hk0:∀ i v,vs[i]?=some v->d0.k i=v.op.kind) {s len:Nat}(hlen:0<len) (gJ:s+len<=ops.size) {x:DSeg}(hx:Q6a d0 vs s len=some x)
  {l l2:List Nat}(iM:l.Nodup) (aW:∀ i,i∈l<->(s<=i/\i<s+len)) (cL:∀ pre j post,l=pre++j::post->∀ e∈d0.ed.getD j [],e∈l->e∈pre) (ju:l.Pairwise λj i=>d0.lt i j=false)
  {rest:List DSeg}{env:Env}{U:Heap}{K:Env->Heap->Prop}{ρ:Plc}{w:World}{a:Act}(h:VS S (x::rest) env U K) (hH:HRel ρ U w) (hL:LRel ρ U.n env a.tmps.toList) (en:Mks B a.defers w)
  {Q:Exit->Act->World->Prop}(hQ:∀ a' w',GN B (List.length env) ρ U w (λenv U=>VS S rest env U K) a' w'->wpOpsIn (FF ro) n P ops Q l2 a' w'):wpOpsIn (FF ro) n P ops Q (l++l2) a w:=by
 have mV:vs.length=ops.size:=by have:=(X7 _ _ _ ct).1;simpa using this
 unfold Q6a at hx;split at hx
 .rename_i h1;subst h1;obtain rfl:=osj hx;have hs:s<ops.size:=by omega
  have dS:l=[s]:=by
   have hm:∀ i,i∈l<->i=s:=λi=>by rw[aW i];omega
   have hp:l.Perm [s]:=(by grind);exact List.perm_singleton.1 hp
  subst dS;obtain⟨v,hv,hc⟩:=(X7 _ _ _ ct).2 s ops[s] (by simp[hs]);have hg:vs.getD s default=v:=by simp[ze,hv]
  simp only[VS,hg] at h;simp only[P5] at h;rw[List.singleton_append,wpOpsIn_cons];unfold wpOpIn;rw[xF hs];simp only;cases hw:Zr env v.guard with
  |none=>rw[hw] at h;exact h.elim
  |some b =>
   rw[hw] at h;obtain⟨ht,hf⟩:=h;obtain⟨dm,bH,bB⟩:=M1 hc hL hw;rw[dm];cases b with
   |false =>rw[z7 (by simp)];refine⟨λf _=>AA _ _,hQ _ _ ⟨_,ρ,U,hf rfl,Z8 _ _ _,hH,by rw[bH];exact Wd hL ZV _,by rw[Jh];exact en,Ext.refl _ _ _⟩⟩
   |true =>rw[z6 rfl];refine Yx hS bB hH hL (ht rfl) λc w' ⟨u,ρ',U',hK,eB,gv,hE⟩=>?_;exact hQ _ _ ⟨_,ρ',U',hK,Z8 _ _ _,gv,by rw[bH];exact Wd (hE.lrel hL) eB _,by rw[Jh];exact en.ext hH hE,hE⟩
 .rename_i gu;simp only at hx;split at hx
  .rename_i hP;obtain rfl:=osj hx;simp only[VS] at h;have nG:(l.filter λi=>d0.k i==2).Perm ((List.range' s len).filter λi=>d0.k i==2):=by
    grind [List.Perm.filter,List.perm_ext_iff_of_nodup,List.nodup_range']
   have hs:=TE d0.lt _ _ len nG (by
    refine zW (List.length_filter_le _ _) (by simp)) (ju.filter _)
   have fX:=zf.1 hP _ (x7.2 ⟨_,hs,rfl⟩);have mJ:=h _ (x7.2 ⟨_,x7.2 ⟨_,hs,rfl⟩,rfl⟩);exact BO hS ct hb iM (by grind) (by simp_all) cL fX mJ hH hL en (λa' w' hn=>by
    obtain⟨ae,ρ',U',⟨aR,σ2,hD,hR⟩,n1,n2,n3,n4,n5⟩:=hn;obtain⟨ρ2,d1,d2,d3⟩:=hD ρ w ρ' w' a'.tmps.toList hH n5 n2 n3;exact hQ a' w' ⟨aR,ρ2,σ2,hR,(d1.1.trans n3.1.symm).trans n1,d2,d1,n4,d3⟩)
  .cases hx
theorem AX (hS:OkSpecs P S) {ro:Option Nat}{n:Nat}{ops:Array Oper}{vs:List VOper}(ct:ops.toList.mapM (Zs P ops)=some vs) {d0:DInfo}(hb:DBase ops d0) (ll:∀ i v,vs[i]?=some v->d0.k i=v.op.kind)
  {Q:Exit->Act->World->Prop}{K:Env->Heap->Prop}:∀ (f s:Nat) (aT:List DSeg),Ie d0 vs f s=some aT->s<=ops.size->∀ (l:List Nat),l.Nodup->(∀ i,i∈l<->(s<=i/\i<ops.size)) ->
   (∀ pre j post,l=pre++j::post->∀ e∈d0.ed.getD j [],e∈l->e∈pre)->(l.Pairwise λj i=>d0.lt i j=false) ->
   ∀ (env:Env) (U:Heap) (ρ:Plc) (w:World) (a:Act),VS S aT env U K->HRel ρ U w->LRel ρ U.n env a.tmps.toList->Mks B a.defers w->(∀ a' w',GN B (List.length env) ρ U w K a' w'->Q .normal a' w') ->
   wpOpsIn (FF ro) n P ops Q l a w:=by
 intro f
 have fin:∀ (s:Nat) (aT:List DSeg),s=d0.ks.length->[]=aT->∀ (l:List Nat),(∀ i,i∈l<->(s<=i/\i<ops.size))->∀ (env:Env) (U:Heap) (ρ:Plc) (w:World) (a:Act),VS S aT env U K->HRel ρ U w->LRel ρ U.n env a.tmps.toList->Mks B a.defers w->(∀ a' w',GN B (List.length env) ρ U w K a' w'->Q .normal a' w') ->
   wpOpsIn (FF ro) n P ops Q l a w:=by
  intro s aT hs fG l aW env U ρ w a h hH hL en hQ;subst fG;have:l=[]:=by
   cases l with
   |nil=>rfl
   |cons x l =>have:=(aW x).1 (by simp);rw[hs,hb.size] at this;omega
  subst this;exact hQ a w ⟨env,ρ,U,h,rfl,hH,hL,en,Ext.refl _ _ _⟩
 induction f with
 |zero =>
  intro s aT fG hs l iM aW cL ju env U ρ w a h hH hL en hQ;simp only[Ie] at fG;split at fG
  .grind
  .cases fG
 |succ f ih =>
  intro s aT fG hs l iM aW cL ju env U ρ w a h hH hL en hQ;simp only[Ie] at fG;split at fG
  .grind
  .rename_i aK;split at fG
   .cases fG
   .rename_i t ht;have qk:=List.find?_some ht;have nH:=List.mem_range'_1.1 (List.mem_of_find?_eq_some ht);rw[hb.size] at nH;split at fG
    .rename_i x r hx hr;obtain rfl:=osj fG;have ai:∀ i p,i<t->t<=p->p<ops.size->d0.lt i p=true:=λi p hi hp ly=>by
      have h1:=zf.1 qk p (List.mem_range'_1.2 ⟨hp,by rw[hb.size];omega⟩);simp_all
     have ql:l.Pairwise (λj i=>¬ (i<t/\t<=j)):=by
      grind [List.pairwise_iff_forall_sublist]
     have fY:=CJ l ql;have mI:∀ i,i∈l.filter (λi=>decide (i<t))<->(s<=i/\i<s+(t-s)):=λi=>by rw[xV,aW i,zg];omega
     have jS:∀ i,i∈l.filter (λi=>decide (t<=i))<->(t<=i/\i<ops.size):=λi=>by rw[xV,aW i,zg];omega
     rw[fY];refine I1 hS ct hb ll (by omega) (by omega) hx (iM.filter _) mI ?_ (ju.filter _) h hH hL en ?_
     .grind
     .intro a' w' ⟨ae,ρ',U',k1,k0,k2,k3,k4,k5⟩;refine ih t r hr (by omega) _ (iM.filter _) jS ?_ (ju.filter _) ae U' ρ' w' a' k1 k2 k3 k4 ?_
      .intro pre j post he e iQ hel;have:=cL (l.filter (λi=>decide (i<t))++pre) j post (fY.trans (by rw[he,x6])) e iQ (xV.1 hel).1
       grind
      .intro a2 w2 ⟨aR,ρ2,σ2,m1,m0,m2,m3,m4,m5⟩;exact hQ a2 w2 ⟨aR,ρ2,σ2,m1,m0.trans k0,m2,m3,m4,k5.trans m5⟩
    .cases fG
theorem At (hm:P.follows .mixedOrders=true) (hS:OkSpecs P S) {ro:Option Nat}{n:Nat}{id:Nat}{ops:Array Oper}{vs:List VOper}(ct:ops.toList.mapM (Zs P ops)=some vs) {aT:List DSeg}(al:Q18 (Yj ops.toList vs) vs=some aT)
  {env:Env}{U:Heap}{K:Env->Heap->Prop}{ρ:Plc}{w:World}{a:Act}(h:VS S aT env U K) (hH:HRel ρ U w) (hL:LRel ρ U.n env a.tmps.toList) (en:Mks B a.defers w)
  {Q:Exit->Act->World->Prop}(hQ:∀ a' w',GN B (List.length env) ρ U w K a' w'->Q .normal a' w'):(Code.region id ops true).wpIn (FF ro) n P Q a w:=by
 unfold Q18 at al;split at al
 .rename_i hB;have hb:=FC ct hB;have fQ:∀ i v,vs[i]?=some v->(Yj ops.toList vs).k i=v.op.kind:=λi v hv=>by
   simp[DInfo.k,Yj,ze,hv]
  generalize pZ:Yj ops.toList vs=d0 at *
  refine wpIn_region_draw λt=>?_;simp only[Region.schedule,hm,Bool.true_or,zx];have fZ:∀ (j:Nat) (o:Oper),ops[j]?=some o->∀ e∈Gg o,e<j:=λj o ho e he=>hb.edge j (xH.1 ho).1 e (by rw[hb.ed j o ho];exact he);have hall:∀ i,(Array.replicate ops.size false).getD i false=false:=λi=>by rw[Array.getD_eq_getD_getElem?,Array.getElem?_replicate];split<;>rfl
  have gN:=Q0b fZ ops.size t (Array.replicate ops.size false) (by simp) (by
   have:∀ m,cnt (λi=>(Array.replicate ops.size false).getD i false) m<=m:=by
    intro m;induction m with
    |zero=>exact zd _
    |succ m ih=>simp only[cnt];split<;>omega
   exact this _)
  change wpOpsIn _ _ _ _ _ (Region.linearise.go .any ops ops.size t (Array.replicate ops.size false) []) _ _;generalize Region.linearise.go .any ops ops.size t (Array.replicate ops.size false) []=l at *
  obtain⟨eS,aW⟩:=LW l _ (by simp) gN;have ju:=Q2k hb l _ (by simp) (λj _ hA=>by rw[hall] at hA;cases hA) gN;have cL:=Cz hb l _ (by simp) gN;refine AX hS ct hb fQ _ 0 aT al (by omega) l eS (λi=>by rw[aW i,hall];simp) (λpre j post he e iQ _=>?_) ju env U ρ _ a h hH.drew hL (en.ext hH (Ext.drew _ _ _)) (λa' w' hn=>?_)
  .grind
  .obtain⟨ae,ρ',U',n0,n1,n2,n3,n4,n5⟩:=hn;exact hQ a' w' ⟨ae,ρ',U',n0,n1,n2,n3,n4,(Ext.drew _ _ _).trans n5⟩
 .cases al
theorem SY (hm:P.follows .mixedOrders=true) (hS:OkSpecs P S) {ro:Option Nat}{n:Nat}{id:Nat}{ops:Array Oper}{vs:List VOper}(ct:ops.toList.mapM (Zs P ops)=some vs) (al:UZ (Yj ops.toList vs) vs=true)
  {env:Env}{U:Heap}{K:Env->Heap->Prop}{ρ:Plc}{w:World}{a:Act}(h:P5 S vs env U K) (hH:HRel ρ U w) (hL:LRel ρ U.n env a.tmps.toList) (en:Mks B a.defers w)
  {Q:Exit->Act->World->Prop}(hQ:∀ a' w',GN B (List.length env) ρ U w K a' w'->Q .normal a' w'):(Code.region id ops true).wpIn (FF ro) n P Q a w:=by
 simp only[UZ,z1] at al;obtain⟨hB,qm,jl⟩:=al;have hb:=FC ct hB;have mV:vs.length=ops.size:=by have:=(X7 _ _ _ ct).1;simpa using this
 have aA:∀ v∈vs,v.op.kind≠2:=(by simp_all);have fQ:∀ i v,vs[i]?=some v->(Yj ops.toList vs).k i=v.op.kind:=λi v hv=>by simp[DInfo.k,Yj,ze,hv]
 generalize pZ:Yj ops.toList vs=d0 at *
 refine wpIn_region_draw λt=>?_;simp only[Region.schedule,hm,Bool.true_or,zx];have fZ:∀ (j:Nat) (o:Oper),ops[j]?=some o->∀ e∈Gg o,e<j:=λj o ho e he=>hb.edge j (xH.1 ho).1 e (by rw[hb.ed j o ho];exact he);have hall:∀ i,(Array.replicate ops.size false).getD i false=false:=λi=>by rw[Array.getD_eq_getD_getElem?,Array.getElem?_replicate];split<;>rfl
 have gN:=Q0b fZ ops.size t (Array.replicate ops.size false) (by simp) (by
  have:∀ m,cnt (λi=>(Array.replicate ops.size false).getD i false) m<=m:=by
   intro m;induction m with
   |zero=>exact zd _
   |succ m ih=>simp only[cnt];split<;>omega
  exact this _)
 change wpOpsIn _ _ _ _ _ (Region.linearise.go .any ops ops.size t (Array.replicate ops.size false) []) _ _;generalize Region.linearise.go .any ops ops.size t (Array.replicate ops.size false) []=l at *
 obtain⟨eS,aW⟩:=LW l _ (by simp) gN;have cL:=Cz hb l _ (by simp) gN;have ai:∀ i∈l,i<ops.size:=λi hi=>((aW i).1 hi).1;have gM:l.filter (λi=>d0.k i==2)=[]:=(by simp_all);have tO:YN vs (List.range' 0 d0.ks.length)=vs:=by
  apply zN;intro i;unfold YN;rw[xp];rcases zr i vs.length with hi|hi
  .rw[List.getElem?_range' (by rw[hb.size];omega),z8 hi];simp[ze,hi]
  .rw[zI (by simp[hb.size];omega),zI hi];rfl
 have hd:=R0 (S:=S) (Cg d0 vs (List.range' 0 d0.ks.length)) vs 0 aA env U [] K h;rw[<-xA l];refine BO hS ct hb eS ai (λi=>by rw[aW i,hall,List.mem_range'_1,hb.size];simp) (λpre j post he e iQ _=>?_) (idx:=List.range' 0 d0.ks.length) (pm:=List.range' 0 d0.ks.length) (by rw[gM];exact jl) (by rw[tO];exact hd) hH.drew hL (en.ext hH (Ext.drew _ _ _)) (λa' w' hn=>?_)
 .grind
 .obtain⟨ae,ρ',U',n0,n1,n2,n3,n4,n5⟩:=hn;exact hQ a' w' ⟨ae,ρ',U',n0,n1,n2,n3,n4,(Ext.drew _ _ _).trans n5⟩
theorem RZ (hS:OkSpecs P S) {id:Nat}{ops:Array Oper}{lv:List VOper}(bX:ops.toList.mapM (Zs P ops)=some lv):Sound P S (.region id ops false) (.region lv):=by
 intro B cJ ro n Q env U ρ w a h hH hL hd hR Q' hQ;simp only[vwp] at h;refine wpIn_region ?_;rw[List.range_eq_range',<-Array.length_toList,wpOpsIn_eq_wpListIn ops.toList 0 (by simp)]
 grind [AF]
theorem cond_true {v:Value}{A B:Prop}(h:Fu v A B):∃ t,v=.bool t/\(t=true->A)/\(t=false->B):=by
 unfold Fu at h;split at h
 .exact⟨_,rfl,h⟩
 .exact h.elim
theorem AE {c:Code}{vc:VCode}(ih:Sound P S c vc):Sound P S (.loop c) (.loop vc):=by
 intro B cJ ro n Q env U ρ w a h hH hL hd hR Q' hQ;simp only[vwp] at h;obtain⟨live,I,n0,h0,lD⟩:=h;refine wpIn_loop_ghost (λk a' w'=>GN B (List.length env) ρ U w (λae U'=>I k (GJ live ae) U') a' w') n0 ⟨env,ρ,U,h0,rfl,hH,hL,hd,Ext.refl _ _ _⟩ ?_;rintro k a1 w1 ⟨bj,ρ1,σ1,k1,k0,k2,k3,k4,k5⟩;have hlen:List.length (JM live (GJ live bj) (List.replicate env.length poison))=List.length env:=by rw[TU];simp
 refine ih cJ ro n _ _ σ1 ρ1 w1 a1 (lD k (GJ live bj) σ1 k1) k2 (Aq live bj _ _ k3 (E4 _ (by rw[<-k3.1,k0]))) k4 (hR.ext k5) _ ?_;rintro e a2 w2 ⟨aR,ρ2,σ2,m1,m0,m2,m3,m4,m5⟩;rw[hlen] at m0;cases e with
 |normal =>obtain⟨n',mK,hI⟩:=m1;exact⟨n',mK,aR,ρ2,σ2,hI,m0,m2,m3,m4,k5.trans m5⟩
 |_=>exact hQ _ a2 w2 ⟨aR,ρ2,σ2,m1,m0,m2,m3,m4,k5.trans m5⟩
theorem N8 (c:Code):Sound P S c .bad:=by intro B cJ ro n Q env U ρ w a h;exact h.elim
theorem E1 (hm:P.follows .mixedOrders=true) (hS:OkSpecs P S):∀ (c:Code) (vc:VCode),comp P c=some vc->Sound P S c vc:=by
 intro c;induction c with
 |skip =>intro vc hc;simp[comp] at hc;subst hc;intro B cJ ro n Q env U ρ w a h hH hL hd hR Q' hQ;exact wpIn_skip (hQ _ _ _ ⟨env,ρ,U,h,rfl,hH,hL,hd,Ext.refl _ _ _⟩)
 |region id ops dr =>
  intro vc hc;cases dr with
  |false =>simp only[comp,zJ,x3] at hc;obtain⟨lv,bX,hc⟩:=hc;simp at hc;subst hc;exact RZ hS bX
  |true =>
   simp only[comp,zJ,x3] at hc;obtain⟨lv,bX,hc⟩:=hc;split at hc
   .rename_i al;simp at hc;subst hc;intro B cJ ro n Q env U ρ w a h hH hL hd hR Q' hQ;exact SY hm hS bX al h hH hL hd (λa' w' hn=>hQ .normal a' w' hn)
   split at hc
   .rename_i aT al;simp at hc;subst hc;intro B cJ ro n Q env U ρ w a h hH hL hd hR Q' hQ;exact At hm hS bX al h hH hL hd (λa' w' hn=>hQ .normal a' w' hn)
   .simp at hc;subst hc;exact N8 _
 |seq x y kD o_ =>
  intro vc hc;simp only[comp,zJ,x3] at hc;obtain⟨vx,hx,vy,hy,hc⟩:=hc;simp at hc;subst hc;intro B cJ ro n Q env U ρ w a h hH hL hd hR Q' hQ;simp only[vwp] at h;refine wpIn_seq (kD vx hx cJ ro n _ env U ρ w a h hH hL hd hR _ ?_);rintro e a1 w1 ⟨bj,ρ1,σ1,k1,k0,k2,k3,k4,k5⟩;cases e with
  |normal =>refine o_ vy hy cJ ro n _ bj σ1 ρ1 w1 a1 k1 k2 k3 k4 (hR.ext k5) _ ?_;rintro e2 a2 w2 ⟨aR,ρ2,σ2,m1,m0,m2,m3,m4,m5⟩;exact hQ e2 a2 w2 ⟨aR,ρ2,σ2,m1,m0.trans k0,m2,m3,m4,k5.trans m5⟩
  |_=>exact hQ _ a1 w1 ⟨bj,ρ1,σ1,k1,k0,k2,k3,k4,k5⟩
 |cond c x y kD o_ =>
  intro vc hc;simp only[comp] at hc;split at hc
  .rename_i al;simp only[zJ,x3] at hc;obtain⟨vx,hx,vy,hy,hc⟩:=hc;simp at hc;subst hc;intro B cJ ro n Q env U ρ w a h hH hL hd hR Q' hQ;simp only[vwp] at h;obtain⟨t,ht,h1,h2⟩:=cond_true h;have hv:=X3 hL al;rw[ht] at hv;refine wpIn_cond_split hv.q1e (λe=>?_) (λe=>?_)
   .exact kD vx hx cJ ro n Q env U ρ w a (h1 e) hH hL hd hR Q' hQ
   .exact o_ vy hy cJ ro n Q env U ρ w a (h2 e) hH hL hd hR Q' hQ
  .simp at hc;subst hc;exact N8 _
 |block id x kD =>
  intro vc hc;simp only[comp,zJ,x3] at hc;obtain⟨vx,hx,hc⟩:=hc;simp at hc;subst hc;intro B cJ ro n Q env U ρ w a h hH hL hd hR Q' hQ;simp only[vwp] at h;refine wpIn_block (kD vx hx cJ ro n _ env U ρ w a h hH hL hd hR _ ?_);rintro e a1 w1 ⟨bj,ρ1,σ1,k1,k0,k2,k3,k4,k5⟩;cases e with
  |exit iz =>
   simp only[CL] at k1;simp only[Exit.inBlock];split at k1
   .rename_i he;rw[z6 he];exact hQ _ a1 w1 ⟨bj,ρ1,σ1,k1,k0,k2,k3,k4,k5⟩
   .rename_i he;rw[z7 he];exact hQ _ a1 w1 ⟨bj,ρ1,σ1,k1,k0,k2,k3,k4,k5⟩
  |_=>exact hQ _ a1 w1 ⟨bj,ρ1,σ1,k1,k0,k2,k3,k4,k5⟩
 |loop x kD =>intro vc hc;simp only[comp,zJ,x3] at hc;obtain⟨vx,hx,hc⟩:=hc;simp at hc;subst hc;exact AE (kD vx hx)
 |rangeFunc g ps x y kD o_ =>
  intro vc hc;simp only[comp] at hc;split at hc
  .rename_i al;simp only[zJ,x3] at hc
   grind [Ll]
  .simp at hc;subst hc;exact N8 _
 |exit id =>intro vc hc;simp[comp] at hc;subst hc;intro B cJ ro n Q env U ρ w a h hH hL hd hR Q' hQ;exact wpIn_exit (hQ _ _ _ ⟨env,ρ,U,h,rfl,hH,hL,hd,Ext.refl _ _ _⟩)
 |ret =>intro vc hc;simp[comp] at hc;subst hc;intro B cJ ro n Q env U ρ w a h hH hL hd hR Q' hQ;exact wpIn_ret (hQ _ _ _ ⟨env,ρ,U,h,rfl,hH,hL,hd,Ext.refl _ _ _⟩)
 |_ =>intro vc hc;simp[comp] at hc;subst hc;exact N8 _
end
end Go.V
namespace Go.V
open Go
inductive Ren (n:Nat) (π:Nat->Nat):Value->Value->Prop
 |plain (v:Value) (h:QA v=true):Ren n π v v
 |poison (c:Value):Ren n π poison c
 |glob (g o s:Nat):Ren n π (.pointer (some ⟨g,o,some s⟩)) (.pointer (some ⟨g,o,some s⟩))
 |ptr (i o:Nat) (hi:i<n):Ren n π (.pointer (some ⟨i,o,none⟩)) (.pointer (some ⟨π i,o,none⟩))
 |sl (i o len cap:Nat) (hi:i<n):Ren n π (.slice (some ⟨i,o,none⟩) len cap) (.slice (some ⟨π i,o,none⟩) len cap)
 |slx (i o len cap:Nat) (hi:i<n):Ren n π (.slice (some ⟨i,o,some 0⟩) len cap) (.slice (some ⟨π i,o,some 0⟩) len cap)
 |map (i:Nat) (hi:i<n):Ren n π (.map (some i)) (.map (some (π i)))
 |iface (t:TypeId) (v c:Value) (h:Ren n π v c):Ren n π (.iface t v) (.iface t c)
 |yield (i:Nat) (hi:i<n):Ren n π (.func (.yield i) #[] #[]) (.func (.yield (π i)) #[] #[])
 |func (fn:FuncId) (fs gs cs ds:Array Value) (hf:fs.size=gs.size) (hc:cs.size=ds.size)
   (h1:∀ i (h1:i<fs.size) (h2:i<gs.size),Ren n π fs[i] gs[i]) (h2:∀ i (h1:i<cs.size) (h2:i<ds.size),Ren n π cs[i] ds[i]):Ren n π (.func (.func fn) fs cs) (.func (.func fn) gs ds)
 |agg (cs ds:Array Value) (hc:cs.size=ds.size) (h:∀ i (h1:i<cs.size) (h2:i<ds.size),Ren n π cs[i] ds[i]):Ren n π (.agg cs) (.agg ds)
 |tuple (cs ds:Array Value) (hc:cs.size=ds.size) (h:∀ i (h1:i<cs.size) (h2:i<ds.size),Ren n π cs[i] ds[i]):Ren n π (.tuple cs) (.tuple ds)
def LRen (n:Nat) (π:Nat->Nat) (vs cs:List Value):Prop:=vs.length=cs.length/\∀ (i:Nat) (v c:Value),vs[i]?=some v->cs[i]?=some c->Ren n π v c
theorem Ren.rel {ρ:Plc}{nf n':Nat}{π:Nat->Nat}{v' v:Value}(h:Ren n' π v' v):∀ {c:Value},VRel ρ nf v c->VRel (λi=>if i<n' then ρ (π i) else none) n' v' c:=by
 induction h with
 |plain v h =>intro c hv;have:c=v:=XK h hv;subst this;exact JE h
 |poison c=>intro c _;exact .poison _
 |glob g o s=>intro c hv;cases hv;exact .glob _ _ _
 |ptr i o hi =>intro c hv;obtain⟨a,rfl,_,h⟩:=hv.q1i;exact .ptr _ _ _ hi (by simp_all)
 |sl i o len cap hi =>intro c hv;obtain⟨a,ao,rfl,_,h⟩:=hv.q1d;exact .sl _ _ _ _ _ _ hi (by simp_all)
 |slx i o len cap hi =>
  intro c hv;cases hv with
  |slx _ _ _ _ a _ h=>exact .slx _ _ _ _ _ hi (by simp_all)
 |map i hi =>
  intro c hv;cases hv with
  |map _ r _ h=>exact .map _ _ hi (by simp_all)
 |yield i hi =>
  intro c hv;cases hv with
  |yield _ r _ h=>exact .yield _ _ hi (by simp_all)
 |iface t v c h ih =>
  intro c hv;cases hv with
  |iface _ _ _ h=>exact .iface _ _ _ (ih h)
 |func fn fs gs cs ds hf hc h1 h2 mw my =>
  intro c hv;cases hv with
  |func _ _ vD _ ds' qn cO ij fh =>exact .func _ _ _ _ _ (hf.trans qn) (hc.trans cO) (by simp_all) (by simp_all)
 |agg cs ds hc h ih =>
  intro c hv;cases hv with
  |agg _ ds' cO h'=>exact .agg _ _ (hc.trans cO) (by simp_all)
 |tuple cs ds hc h ih =>
  intro c hv;cases hv with
  |tuple _ ds' cO h'=>exact .tuple _ _ (hc.trans cO) (by simp_all)
theorem VRel.ren {ρ:Plc}{n n':Nat}{π:Nat->Nat}(hn:n<=n') (hπ:∀ i,i<n->π i=i) {v c:Value}(h:VRel ρ n v c):Ren n' π v v:=by
 induction h with
 |poison c=>exact .poison _
 |bool b=>exact .plain _ rfl
 |int k x=>exact .plain _ rfl
 |string s=>exact .plain _ rfl
 |nilPtr=>exact .plain _ rfl
 |nilSl=>exact .plain _ rfl
 |nilMap=>exact .plain _ rfl
 |nilFunc=>exact .plain _ rfl
 |nilIface=>exact .plain _ rfl
 |glob g o s=>exact .glob _ _ _
 |ptr i o a hi h=>have:=Ren.ptr (n:=n') (π:=π) i o (by omega);rwa [hπ i hi] at this
 |sl i o len cap a ao hi h=>have:=Ren.sl (n:=n') (π:=π) i o len cap (by omega);rwa [hπ i hi] at this
 |slx i o len cap a hi h=>have:=Ren.slx (n:=n') (π:=π) i o len cap (by omega);rwa [hπ i hi] at this
 |map i r hi h=>have:=Ren.map (n:=n') (π:=π) i (by omega);rwa [hπ i hi] at this
 |yield i r hi h=>have:=Ren.yield (n:=n') (π:=π) i (by omega);rwa [hπ i hi] at this
 |iface t v c _ ih=>exact .iface _ _ _ ih
 |func fn fs gs cs ds hf hc _ _ mw my=>exact .func _ _ _ _ _ rfl rfl (λi k1 _=>mw i k1 (by omega)) (λi k1 _=>my i k1 (by omega))
 |agg cs ds hc _ ih=>exact .agg _ _ rfl λi k1 _=>ih i k1 (by omega)
 |tuple cs ds hc _ ih=>exact .tuple _ _ rfl λi k1 _=>ih i k1 (by omega)
theorem LRen.rel {ρ:Plc}{nf n':Nat}{π:Nat->Nat}{cG vs:List Value}(h:LRen n' π cG vs) {cs:List Value}(hL:LRel ρ nf vs cs):LRel (λi=>if i<n' then ρ (π i) else none) n' cG cs:=by
 refine⟨h.1.trans hL.1,λi v c hv hc=>?_⟩;have ai:i<vs.length:=by rw[<-h.1];grind
 exact(h.2 i v _ hv (z8 ai)).rel (hL.2 i _ c (z8 ai) hc)
theorem LRel.ren {ρ:Plc}{n n':Nat}{π:Nat->Nat}(hn:n<=n') (hπ:∀ i,i<n->π i=i) {vs cs:List Value}(h:LRel ρ n vs cs):LRen n' π vs vs :=
 ⟨rfl,λi v u hv hu=>by
  obtain rfl:v=u:=osj (hv.symm.trans hu);obtain⟨c,_,hc⟩:=h.get hv;exact hc.ren hn hπ⟩
def ORen (n:Nat) (π:Nat->Nat):VObj->VObj->Prop
 |.map es clock,.map fs lE=>clock=lE/\es.length=fs.length/\∀ (k:Nat) (a b:ZZ),es[k]?=some a->fs[k]?=some b->a.1=b.1/\a.2.2=b.2.2/\Ren n π a.2.1 b.2.1
 |.iter m since seen last,.iter m' lF nJ nK=>m'=π m/\m<n/\since=lF/\seen=nJ/\last=nK
 |.lp env r st pend,.lp ae r' kg bM=>LRen n π env ae/\r=r'/\st=kg/\pend=bM
 |.siter s pos,.siter s' pos'=>s=s'/\pos=pos'
 |_,_=>False
theorem ORen.rel {ρ:Plc}{nf n':Nat}{π:Nat->Nat}{o' o:VObj}(h:ORen n' π o' o) {O:Obj}(hO:ORel ρ nf o O):ORel (λi=>if i<n' then ρ (π i) else none) n' o' O:=by
 cases o'<;>cases o<;>try exact h.elim
 .obtain⟨rfl,hl,hk⟩:=h;obtain⟨entries,h1,h2,h3⟩:=hO;refine⟨entries,h1,by rw[hl];exact h2,λk a ha=>?_⟩;have cP:=(zu.1 ha).1;rw[hl] at cP;obtain⟨e,he,h4,h5,h6⟩:=h3 k _ (z8 cP);obtain⟨k1,k2,k3⟩:=hk k a _ ha (z8 cP);exact⟨e,he,h4.trans k1.symm,h5.trans k2.symm,k3.rel h6⟩
 .obtain⟨rfl,hm,rfl,rfl,rfl⟩:=h;obtain⟨rm,h1,h2⟩:=hO;exact⟨rm,h1,(Ren.map _ hm).rel h2⟩
 .obtain⟨hl,rfl,rfl,rfl⟩:=h;exact⟨hO.1,hl.rel hO.2⟩
 .obtain⟨rfl,rfl⟩:=h;exact hO
theorem ORel.ren {ρ:Plc}{n n':Nat}{π:Nat->Nat}(hn:n<=n') (hπ:∀ i,i<n->π i=i) {o:VObj}{O:Obj}(h:ORel ρ n o O):ORen n' π o o:=by
 cases o with
 |map es clock =>obtain⟨entries,h1,h2,h3⟩:=h;refine⟨rfl,rfl,λk a b ha hb=>?_⟩;obtain rfl:a=b:=osj (ha.symm.trans hb);obtain⟨e,_,_,_,hv⟩:=h3 k a ha;exact⟨rfl,rfl,hv.ren hn hπ⟩
 |iter m since seen last =>
  obtain⟨rm,h1,h2⟩:=h;cases h2 with
  |map _ _ hi _=>exact⟨(hπ m hi).symm,by omega,rfl,rfl,rfl⟩
 |siter s pos=>exact⟨rfl,rfl⟩
 |lp env r st pend=>exact⟨h.2.ren hn hπ,rfl,rfl,rfl⟩
def BRen (n:Nat) (π:Nat->Nat):Blk->Blk->Prop
 |.cells c esz wr tight,.cells d nL lj iS=>esz=nL/\wr=lj/\tight=iS/\LRen n π c d
 |.obj o wr,.obj o' lj=>wr=lj/\ORen n π o o'
 |_,_=>False
theorem BRen.wr {n:Nat}{π:Nat->Nat}{b c:Blk}(h:BRen n π b c):b.wr=c.wr:=by cases b<;>cases c<;>first|(exact h.elim)|exact h.2.1|exact h.1
theorem BRen.rel {ρ:Plc}{nf n':Nat}{π:Nat->Nat}{p:Pl}{w:World}{b' b:Blk}(h:BRen n' π b' b) (hB:BRel ρ nf p w b):BRel (λi=>if i<n' then ρ (π i) else none) n' p w b':=by
 cases b' with
 |cells c esz wr tight =>
  cases b with
  |cells d nL lj iS =>
   obtain⟨rfl,rfl,rfl,hl⟩:=h;obtain⟨h1,h2,h3,h4,h5,h6⟩:=hB;refine⟨h1,h2,by rw[hl.1];exact h3,h4,λk v hk=>?_,h6⟩;have cP:k<d.length:=by rw[<-hl.1];grind
   obtain⟨u,hu,hv⟩:=h5 k _ (z8 cP);exact⟨u,hu,(hl.2 k v _ hk (z8 cP)).rel hv⟩
  |obj _ _=>exact h.elim
 |obj o wr =>
  cases b with
  |cells _ _ _ _=>exact h.elim
  |obj o' lj =>obtain⟨rfl,ho⟩:=h;obtain⟨h0,O,h1,h2⟩:=hB;exact⟨h0,O,h1,ho.rel h2⟩
def VObj.plain:VObj->Bool
 |.map es _=>es.all λkv=>QA kv.2.1
 |_=>false
def Blk.plain:Blk->Bool
 |.cells c _ _ _=>c.all QA
 |.obj o _=>o.plain
theorem LRen.plain {n:Nat}{π:Nat->Nat}{c:List Value}(h:c.all QA=true):LRen n π c c :=
 ⟨rfl,λi v u hv hu=>by
  obtain rfl:v=u:=osj (hv.symm.trans hu);exact .plain _ (by grind)⟩
theorem BRen.plain {n:Nat}{π:Nat->Nat}{b:Blk}(h:b.plain=true):BRen n π b b:=by
 cases b with
 |cells c esz wr tight=>exact⟨rfl,rfl,rfl,LRen.plain h⟩
 |obj o wr =>
  cases o with
  |map es clock =>refine⟨rfl,rfl,rfl,λk a b ha hb=>?_⟩;obtain rfl:a=b:=osj (ha.symm.trans hb);exact⟨rfl,rfl,.plain _ (zf.1 h a (xc ha))⟩
  |_=>cases h
theorem BRel.ren {ρ:Plc}{n n':Nat}{π:Nat->Nat}(hn:n<=n') (hπ:∀ i,i<n->π i=i) {p:Pl}{w:World}{b:Blk}(h:BRel ρ n p w b):BRen n' π b b:=by
 cases b with
 |cells c esz wr tight =>refine⟨rfl,rfl,rfl,rfl,λi v u hv hu=>?_⟩;obtain rfl:v=u:=osj (hv.symm.trans hu);obtain⟨_,_,tP⟩:=h.2.2.2.2.1 i v hv;exact tP.ren hn hπ
 |obj o wr =>obtain⟨_,O,_,ho⟩:=h;exact⟨rfl,ho.ren hn hπ⟩
def DropTo (σ0:Heap) (v:Value) (σf:Heap) (v':Value) (U':Heap):Prop :=
 ∀ ρ0 w0 ρ w c,HRel ρ0 σ0 w0->Ext ρ0 σ0 w0 ρ σf w->HRel ρ σf w->VRel ρ σf.n v c->∃ ρ',VRel ρ' U'.n v' c/\HRel ρ' U' w/\Ext ρ0 σ0 w0 ρ' U' w
theorem DropTo.refl (σ0:Heap) (v:Value) (σf:Heap):DropTo σ0 v σf v σf:=λ_ _ ρ _ _ _ hE hH hv=>⟨ρ,hv,hH,hE⟩
theorem DropTo.rename {σ0 σf U':Heap}{v v':Value}(π:Nat->Nat) (h1:σ0.n<=U'.n)
  (h2:∀ i,i<σ0.n->π i=i/\U'.get i=σf.get i/\(σf.get i=σ0.get i\/(∃ b,σf.get i=some b/\b.plain=true)\/σf.get i=none))
  (h3:∀ i,σ0.n<=i->i<U'.n->σ0.n<=π i/\∃ b' b,U'.get i=some b'/\σf.get (π i)=some b/\BRen U'.n π b' b)
  (h4:∀ i j,σ0.n<=i->i<U'.n->σ0.n<=j->j<U'.n->π i=π j->i=j) (h5:Ren U'.n π v' v):DropTo σ0 v σf v' U':=by
 intro ρ0 w0 ρ w c fS hE hH hv;have hπ:∀ i,i<σ0.n->π i=i:=λi hi=>(h2 i hi).1;have aC:∀ i b',U'.get i=some b'->∃ b,σf.get (π i)=some b/\BRen U'.n π b' b:=λi b' hb=>by
  have hi:=U'.lt hb;rcases zr i σ0.n with ai|bu
  .obtain⟨k1,k2,k3⟩:=h2 i ai;rw[k1];rw[k2] at hb;refine⟨b',hb,?_⟩;rcases k3 with k3|⟨b,k3,k4⟩|k3
   .rw[k3] at hb;obtain⟨p,_,hB⟩:=fS.live i b' hb;exact hB.ren h1 hπ
   .grind [osj,BRen.plain]
   .rw[k3] at hb;cases hb
  grind
 have dN:∀ i j,i<U'.n->j<U'.n->π i=π j->i=j:=(by grind);have hX:Ext ρ0 σ0 w0 (λi=>if i<U'.n then ρ (π i) else none) U' w:=by
  refine⟨hE.os,hE.tape,hE.output,hE.size,hE.keep,?_,h1,λi hi p hp=>?_⟩
  .rintro B hB ⟨i,p,b,hp,hb,hw,rfl⟩;change (if i<U'.n then ρ (π i) else none)=some p at hp;split at hp
   .obtain⟨b0,bI,bP⟩:=aC i b hb;exact hE.wr _ hB ⟨π i,p,b0,hp,bI,by rw[<-bP.wr];exact hw,rfl⟩
   .cases hp
  .change (if i<U'.n then ρ (π i) else none)=some p at hp;split at hp
   .rw[hπ i hi] at hp;exact hE.pl i hi p hp
   .cases hp
 refine⟨λi=>if i<U'.n then ρ (π i) else none,h5.rel hv,fS.ext ⟨λi b' hb=>?_,λi hi=>?_,λi p hp=>?_,λi j p q b cB hp hq hb hw hx=>?_⟩ hX,hX⟩
 .obtain⟨b,bI,bP⟩:=aC i b' hb;obtain⟨p,hp,hB⟩:=hH.live _ b bI;exact⟨p,by simp[U'.lt hb,hp],bP.rel hB⟩
 .show (if i<U'.n then ρ (π i) else none)=none;split
  .rename_i ai;rcases zr i σ0.n with cS|bu
   .obtain⟨k1,k2,_⟩:=h2 i cS;rw[k1];exact hH.dead i (by rw[<-k2];exact hi)
   grind
  .rfl
 .change (if i<U'.n then ρ (π i) else none)=some p at hp;split at hp
  .exact hH.lt _ p hp
  .cases hp
 .change (if i<U'.n then ρ (π i) else none)=some p at hp;change (if j<U'.n then ρ (π j) else none)=some q at hq;split at hp
  .rename_i hi;split at hq
   .rename_i hj;obtain⟨b0,bI,bP⟩:=aC i b hb;exact hH.sep (π i) (π j) p q b0 (λe=>cB (dN i j hi hj e)) hp hq bI (by rw[<-bP.wr];exact hw) hx
   .cases hq
  .cases hp
def Agree (σ0 σf:Heap):Prop:=∀ i,i<σ0.n->σf.get i=σ0.get i
theorem Agree.refl (U:Heap):Agree U U:=λ_ _=>rfl
theorem Agree.push {σ0 U:Heap}(h:Agree σ0 U) (hn:σ0.n<=U.n) (b:Blk):Agree σ0 (U.push b):=λi hi=>(Heap.q0g U b (by omega)).trans (h i hi)
theorem Agree.trans {σ0 σ1 σ2:Heap}(h:Agree σ0 σ1) (k:Agree σ1 σ2) (hn:σ0.n<=σ1.n):Agree σ0 σ2:=λi hi=>(k i (by omega)).trans (h i hi)
section
variable {P:Program}{S:VSpecs}
def YL (tmps:Array Value):ResultVar->Sem Value
 |.tmp t=>pure (tmps.getD t undef)
 |.cell a t=>do loadVar t (<-asAddr (tmps.getD a undef))
theorem PC (fn:Func) (tmps:Array Value):results fn tmps=(do
  let vs <-fn.results.mapM (YL tmps)
  pure (if h:vs.size=1 then vs[0] else .tuple vs)):=by
 unfold results;congr 1
theorem R6 {ρ:Plc}{U:Heap}{w:World}{env:Env}{tmps:Array Value}(hH:HRel ρ U w) (hL:LRel ρ U.n env tmps.toList) {r:ResultVar}{vr:VResult}
  (hc:ZW P r=some vr) {v:Value}(h:ZO env U vr=some v):∃ c,VRel ρ U.n v c/\(YL tmps r).run P w=.ok c w:=by
 have af:∀ t,VRel ρ U.n (env.getD t undef) (tmps.getD t undef):=λt=>X3 (a:=⟨tmps,[]⟩) hL (x:=.tmp t) rfl;cases r with
 |tmp t =>simp[ZW] at hc;subst hc;simp only[ZO,xe] at h;subst h;exact⟨_,af t,rfl⟩
 |cell a t =>
  simp only[ZW] at hc;split at hc
  .rename_i i d hi hu;simp at hc;subst hc;simp only[ZO,zk] at h;obtain⟨p,hp,rfl⟩:=h;simp only[Q8,Q6] at hp;have ha:=af a;split at hp
   .rename_i g o s h1;rw[h1] at ha;split at hp
    .rename_i c hb;split at hp
     .rename_i hall;split at hp
      .rename_i v0 hv;simp at hp;subst hp;obtain⟨u,cC,hr⟩:=L4 hH hi hu hb hall hv ha;refine⟨u,cC,?_⟩;have:=hr w (Like.refl ρ w);have nM:tmps.getD a undef=.pointer (some ⟨g,o,none⟩):=by
        generalize tmps.getD a undef=c at ha;cases ha;rfl
       rw[nM] at this;simp only[Instr.loadAt,Instr.sureAddr,zy,xg,zi] at this;simp only[YL,nM,asAddr,zy,xg,zi];exact this
      .cases hp
     .cases hp
    .cases hp
   .rename_i i' o h1;rw[h1] at ha;split at hp
    .rename_i c esz wr tight hb;split at hp
     .rename_i v0 hv;simp at hp;subst hp;obtain⟨u,cC,hr⟩:=CF hH hi hu hb hv ha;refine⟨u,cC,?_⟩;have:=hr w (Like.refl ρ w);obtain⟨ad,nM,_⟩:=ha.q1i;rw[nM] at this;simp only[Instr.loadAt,Instr.sureAddr,zy,xg,zi] at this;simp only[YL,nM,asAddr,zy,xg,zi];exact this
     .cases hp
    .cases hp
   .cases hp
  .cases hc
theorem LC {α:Type}{ρ:Plc}{n:Nat}(g:α->Sem Value) (w:World) (f:α->Option Value):∀ (l:List α) (vs:List Value),l.mapM f=some vs ->
  (∀ a∈l,∀ v,f a=some v->∃ c,VRel ρ n v c/\(g a).run P w=.ok c w)->∃ cs,LRel ρ n vs cs/\(l.mapM g).run P w=.ok cs w:=by
 intro l;induction l with
 |nil=>intro vs h _;simp at h;subst h;exact⟨[],LRel.nil _ _,rfl⟩
 |cons a l ih =>
  intro vs h hg;rw[xd] at h;cases hf:f a with
  |none=>simp[hf] at h
  |some v =>
   cases hm:l.mapM f with
   |none=>simp[hf,hm] at h
   |some cG =>simp[hf,hm] at h;subst h;obtain⟨c,jv,jx⟩:=hg a (by simp) v hf;obtain⟨cs,qo,cY⟩:=ih cG hm (λb hb=>hg b (by simp[hb]));refine⟨c::cs,LRel.cons jv qo,?_⟩;rw[xd];simp[jx,cY]
theorem Hs {ρ:Plc}{U:Heap}{w:World}{env:Env}{tmps:Array Value}(hH:HRel ρ U w) (hL:LRel ρ U.n env tmps.toList) {fn:Func}{rs:List VResult}
  (hc:K3 P fn.results.toList=some rs) {v:Value}(h:J1 env U rs=some v):∃ c,VRel ρ U.n v c/\(results fn tmps).run P w=.ok c w:=by
 unfold K3 at hc;have hall:∀ vs,rs.mapM (ZO env U)=some vs->∃ cs,LRel ρ U.n vs cs/\(fn.results.mapM (YL tmps)).run P w=.ok cs.toArray w:=by
  intro vs ct;have nN:fn.results.toList.mapM (λr=>(ZW P r).bind (ZO env U))=some vs:=by
   have:∀ (l:List ResultVar) (rs:List VResult) (vs:List Value),l.mapM (ZW P)=some rs->rs.mapM (ZO env U)=some vs->l.mapM (λr=>(ZW P r).bind (ZO env U))=some vs:=by
    intro l;induction l with
    |nil=>intro rs vs h1 h2;simp at h1;subst h1;simpa using h2
    |cons r l ih =>
     intro rs vs h1 h2;rw[xd] at h1;cases hg:ZW P r with
     |none=>simp[hg] at h1
     |some x =>
      cases hm:l.mapM (ZW P) with
      |none=>simp[hg,hm] at h1
      |some bq =>
       simp[hg,hm] at h1;subst h1;rw[xd] at h2;cases hx:ZO env U x with
       |none=>simp[hx] at h2
       |some y =>
        cases jS:bq.mapM (ZO env U) with
        |none=>simp[hx,jS] at h2
        |some cG =>simp[hx,jS] at h2;subst h2;rw[xd];simp[hg,hx,ih bq cG hm jS]
   exact this _ _ _ hc ct
  obtain⟨cs,k1,k2⟩:=LC (P:=P) (ρ:=ρ) (n:=U.n) (YL tmps) w _ _ _ nN (λr _ v hv=>by
   cases hr:ZW P r with
   |none=>rw[hr] at hv;cases hv
   |some vr=>rw[hr] at hv;exact R6 hH hL hr hv)
  refine⟨cs,k1,?_⟩;rw[Array.mapM_eq_mapM_toList];simp[k2]
 unfold J1 at h;split at h
 .rename_i r;obtain⟨cs,k1,k2⟩:=hall [v] (by simp[h]);have bR:cs.length=1:=by rw[<-k1.1];rfl
  obtain⟨c,rfl⟩:=z_.1 bR;refine⟨c,k1.2 0 v c rfl rfl,?_⟩;rw[PC];simp_all
 .rename_i aK;simp only[zk] at h;obtain⟨vs,ct,rfl⟩:=h;obtain⟨cs,k1,k2⟩:=hall vs ct;refine⟨.tuple cs.toArray,VRel.q0j k1,?_⟩;have hl:cs.length≠1:=by
   rw[<-k1.1,(X7 _ _ _ ct).1]
   grind [List.length_eq_one_iff]
  rw[PC];simp_all
theorem Sx {ρ:Plc}{n:Nat}(k:Nat):LRel ρ n (List.replicate k undef) (List.replicate k undef) :=
 ⟨rfl,(by grind [osj,List.mem_of_getElem?,ZV])⟩
theorem GU {w:World}{D:Nat}{ds:List Deferred}(h:w.heap[D]?=some (.deferred (some ds))):(Instr.takeDeferred D).run P w=.ok ds (Da w D (.deferred none)):=by simp[Instr.takeDeferred,Qt h (λ_ _ _ e=>by cases e),Qw h (λ_ _ _ e=>by cases e)]
theorem Ext.mark {ρ0 ρ:Plc}{σ0 U:Heap}{w0 w:World}(hE:Ext ρ0 σ0 w0 ρ U w) {D:Nat}(hD:w0.heap.size<=D) (O:Obj):Ext ρ0 σ0 w0 ρ U (Da w D O) :=
 ⟨hE.os,hE.tape,hE.output,by rw[NY];exact hE.size,λB hB hW=>(Wu w D O B (by omega)).trans (hE.keep B hB hW),hE.wr,hE.n,hE.pl⟩
theorem HRel.mark {ρ:Plc}{U:Heap}{w:World}(hH:HRel ρ U w) {D:Nat}{d:Option (List Deferred)}(hD:w.heap[D]?=some (.deferred d)) (O:Obj):HRel ρ U (Da w D O) :=
 hH.world (by rw[NY];exact zd _) (λi p hp=>Wu w D O p.blk (hH.q0p hD i p hp)) λg cs hg=>Wu w D O g λe=>by obtain⟨⟨e',f,h1⟩,_⟩:=hH.tab g cs hg;rw[e,hD] at h1;cases h1
theorem Sq {fn:Func}{tmps:Array Value}{R:Ending->World->Prop}{ρ0:Plc}{σ0:Heap}{w0:World}{ρ:Plc}{U:Heap}
  (qp:∀ w,HRel ρ U w->Ext ρ0 σ0 w0 ρ U w->∃ v,(results fn tmps).run P w=.ok v w/\R (.returned v) w) :
  ∀ (Ds:List Nat) (w:World),Ds.Nodup->(∀ D∈Ds,w0.heap.size<=D/\w.heap[D]?=some (.deferred (some [])))->HRel ρ U w->Ext ρ0 σ0 w0 ρ U w ->
   LeavesInM Fence.wide 0 P fn tmps R (Ds.map λD=>⟨.collected D,#[]⟩) .returning w:=by
 intro Ds;induction Ds with
 |nil=>intro w _ _ hH hE;exact qp w hH hE
 |cons D Ds ih =>intro w eS hall hH hE;obtain⟨h1,h2⟩:=zO.1 eS;obtain⟨h3,h4⟩:=hall D (by simp);refine⟨by simp,.inl ⟨D,_,rfl,GU h4,ih _ h2 (λE bT=>?_) (hH.mark h4 _) (hE.mark h3 _)⟩⟩;obtain⟨k1,k2⟩:=hall E (by simp[bT]);exact⟨k1,by grind [Wu]⟩
theorem Gl (hm:P.follows .mixedOrders=true) (hS:OkSpecs P S) {f:FuncId}{fn:Func}{c:Code}{vc:VCode}{rs:List VResult}(hf:P.funcs[f]?=some fn) (hb:fn.body=some c) (hc:comp P c=some vc) (hr:K3 P fn.results.toList=some rs)
  {args:List Value}{U:Heap}{R:Value->Heap->Prop}(h:vwp S vc none (Q3s rs λv σf=>∃ v' U',DropTo U v σf v' U'/\R v' U') (args++List.replicate (fn.ntmps-args.length) undef) U):VCallsTo P f args U R:=by
 intro ρ w au hH hL;refine callsIn_wide.1 (callsIn_of_wp_marks (n:=0) hf hb trivial (E1 hm hS c vc hc (B:=w.heap.size) none none 0 _ _ U ρ w _ h hH ?_ (Mks.nil (zd _)) (.inl ⟨rfl,rfl⟩) _ ?_) rfl)
 .have hl:args.length=au.size:=by have:=hL.1;simpa using this
  have:=hL.append (Sx (ρ:=ρ) (n:=U.n) (fn.ntmps-args.length));simpa [hl] using this
 .intro e a' w' ⟨ae,ρ',U',k1,_,k2,k3,⟨_,Ds,k4,k6,k7⟩,k5⟩;have fin:(QM (J1 ae U' rs) λv=>∃ v' aI,DropTo U v U' v' aI/\R v' aI)->LeavesInM Fence.wide 0 P fn a'.tmps (λe w'=>∃ c,e=.returned c/\Got ρ U w R c w') a'.defers .returning w':=by
   intro hk;rw[k4];refine Sq (λw1 jq fE=>?_) Ds w' k6 k7 k2 k5;cases hv:J1 ae U' rs with
   |none=>rw[hv] at hk;exact hk.elim
   |some v =>rw[hv] at hk;obtain⟨v',aI,hd,hR⟩:=hk;obtain⟨c,jv,jx⟩:=Hs jq k3 hr hv;obtain⟨eM,j1,j2,j3⟩:=hd ρ w ρ' w1 c hH fE jq jv;exact⟨c,jx,c,rfl,v',eM,aI,hR,j1,j2,j3⟩
  cases e with
  |normal=>exact fin k1
  |ret=>exact fin k1
  |_=>exact k1.elim
end
end Go.V
namespace Go.V
open Go
def Fun (P:Program) (f:FuncId) (vc:VCode) (rs:List VResult) (nt:Nat):Prop :=
 ∃ fn,P.funcs[f]?=some fn/\fn.body.bind (comp P)=some vc/\K3 P fn.results.toList=some rs/\fn.ntmps=nt/\(fn.name=="runtime.NumGoroutine")=false
def Q4l (U:Heap) (rs:List VResult) (R:Value->Heap->Prop):Exit->Env->Heap->Prop:=Q3s rs λv σf=>∃ v' U',DropTo U v σf v' U'/\R v' U'
section
variable {P:Program}{S:VSpecs}{f:FuncId}{vc:VCode}{rs:List VResult}{nt:Nat}
theorem Fun.calls (h:Fun P f vc rs nt) (hm:P.follows .mixedOrders=true) (hS:OkSpecs P S) {args:List Value}{U:Heap}{R:Value->Heap->Prop}
  (hw:vwp S vc none (Q4l U rs R) (args++List.replicate (nt-args.length) undef) U):VCalled P f args U R:=by
 obtain⟨fn,h1,h2,h3,h4,h5⟩:=h;cases hb:fn.body with
 |none=>rw[hb] at h2;cases h2
 |some c =>rw[hb] at h2;exact VCallsTo.called ⟨fn,h1,by rw[hb];rfl,h5⟩ (Gl hm hS h1 hb h2 h3 (by rw[h4];exact hw))
theorem Fun.enterable (h:Fun P f vc rs nt):ZT P f:=by
 obtain⟨fn,h1,h2,h3,h4,h5⟩:=h;refine⟨fn,h1,?_,h5⟩;cases hb:fn.body with
 |none=>rw[hb] at h2;cases h2
 |some c=>rfl
theorem Fun.callsTo (h:Fun P f vc rs nt) (hm:P.follows .mixedOrders=true) (hS:OkSpecs P S) {args:List Value}{U:Heap}{R:Value->Heap->Prop}
  (hw:vwp S vc none (Q4l U rs R) (args++List.replicate (nt-args.length) undef) U):VCallsTo P f args U R:=by
 obtain⟨fn,h1,h2,h3,h4,h5⟩:=h;cases hb:fn.body with
 |none=>rw[hb] at h2;cases h2
 |some c =>rw[hb] at h2;exact Gl hm hS h1 hb h2 h3 (by rw[h4];exact hw)
def Q5 (P:Program):VSpecs where
 fn f:=some λargs U K=>VCalled P f args U K
 yl i:=some λargs U K=>BD P i args U K
 it f:=@ite _ (ZT P f) (Classical.propDecidable _) (some λi Y args U K=>Yr P i Y->VCallsTo P f args U K) none
theorem T_:OkSpecs P (Q5 P) :=
  ⟨λf s h => by obtain rfl:=osj h; exactλargs U K h => h,
   λf s h => by obtain rfl:=osj h; exactλargs U K h => h,
   λf T h => by
    simp only [Q5] at h;split at h
    . rename_i he; obtain rfl:=osj h; exact ⟨he, λi Y hY args U K h => h hY⟩
    . cases h⟩
end
end Go.V
namespace Go.V
open Go
inductive EB where
 |cells (c:List Value) (esz:El) (wr tight:Bool)
 |map (es:List ZZ) (clock:Nat) (wr:Bool)
 |iter (m since:Nat) (seen:List Nat) (last:Nat)
 |lp (st:LoopState) (pend:Option Code)
 |siter (s:ByteArray) (pos:Nat)
inductive GT (α:Type) where
 |nil
 |node (v:α) (l r:GT α)
def GT.get {α:Type}(d:α) (t:GT α):Nat->α :=
 GT.rec (motive:=λ_=>Nat->α) (λ_=>d)
  (λv _ _ gl gr i=>Bool.rec (motive:=λ_=>α) (Bool.rec (motive:=λ_=>α) (gr (i / 2-1)) (gl (i / 2)) (Nat.beq (i % 2) 1)) v (Nat.beq i 0)) t
def GT.set {α:Type}(d:α) (f:Nat):GT α->Nat->α->GT α :=
 Nat.rec (motive:=λ_=>GT α->Nat->α->GT α) (λt _ _=>t)
  (λ_ ih t i b=>GT.rec (motive:=λ_=>GT α)
   (Bool.rec (motive:=λ_=>GT α) (Bool.rec (motive:=λ_=>GT α) (.node d .nil (ih .nil (i / 2-1) b)) (.node d (ih .nil (i / 2) b) .nil) (Nat.beq (i % 2) 1)) (.node b .nil .nil) (Nat.beq i 0))
   (λv l r _ _=>Bool.rec (motive:=λ_=>GT α) (Bool.rec (motive:=λ_=>GT α) (.node v l (ih r (i / 2-1) b)) (.node v (ih l (i / 2) b) r) (Nat.beq (i % 2) 1)) (.node b l r) (Nat.beq i 0)) t) f
theorem GT.q0z {α:Type}(d v:α) (l r:GT α) (k:Nat):(GT.node v l r).get d k=if k=0 then v else if k % 2=1 then l.get d (k / 2) else r.get d (k / 2-1):=by
 show (Bool.rec (motive:=λ_=>α) (Bool.rec (motive:=λ_=>α) (r.get d (k / 2-1)) (l.get d (k / 2)) (Nat.beq (k % 2) 1)) v (Nat.beq k 0))=_;by_cases h0:k=0
 .subst h0;rfl
 .have:Nat.beq k 0=false:=by
   cases h:Nat.beq k 0 with
   |false=>rfl
   |true=>exact absurd (zP h) h0
  rw[this,z7 h0];by_cases h1:k % 2=1
  .rw[z6 h1,h1];rfl
  .have:Nat.beq (k % 2) 1=false:=by
    cases h:Nat.beq (k % 2) 1 with
    |false=>rfl
    |true=>exact absurd (zP h) h1
   rw[this,z7 h1]
theorem GT.q2i {α:Type}(d v:α) (f:Nat) (l r:GT α) (i:Nat) (b:α):(GT.node v l r).set d (f+1) i b=if i=0 then .node b l r else if i % 2=1 then .node v (l.set d f (i / 2) b) r else .node v l (r.set d f (i / 2-1) b):=by
 show (Bool.rec (motive:=λ_=>GT α) (Bool.rec (motive:=λ_=>GT α) (.node v l (r.set d f (i / 2-1) b)) (.node v (l.set d f (i / 2) b) r) (Nat.beq (i % 2) 1)) (.node b l r) (Nat.beq i 0))=_;by_cases h0:i=0
 .subst h0;rfl
 .have:Nat.beq i 0=false:=by
   cases h:Nat.beq i 0 with
   |false=>rfl
   |true=>exact absurd (zP h) h0
  rw[this,z7 h0];by_cases h1:i % 2=1
  .rw[z6 h1,h1];rfl
  .have:Nat.beq (i % 2) 1=false:=by
    cases h:Nat.beq (i % 2) 1 with
    |false=>rfl
    |true=>exact absurd (zP h) h1
   rw[this,z7 h1]
theorem GT.set_nil {α:Type}(d:α) (f i:Nat) (b:α):(GT.nil:GT α).set d (f+1) i b=(GT.node d .nil .nil).set d (f+1) i b:=rfl
theorem GT.q1f {α:Type}(d:α):∀ (f:Nat) (t:GT α) (i:Nat) (b:α) (j:Nat),i+1<2 ^ f->(t.set d f i b).get d j=if j=i then b else t.get d j:=by
 intro f;induction f with
 |zero=>intro t i b j h;simp at h
 |succ f ih =>
  intro t i b j h;have hp:2 ^ (f+1)=2*2 ^ f:=by rw[Nat.pow_succ];omega
  have gx:∀ v l r,((GT.node v l r).set d (f+1) i b).get d j=if j=i then b else (GT.node v l r).get d j:=by
   intro v l r;rw[GT.q2i];by_cases hi:i=0
   .subst hi;rw[z6 rfl,GT.q0z,GT.q0z];split<;>rfl
   .rw[z7 hi];by_cases ho:i % 2=1
    .rw[z6 ho,GT.q0z,GT.q0z,ih _ _ _ _ (by omega)];by_cases h_:j=0
     .subst h_;rw[z6 rfl,z7 (Ne.symm hi),z6 rfl]
     .rw[z7 h_,z7 h_];by_cases dp:j % 2=1
      .rw[z6 dp,z6 dp];by_cases aL:j=i
       .subst aL;simp
       .rw[z7 aL,z7 (by omega)]
      .rw[z7 dp,z7 dp,z7 (by rintro rfl;exact dp ho)]
    .rw[z7 ho,GT.q0z,GT.q0z,ih _ _ _ _ (by omega)];by_cases h_:j=0
     .subst h_;rw[z6 rfl,z7 (Ne.symm hi),z6 rfl]
     .rw[z7 h_,z7 h_];by_cases dp:j % 2=1
      .rw[z6 dp,z6 dp,z7 (by rintro rfl;exact ho dp)]
      .rw[z7 dp,z7 dp];by_cases aL:j=i
       .subst aL;simp
       .rw[z7 aL,z7 (by omega)]
  cases t with
  |node v l r=>exact gx v l r
  |nil =>
   rw[GT.set_nil,gx d .nil .nil,GT.q0z];split
   .rfl
   .split
    .rfl
    .split<;>rfl
structure CH where
 t:GT (Option EB)
 n:Nat
def CH.get (h:CH) (i:Nat):Option EB:=Bool.rec (motive:=λ_=>Option EB) none (h.t.get none i) (Nat.blt i h.n)
def CH.upd (h:CH) (i:Nat) (b:EB):CH:=⟨h.t.set none 32 i (some b),h.n⟩
def CH.kill (h:CH) (i:Nat):CH:=⟨h.t.set none 32 i none,h.n⟩
def CH.push (h:CH) (b:EB):CH:=⟨h.t.set none 32 h.n (some b),h.n+1⟩
def CH.room (h:CH):Bool:=Nat.ble h.n 1000000000
def CH.empty:CH:=⟨.nil,0⟩
theorem CH.q0y {h:CH}{i:Nat}(hi:i<h.n):h.get i=h.t.get none i:=by unfold CH.get;rw[show Nat.blt i h.n=true from Nat.ble_eq_true_of_le hi]
theorem CH.q0u {h:CH}{i:Nat}(hi:h.n<=i):h.get i=none:=by
 unfold CH.get;cases hb:Nat.blt i h.n with
 |false=>rfl
 |true=>have:=zF hb;omega
theorem CH.q2m {h:CH}{i:Nat}{b:EB}(hi:i<h.n) (hs:h.n<=1000000001) (j:Nat):(h.upd i b).get j=if j=i then some b else h.get j:=by
 rcases zr j h.n with hj|hj
 .rw[CH.q0y (h:=h.upd i b) hj,CH.q0y hj];exact GT.q1f none 32 _ _ _ _ (by omega)
 .rw[CH.q0u (h:=h.upd i b) hj,CH.q0u hj,z7 (by omega)]
theorem CH.q2j {h:CH}{i:Nat}(hi:i<h.n) (hs:h.n<=1000000001) (j:Nat):(h.kill i).get j=if j=i then none else h.get j:=by
 rcases zr j h.n with hj|hj
 .rw[CH.q0y (h:=h.kill i) hj,CH.q0y hj];exact GT.q1f none 32 _ _ _ _ (by omega)
 .rw[CH.q0u (h:=h.kill i) hj,CH.q0u hj];simp
theorem CH.q1s {h:CH}{b:EB}(hs:h.n<=1000000001) (j:Nat):(h.push b).get j=if j=h.n then some b else h.get j:=by
 rcases zr j (h.n+1) with hj|hj
 .rw[CH.q0y (h:=h.push b) hj];show (h.t.set none 32 h.n (some b)).get none j=_;rw[GT.q1f none 32 _ _ _ _ (by omega)];split
  .rfl
  .rw[CH.q0y (by omega)]
 .rw[CH.q0u (h:=h.push b) hj,CH.q0u (by omega),z7 (by omega)]
def EB.to (q:Env×Loop):EB->Blk
 |.cells c e w t=>.cells c e w t
 |.map es cl w=>.obj (.map es cl) w
 |.iter m s sn l=>.obj (.iter m s sn l) true
 |.lp st pend=>.obj (.lp q.1 q.2 st pend) true
 |.siter s pos=>.obj (.siter s pos) true
structure CSim (rs:Nat->Env×Loop) (h:CH) (U:Heap):Prop where
 n:h.n=U.n
 sm:h.n<=1000000001
 get:∀ i,U.get i=(h.get i).map (EB.to (rs i))
theorem CSim.cells {rs:Nat->Env×Loop}{h:CH}{U:Heap}(hs:CSim rs h U) {i:Nat}{c:List Value}{e:El}{w t:Bool}(hg:h.get i=some (.cells c e w t)):U.get i=some (.cells c e w t):=by rw[hs.get,hg];rfl
theorem CSim.map {rs:Nat->Env×Loop}{h:CH}{U:Heap}(hs:CSim rs h U) {i:Nat}{es:List ZZ}{cl:Nat}{w:Bool}(hg:h.get i=some (.map es cl w)):U.get i=some (.obj (.map es cl) w):=by rw[hs.get,hg];rfl
theorem CSim.iter {rs:Nat->Env×Loop}{h:CH}{U:Heap}(hs:CSim rs h U) {i m s:Nat}{sn:List Nat}{l:Nat}(hg:h.get i=some (.iter m s sn l)):U.get i=some (.obj (.iter m s sn l) true):=by rw[hs.get,hg];rfl
theorem CSim.lp {rs:Nat->Env×Loop}{h:CH}{U:Heap}(hs:CSim rs h U) {i:Nat}{st:LoopState}{pend:Option Code}(hg:h.get i=some (.lp st pend)):U.get i=some (.obj (.lp (rs i).1 (rs i).2 st pend) true):=by rw[hs.get,hg];rfl
theorem CSim.lt {rs:Nat->Env×Loop}{h:CH}{U:Heap}(hs:CSim rs h U) {i:Nat}{b:EB}(hg:h.get i=some b):i<h.n:=by
 have:U.get i=some (b.to (rs i)):=by rw[hs.get,hg];rfl
 rw[hs.n];exact U.lt this
theorem CSim.upd {rs:Nat->Env×Loop}{h:CH}{U:Heap}(hs:CSim rs h U) {i:Nat}(hi:i<h.n) {b:EB}{b':Blk}(hb:b.to (rs i)=b'):CSim rs (h.upd i b) (U.upd i b'):=by
 refine⟨hs.n,hs.sm,λj=>?_⟩;rw[CH.q2m hi hs.sm];show (if j=i/\i<U.n then some b' else U.get j)=_;by_cases hj:j=i
 .subst hj;rw[z6 ⟨rfl,by rw[<-hs.n];exact hi⟩,z6 rfl,<-hb];rfl
 .rw[z7 (λe=>hj e.1),z7 hj];exact hs.get j
theorem CSim.kill {rs:Nat->Env×Loop}{h:CH}{U:Heap}(hs:CSim rs h U) {i:Nat}(hi:i<h.n):CSim rs (h.kill i) (U.kill i):=by
 refine⟨hs.n,hs.sm,λj=>?_⟩;rw[CH.q2j hi hs.sm];show (if j=i then none else U.get j)=_;by_cases hj:j=i
 .rw[z6 hj,z6 hj];rfl
 .rw[z7 hj,z7 hj];exact hs.get j
theorem CSim.push {rs:Nat->Env×Loop}{h:CH}{U:Heap}(hs:CSim rs h U) (hr:h.room=true) {b:EB}{b':Blk}(hb:b.to (rs h.n)=b'):CSim rs (h.push b) (U.push b'):=by
 have hr:h.n<=1000000000:=zF hr;refine⟨by show h.n+1=U.n+1;rw[hs.n],by show h.n+1<=_;omega,λj=>?_⟩;rw[CH.q1s hs.sm];show (if j=U.n then some b' else U.get j)=_;rw[<-hs.n];by_cases hj:j=h.n
 .subst hj;rw[z6 rfl,z6 rfl,<-hb];rfl
 .rw[z7 hj,z7 hj];exact hs.get j
theorem CSim.rs {rs bq:Nat->Env×Loop}{h:CH}{U:Heap}(hs:CSim rs h U) (hr:∀ i,i<h.n->bq i=rs i):CSim bq h U :=
 ⟨hs.n,hs.sm,λi=>by
  rw[hs.get];cases hg:h.get i with
  |none=>rfl
  |some b=>rw[hr i (hs.lt hg)]⟩
def CH.sl (U:CH) (esz:Nat):Value->Option (List Value)
 |.slice none 0 0=>some []
 |.slice (some ⟨i,o,none⟩) n _ =>
  match U.get i with
  |some (.cells c e _ _)=>if e.sz=esz/\o+n*esz<=c.length then some ((c.drop o).take (n*esz)) else none
  |_=>none
 |_=>none
def CH.mapAt (U:CH) (m:Nat):Option (List ZZ×Nat×Bool):=match U.get m with
 |some (.map es clock wr)=>some (es,clock,wr)
 |_=>none
def K0 (U:CH) (b:EB) (v:Value):Option (Value×CH):=if U.room=true then some (v,U.push b) else none
def T3 (esz:El) (bytes:Nat) (U:CH) (s:Value) (m:Nat) (xs:List Value):Option (Value×CH) :=
 match s with
 |.slice none 0 0 =>
  if m=0 then some (s,U) else
  if m*bytes<=2 ^ 46 then K0 U (.cells xs esz true false) (.slice (some ⟨U.n,0,none⟩) m m) else none
 |.slice (some ⟨i,o,none⟩) n cap =>
  match U.get i with
  |some (.cells c e wr tight) =>
   if e=esz/\n<=cap/\o+n*esz.sz<=c.length then
    if m=0 then some (s,U) else
    if n+m<=cap then
     (if wr=true/\o+(n+m)*esz.sz<=c.length then some (.slice (some ⟨i,o,none⟩) (n+m) cap,U.upd i (.cells (JH c (o+n*esz.sz) xs) e wr tight)) else none)
    else if (n+m)*bytes<=2 ^ 46 then
     (if tight then K0 U (.cells ((c.drop o).take (n*esz.sz)++xs) esz true false) (.slice (some ⟨U.n,0,none⟩) (n+m) (n+m))
     else if wr then K0 (U.kill i) (.cells ((c.drop o).take (n*esz.sz)++xs) esz true false) (.slice (some ⟨U.n,0,none⟩) (n+m) (n+m))
     else none)
    else none
   else none
  |_=>none
 |.slice (some ⟨i,o,some 0⟩) n cap =>
  match U.get i with
  |some (.cells c e _ _) =>
   if e=esz/\n=cap/\o+n*esz.sz<=c.length/\m≠0/\(n+m)*bytes<=2 ^ 46 then
    K0 U (.cells ((c.drop o).take (n*esz.sz)++xs) esz true false) (.slice (some ⟨U.n,0,none⟩) (n+m) (n+m))
   else none
  |_=>none
 |_=>none
def CT (size:Nat) (U:CH) (s:Value) (l h:Nat) (m:Option Nat):Option (Value×CH) :=
 match s with
 |.slice none 0 0=>if l=0/\h=0/\(m.getD 0)=0 then some (.slice none 0 0,U) else none
 |.slice (some ⟨i,o,none⟩) _ cap =>
  match U.get i with
  |some (.cells _ e _ t) =>
   match m with
   |none=>if e.sz=size/\l<=h/\h<=cap then some (.slice (some ⟨i,o+l*size,none⟩) (h-l) (cap-l),U) else none
   |some m =>
    if e.sz=size/\l<=h/\h<=m/\m<=cap then
     if m=l then K0 U (.cells [] e false true) (.slice (some ⟨U.n,0,none⟩) 0 0)
     else if t=false/\h=m then some (.slice (some ⟨i,o+l*size,some 0⟩) (h-l) (m-l),U)
     else some (.slice (some ⟨i,o+l*size,none⟩) (h-l) (m-l),U)
    else none
  |_=>none
 |_=>none
def Q14:Nat->Value->Value->CH->Option Bool
 |0,.pointer none,.pointer none,_=>some true
 |0,.pointer none,.pointer (some _),_=>some false
 |0,.pointer (some _),.pointer none,_=>some false
 |0,.pointer (some ⟨i,o,none⟩),.pointer (some ⟨j,q,none⟩),U=>if i=j/\o=q/\(U.get i).isSome=true then some true else none
 |1,.slice none _ _,.slice none _ _,_=>some true
 |1,.slice none _ _,.slice (some _) _ _,_=>some false
 |1,.slice (some _) _ _,.slice none _ _,_=>some false
 |2,.map none,.map none,_=>some true
 |2,.map none,.map (some _),_=>some false
 |2,.map (some _),.map none,_=>some false
 |3,.nilFunc,.nilFunc,_=>some true
 |3,.nilFunc,.func _ _ _,_=>some false
 |3,.func _ _ _,.nilFunc,_=>some false
 |_,_,_,_=>none
def Jm (o:XOp) (ev:Operand->Value) (U:CH):Option (Value×CH) :=
 match o with
 |.eqAgg neg s x y=>match ev x,ev y with
  |.agg a,.agg b=>if fits s a.toList=true/\fits s b.toList=true then some (.bool (if neg then !(Ql a.toList b.toList) else Ql a.toList b.toList),U) else none
  |_,_=>none
 |.eqNil kd neg x y=>match Q14 kd (ev x) (ev y) U with|some b=>some (.bool (if neg then !b else b),U)|none=>none
 |.makeMap=>K0 U (.map [] 0 true) (.map (some U.n))
 |.lookup mk z ok x i =>
  let k:=ev i
  if Za mk k then
   match ev x with
   |.map none=>some (if ok then .tuple #[z,.bool false] else z,U)
   |.map (some m)=>match U.mapAt m with
    |some (es,_,_)=>if es.all (λe=>Za mk e.1) then
      (match Qv k es with
      |some e=>some (if ok then .tuple #[e.2.1,.bool true] else e.2.1,U)
      |none=>some (if ok then .tuple #[z,.bool false] else z,U)) else none
    |none=>none
   |_=>none
  else none
 |.mapUpdate mk m k v=>match ev m with
  |.map (some i)=>match U.mapAt i with
   |some (es,clock,true)=>if Za mk (ev k)&&es.all (λe=>Za mk e.1) then some (undef,U.upd i (.map (QC (ev k) (ev v) clock es).1 (QC (ev k) (ev v) clock es).2 true)) else none
   |_=>none
  |_=>none
 |.delete mk m k=>match ev m with
  |.map (some i)=>match U.mapAt i with
   |some (es,clock,true)=>if Za mk (ev k)&&es.all (λe=>Za mk e.1) then some (.tuple #[],U.upd i (.map (Gm (ev k) es) clock true)) else none
   |_=>none
  |_=>none
 |.lenMap x=>match ev x with
  |.map none=>some (.int .i64 0,U)
  |.map (some m)=>match U.mapAt m with
   |some (es,_,_)=>some (.int .i64 es.length,U)
   |none=>none
  |_=>none
 |.rangeMap x=>match ev x with
  |.map (some m)=>match U.mapAt m with
   |some (_,clock,_)=>K0 U (.iter m clock [] clock) (.pointer (some ⟨U.n,0,none⟩))
   |none=>none
  |_=>none
 |.rangeStr x=>match ev x with
  |.string s=>K0 U (.siter s 0) (.pointer (some ⟨U.n,0,none⟩))
  |_=>none
 |.nextStr x=>match ev x with
  |.pointer (some ⟨i,0,none⟩)=>match U.get i with
   |some (.siter s pos)=>match s.data.toList[pos]? with
    |some b=>if b.toNat<128 then some (.tuple #[.bool true,.int .i64 pos,.int .i32 b.toNat],U.upd i (.siter s (pos+1))) else none
    |none=>some (.tuple #[.bool false],U)
   |_=>none
  |_=>none
 |.entry x=>match ev x with
  |.pointer (some ⟨i,0,none⟩)=>match U.get i with
   |some (.iter m _ seen last)=>match U.mapAt m,seen.getLast? with
    |some (es,clock,_),some b=>if clock=last then (match es.find? (λe=>e.2.2==b) with|some e=>if Yn e.1 then some (.tuple #[e.1,e.2.1],U) else none|none=>none) else none
    |_,_=>none
   |_=>none
  |_=>none
 |.copy size d s=>match ev d,ev s with
  |.slice db dn _,.slice sb sn sc =>
   if min sn dn=0 then some (.int .i64 0,U) else
   match db,U.sl size (.slice sb (min sn dn) sc) with
   |some ⟨i,o,none⟩,some xs=>match U.get i with
    |some (.cells c e wr tight)=>if wr=true/\e.sz=size/\o+xs.length<=c.length/\xs.all cellOk=true then some (.int .i64 (min sn dn:Nat),U.upd i (.cells (JH c o xs) e wr tight)) else none
    |_=>none
   |_,_=>none
  |_,_=>none
 |.clear z x=>match ev x with
  |.slice b n _ =>
   if n=0 then some (.tuple #[],U) else
   match b with
   |some ⟨i,o,none⟩=>match U.get i with
    |some (.cells c e wr tight)=>if wr=true/\o+n*z.length<=c.length/\z.all cellOk=true then some (.tuple #[],U.upd i (.cells (JH c o (Mf n z)) e wr tight)) else none
    |_=>none
   |_=>none
  |_=>none
 |.toUnsafe x=>match ev x with
  |.pointer none=>some (.pointer none,U)
  |.pointer (some ⟨i,o,none⟩)=>match U.get i with
   |some (.cells c _ _ _)=>if o<c.length then some (.pointer (some ⟨i,o,none⟩),U) else none
   |_=>none
  |_=>none
 |.fromUnsafe u size x=>match ev x with
  |.pointer none=>some (.pointer none,U)
  |.pointer (some ⟨i,o,none⟩)=>match U.get i with
   |some (.cells c e true true)=>if o=0/\e.ty=u/\size<=c.length then some (.pointer (some ⟨i,o,none⟩),U) else none
   |_=>none
  |_=>none
 |.sliceData x=>match ev x with
  |.slice none _ _=>some (.pointer none,U)
  |.slice (some ⟨i,o,none⟩) _ cap=>if cap≠0/\(U.get i).isSome=true then some (.pointer (some ⟨i,o,none⟩),U) else none
  |_=>none
 |.unsafeStr e x n=>match ev x,ev n with
  |.pointer p,.int .i64 k =>
   if k=0 then some (.string ⟨#[]⟩,U) else
   match p with
   |some ⟨i,o,none⟩=>match U.get i with
    |some (.cells c el true tight) =>
     if 0<k/\k<=2 ^ 62/\el.ty=e/\o+k.toNat<=c.length then
      (match G3 ((c.drop o).take k.toNat) with
      |some s=>some (.string s,U.upd i (.cells c el false tight))
      |none=>none) else none
    |_=>none
   |_=>none
  |_,_=>none
 |.bytesStr x=>match ev x with
  |.slice a n c=>match U.sl 1 (.slice a n c) with
   |some xs=>match G3 xs with|some s=>some (.string s,U)|none=>none
   |none=>none
  |_=>none
 |.strBytes e x=>match ev x with
  |.string s=>if s.size<=2 ^ 62 then K0 U (.cells (s.data.toList.map λb=>.int .u8 b.toNat) ⟨1,e⟩ true false) (.slice (some ⟨U.n,0,none⟩) s.size s.size) else none
  |_=>none
 |_=>none
def Heap.empty:Heap:=⟨λ_=>none,0,λ_ _=>rfl⟩
def IE (o:VOp) (ev:Operand->Value) (U:CH):Option (Value×CH) :=
 match o with
 |.alloc t z=>K0 U (.cells z ⟨z.length,t⟩ true true) (.pointer (some ⟨U.n,0,none⟩))
 |.box t x=>match Wz (ev x) with
  |some vs=>K0 U (.cells vs ⟨vs.length,t⟩ true true) (.pointer (some ⟨U.n,0,none⟩))
  |none=>none
 |.buildSlice esz z len parts=>match KD (Mf len z) (parts.map λp=>(p.1*esz.sz,esz.sz,ev p.2)) with
  |some cs=>K0 U (.cells cs esz true true) (.slice (some ⟨U.n,0,none⟩) len len)
  |none=>none
 |.load agg size a=>match ev a with
  |.pointer (some ⟨g,o,some _⟩)=>(match IW g with
   |some c=>if c.all QA then (match Xc agg size c o with|some v=>some (v,U)|none=>none) else none
   |none=>none)
  |.pointer (some ⟨i,o,none⟩)=>match U.get i with
   |some (.cells c _ _ _)=>match Xc agg size c o with|some v=>some (v,U)|none=>none
   |_=>none
  |_=>none
 |.store size a v=>match ev a,Wz (ev v) with
  |.pointer (some ⟨i,o,none⟩),some vs=>match U.get i with
   |some (.cells c e wr tight)=>if wr=true/\vs.length=size/\o+size<=c.length/\vs.all cellOk=true then some (undef,U.upd i (.cells (JH c o vs) e wr tight)) else none
   |_=>none
  |_,_=>none
 |.slice size x lo hi mx =>
  match ev x with
  |.slice a n cap =>
   match Zq ev lo 0,Zq ev hi n,mx with
   |some l,some h,none=>CT size U (.slice a n cap) l h none
   |some l,some h,some _=>match Zq ev mx 0,hi with
    |some m,some _=>CT size U (.slice a n cap) l h (some m)
    |_,_=>none
   |_,_,_=>none
  |_=>none
 |.makeSlice esz bytes z l c =>
  match ev l,ev c with
  |.int _ a,.int _ b=>if 0<=a/\a<=b/\b*bytes<=2 ^ 46/\b<=2 ^ 46 then K0 U (.cells (Mf b.toNat z) esz true true) (.slice (some ⟨U.n,0,none⟩) a.toNat b.toNat) else none
  |_,_=>none
 |.append esz bytes s x =>
  match U.sl esz.sz (ev x),ev x with
  |some xs,.slice _ m _=>if xs.all cellOk then T3 esz bytes U (ev s) m xs else none
  |_,_=>none
 |.ext o=>Jm o ev U
 |o=>if o.kind=0 then (match Q8 o ev Heap.empty with|some p=>some (p.1,U)|none=>none) else none
def ESnd (rs:Nat->Env×Loop) (h:CH) (_σ:Heap) (r:Option (Value×Heap)) (p:Value×CH):Prop:=h.n<=p.2.n/\∃ U',r=some (p.1,U')/\CSim rs p.2 U'
theorem ESnd.same {rs:Nat->Env×Loop}{h:CH}{U:Heap}(hs:CSim rs h U) {r:Option (Value×Heap)}{v:Value}(hr:r=some (v,U)):ESnd rs h U r (v,h):=⟨zd _,U,hr,hs⟩
theorem ESnd.upd {rs:Nat->Env×Loop}{h:CH}{U:Heap}(hs:CSim rs h U) {r:Option (Value×Heap)}{v:Value}{i:Nat}{b:EB}{b0:EB}(hg:h.get i=some b0) {b':Blk}(hb:b.to (rs i)=b') (hr:r=some (v,U.upd i b')):ESnd rs h U r (v,h.upd i b):=by have hi:=hs.lt hg;have nO:=hs.sm;exact⟨zd _,_,hr,hs.upd hi hb⟩
theorem ESnd.push {rs:Nat->Env×Loop}{h:CH}{U:Heap}(hs:CSim rs h U) {r:Option (Value×Heap)}{v:Value}{p:Value×CH}{b:EB}(hp:K0 h b v=some p) {b':Blk}(hb:b.to (rs h.n)=b') (hr:r=some (v,U.push b')):ESnd rs h U r p:=by
 unfold K0 at hp;split at hp
 .rename_i aG;obtain rfl:=osj hp;have nO:=hs.sm;exact⟨Nat.le_succ _,_,hr,hs.push aG hb⟩
 .cases hp
theorem CSim.sl {rs:Nat->Env×Loop}{h:CH}{U:Heap}(hs:CSim rs h U) {esz:Nat}{v:Value}{xs:List Value}(hx:h.sl esz v=some xs):U.sl esz v=some xs:=by
 unfold CH.sl at hx;unfold Heap.sl;split at hx
 .exact hx
 .rename_i i o n c;split at hx
  .rename_i cs e wr t hb;simp only[hs.cells hb];exact hx
  .cases hx
 .cases hx
theorem CSim.mapAt {rs:Nat->Env×Loop}{h:CH}{U:Heap}(hs:CSim rs h U) {m:Nat}{x:List ZZ×Nat×Bool}(hx:h.mapAt m=some x):U.mapAt m=some x/\h.get m=some (.map x.1 x.2.1 x.2.2):=by
 unfold CH.mapAt at hx;unfold Heap.mapAt;split at hx
 .rename_i es clock wr hb;obtain rfl:=osj hx;exact⟨by simp only[hs.map hb],hb⟩
 .cases hx
theorem Ln {rs:Nat->Env×Loop}{h:CH}{U:Heap}(hs:CSim rs h U) {kd:Nat}{a b:Value}{r:Bool}(hx:Q14 kd a b h=some r):ZA kd a b U=some r:=by
 unfold Q14 at hx;unfold ZA
 split at hx<;>first
  |exact hx
  |(cases hx;done)
  |skip
 rename_i i o j q;split at hx
 .rename_i hc;obtain⟨h1,h2,h3⟩:=hc;have cO:i=j/\o=q/\(U.get i).isSome=true:=⟨h1,h2,by rw[hs.get];simpa using h3⟩;simp only[z6 cO];exact hx
 .cases hx
theorem Re {rs:Nat->Env×Loop}{h:CH}{U:Heap}(hs:CSim rs h U) {esz:El}{bytes:Nat}{s:Value}{m:Nat}{xs:List Value}{p:Value×CH}(hx:T3 esz bytes h s m xs=some p):ESnd rs h U (Zv esz bytes U s m xs) p:=by
 unfold T3 at hx;unfold Zv;split at hx
 .split at hx
  .rename_i hm;simp only[z6 hm];obtain rfl:=osj hx;exact .same hs rfl
  .rename_i hm;simp only[z7 hm];split at hx
   .rename_i hb;simp only[z6 hb];rw[hs.n] at hx;exact .push hs hx rfl rfl
   .cases hx
 .rename_i i o n cap;split at hx
  .rename_i c e wr tight hg;have nO:=hs.sm;have hi:=hs.lt hg;simp only[hs.cells hg];split at hx
   .rename_i h1;simp only[z6 h1];split at hx
    .rename_i h2;simp only[z6 h2];obtain rfl:=osj hx;exact .same hs rfl
    .rename_i h2;simp only[z7 h2];split at hx
     .rename_i h3;simp only[z6 h3];split at hx
      .rename_i h4;simp only[z6 h4];obtain rfl:=osj hx;exact .upd hs hg rfl rfl
      .cases hx
     .rename_i h3;simp only[z7 h3];split at hx
      .rename_i h4;simp only[z6 h4];split at hx
       .rename_i h5;simp only[z6 h5];rw[hs.n] at hx;exact .push hs hx rfl rfl
       .rename_i h5;simp only[z7 h5];split at hx
        .rename_i h6;simp only[z6 h6];rw[hs.n] at hx;have hk:=hs.kill hi;obtain⟨k1,U',k2,k3⟩:=ESnd.push (r:=some (.slice (some ⟨U.n,0,none⟩) (n+m) (n+m),(U.kill i).push (.cells ((c.drop o).take (n*esz.sz)++xs) esz true false))) hk hx rfl rfl;exact⟨k1,U',k2,k3⟩
        .cases hx
      .cases hx
   .cases hx
  .cases hx
 .rename_i i o n cap;split at hx
  .rename_i c e wr tight hg;simp only[hs.cells hg];split at hx
   .rename_i h1;simp only[z6 h1];rw[hs.n] at hx;exact .push hs hx rfl rfl
   .cases hx
  .cases hx
 .cases hx
theorem Ge {rs:Nat->Env×Loop}{h:CH}{U:Heap}(hs:CSim rs h U) {size:Nat}{s:Value}{l k:Nat}{m:Option Nat}{p:Value×CH}(hx:CT size h s l k m=some p):ESnd rs h U (Xe size U s l k m) p:=by
 unfold CT at hx;unfold Xe;split at hx
 .split at hx
  .rename_i hm;simp only[z6 hm];obtain rfl:=osj hx;exact .same hs rfl
  .cases hx
 .rename_i i o n cap;split at hx
  .rename_i c e wr tight hg;simp only[hs.cells hg];split at hx
   .split at hx
    .rename_i h1;simp only[z6 h1];obtain rfl:=osj hx;exact .same hs rfl
    .cases hx
   .split at hx
    .rename_i h1;simp only[z6 h1];split at hx
     .rename_i h2;simp only[z6 h2];rw[hs.n] at hx;exact .push hs hx rfl rfl
     .rename_i h2;simp only[z7 h2];split at hx
      .rename_i h3;simp only[z6 h3];obtain rfl:=osj hx;exact .same hs rfl
      .rename_i h3;simp only[z7 h3];obtain rfl:=osj hx;exact .same hs rfl
    .cases hx
  .cases hx
 .cases hx
theorem Bj {rs:Nat->Env×Loop}{h:CH}{U:Heap}(hs:CSim rs h U) {o:XOp}{ev:Operand->Value}{p:Value×CH}(hx:Jm o ev h=some p):ESnd rs h U (QT o ev U) p:=by
 cases o
 case eqAgg neg s x y =>
  simp only[Jm] at hx;simp only[QT];split at hx
  .rename_i a b ha hb;split at hx
   .rename_i hc;rw[ha,hb];simp only;rw[z6 hc];obtain rfl:=osj hx;exact .same hs rfl
   .cases hx
  .cases hx
 case eqNil kd neg x y =>
  simp only[Jm] at hx;simp only[QT];split at hx
  .rename_i b hb;rw[Ln hs hb];obtain rfl:=osj hx;exact .same hs rfl
  .cases hx
 case makeMap =>
  simp only[Jm] at hx;simp only[QT];rw[hs.n] at hx;exact .push hs hx rfl rfl
 case lookup mk z ok x i =>
  simp only[Jm] at hx;simp only[QT];generalize ev x=q0 at hx |-;generalize ev i=q1 at hx |-;split at hx
  .rename_i hk;simp only[z6 hk];split at hx
   .obtain rfl:=osj hx;exact .same hs rfl
   .rename_i m hm;split at hx
    .rename_i es cl wr gO;obtain⟨k1,k2⟩:=hs.mapAt gO;simp only[k1];split at hx
     .rename_i hall;simp only[z6 hall];split at hx
      .rename_i e hf;simp only[hf];obtain rfl:=osj hx;exact .same hs rfl
      .rename_i hf;simp only[hf];obtain rfl:=osj hx;exact .same hs rfl
     .cases hx
    .cases hx
   .cases hx
  .cases hx
 case mapUpdate mk m k v =>
  simp only[Jm] at hx;simp only[QT];generalize ev m=q0 at hx |-;split at hx
  .rename_i i hi;split at hx
   .rename_i es cl gO;obtain⟨k1,k2⟩:=hs.mapAt gO;simp only[k1];split at hx
    .rename_i hc;simp only[z6 hc];obtain rfl:=osj hx;exact .upd hs k2 rfl rfl
    .cases hx
   .cases hx
  .cases hx
 case delete mk m k =>
  simp only[Jm] at hx;simp only[QT];generalize ev m=q0 at hx |-;split at hx
  .rename_i i hi;split at hx
   .rename_i es cl gO;obtain⟨k1,k2⟩:=hs.mapAt gO;simp only[k1];split at hx
    .rename_i hc;simp only[z6 hc];obtain rfl:=osj hx;exact .upd hs k2 rfl rfl
    .cases hx
   .cases hx
  .cases hx
 case mapEntry=>cases hx
 case entryStore=>cases hx
 case lenMap x =>
  simp only[Jm] at hx;simp only[QT];generalize ev x=q0 at hx |-;split at hx
  .obtain rfl:=osj hx;exact .same hs rfl
  .split at hx
   .rename_i es cl wr gO;obtain⟨k1,k2⟩:=hs.mapAt gO;simp only[k1];obtain rfl:=osj hx;exact .same hs rfl
   .cases hx
  .cases hx
 case rangeMap x =>
  simp only[Jm] at hx;simp only[QT];generalize ev x=q0 at hx |-;split at hx
  .split at hx
   .rename_i es cl wr gO;obtain⟨k1,k2⟩:=hs.mapAt gO;simp only[k1];rw[hs.n] at hx;exact .push hs hx rfl rfl
   .cases hx
  .cases hx
 case nextMap=>cases hx
 case rangeStr x =>
  simp only[Jm] at hx;simp only[QT];generalize ev x=q0 at hx |-;split at hx
  .rw[hs.n] at hx;exact .push hs hx rfl rfl
  .cases hx
 case nextStr x =>
  simp only[Jm] at hx;simp only[QT];generalize ev x=q0 at hx |-;split at hx
  .rename_i i;split at hx
   .rename_i s pos hg;have dq:U.get i=some (.obj (.siter s pos) true):=by rw[hs.get,hg];rfl
    simp only[dq];split at hx
    .rename_i b hb;split at hx
     .rename_i ai;simp only[hb,z6 ai];obtain rfl:=osj hx;exact .upd hs hg rfl rfl
     .cases hx
    .rename_i hb;simp only[hb];obtain rfl:=osj hx;exact .same hs rfl
   .cases hx
  .cases hx
 case entry x =>
  simp only[Jm] at hx;simp only[QT];generalize ev x=q0 at hx |-;split at hx
  .split at hx
   .rename_i m since seen last hg;simp only[hs.iter hg];split at hx
    .rename_i es clock wr b gO dI;obtain⟨k1,_⟩:=hs.mapAt gO;simp only[k1,dI];split at hx
     .rename_i hc;rw[z6 hc];split at hx
      .rename_i e hf;split at hx
       .rename_i hp;rw[hf];simp only[hp,zx];obtain rfl:=osj hx;exact .same hs rfl
       .cases hx
      .cases hx
     .cases hx
    .cases hx
   .cases hx
  .cases hx
 case copy size d s =>
  simp only[Jm] at hx;simp only[QT];generalize ev d=q0 at hx |-;generalize ev s=q1 at hx |-;split at hx
  .rename_i db dn dc sb sn sc h1 h2;split at hx
   .rename_i hm;simp only[z6 hm];obtain rfl:=osj hx;exact .same hs rfl
   .rename_i hm;simp only[z7 hm];split at hx
    .rename_i i o xs aZ;simp only[hs.sl aZ];split at hx
     .rename_i c e wr tight hg;simp only[hs.cells hg];split at hx
      .rename_i hc;simp only[z6 hc];obtain rfl:=osj hx;exact .upd hs hg rfl rfl
      .cases hx
     .cases hx
    .cases hx
  .cases hx
 case clear z x =>
  simp only[Jm] at hx;simp only[QT];generalize ev x=q0 at hx |-;split at hx
  .rename_i b n cap;split at hx
   .rename_i hm;simp only[z6 hm];obtain rfl:=osj hx;exact .same hs rfl
   .rename_i hm;simp only[z7 hm];split at hx
    .rename_i i o;split at hx
     .rename_i c e wr tight hg;simp only[hs.cells hg];split at hx
      .rename_i hc;simp only[z6 hc];obtain rfl:=osj hx;exact .upd hs hg rfl rfl
      .cases hx
     .cases hx
    .cases hx
  .cases hx
 case toUnsafe x =>
  simp only[Jm] at hx;simp only[QT];generalize ev x=q0 at hx |-;split at hx
  .obtain rfl:=osj hx;exact .same hs rfl
  .split at hx
   .rename_i c e wr tight hg;simp only[hs.cells hg];split at hx
    .rename_i hc;simp only[z6 hc];obtain rfl:=osj hx;exact .same hs rfl
    .cases hx
   .cases hx
  .cases hx
 case fromUnsafe u size x =>
  simp only[Jm] at hx;simp only[QT];generalize ev x=q0 at hx |-;split at hx
  .obtain rfl:=osj hx;exact .same hs rfl
  .split at hx
   .rename_i c e hg;simp only[hs.cells hg];split at hx
    .rename_i hc;simp only[z6 hc];obtain rfl:=osj hx;exact .same hs rfl
    .cases hx
   .cases hx
  .cases hx
 case sliceData x =>
  simp only[Jm] at hx;simp only[QT];generalize ev x=q0 at hx |-;split at hx
  .obtain rfl:=osj hx;exact .same hs rfl
  .rename_i i o n cap;split at hx
   .rename_i hc;simp only[z6 (show cap≠0/\(U.get i).isSome=true from ⟨hc.1,by rw[hs.get];simpa using hc.2⟩)];obtain rfl:=osj hx;exact .same hs rfl
   .cases hx
  .cases hx
 case unsafeStr e x n =>
  simp only[Jm] at hx;simp only[QT];generalize ev x=q0 at hx |-;generalize ev n=q1 at hx |-;split at hx
  .rename_i q k h1 h2;split at hx
   .rename_i hk;simp only[z6 hk];obtain rfl:=osj hx;exact .same hs rfl
   .rename_i hk;simp only[z7 hk];split at hx
    .rename_i i o;split at hx
     .rename_i c el tight hg;simp only[hs.cells hg];split at hx
      .rename_i hc;simp only[z6 hc];split at hx
       .rename_i u hu;simp only[hu];obtain rfl:=osj hx;exact .upd hs hg rfl rfl
       .cases hx
      .cases hx
     .cases hx
    .cases hx
  .cases hx
 case bytesStr x =>
  simp only[Jm] at hx;simp only[QT];generalize ev x=q0 at hx |-;split at hx
  .split at hx
   .rename_i xs aZ;simp only[hs.sl aZ];split at hx
    .rename_i u hu;simp only[hu];obtain rfl:=osj hx;exact .same hs rfl
    .cases hx
   .cases hx
  .cases hx
 case strBytes e x =>
  simp only[Jm] at hx;simp only[QT];generalize ev x=q0 at hx |-;split at hx
  .split at hx
   .rename_i h1;simp only[z6 h1];rw[hs.n] at hx;exact .push hs hx rfl rfl
   .cases hx
  .cases hx
theorem EN {rs:Nat->Env×Loop}{h:CH}{U:Heap}(hs:CSim rs h U) {o:VOp}{ev:Operand->Value}{p:Value×CH}
  (hx:(if o.kind=0 then (match Q8 o ev Heap.empty with|some p=>some (p.1,h)|none=>none) else none)=some p):ESnd rs h U (Q8 o ev U) p:=by
 split at hx
 .rename_i hk;split at hx
  .rename_i q hq;obtain rfl:=osj hx;exact .same hs (BX hk (v:=q.1) (σ1:=q.2) hq)
  .cases hx
 .cases hx
theorem Xw {rs:Nat->Env×Loop}{h:CH}{U:Heap}(hs:CSim rs h U) {o:VOp}{ev:Operand->Value}{p:Value×CH}(hx:IE o ev h=some p):ESnd rs h U (Q8 o ev U) p:=by
 cases o
 case alloc t z =>
  simp only[IE] at hx;simp only[Q8];rw[hs.n] at hx;exact .push hs hx rfl rfl
 case box t x =>
  simp only[IE] at hx;simp only[Q8];generalize Wz (ev x)=q0 at hx |-;split at hx
  .rw[hs.n] at hx;exact .push hs hx rfl rfl
  .cases hx
 case buildSlice esz z len parts =>
  simp only[IE] at hx;simp only[Q8];generalize KD (Mf len z) (parts.map λp=>(p.1*esz.sz,esz.sz,ev p.2))=q0 at hx |-;split at hx
  .rw[hs.n] at hx;exact .push hs hx rfl rfl
  .cases hx
 case load agg size a =>
  simp only[IE] at hx;simp only[Q8];generalize ev a=q0 at hx |-;split at hx
  .split at hx
   .rename_i c hg;split at hx
    .rename_i hall;simp only[hg,z6 hall];split at hx
     .rename_i u hu;simp only[hu];obtain rfl:=osj hx;exact .same hs rfl
     .cases hx
    .cases hx
   .cases hx
  .split at hx
   .rename_i c e wr tight hg;simp only[hs.cells hg];split at hx
    .rename_i u hu;simp only[hu];obtain rfl:=osj hx;exact .same hs rfl
    .cases hx
   .cases hx
  .cases hx
 case store size a v =>
  simp only[IE] at hx;simp only[Q8];generalize Wz (ev v)=q0 at hx |-;generalize ev a=q1 at hx |-;split at hx
  .rename_i i o vs h1 h2;split at hx
   .rename_i c e wr tight hg;simp only[hs.cells hg];split at hx
    .rename_i hc;simp only[z6 hc];obtain rfl:=osj hx;exact .upd hs hg rfl rfl
    .cases hx
   .cases hx
  .cases hx
 case slice size x lo hi mx =>
  simp only[IE] at hx;simp only[Q8];generalize ev x=q0 at hx |-;split at hx
  .rename_i a n cap;dsimp only;generalize Zq ev lo 0=q1 at hx |-;generalize Zq ev hi n=q2 at hx |-;split at hx
   .exact Ge hs hx
   .rename_i l k m;dsimp only;generalize Zq ev (some m) 0=q3 at hx |-;split at hx
    .exact Ge hs hx
    .cases hx
   .cases hx
  .cases hx
 case makeSlice esz bytes z l c =>
  simp only[IE] at hx;simp only[Q8];generalize ev l=q0 at hx |-;generalize ev c=q1 at hx |-;split at hx
  .split at hx
   .rename_i hc;simp only[z6 hc];rw[hs.n] at hx;exact .push hs hx rfl rfl
   .cases hx
  .cases hx
 case append esz bytes s x =>
  simp only[IE] at hx;simp only[Q8];generalize ev x=q0 at hx |-;split at hx
  .rename_i aZ;simp only[hs.sl aZ];split at hx
   .rename_i hc;simp only[z6 hc];exact Re hs hx
   .cases hx
  .cases hx
 case ext o=>exact Bj hs hx
 all_goals exact EN hs hx
def Ay (k:IntKind) (n:Int):Int:=match n with
 |.ofNat x=>match Nat.ble x 127 with
  |true=>.ofNat x
  |false=>k.wrap (.ofNat x)
 |.negSucc x=>k.wrap (.negSucc x)
theorem Cu (k:IntKind) (n:Int):Ay k n=k.wrap n:=by
 cases n with
 |negSucc x=>rfl
 |ofNat x =>
  simp only[Ay];split
  .rename_i h;have hx:x<=127:=zF h;show (x:Int)=k.wrap (x:Int);cases k<;>simp[IntKind.wrap,IntKind.bits,IntKind.signed]<;>omega
  .rfl
def Q44 (c a b:Value):Option Value:=match c with|.bool t=>some (if t then a else b)|_=>none
def Q0i (op:BinOp) (x y:Value):Option Value:=match x,y with|.int k a,.int k' b=>if k=k' then some (.int k (match op with|.add=>Ay k (a+b)|.sub=>Ay k (a-b)|_=>Ay k (a*b))) else none|_,_=>none
def Q7i (op:BinOp) (x y:Value):Option Value:=match x,y with|.int k a,.int k' b=>if k=k'/\b≠0 then some (.int k (Q21 op k a b)) else none|_,_=>none
def Q40 (op:BinOp) (x y:Value):Option Value:=match x,y with|.int k a,.int k' b=>if k=k' then some (.int k (Bo op k a b)) else none|_,_=>none
def Q0f (op:BinOp) (x y:Value):Option Value:=match x,y with|.int k a,.int _ b=>if 0<=b then some (.int k (Po op k a b)) else none|_,_=>none
def Q73 (op:BinOp) (x y:Value):Option Value:=match x,y with|.int k a,.int k' b=>if k=k' then some (.bool (Q4k op a b)) else none|_,_=>none
def Q7r (op:BinOp) (x y:Value):Option Value:=match x,y with
  |.string a,.string b=>match op with
   |.add=>if a.size+b.size<=2 ^ 62 then some (.string (a++b)) else none
   |.eql=>some (.bool (a.data.toList==b.data.toList))
   |.neq=>some (.bool (!(a.data.toList==b.data.toList)))
   |.lss=>some (.bool (Op.bytesLess a.data.toList b.data.toList))
   |_=>none
  |_,_=>none
def Q7j (neg:Bool) (x y:Value):Option Value:=match x,y with|.bool a,.bool b=>some (.bool (if neg then !(a==b) else (a==b)))|_,_=>none
def pUn (op:UnOp) (x:Value):Option Value:=match op,x with
  |.not,.bool b=>some (.bool (!b))
  |.neg,.int k n=>some (.int k (k.wrap (0-n)))
  |.xor,.int k n=>some (.int k (Bo .xor k (if k.signed then -1 else k.max) n))
  |_,_=>none
def Q00 (k:IntKind) (x:Value):Option Value:=match x with|.int _ n=>some (.int k (Ay k n))|_=>none
def Q06 (x:Value):Option Value:=match x with|.string s=>some (.string s)|_=>none
def Q01 (z:List Value) (l:List (Nat×Nat×Value)):Option Value:=match KD z l with|some cs=>some (.agg cs.toArray)|none=>none
def PO (off:Nat) (a:Value):Option Value:=match a with
  |.pointer (some ⟨i,o,none⟩)=>some (.pointer (some ⟨i,o+off,none⟩))
  |_=>none
def Q09 (agg:Bool) (off size:Nat) (x:Value):Option Value:=match x with
  |.agg cs=>Xc agg size cs.toList off
  |_=>none
def Px (size:Nat) (x i:Value):Option Value:=match x,i with
  |.slice (some ⟨b,o,none⟩) n _,.int _ k=>if 0<=k/\k<n then some (.pointer (some ⟨b,o+k.toNat*size,none⟩)) else none
  |_,_=>none
def M0 (len size:Nat) (x i:Value):Option Value:=match x,i with
  |.pointer (some ⟨g,o,some s⟩),.int _ k=>if 0<=k/\k<len then some (.pointer (some ⟨g,o+k.toNat*size,some s⟩)) else none
  |.pointer (some ⟨b,o,none⟩),.int _ k=>if 0<=k/\k<len then some (.pointer (some ⟨b,o+k.toNat*size,none⟩)) else none
  |_,_=>none
def Sy (x i:Value):Option Value:=match x,i with
  |.string s,.int _ k=>if 0<=k then (match s.data.toList[k.toNat]? with|some b=>some (.int .u8 b.toNat)|none=>none) else none
  |_,_=>none
def RL (len:Nat) (agg:Bool) (size:Nat) (x i:Value):Option Value:=match x,i with
  |.agg cs,.int _ k=>if 0<=k/\k<len then Xc agg size cs.toList (k.toNat*size) else none
  |_,_=>none
def SM (ev:Operand->Value) (x:Value) (lo hi:Option Operand):Option Value:=match x with
  |.string s =>
   match Zq ev lo 0,Zq ev hi s.size with
   |some l,some h=>if l<=h/\h<=s.size then some (.string (s.extract l h)) else none
   |_,_=>none
  |_=>none
def Q70 (x:Value):Option Value:=match x with|.slice _ n _=>some (.int .i64 n)|_=>none
def Fj (x:Value):Option Value:=match x with|.string s=>some (.int .i64 s.size)|_=>none
def Q3z (x y z w:Value):Option Value:=match x,y,z,w with|.int k a,.int k2 b,.int k3 c,.int k4 d=>if k=k2/\k=k3/\k=k4 then some (.int k (EC (EC (EC a b) c) d)) else none|_,_,_,_=>none
def Q7f (x y:Value):Option Value:=match x,y with|.int k a,.int k' b=>if k=k' then some (.int k (if b > a then b else a)) else none|_,_=>none
def Q6z (x y:Value):Option Value:=match x,y with|.int k a,.int k' b=>if k=k' then some (.int k (if b<a then b else a)) else none|_,_=>none
def Q08 (t:TypeId) (x:Value):Option Value:=match x with|.chan _=>none|v=>some (.iface t v)
def Al (i:Nat) (x:Value):Option Value:=match x with
  |.tuple vs=>vs.toList[i]?
  |_=>none
def S3 (x:Value):Option Value:=match x with
  |.pointer (some a)=>some (.pointer (some a))
  |.func (.func f) first cap=>some (.func (.func f) first cap)
  |_=>none
def ppp (r:Option Value) (U:CH):Option (Value×CH):=match r with|some v=>some (v,U)|none=>none
def Q84 (t:Nat) (x:Value) (U:CH):Option (Value×CH):=match Wz x with
  |some vs=>K0 U (.cells vs ⟨vs.length,t⟩ true true) (.pointer (some ⟨U.n,0,none⟩))
  |none=>none
def Cb (esz:El) (z:List Value) (len:Nat) (l:List (Nat×Nat×Value)) (U:CH):Option (Value×CH):=match KD (Mf len z) l with
  |some cs=>K0 U (.cells cs esz true true) (.slice (some ⟨U.n,0,none⟩) len len)
  |none=>none
def Q2w (agg:Bool) (size:Nat) (a:Value) (U:CH):Option (Value×CH):=match a with
  |.pointer (some ⟨g,o,some _⟩)=>(match IW g with
   |some c=>if c.all QA then (match Xc agg size c o with|some v=>some (v,U)|none=>none) else none
   |none=>none)
  |.pointer (some ⟨i,o,none⟩)=>match U.get i with
   |some (.cells c _ _ _)=>match Xc agg size c o with|some v=>some (v,U)|none=>none
   |_=>none
  |_=>none
def stL (c:List Value) (o:Nat) (vs:List Value):List Value:=match vs with
 |[v]=>c.set o v
 |vs=>c.take o++(vs++c.drop (o+vs.length))
theorem CV:∀ (vs a b c:List Value),vs.length=b.length->JH (a++(b++c)) a.length vs=a++(vs++c)
 |[],a,b,c,h=>by have:b=[]:=List.eq_nil_of_length_eq_zero (by simpa using h.symm);subst this;rfl
 |v::vs,a,[],c,h=>by simp at h
 |v::vs,a,x::b,c,h=>by
  simp only[JH];have e:(a++(x::b++c)).set a.length v=(a++[v])++(b++c):=by simp
  rw[e];have:=CV vs (a++[v]) b c (by simpa using h);rw[zo,zw] at this;rw[this];simp
theorem Q3i {c:List Value}{o:Nat}{vs:List Value}(h:o+vs.length<=c.length):stL c o vs=JH c o vs:=by
 unfold stL;split
 .rfl
 .have h1:c=c.take o++((c.drop o).take vs.length++c.drop (o+vs.length)):=by
   rw[<-List.drop_drop,xh,xh]
  have h2:(c.take o).length=o:=by simp;omega
  have:=CV vs (c.take o) ((c.drop o).take vs.length) (c.drop (o+vs.length)) (by simp;omega);rw[h2,<-h1] at this;exact this.symm
def Q0c (size:Nat) (a v:Value) (U:CH):Option (Value×CH):=match a,Wz v with
  |.pointer (some ⟨i,o,none⟩),some vs=>match U.get i with
   |some (.cells c e wr tight)=>if wr=true/\vs.length=size/\o+size<=c.length/\vs.all cellOk=true then some (undef,U.upd i (.cells (stL c o vs) e wr tight)) else none
   |_=>none
  |_,_=>none
def EA (esz:El) (bytes:Nat) (z:List Value) (l c:Value) (U:CH):Option (Value×CH) :=
  match l,c with
  |.int _ a,.int _ b=>if 0<=a/\a<=b/\b*bytes<=2 ^ 46/\b<=2 ^ 46 then K0 U (.cells (Mf b.toNat z) esz true true) (.slice (some ⟨U.n,0,none⟩) a.toNat b.toNat) else none
  |_,_=>none
def Q81 (esz:El) (bytes:Nat) (s x:Value) (U:CH):Option (Value×CH) :=
  match U.sl esz.sz x,x with
  |some xs,.slice _ m _=>if xs.all cellOk then T3 esz bytes U s m xs else none
  |_,_=>none
def LJ (o:VOp) (ev:Operand->Value) (U:CH):Option (Value×CH) :=
 match o with
 |.move x=>some (ev x,U)
 |.pick c a b=>ppp (Q44 (ev c) (ev a) (ev b)) U
 |.arith op x y=>ppp (Q0i op (ev x) (ev y)) U
 |.div op x y=>ppp (Q7i op (ev x) (ev y)) U
 |.bits op x y=>ppp (Q40 op (ev x) (ev y)) U
 |.shift op x y=>ppp (Q0f op (ev x) (ev y)) U
 |.cmp op x y=>ppp (Q73 op (ev x) (ev y)) U
 |.str op x y=>ppp (Q7r op (ev x) (ev y)) U
 |.eqB n x y=>ppp (Q7j n (ev x) (ev y)) U
 |.un op x=>ppp (pUn op (ev x)) U
 |.convI k x=>ppp (Q00 k (ev x)) U
 |.convS x=>ppp (Q06 (ev x)) U
 |.build z parts=>ppp (Q01 z (parts.map λp=>(p.1,p.2.1,ev p.2.2))) U
 |.fieldAddr off a=>ppp (PO off (ev a)) U
 |.field agg off size x=>ppp (Q09 agg off size (ev x)) U
 |.indexAddr size x i=>ppp (Px size (ev x) (ev i)) U
 |.indexAddrArr len size x i=>ppp (M0 len size (ev x) (ev i)) U
 |.indexStr x i=>ppp (Sy (ev x) (ev i)) U
 |.indexArr len agg size x i=>ppp (RL len agg size (ev x) (ev i)) U
 |.sliceStr x lo hi=>ppp (SM ev (ev x) lo hi) U
 |.len x=>ppp (Q70 (ev x)) U
 |.lenStr x=>ppp (Fj (ev x)) U
 |.max x y=>ppp (Q7f (ev x) (ev y)) U
 |.max4 x y z w=>ppp (Q3z (ev x) (ev y) (ev z) (ev w)) U
 |.min x y=>ppp (Q6z (ev x) (ev y)) U
 |.makeFunc fn first cap=>some (.func fn (first.map ev).toArray (cap.map ev).toArray,U)
 |.iface t x=>ppp (Q08 t (ev x)) U
 |.extract x i=>ppp (Al i (ev x)) U
 |.nilCheck x=>ppp (S3 (ev x)) U
 |.alloc t z=>K0 U (.cells z ⟨z.length,t⟩ true true) (.pointer (some ⟨U.n,0,none⟩))
 |.box t x=>Q84 t (ev x) U
 |.buildSlice esz z len parts=>Cb esz z len (parts.map λp=>(p.1*esz.sz,esz.sz,ev p.2)) U
 |.load agg size a=>Q2w agg size (ev a) U
 |.store size a v=>Q0c size (ev a) (ev v) U
 |.slice size x lo hi mx=>IE (.slice size x lo hi mx) ev U
 |.makeSlice esz bytes z l c=>EA esz bytes z (ev l) (ev c) U
 |.append esz bytes s x=>Q81 esz bytes (ev s) (ev x) U
 |.ext o=>Jm o ev U
 |_=>none
theorem F_ {rs:Nat->Env×Loop}{h:CH}{U:Heap}(hs:CSim rs h U) {r:Option Value}{r':Option (Value×Heap)}{p:Value×CH}(hr:∀ v,r=some v->r'=some (v,U)) (hx:ppp r h=some p):ESnd rs h U r' p:=by
 unfold ppp at hx;split at hx
 .rename_i v;obtain rfl:=osj hx;exact .same hs (hr v rfl)
 .cases hx
theorem WK {rs:Nat->Env×Loop}{h:CH}{U:Heap}(hs:CSim rs h U) {o:VOp}{ev:Operand->Value}{p:Value×CH}(hx:LJ o ev h=some p):ESnd rs h U (Q8 o ev U) p:=by
 cases o
 case move x=>exact .same hs (by obtain rfl:=osj hx;rfl) |> λ(h:ESnd rs _ U (Q8 (.move x) ev U) (ev x,_))=>by obtain rfl:=osj hx;exact h
 case makeFunc fn a b=>obtain rfl:=osj hx;exact .same hs rfl
 case alloc t z=>exact Xw (o:=.alloc t z) hs hx
 case box t x=>exact Xw (o:=.box t x) hs hx
 case buildSlice a b c d=>exact Xw (o:=.buildSlice a b c d) hs hx
 case load a b c=>exact Xw (o:=.load a b c) hs hx
 case store size a v =>
  simp only[LJ] at hx;simp only[Q8];unfold Q0c at hx;generalize Wz (ev v)=q0 at hx |-;generalize ev a=q1 at hx |-;split at hx
  .rename_i i o vs;split at hx
   .rename_i c e wr tight hg;simp only[hs.cells hg];split at hx
    .rename_i hc;simp only[z6 hc];rw[Q3i (by omega)] at hx;obtain rfl:=osj hx;exact .upd hs hg rfl rfl
    .cases hx
   .cases hx
  .cases hx
 case slice a b c d e=>exact Xw (o:=.slice a b c d e) hs hx
 case makeSlice a b c d e=>exact Xw (o:=.makeSlice a b c d e) hs hx
 case append a b c d=>exact Xw (o:=.append a b c d) hs hx
 case ext o=>exact Bj hs hx
 case callF=>cases hx
 case callV=>cases hx
 case bad=>cases hx
 all_goals refine F_ hs (λv hv=>?_) hx
 case arith op x y =>
  simp only[Q8];generalize ev x=a at hv |-;generalize ev y=b at hv |-;unfold Q0i at hv;split at hv
  .split at hv
   .rename_i hk;simp only[z6 hk];obtain rfl:=osj hv;cases op<;>simp only[PF,Cu]
   .cases hv
  .cases hv
 case convI k x =>
  simp only[Q8];generalize ev x=a at hv |-;unfold Q00 at hv;split at hv
  .obtain rfl:=osj hv;simp only[Cu]
  .cases hv
 case pick c a b =>
  simp only[Q8];generalize ev c=q0 at hv |-;generalize ev a=q1 at hv |-;generalize ev b=q2 at hv |-;unfold Q44 at hv
  (repeat' split at hv)<;>first|(cases hv;done)|(obtain rfl:=osj hv;first|rfl|(simp_all;done)|(simp_all;intros;omega))
 case div op x y =>
  simp only[Q8];generalize ev x=q0 at hv |-;generalize ev y=q1 at hv |-;unfold Q7i at hv
  (repeat' split at hv)<;>first|(cases hv;done)|(obtain rfl:=osj hv;first|rfl|(simp_all;done)|(simp_all;intros;omega))
 case bits op x y =>
  simp only[Q8];generalize ev x=q0 at hv |-;generalize ev y=q1 at hv |-;unfold Q40 at hv
  (repeat' split at hv)<;>first|(cases hv;done)|(obtain rfl:=osj hv;first|rfl|(simp_all;done)|(simp_all;intros;omega))
 case shift op x y =>
  simp only[Q8];generalize ev x=q0 at hv |-;generalize ev y=q1 at hv |-;unfold Q0f at hv
  (repeat' split at hv)<;>first|(cases hv;done)|(obtain rfl:=osj hv;first|rfl|(simp_all;done)|(simp_all;intros;omega))
 case cmp op x y =>
  simp only[Q8];generalize ev x=q0 at hv |-;generalize ev y=q1 at hv |-;unfold Q73 at hv
  (repeat' split at hv)<;>first|(cases hv;done)|(obtain rfl:=osj hv;first|rfl|(simp_all;done)|(simp_all;intros;omega))
 case eqB n x y =>
  simp only[Q8];generalize ev x=q0 at hv |-;generalize ev y=q1 at hv |-;unfold Q7j at hv
  (repeat' split at hv)<;>first|(cases hv;done)|(obtain rfl:=osj hv;first|rfl|(simp_all;done)|(simp_all;intros;omega))
 case un op x =>
  simp only[Q8];generalize ev x=q0 at hv |-;unfold pUn at hv
  (repeat' split at hv)<;>first|(cases hv;done)|(obtain rfl:=osj hv;first|rfl|(simp_all;done)|(simp_all;intros;omega))
 case convS x =>
  simp only[Q8];generalize ev x=q0 at hv |-;unfold Q06 at hv
  (repeat' split at hv)<;>first|(cases hv;done)|(obtain rfl:=osj hv;first|rfl|(simp_all;done)|(simp_all;intros;omega))
 case fieldAddr off a =>
  simp only[Q8];generalize ev a=q0 at hv |-;unfold PO at hv
  (repeat' split at hv)<;>first|(cases hv;done)|(obtain rfl:=osj hv;first|rfl|(simp_all;done)|(simp_all;intros;omega))
 case indexAddr size x i =>
  simp only[Q8];generalize ev x=q0 at hv |-;generalize ev i=q1 at hv |-;unfold Px at hv
  (repeat' split at hv)<;>first|(cases hv;done)|(obtain rfl:=osj hv;first|rfl|(simp_all;done)|(simp_all;intros;omega))
 case indexAddrArr len size x i =>
  simp only[Q8];generalize ev x=q0 at hv |-;generalize ev i=q1 at hv |-;unfold M0 at hv
  (repeat' split at hv)<;>first|(cases hv;done)|(obtain rfl:=osj hv;first|rfl|(simp_all;done)|(simp_all;intros;omega))
 case len x =>
  simp only[Q8];generalize ev x=q0 at hv |-;unfold Q70 at hv
  (repeat' split at hv)<;>first|(cases hv;done)|(obtain rfl:=osj hv;first|rfl|(simp_all;done)|(simp_all;intros;omega))
 case lenStr x =>
  simp only[Q8];generalize ev x=q0 at hv |-;unfold Fj at hv
  (repeat' split at hv)<;>first|(cases hv;done)|(obtain rfl:=osj hv;first|rfl|(simp_all;done)|(simp_all;intros;omega))
 case max4 x y z w =>
  simp only[Q8];generalize ev x=q0 at hv |-;generalize ev y=q1 at hv |-;generalize ev z=q2 at hv |-;generalize ev w=q3 at hv |-;unfold Q3z at hv
  (repeat' split at hv)<;>first|(cases hv;done)|(rename_i qa;obtain⟨rfl,rfl,rfl⟩:=qa;obtain rfl:=osj hv;simp_all;done)
 case max x y =>
  simp only[Q8];generalize ev x=q0 at hv |-;generalize ev y=q1 at hv |-;unfold Q7f at hv
  (repeat' split at hv)<;>first|(cases hv;done)|(obtain rfl:=osj hv;first|rfl|(simp_all;done)|(simp_all;intros;omega))
 case min x y =>
  simp only[Q8];generalize ev x=q0 at hv |-;generalize ev y=q1 at hv |-;unfold Q6z at hv
  (repeat' split at hv)<;>first|(cases hv;done)|(obtain rfl:=osj hv;first|rfl|(simp_all;done)|(simp_all;intros;omega))
 case nilCheck x =>
  simp only[Q8];generalize ev x=q0 at hv |-;unfold S3 at hv
  (repeat' split at hv)<;>first|(cases hv;done)|(obtain rfl:=osj hv;first|rfl|(simp_all;done)|(simp_all;intros;omega))
 case str op x y =>
  simp only[Q8];generalize ev x=q0 at hv |-;generalize ev y=q1 at hv |-;unfold Q7r at hv
  (repeat' split at hv)<;>first|(cases hv;done)|(obtain rfl:=osj hv;first|rfl|(simp_all;done)|(simp_all;intros;omega))
 case build z parts =>
  simp only[Q8];unfold Q01 at hv;split at hv
  .rename_i cs hc;rw[hc];obtain rfl:=osj hv;rfl
  .cases hv
 case field agg off size x =>
  simp only[Q8];generalize ev x=q0 at hv |-;unfold Q09 at hv;split at hv
  .dsimp only;rw[hv]
  .cases hv
 case indexStr x i =>
  simp only[Q8];generalize ev x=q0 at hv |-;generalize ev i=q1 at hv |-;unfold Sy at hv;split at hv
  .split at hv
   .rename_i hc;simp only[z6 hc];split at hv
    .rename_i b hb;simp only[hb];obtain rfl:=osj hv;rfl
    .cases hv
   .cases hv
  .cases hv
 case indexArr len agg size x i =>
  simp only[Q8];generalize ev x=q0 at hv |-;generalize ev i=q1 at hv |-;unfold RL at hv;split at hv
  .split at hv
   .rename_i hc;simp only[z6 hc,hv]
   .cases hv
  .cases hv
 case sliceStr x lo hi =>
  simp only[Q8];generalize ev x=q0 at hv |-;unfold SM at hv;split at hv
  .rename_i s;split at hv
   .rename_i l h h1 h2;split at hv
    .rename_i hc;simp only[h1,h2,z6 hc];obtain rfl:=osj hv;rfl
    .cases hv
   .cases hv
  .cases hv
 case iface t x =>
  simp only[Q8];generalize ev x=q0 at hv |-;unfold Q08 at hv;split at hv
  .cases hv
  .rename_i aK;obtain rfl:=osj hv;split
   .exact absurd rfl (aK _)
   .rfl
 case extract x i =>
  simp only[Q8];generalize ev x=q0 at hv |-;unfold Al at hv;split at hv
  .dsimp only;rw[hv]
  .cases hv
inductive Sh (a m d:Nat):Value->Value->Prop
 |plain (v:Value) (h:QA v=true):Sh a m d v v
 |ptr (i o:Nat) (h:a<=i) (hi:i<m):Sh a m d (.pointer (some ⟨i,o,none⟩)) (.pointer (some ⟨d+(i-a),o,none⟩))
 |sl (i o len cap:Nat) (h:a<=i) (hi:i<m):Sh a m d (.slice (some ⟨i,o,none⟩) len cap) (.slice (some ⟨d+(i-a),o,none⟩) len cap)
 |agg (cs ds:Array Value) (hc:cs.size=ds.size) (h:∀ i (h1:i<cs.size) (h2:i<ds.size),Sh a m d cs[i] ds[i]):Sh a m d (.agg cs) (.agg ds)
 |tuple (cs ds:Array Value) (hc:cs.size=ds.size) (h:∀ i (h1:i<cs.size) (h2:i<ds.size),Sh a m d cs[i] ds[i]):Sh a m d (.tuple cs) (.tuple ds)
theorem Sh.rel {ρ ρ':Plc}{a m d n':Nat}(hn:d+(m-a)<=n') (hρ:∀ i,a<=i->i<m->ρ' (d+(i-a))=ρ i) {v v':Value}(h:Sh a m d v v') :
  ∀ {c:Value},VRel ρ m v c->VRel ρ' n' v' c:=by
 induction h with
 |plain v h =>intro c hv;have:c=v:=XK h hv;subst this;exact JE h
 |ptr i o h hi =>intro c hv;obtain⟨a',rfl,_,bw⟩:=hv.q1i;exact .ptr _ _ _ (by omega) λp hp=>bw p (by rw[<-hρ i h hi];exact hp)
 |sl i o len cap h hi =>intro c hv;obtain⟨a',ao,rfl,_,bw⟩:=hv.q1d;exact .sl _ _ _ _ _ _ (by omega) λp hp=>bw p (by rw[<-hρ i h hi];exact hp)
 |agg cs ds hc h ih =>
  intro c hv;cases hv with
  |agg _ ds' cO h'=>exact .agg _ _ (hc.symm.trans cO) λi k1 k2=>ih i (by omega) k1 (h' i (by omega) k2)
 |tuple cs ds hc h ih =>
  intro c hv;cases hv with
  |tuple _ ds' cO h'=>exact .tuple _ _ (hc.symm.trans cO) λi k1 k2=>ih i (by omega) k1 (h' i (by omega) k2)
theorem BRel.any {ρ ρ':Plc}{n n':Nat}{p:Pl}{w:World}{c:List Value}{esz:El}{wr tight:Bool}(hp:c.all QA=true) (h:BRel ρ n p w (.cells c esz wr tight)) :
  BRel ρ' n' p w (.cells c esz wr tight):=by
 obtain⟨h1,h2,h3,h4,h5,h6⟩:=h;refine⟨h1,h2,h3,h4,λk v hk=>?_,h6⟩;obtain⟨u,hu,hv⟩:=h5 k v hk;have aU:QA v=true:=zf.1 hp v (xc hk);obtain rfl:u=v:=XK aU hv;exact⟨u,hu,JE aU⟩
theorem BRel.renRo {ρ:Plc}{nf n':Nat}{π:Nat->Nat}{p:Pl}{w:World}{c c':List Value}{esz:El}{wr tight:Bool}(hr:LRen n' π c c') (h:BRel ρ nf p w (.cells c' esz wr tight)) :
  BRel (λi=>if i<n' then ρ (π i) else none) n' p w (.cells c esz false tight):=by
 obtain⟨h1,h2,h3,h4,h5,h6⟩:=h;refine⟨h1,h2,by rw[hr.1];exact h3,h4,λk v hk=>?_,λh=>by cases h⟩;have ai:k<c'.length:=by rw[<-hr.1];exact(zu.1 hk).1
 obtain⟨u,hu,hv⟩:=h5 k _ (z8 ai);exact⟨u,hu,(hr.2 k v _ hk (z8 ai)).rel hv⟩
structure PB where
 c:List Value
 esz:El
 tight:Bool
def PB.blk (wr:Bool) (b:PB):Blk:=.cells b.c b.esz wr b.tight
def JW (bl fr:List PB):Heap where
 get i:=if i<bl.length then (bl[i]?).map (PB.blk false) else (fr[i-bl.length]?).map (PB.blk true)
 n:=bl.length+fr.length
 wf i h:=by rw[z7 (by omega),zI (by omega)];rfl
def Xi (U:Heap) (fr:List PB):Heap where
 get i:=if i<U.n then U.get i else (fr[i-U.n]?).map (PB.blk true)
 n:=U.n+fr.length
 wf i h:=by rw[z7 (by omega),zI (by omega)];rfl
theorem VCalled.localize {P:Program}{f:FuncId}{iT args:List Value}{bl fr:List PB}{vm v:Value}{U:Heap}{π:Nat->Nat}{K:Value->Heap->Prop}
  (hm:VCalled P f iT (JW bl []) λu Z=>u=vm/\Z=JW bl fr)
  (cE:∀ b∈fr,b.c.all QA=true)
  (hπ:∀ i b,bl[i]?=some b->∃ wr c',U.get (π i)=some (.cells c' b.esz wr b.tight)/\LRen bl.length π b.c c')
  (av:LRen bl.length π iT args) (hv:Sh bl.length (bl.length+fr.length) U.n vm v) (hK:K v (Xi U fr)):VCalled P f args U K:=by
 intro ρ w au hH hL;have bW:∀ B,¬ Wr (λi=>if i<bl.length then ρ (π i) else none) (JW bl []) B:=by
  rintro B ⟨i,p,b,_,hb,hw,_⟩;have hi:i<bl.length:=by have:=(JW bl []).lt hb;simpa [JW] using this
  simp only[JW,z6 hi] at hb;cases eW:bl[i]? with
  |none=>rw[eW] at hb;cases hb
  |some b0=>rw[eW] at hb;obtain rfl:=osj hb;cases hw
 have tQ:HRel (λi=>if i<bl.length then ρ (π i) else none) (JW bl []) w:=by
  refine⟨⟨λi b hb=>?_,λi hi=>?_,λi p hp=>?_,λi j p q b _ hp _ hb hw _=>(bW _ ⟨i,p,b,hp,hb,hw,rfl⟩).elim⟩,λg cs hg=>⟨(hH.tab g cs hg).1,bW g⟩⟩
  .have hi:i<bl.length:=by have:=(JW bl []).lt hb;simpa [JW] using this
   simp only[JW,z6 hi] at hb;cases eW:bl[i]? with
   |none=>rw[eW] at hb;cases hb
   |some b0 =>rw[eW] at hb;obtain rfl:=osj hb;obtain⟨wr,c',hg,qq⟩:=hπ i b0 eW;obtain⟨p,hp,hB⟩:=hH.live _ _ hg;exact⟨p,by simp[hi,hp],BRel.renRo qq hB⟩
  .by_cases h:i<bl.length
   .simp only[JW,z6 h,z8 h] at hi;cases hi
   .simp[h]
  .skip
   split at hp
   .exact hH.lt _ p hp
   .cases hp
 have tR:LRel (λi=>if i<bl.length then ρ (π i) else none) (JW bl []).n iT au.toList:=by have:=av.rel hL;simpa [JW] using this
 have lift:∀ c w',Got (λi=>if i<bl.length then ρ (π i) else none) (JW bl []) w (λu Z=>u=vm/\Z=JW bl fr) c w'->Got ρ U w K c w':=by
  rintro c w' ⟨_,ρm,_,⟨rfl,rfl⟩,cA,iU,hE⟩;have dO:∀ B,B<w.heap.size->w'.heap[B]?=w.heap[B]?:=λB hB=>hE.keep B hB (bW B);have f_:∀ i p,bl.length<=i->ρm i=some p->w.heap.size<=p.blk:=λi p hi hp=>by
   rcases zr p.blk w.heap.size with h|h
   .refine (bW _ (hE.wr p.blk h ?_)).elim;have iI:=iU.idlt hp;cases hb:(JW bl fr).get i with
    |none=>rw[iU.dead i hb] at hp;cases hp
    |some b =>
     refine⟨i,p,b,hp,hb,?_,rfl⟩;simp only[JW,z7 (w4.2 hi)] at hb;cases eW:fr[i-bl.length]? with
     |none=>rw[eW] at hb;cases hb
     |some b0=>rw[eW] at hb;obtain rfl:=osj hb;rfl
   .exact h
  have hρ:∀ i,U.n<=i->(if i<U.n then ρ i else if i<U.n+fr.length then ρm (bl.length+(i-U.n)) else none)=if i<U.n+fr.length then ρm (bl.length+(i-U.n)) else none:=λi hi=>z7 (by omega)
  have hX:Ext ρ U w (λi=>if i<U.n then ρ i else if i<U.n+fr.length then ρm (bl.length+(i-U.n)) else none) (Xi U fr) w':=by
   refine⟨hE.os,hE.tape,hE.output,hE.size,λB hB _=>dO B hB,?_,by simp[Xi],λi hi p hp=>?_⟩
   .rintro B hB ⟨i,p,b,hp,hb,hw,rfl⟩
    replace hp:(if i<U.n then ρ i else if i<U.n+fr.length then ρm (bl.length+(i-U.n)) else none)=some p:=hp
    by_cases hi:i<U.n
    .rw[z6 hi] at hp;simp only[Xi,z6 hi] at hb;exact⟨i,p,b,hp,hb,hw,rfl⟩
    .rw[z7 hi] at hp;split at hp
     .have:=f_ _ p (by omega) hp;omega
     .cases hp
   .skip
    rwa [z6 hi] at hp
  refine⟨v,λi=>if i<U.n then ρ i else if i<U.n+fr.length then ρm (bl.length+(i-U.n)) else none,Xi U fr,hK,?_,hH.ext ⟨λi b hb=>?_,λi hi=>?_,λi p hp=>?_,λi j p q b cB hp hq hb hw hx=>?_⟩ hX,hX⟩
  .refine hv.rel (by simp[Xi]) (λi h1 h2=>?_) cA;rw[z7 (by omega),z6 (by omega)];congr 1;omega
  .by_cases hi:i<U.n
   .simp only[Xi,z6 hi] at hb;obtain⟨p,hp,hB⟩:=hH.live i b hb;exact⟨p,by simp[hi,hp],hB.mono (by simp[Xi]) (λj hj q hq=>by simpa [hj] using hq) (dO _ (hH.lt i p hp))⟩
   .simp only[Xi,z7 hi] at hb;cases eW:fr[i-U.n]? with
    |none=>rw[eW] at hb;cases hb
    |some b0 =>
     rw[eW] at hb;obtain rfl:=osj hb;have ai:i-U.n<fr.length:=(zu.1 eW).1;obtain⟨p,hp,hB⟩:=iU.live (bl.length+(i-U.n)) (b0.blk true) (by
      show (if _ then _ else _)=_;rw[z7 (by omega),show bl.length+(i-U.n)-bl.length=i-U.n by omega,eW];rfl)
     exact⟨p,by rw[z7 hi,z6 (by omega)];exact hp,BRel.any (cE b0 (xc eW)) hB⟩
  .by_cases h:i<U.n
   .simp only[Xi,z6 h] at hi;rw[z6 h];exact hH.dead i hi
   .simp only[Xi,z7 h] at hi;rw[z7 h];split
    .rename_i h2;have ai:i-U.n<fr.length:=by omega
     rw[z8 ai] at hi;cases hi
    .rfl
  .skip
   split at hp
   .exact xm (hH.lt i p hp) hE.size
   .split at hp
    .exact iU.lt _ p hp
    .cases hp
  .skip
   by_cases hi:i<U.n<;>by_cases hj:j<U.n
   .rw[z6 hi] at hp;rw[z6 hj] at hq;simp only[Xi,z6 hi] at hb;exact hH.sep i j p q b cB hp hq hb hw hx
   .rw[z6 hi] at hp;rw[z7 hj] at hq;split at hq
    .have h1:=hH.lt i p hp;have h2:=f_ _ q (by omega) hq;omega
    .cases hq
   .rw[z7 hi] at hp;rw[z6 hj] at hq;split at hp
    .have h1:=hH.lt j q hq;have h2:=f_ _ p (by omega) hp;omega
    .cases hp
   .rw[z7 hi] at hp;rw[z7 hj] at hq;split at hp
    .split at hq
     .simp only[Xi,z7 hi] at hb;refine iU.sep (bl.length+(i-U.n)) (bl.length+(j-U.n)) p q b (by omega) hp hq ?_ hw hx;show (if _ then _ else _)=_;rw[z7 (by omega),show bl.length+(i-U.n)-bl.length=i-U.n by omega];exact hb
     .cases hq
    .cases hp
 rcases hm _ w au tQ tR with⟨h1,h2⟩|⟨c,h1,h2⟩
 .refine .inl ⟨h1,?_⟩;exact h2.mono λe w' he=>by
   obtain⟨c,rfl,hc⟩:=he;exact⟨c,rfl,lift c w' hc⟩
 .refine .inr ⟨c,lift c w h1,λw' fU=>h2 w' ⟨fU.1,λi p hp=>?_,fU.tab⟩⟩
  replace hp:(if i<bl.length then ρ (π i) else none)=some p:=hp
  split at hp
  .exact fU.2 _ p hp
  .cases hp
def FP {α:Type}(p:α->α->Bool):List α->List α->Bool
 |[],[]=>true
 |a::l,b::m=>p a b&&FP p l m
 |_,_=>false
theorem K5 {α:Type}{p:α->α->Bool}(hp:∀ a b,p a b=true->a=b):∀ l m,FP p l m=true->l=m
 |[],[],_=>rfl
 |a::l,b::m,h=>by simp only[FP,z1] at h;rw[hp a b h.1,K5 hp l m h.2]
 |[],_::_,h=>by cases h
 |_::_,[],h=>by cases h
def CN:Nat->Value->Value->Bool
 |0,_,_=>false
 |f+1,a,b=>match a,b with
  |.bool x,.bool y=>x==y
  |.int k x,.int k' y=>decide (k=k')&&decide (x=y)
  |.string s,.string t=>decide (s.data.toList=t.data.toList)
  |.pointer none,.pointer none=>true
  |.pointer (some ⟨i,o,none⟩),.pointer (some ⟨j,q,none⟩)=>Nat.beq i j&&Nat.beq o q
  |.slice none l c,.slice none l' c'=>Nat.beq l l'&&Nat.beq c c'
  |.slice (some ⟨i,o,none⟩) l c,.slice (some ⟨j,q,none⟩) l' c'=>Nat.beq i j&&(Nat.beq o q&&(Nat.beq l l'&&Nat.beq c c'))
  |.slice (some ⟨i,o,some 0⟩) l c,.slice (some ⟨j,q,some 0⟩) l' c'=>Nat.beq i j&&(Nat.beq o q&&(Nat.beq l l'&&Nat.beq c c'))
  |.map x,.map y=>decide (x=y)
  |.chan none,.chan none=>true
  |.nilFunc,.nilFunc=>true
  |.nilIface,.nilIface=>true
  |.func (.func g) fs cs,.func (.func g') rX cs'=>decide (g=g')&&(FP (CN f) fs.toList rX.toList&&FP (CN f) cs.toList cs'.toList)
  |.func (.yield i) ⟨[]⟩ ⟨[]⟩,.func (.yield j) ⟨[]⟩ ⟨[]⟩=>Nat.beq i j
  |.iface t v,.iface t' v'=>decide (t=t')&&CN f v v'
  |.agg cs,.agg ds=>FP (CN f) cs.toList ds.toList
  |.tuple cs,.tuple ds=>FP (CN f) cs.toList ds.toList
  |_,_=>false
theorem H4 {α:Type}{a b:Array α}(h:a.toList=b.toList):a=b:=by cases a;cases b;simp at h;rw[h]
theorem N5:∀ (f:Nat) (a b:Value),CN f a b=true->a=b:=by
 intro f;induction f with
 |zero=>intro a b h;cases h
 |succ f ih =>
  intro a b h;unfold CN at h
  split at h<;>first
   |(cases h;done)
   |rfl
   |(simp at h;subst h;rfl)
   |(simp at h;obtain⟨rfl,rfl⟩:=h;rfl)
   |(simp at h;obtain⟨rfl,rfl,rfl,rfl⟩:=h;rfl)
   |skip
  .rename_i s t;have h:=wc h;have:=H4 h;cases s;cases t;simp at this;rw[this]
  .rename_i g fs cs g' rX cs';simp only[z1,zg] at h;obtain⟨rfl,h1,h2⟩:=h;rw[H4 (K5 ih _ _ h1),H4 (K5 ih _ _ h2)]
  .rename_i t v t' v';simp only[z1,zg] at h;obtain⟨rfl,h1⟩:=h;rw[ih _ _ h1]
  .rw[H4 (K5 ih _ _ h)]
  .rw[H4 (K5 ih _ _ h)]
def EB.beq:EB->EB->Bool
 |.cells c e w t,.cells c' e' w' t'=>decide (e=e')&&(w==w'&&(t==t'&&FP (CN 20) c c'))
 |.map es cl w,.map bC tS w'=>Nat.beq cl tS&&(w==w'&&FP (λa b=>CN 20 a.1 b.1&&(CN 20 a.2.1 b.2.1&&Nat.beq a.2.2 b.2.2)) es bC)
 |.iter m s sn l,.iter m' s' tT l'=>Nat.beq m m'&&(Nat.beq s s'&&(Nat.beq l l'&&decide (sn=tT)))
 |.lp .ready none,.lp .ready none=>true
 |.lp .busy none,.lp .busy none=>true
 |.siter s p,.siter s' p'=>decide (s.data.toList=s'.data.toList)&&Nat.beq p p'
 |_,_=>false
theorem EB.beq_eq {a b:EB}(h:a.beq b=true):a=b:=by
 unfold EB.beq at h
 split at h<;>first
  |(cases h;done)
  |rfl
  |skip
 .simp only[z1,zg,zj] at h;obtain⟨rfl,rfl,rfl,h⟩:=h;rw[K5 (N5 20) _ _ h]
 .simp only[z1,zj,Nat.beq_eq] at h;obtain⟨rfl,rfl,h⟩:=h;rw[K5 (λa b h=>by
   simp only[z1,Nat.beq_eq] at h;obtain⟨a1,a2,a3⟩:=a;obtain⟨b1,b2,b3⟩:=b;obtain⟨h1,h2,h3⟩:=h;simp at h1 h2 h3;rw[N5 _ _ _ h1,N5 _ _ _ h2,h3]) _ _ h]
 .simp only[z1,zg,Nat.beq_eq] at h;obtain⟨rfl,rfl,rfl,rfl⟩:=h;rfl
 .rename_i s _ s' _;simp only[z1,zg,Nat.beq_eq] at h;obtain⟨h1,rfl⟩:=h;have:=H4 h1;cases s;cases s';simp at this;rw[this]
def CH.newOk (h h':CH):Bool:=Nat.ble h.n h'.n&&(h'.room&&(List.range' h.n (h'.n-h.n)).all λi=>match h'.get i with
 |some (.lp _ _)=>false
 |_=>true)
structure AnsOps (A:Type) where
 fail:A
 both:A->A->A
structure Good {A:Type}(R:AnsOps A) (G:A->Prop):Prop where
 fail:¬ G R.fail
 both:∀ a b,G (R.both a b)->G a/\G b
def Vz:AnsOps Bool:=⟨false,and⟩
theorem CK:Good Vz (·=true):=⟨by simp[Vz],λa b h=>by simpa [Vz] using h⟩
def CD:AnsOps (Option (Value×CH)):=⟨none,λ_ _=>none⟩
theorem Q1v (x:Value×CH):Good CD (·=some x):=⟨by simp[CD],λa b h=>by simp[CD] at h⟩
def CH.same (h h':CH):Bool:=Nat.beq h.n h'.n&&(List.range h.n).all λi=>match h.get i,h'.get i with
 |none,none=>true
 |some a,some b=>a.beq b
 |_,_=>false
def EB.plainE:EB->Bool
 |.cells c _ _ _=>c.all QA
 |.map es _ _=>es.all λkv=>QA kv.2.1
 |_=>false
def CH.keepOk (h h':CH):Bool:=Nat.ble h.n h'.n&&(List.range h.n).all λi=>match h.get i,h'.get i with
 |_,none=>true
 |some a,some b=>b.plainE||a.beq b
 |_,_=>false
def gcI (n0:Nat) (refs:List Nat) (i:Nat):Nat×List Nat :=
 if i<n0 then (i,refs) else if refs.contains i=true then (n0+refs.idxOf i,refs) else (n0+refs.length,refs++[i])
def Iz (g:List Nat->Value->Option (Value×List Nat)):List Value->List Nat->Option (List Value×List Nat)
 |[],refs=>some ([],refs)
 |v::vs,refs=>match g refs v with
  |none=>none
  |some p=>match Iz g vs p.2 with
   |none=>none
   |some q=>some (p.1::q.1,q.2)
def gcX (n0:Nat):Nat->List Nat->Value->Option (Value×List Nat)
 |0,_,_=>none
 |f+1,refs,v=>match v with
  |.pointer (some ⟨i,o,none⟩)=>some (.pointer (some ⟨(gcI n0 refs i).1,o,none⟩),(gcI n0 refs i).2)
  |.slice (some ⟨i,o,none⟩) l c=>some (.slice (some ⟨(gcI n0 refs i).1,o,none⟩) l c,(gcI n0 refs i).2)
  |.slice (some ⟨i,o,some 0⟩) l c=>some (.slice (some ⟨(gcI n0 refs i).1,o,some 0⟩) l c,(gcI n0 refs i).2)
  |.map (some i)=>some (.map (some (gcI n0 refs i).1),(gcI n0 refs i).2)
  |.chan none=>some (.chan none,refs)
  |.iface t u=>match gcX n0 f refs u with
   |some p=>some (.iface t p.1,p.2)
   |none=>none
  |.agg cs=>match Iz (gcX n0 f) cs.toList refs with
   |some p=>some (.agg p.1.toArray,p.2)
   |none=>none
  |.tuple cs=>match Iz (gcX n0 f) cs.toList refs with
   |some p=>some (.tuple p.1.toArray,p.2)
   |none=>none
  |.func (.func g) fs cs=>match Iz (gcX n0 f) fs.toList refs with
   |some p=>match Iz (gcX n0 f) cs.toList p.2 with
    |some q=>some (.func (.func g) p.1.toArray q.1.toArray,q.2)
    |none=>none
   |none=>none
  |.func (.yield i) ⟨[]⟩ ⟨[]⟩=>if i<n0 then some (.func (.yield i) ⟨[]⟩ ⟨[]⟩,refs) else none
  |v=>if QA v=true then some (v,refs) else none
def Q4j (n0:Nat):List ZZ->List Nat->Option (List ZZ×List Nat)
 |[],refs=>some ([],refs)
 |e::es,refs=>match gcX n0 8 refs e.2.1 with
  |none=>none
  |some p=>match Q4j n0 es p.2 with
   |none=>none
   |some q=>some ((e.1,p.1,e.2.2)::q.1,q.2)
def gcB (n0:Nat) (refs:List Nat):EB->Option (EB×List Nat)
 |.cells c e w t=>match Iz (gcX n0 8) c refs with
  |some p=>some (.cells p.1 e w t,p.2)
  |none=>none
 |.map es cl w=>match Q4j n0 es refs with
  |some p=>some (.map p.1 cl w,p.2)
  |none=>none
 |_=>none
def Oz (h':CH) (n0:Nat):Nat->Nat->List Nat->CH->Option (CH×List Nat)
 |0,_,_,_=>none
 |f+1,k,refs,acc=>if refs.length<=k then (if k=refs.length then some (acc,refs) else none) else match h'.get (refs.getD k 0) with
  |none=>none
  |some b=>match gcB n0 refs b with
   |none=>none
   |some p=>if acc.room=true then Oz h' n0 f (k+1) p.2 (acc.push p.1) else none
def Q02 (h h':CH) (refs:List Nat):Option (CH×List Nat) :=
 if h.keepOk h'=true then Oz h' h.n 100000 0 refs ⟨h'.t,h.n⟩ else none
def RD (h h':CH) (v:Value):Option (Value×CH):=match gcX h.n 8 [] v with
 |none=>none
 |some p=>match Q02 h h' p.2 with
  |none=>none
  |some q=>some (p.1,q.1)
def joinOps:AnsOps (Option (Value×CH)):=⟨none,λa b=>match a with
 |some x=>match b with
  |some y=>if CN 20 x.1 y.1=true/\x.2.same y.2=true then some x else none
  |none=>none
 |none=>none⟩
structure ET where
 t:GT Value
 m:Nat
def ET.get (e:ET) (i:Nat):Value:=Bool.rec (motive:=λ_=>Value) undef (e.t.get undef i) (Nat.blt i e.m)
def ET.set (e:ET) (i:Nat) (v:Value):ET:=Bool.rec (motive:=λ_=>ET) e ⟨e.t.set undef 32 i v,e.m⟩ (Nat.blt i e.m)
def ET.put (e:ET) (d:Option Nat) (v:Value):ET:=Option.rec (motive:=λ_=>ET) e (λd=>e.set d v) d
def etL (l:List Value):Nat->GT Value->GT Value:=List.rec (motive:=λ_=>Nat->GT Value->GT Value) (λ_ t=>t) (λv _ ih i t=>ih (i+1) (t.set undef 32 i v)) l
def ET.of (args:List Value) (nt:Nat):ET:=⟨etL args 0 .nil,args.length+(nt-args.length)⟩
def N4 (e:ET) (x:Operand):Value:=Operand.rec (motive:=λ_=>Value) (λt=>e.get t) (λv=>v) (λg=>.pointer (some ⟨g,0,some 0⟩)) (λf=>.func (.func f) #[] #[]) x
def OU (e:ET) (ps:List Nat):List Value->ET:=List.rec (motive:=λ_=>ET->List Value->ET) (λe _=>e) (λp _ ih e vs=>List.rec (motive:=λ_=>ET) e (λv vs _=>ih (e.set p v) vs) vs) ps e
def Io (e:ET) (g:Option (Nat×Bool)):Option Bool:=match g with
 |none=>some true
 |some (d,want)=>match e.get d with
  |.bool b=>some (b==want)
  |.tuple _=>some false
  |_=>none
def ET.list (e:ET):List Value:=(List.range e.m).map e.get
def Q4h (h h':CH) (e:ET):Option (Value×CH):=RD h h' (.tuple e.list.toArray)
structure RCtx where
 ps:List Nat
 a:VCode
 b:VCode
 env:ET
abbrev Ys:=List (Nat×RCtx)
def Ys.find:Ys->Nat->Option RCtx
 |[],_=>none
 |(j,c)::l,i=>if Nat.beq i j=true then some c else Ys.find l i
structure Memo where
 args:List Value
 bl:List PB
 v:Value
 fr:List PB
def Q35 (g:Value->Option Value):List Value->Option (List Value)
 |[]=>some []
 |v::vs=>match g v with
  |none=>none
  |some u=>match Q35 g vs with
   |none=>none
   |some us=>some (u::us)
def shX (a m d:Nat):Nat->Value->Option Value
 |0,_=>none
 |f+1,v=>match v with
  |.pointer (some ⟨i,o,none⟩)=>if a<=i/\i<m then some (.pointer (some ⟨d+(i-a),o,none⟩)) else none
  |.slice (some ⟨i,o,none⟩) l c=>if a<=i/\i<m then some (.slice (some ⟨d+(i-a),o,none⟩) l c) else none
  |.agg cs=>match Q35 (shX a m d f) cs.toList with
   |some p=>some (.agg p.toArray)
   |none=>none
  |.tuple cs=>match Q35 (shX a m d f) cs.toList with
   |some p=>some (.tuple p.toArray)
   |none=>none
  |v=>if QA v=true then some v else none
def PL (h:CH):Nat->List Nat->List PB->Option (List Nat)
 |k,refs,[]=>if refs.length=k then some refs else none
 |k,refs,b::m=>if k<refs.length then
   match h.get (refs.getD k 0) with
   |some (.cells c e _ t)=>(match Iz (gcX 0 8) c refs with
    |some p=>if (decide (e=b.esz)&&(t==b.tight&&FP (CN 20) p.1 b.c))=true then PL h (k+1) p.2 m else none
    |none=>none)
   |_=>none
  else none
def VG:List PB->CH->CH
 |[],h=>h
 |b::l,h=>VG l (h.push (.cells b.c b.esz true b.tight))
def CC (h:CH) (args:List Value) (refs:List Nat):List Memo->Option Memo
 |[]=>none
 |m::ms=>if (FP (CN 20) args m.args&&(PL h 0 refs m.bl).isSome)=true then some m else CC h args refs ms
def TR (h:CH) (args:List Value) (ms:List Memo):Option (Value×CH) :=
 match Iz (gcX 0 8) args [] with
 |none=>none
 |some p=>match CC h p.1 p.2 ms with
  |none=>none
  |some m=>match Nat.ble (h.n+m.fr.length) 1000000000 with
   |false=>none
   |true=>match shX m.bl.length (m.bl.length+m.fr.length) h.n 8 m.v with
    |some v=>some (v,VG m.fr h)
    |none=>none
inductive FEnt where
 |code (vc:VCode) (rs:List VResult) (nt:Nat)
 |codeJ (vc:VCode) (rs:List VResult) (nt:Nat)
 |codeM (vc:VCode) (rs:List VResult) (nt:Nat) (ms:List Memo)
 |same
abbrev Tab:=FuncId->Option FEnt
abbrev Q24:=∀ {A:Type},AnsOps A->Ys->VCode->Option Nat->ET->CH->(Exit->ET->CH->A)->A
def DE (env:ET) (U:CH):VResult->Option Value
 |.tmp t=>some (env.get t)
 |.cell a agg size=>match Q2w agg size (env.get a) U with|some p=>some p.1|none=>none
def NH (env:ET) (U:CH):List VResult->Option (List Value)
 |[]=>some []
 |r::rs=>match DE env U r with
  |none=>none
  |some v=>match NH env U rs with
   |none=>none
   |some vs=>some (v::vs)
def VE (env:ET) (U:CH) (rs:List VResult):Option Value :=
 match rs with
 |[r]=>DE env U r
 |rs=>match NH env U rs with|some vs=>some (.tuple vs.toArray)|none=>none
section
variable (T:Tab) (ev:Q24) {A:Type}(R:AnsOps A) (ys:Ys)
def Q1k (fail:A) (rs:List VResult) (k:Value->CH->A):Exit->ET->CH->A:=λe env h'=>match e with
  |.normal=>(match VE env h' rs with|some v=>k v h'|none=>fail)
  |.ret=>(match VE env h' rs with|some v=>k v h'|none=>fail)
  |_=>fail
def Co (f:FuncId) (args:List Value) (h:CH) (k:Value->CH->A):A :=
 match T f with
 |some (.code vc rs nt)=>match Nat.ble (ET.of args nt).m 1000000 with
  |true=>ev R ys vc none (ET.of args nt) h (Q1k R.fail rs k)
  |false=>R.fail
 |some (.codeJ vc rs nt)=>match Nat.ble (ET.of args nt).m 1000000 with
  |true=>(match ev joinOps ys vc none (ET.of args nt) h (Q1k none rs λv h'=>RD h h' v) with
   |some x=>if x.2.room=true/\Nat.ble h.n x.2.n=true then k x.1 x.2 else R.fail
   |none=>R.fail)
  |false=>R.fail
 |some (.codeM vc rs nt ms)=>match TR h args ms with
  |some p=>k p.1 p.2
  |none=>match Nat.ble (ET.of args nt).m 1000000 with
   |true=>ev R ys vc none (ET.of args nt) h (Q1k R.fail rs k)
   |false=>R.fail
 |some .same=>match args with
  |[v]=>k v h
  |_=>R.fail
 |none=>R.fail
def ED (i:Nat) (k:Value->CH->A):Exit->ET->CH->A:=λe _ h =>
 match h.get i with
 |some (.lp .busy none)=>match e with
  |.normal=>k (.bool true) (h.upd i (.lp .ready none))
  |.ret=>k (.bool false) (h.upd i (.lp .done (some .ret)))
  |.exit id=>k (.bool false) (h.upd i (.lp .done (some (.exit id))))
  |_=>R.fail
 |_=>R.fail
def Q0g (c:RCtx) (i:Nat) (k:Value->CH->A):Exit->ET->CH->A:=λe bj h1=>match e with
 |.normal=>(match h1.get i with
  |some (.lp .ready none)=>ev R ys c.b (some i) bj (h1.upd i (.lp .busy none)) (ED R i k)
  |_=>R.fail)
 |_=>R.fail
def FV (i:Nat) (args:List Value) (h:CH) (k:Value->CH->A):A :=
 match ys.find i with
 |some c=>match h.get i with
  |some (.lp .ready none)=>if args.length=c.ps.length then ev R ys c.a (some i) (OU c.env c.ps args) h (Q0g ev R ys c i k) else R.fail
  |_=>R.fail
 |none=>R.fail
def Uu (i m since clock:Nat) (seen:List Nat) (h:CH) (k:Value->CH->A):List ZZ->Option A
 |[]=>none
 |e::es=>if seen.contains e.2.2=true then Uu i m since clock seen h k es
  else match Uu i m since clock seen h k es with
   |none=>some (k (.tuple #[.bool true,e.1,e.2.1]) (h.upd i (.iter m since (seen++[e.2.2]) clock)))
   |some a=>some (R.both (k (.tuple #[.bool true,e.1,e.2.1]) (h.upd i (.iter m since (seen++[e.2.2]) clock))) a)
def Q1w (x:Value) (h:CH) (k:Value->CH->A):A :=
 match x with
 |.pointer (some ⟨i,0,none⟩)=>match h.get i with
  |some (.iter m since seen last)=>match h.mapAt m with
   |some (es,clock,_) =>
    if (seen.isEmpty||es.isEmpty||es.any (λe=>decide (e.2.2<last)))=true/\es.all (λe=>Yn e.1)=true then
     (match Uu R i m since clock seen h k es with
     |none=>if es.all (λe=>seen.contains e.2.2||decide (since<=e.2.2))=true then k (.tuple #[.bool false]) h else R.fail
     |some a=>if es.all (λe=>seen.contains e.2.2||decide (since<=e.2.2))=true then R.both (k (.tuple #[.bool false]) h) a else a)
    else R.fail
   |none=>R.fail
  |_=>R.fail
 |_=>R.fail
def OW (f:Value) (args:List Value) (h:CH) (k:Value->CH->A):A:=match f with
  |.func (.func g) first cap=>Co T ev R ys g (first.toList++args++cap.toList) h k
  |.func (.yield i) _ _=>FV ev R ys i args h k
  |_=>R.fail
def EG (r:Option (Value×CH)) (k:Value->CH->A):A:=match r with
  |some p=>k p.1 p.2
  |none=>R.fail
def Q0l (o:VOp) (env:ET) (h:CH) (k:Value->CH->A):A :=
 match o with
 |.callF f args=>Co T ev R ys f (args.map (N4 env)) h k
 |.callV f args=>OW T ev R ys (N4 env f) (args.map (N4 env)) h k
 |.ext (.nextMap x)=>Q1w R (N4 env x) h k
 |o=>EG R (LJ o (N4 env) h) k
def FW (l:List VOper):ET->CH->(ET->CH->A)->A :=
 List.rec (motive:=λ_=>ET->CH->(ET->CH->A)->A) (λenv h k=>k env h)
  (λo _ ih env h k=>match Io env o.guard with
   |none=>R.fail
   |some true=>Q0l T ev R ys o.op env h λv h'=>ih (env.put o.dst v) h' k
   |some false=>ih (env.put o.dst undef) h k) l
def CW (op:VOp) (ev:Operand->Value) (v:Value) (h:CH):Bool:=match LJ op ev h with
 |some q=>CN 20 q.1 v
 |none=>false
def ER (r:Nat) (h:CH):List (Nat×(CH->Bool))->Bool
 |[]=>true
 |c::l=>(!(Nat.ble r c.1)||c.2 h)&&ER r h l
def Uq:List DOper->ET->List CH->CH->List (Nat×(CH->Bool))->(ET->CH->A)->A
 |[],env,_,h,_,k=>k env h
 |o::rest,env,hs,h,pend,k=>match Io env o.guard with
  |none=>R.fail
  |some true=>if o.kind=2 then
    (match Q0l T ev CD ys o.op env h (λv h'=>some (v,h')) with
    |some p=>if h.newOk p.2=true/\ER hs.length p.2 pend=true then Uq rest (env.put o.dst p.1) (hs++[p.2]) p.2 pend k else R.fail
    |none=>R.fail)
   else if o.kind=1 then
    (match LJ o.op (N4 env) h with
    |some p=>if (hs.drop o.kmin).all (CW o.op (N4 env) p.1)=true then
      Uq rest (env.put o.dst p.1) hs h (if hs.length<=o.kmax then (o.kmax,CW o.op (N4 env) p.1)::pend else pend) k else R.fail
    |none=>R.fail)
   else match LJ o.op (N4 env) h with
    |some p=>Uq rest (env.put o.dst p.1) hs h pend k
    |none=>R.fail
  |some false=>if o.kind=2 then
    (if ER hs.length h pend=true then Uq rest (env.put o.dst undef) (hs++[h]) h pend k else R.fail)
   else Uq rest (env.put o.dst undef) hs h pend k
def Q1s (env:ET) (h:CH) (a:List DOper):Option (Value×CH):=Uq T ev joinOps ys a env [h] h [] λenv h'=>Q4h h h' env
def A7 (env:ET) (h:CH):List (List DOper)->Option (Value×CH)
 |[]=>none
 |[a]=>Q1s T ev ys env h a
 |a::b::r=>joinOps.both (Q1s T ev ys env h a) (A7 env h (b::r))
def DX:List DSeg->ET->CH->(ET->CH->A)->A
 |[],env,h,k=>k env h
 |.one o::rest,env,h,k=>FW T ev R ys [o] env h λenv h=>DX rest env h k
 |.alts [a]::rest,env,h,k=>Uq T ev R ys a env [h] h [] λenv h=>DX rest env h k
 |.alts l::rest,env,h,k=>match A7 T ev ys env h l with
  |some x=>(match x.1 with
   |.tuple vs=>if x.2.room=true/\Nat.ble h.n x.2.n=true/\vs.toList.length=env.m then DX rest (ET.of vs.toList 0) x.2 k else R.fail
   |_=>R.fail)
  |none=>R.fail
def Q0d (h:CH):Option Nat->Bool
 |none=>true
 |some i=>match h.get i with
  |some (.lp _ _)=>true
  |_=>false
def Q1u:LoopState->Bool
 |.busy=>false
 |_=>true
def Q2u (env:ET) (i:Nat) (k:Exit->ET->CH->A):Value->CH->A:=λ_ h =>
 match h.get i with
 |some (.lp st pend)=>if Q1u st=true then (match pend with
   |none=>k .normal env (h.kill i)
   |some .ret=>k .ret env (h.kill i)
   |some (.exit id)=>k (.exit id) env (h.kill i)
   |some _=>R.fail) else R.fail
 |_=>R.fail
def Q2g (kb k:Exit->ET->CH->A):Exit->ET->CH->A:=λe env h=>match e with
 |.normal=>kb .normal env h
 |e=>k e env h
def Il (id:Nat) (k:Exit->ET->CH->A):Exit->ET->CH->A:=λe env h=>match e with
 |.exit iz=>if iz=id then k .normal env h else k (.exit iz) env h
 |e=>k e env h
def Q16 (v:Value) (a b:A):A:=match v with
 |.bool true=>a
 |.bool false=>b
 |_=>R.fail
def EV (g:Value) (ps:List Nat) (a b:VCode) (ro:Option Nat) (env:ET) (h:CH) (k:Exit->ET->CH->A):A:=match g with
 |.func (.func f) first cap=>match T f with
  |some (.code _ _ _)=>if Q0d h ro=true/\h.room=true then
    Co T ev R ((h.n,⟨ps,a,b,env⟩)::ys) f (first.toList++[.func (.yield h.n) #[] #[]]++cap.toList) (h.push (.lp .ready none)) (Q2u R env h.n k)
   else R.fail
  |_=>R.fail
 |_=>R.fail
def R_ (c:VCode):Option Nat->ET->CH->(Exit->ET->CH->A)->A :=
 VCode.rec (motive:=λ_=>Option Nat->ET->CH->(Exit->ET->CH->A)->A)
  (λ_ env h k=>k .normal env h)
  (λops _ env h k=>FW T ev R ys ops env h (k .normal))
  (λaT _ env h k=>DX T ev R ys aT env h (k .normal))
  (λg ps a b _ _ ro env h k=>EV T ev R ys (N4 env g) ps a b ro env h k)
  (λ_ _ fH fj ro env h k=>fH ro env h (Q2g (λ_ ae h'=>fj ro ae h' k) k))
  (λc _ _ fH fj ro env h k=>Q16 R (N4 env c) (fH ro env h k) (fj ro env h k))
  (λid _ ih ro env h k=>ih ro env h (Il id k))
  (λb ih ro env h k=>ih ro env h (Q2g (λ_ ae h'=>ev R ys (.loop b) ro ae h' k) k))
  (λid _ env h k=>k (.exit id) env h)
  (λ_ env h k=>k .ret env h)
  (λ_ _ _ _=>R.fail) c
end
def SF (T:Tab) (n:Nat):Q24 :=
 Nat.rec (motive:=λ_=>Q24) (λR _ _ _ _ _ _=>R.fail) (λ_ ih {_} R ys c ro env h k=>R_ T ih R ys c ro env h k) n
end Go.V
namespace Go.V
open Go
structure FRel (e:ET) (env:Env):Prop where
 m:e.m=List.length env
 sm:e.m<=1000000
 get:∀ i,env.getD i undef=e.get i
theorem ET.q0y {e:ET}{i:Nat}(hi:i<e.m):e.get i=e.t.get undef i:=by unfold ET.get;rw[show Nat.blt i e.m=true from Nat.ble_eq_true_of_le hi]
theorem ET.q0u {e:ET}{i:Nat}(hi:e.m<=i):e.get i=undef:=by
 unfold ET.get;cases hb:Nat.blt i e.m with
 |false=>rfl
 |true=>have:=zF hb;omega
theorem ET.q2g {e:ET}{i:Nat}{v:Value}(hi:i<e.m):e.set i v=⟨e.t.set undef 32 i v,e.m⟩:=by unfold ET.set;rw[show Nat.blt i e.m=true from Nat.ble_eq_true_of_le hi]
theorem ET.q2k {e:ET}{i:Nat}{v:Value}(hi:e.m<=i):e.set i v=e:=by
 unfold ET.set;cases hb:Nat.blt i e.m with
 |false=>rfl
 |true=>have:=zF hb;omega
theorem ET.q2o (e:ET) (i:Nat) (v:Value):(e.set i v).m=e.m:=by
 rcases zr i e.m with h|h
 .rw[ET.q2g h]
 .rw[ET.q2k h]
theorem ET.q1f {e:ET}(hs:e.m<=1000000) (i:Nat) (v:Value) (j:Nat):(e.set i v).get j=if j=i/\i<e.m then v else e.get j:=by
 rcases zr i e.m with hi|hi
 .rw[ET.q2g hi];rcases zr j e.m with hj|hj
  .rw[ET.q0y (e:=⟨e.t.set undef 32 i v,e.m⟩) hj,ET.q0y hj];show (e.t.set undef 32 i v).get undef j=_;rw[GT.q1f undef 32 _ _ _ _ (by omega)];by_cases h:j=i
   .rw[z6 h,z6 ⟨h,hi⟩]
   .rw[z7 h,z7 (λe=>h e.1)]
  .rw[ET.q0u (e:=⟨e.t.set undef 32 i v,e.m⟩) hj,ET.q0u hj,z7 (by rintro⟨rfl,_⟩;omega)]
 .rw[ET.q2k hi,z7 (by rintro⟨_,h⟩;omega)]
theorem FRel.set {e:ET}{env:Env}(h:FRel e env) (i:Nat) (v:Value):FRel (e.set i v) (env.set i v):=by
 refine⟨by rw[ET.q2o,xi];exact h.m,by rw[ET.q2o];exact h.sm,λj=>?_⟩;rw[ET.q1f h.sm,<-h.get,ze,ze,xE,h.m];by_cases cB:i=j
 .subst cB;rcases zr i (List.length env) with hi|hi
  .rw[z6 rfl,z6 hi,z6 ⟨rfl,hi⟩];rfl
  .rw[z6 rfl,z7 (by omega),z7 (by rintro⟨_,h⟩;omega),zI hi]
 .rw[z7 cB,z7 (λe=>cB e.1.symm)]
theorem FRel.put {e:ET}{env:Env}(h:FRel e env) (d:Option Nat) (v:Value):FRel (e.put d v) (Jb env d v):=by
 cases d with
 |none=>exact h
 |some d=>exact h.set d v
theorem D9 {e:ET}{env:Env}(h:FRel e env):N4 e=Q6 env:=by
 funext x
 cases x with
 |tmp t=>exact(h.get t).symm
 |_=>rfl
theorem CG {e:ET}{env:Env}(h:FRel e env) (g:Option (Nat×Bool)):Io e g=Zr env g:=by
 cases g with
 |none=>rfl
 |some p =>obtain⟨d,w⟩:=p;simp only[Io,Zr,h.get];cases e.get d<;>rfl
theorem PJ:∀ (ps:List Nat) (vs:List Value) {e:ET}{env:Env},FRel e env->FRel (OU e ps vs) (Dt env ps vs)
 |[],vs,e,env,h=>by cases vs<;>exact h
 |p::ps,[],e,env,h=>h
 |p::ps,v::vs,e,env,h=>PJ ps vs (h.set p v)
theorem Ff:∀ (l:List Value) (i:Nat) (t:GT Value) (j:Nat),i+l.length<=1000000->(etL l i t).get undef j=if i<=j/\j<i+l.length then l.getD (j-i) undef else t.get undef j
 |[],i,t,j,_=>by rw[z7 (by simp only[List.length_nil];omega)];rfl
 |v::l,i,t,j,h=>by
  have h:i+(l.length+1)<=1000000:=h;show (etL l (i+1) (t.set undef 32 i v)).get undef j=_;rw[Ff l (i+1) _ j (by omega),GT.q1f undef 32 _ _ _ _ (by omega)];by_cases aL:j=i
  .subst aL;rw[z7 (by omega),z6 rfl,z6 (by simp)];simp
  .by_cases hc:i+1<=j/\j<i+1+l.length
   .rw[z6 hc,z6 (by simp;omega),show j-i=j-(i+1)+1 by omega];rfl
   .rw[z7 hc,z7 aL,z7 (by simp;omega)]
theorem ET.q1p {args:List Value}{nt:Nat}(h:(ET.of args nt).m<=1000000):FRel (ET.of args nt) (args++List.replicate (nt-args.length) undef):=by
 refine⟨by simp[ET.of],h,λi=>?_⟩;have hm:(ET.of args nt).m=args.length+(nt-args.length):=rfl;rw[hm] at h;rcases zr i (ET.of args nt).m with hi|hi
 .rw[ET.q0y hi];show _=(etL args 0 .nil).get undef i;rw[Ff _ _ _ _ (by omega),ze,List.getElem?_append];rw[hm] at hi;by_cases hl:i<args.length
  .rw[z6 hl,z6 (by omega)];simp[ze]
  .rw[z7 hl,z7 (by omega),List.getElem?_replicate,z6 (by omega)];rfl
 .rw[ET.q0u hi];rw[hm] at hi;rw[ze,zI (by simp;omega)];rfl
def Ib (P:Program) (f:FuncId) (m:Memo):Prop :=
 VCalled P f m.args (JW m.bl []) (λu Z=>u=m.v/\Z=JW m.bl m.fr)/\∀ b∈m.fr,b.c.all QA=true
structure TabOk (P:Program) (T:Tab):Prop where
 code:∀ f vc rs nt,T f=some (.code vc rs nt)->Fun P f vc rs nt
 codeJ:∀ f vc rs nt,T f=some (.codeJ vc rs nt)->Fun P f vc rs nt
 codeM:∀ f vc rs nt ms,T f=some (.codeM vc rs nt ms)->Fun P f vc rs nt/\∀ m∈ms,Ib P f m
 same:∀ f,T f=some .same->∀ (v:Value) (U:Heap) (K:Value->Heap->Prop),K v U->VCalled P f [v] U K
section
variable {P:Program}{T:Tab}{ev:Q24}
abbrev KE:=Nat->Env×Loop
def YOk (P:Program) (ys:Ys) (rs:KE) (n:Nat):Prop :=
 ∀ i c,ys.find i=some c->i<n/\FRel c.env (rs i).1/\Yr P i (Cw (vwp (Q5 P) c.a (some i)) (vwp (Q5 P) c.b (some i)) c.ps (rs i).1 (rs i).2 i)
theorem YOk.mono {ys:Ys}{rs bq:KE}{n n':Nat}(h:YOk P ys rs n) (hn:n<=n') (hr:∀ i,i<n->bq i=rs i):YOk P ys bq n':=λi c hc=>by obtain⟨h1,h2,h3⟩:=h i c hc;rw[hr i h1];exact⟨by omega,h2,h3⟩
def Q26 {A:Type}(G:A->Prop) (rs:KE) (h:CH) (k:Value->CH->A) (K:Value->Heap->Prop):Prop :=
 ∀ v h' bq U',h.n<=h'.n->(∀ i,i<h.n->bq i=rs i)->CSim bq h' U'->G (k v h')->K v U'
def IM {A:Type}(G:A->Prop) (rs:KE) (h:CH) (m:Nat) (k:Exit->ET->CH->A) (Q:Exit->Env->Heap->Prop):Prop :=
 ∀ e dE h' bq U' ae,h.n<=h'.n->(∀ i,i<h.n->bq i=rs i)->CSim bq h' U'->FRel dE ae->List.length ae=m->G (k e dE h')->Q e ae U'
def Ok {A:Type}(G:A->Prop) (rs:KE) (h:CH) (m:Nat) (k:ET->CH->A) (K:Env->Heap->Prop):Prop :=
 ∀ dE h' bq U' ae,h.n<=h'.n->(∀ i,i<h.n->bq i=rs i)->CSim bq h' U'->FRel dE ae->List.length ae=m->G (k dE h')->K ae U'
def Sd (P:Program) (ev:Q24):Prop:=∀ {A:Type}(R:AnsOps A) (G:A->Prop),Good R G->∀ (ys:Ys) (c:VCode) (ro:Option Nat) (et:ET) (env:Env) (h:CH) (k:Exit->ET->CH->A) (rs:KE) (U:Heap) (Q:Exit->Env->Heap->Prop),
 YOk P ys rs h.n->CSim rs h U->FRel et env->G (ev R ys c ro et h k)->IM G rs h (List.length env) k Q->vwp (Q5 P) c ro Q env U
theorem NK {rs:KE}{h:CH}{U:Heap}(hs:CSim rs h U) {et:ET}{env:Env}(hE:FRel et env) {r:VResult}{v:Value}(hr:DE et h r=some v):ZO env U r=some v:=by
 cases r with
 |tmp t=>simp only[DE] at hr;simp only[ZO,hE.get];exact hr
 |cell a agg size =>
  simp only[DE] at hr;split at hr
  .rename_i p hp;rw[<-hE.get] at hp;obtain⟨_,U',h1,_⟩:=WK (o:=.load agg size (.tmp a)) (ev:=Q6 env) hs hp;simp only[ZO,h1,xN];exact hr
  .cases hr
theorem Up {rs:KE}{h:CH}{U:Heap}(hs:CSim rs h U) {et:ET}{env:Env}(hE:FRel et env):∀ (l:List VResult) (vs:List Value),NH et h l=some vs->l.mapM (ZO env U)=some vs
 |[],vs,hr=>by simp[NH] at hr;subst hr;rfl
 |r::l,vs,hr=>by
  simp only[NH] at hr;split at hr
  .cases hr
  .rename_i v hv;split at hr
   .cases hr
   .rename_i ws hw;obtain rfl:=osj hr;rw[xd,NK hs hE hv];simp[Up hs hE l ws hw]
theorem Uf {rs:KE}{h:CH}{U:Heap}(hs:CSim rs h U) {et:ET}{env:Env}(hE:FRel et env) {l:List VResult}{v:Value}(hr:VE et h l=some v):J1 env U l=some v:=by
 unfold VE at hr;split at hr
 .exact NK hs hE hr
 .rename_i aK;split at hr
  .rename_i vs ct;unfold J1;split
   .rename_i r;exact absurd rfl (aK r)
   .rw[Up hs hE _ _ ct];exact hr
  .cases hr
variable {A:Type}{R:AnsOps A}{G:A->Prop}
theorem VB (hG:Good R G) {rl:List VResult}{k:Value->CH->A}{rs:KE}{h:CH}{U:Heap}{K:Value->Heap->Prop}{m:Nat}(hk:Q26 G rs h k K):IM G rs h m (Q1k R.fail rl k) (Q4l U rl K):=by
 intro e dE h' bq U' ae hn hr a7 bT _ hg;have fin:G (match VE dE h' rl with|some v=>k v h'|none=>R.fail)->QM (J1 ae U' rl) λv=>∃ v' aI,DropTo U v U' v' aI/\K v' aI:=by
  intro hg;split at hg
  .rename_i v hv;rw[Uf a7 bT hv];exact⟨v,U',.refl _ _ _,hk v h' bq U' hn hr a7 hg⟩
  .exact(hG.fail hg).elim
 cases e with
 |normal=>exact fin hg
 |ret=>exact fin hg
 |_=>exact(hG.fail hg).elim
def CH.toHeap (rs:KE) (h:CH):Heap:=⟨λi=>(h.get i).map (EB.to (rs i)),h.n,λi hi=>by rw[CH.q0u hi];rfl⟩
theorem MF {rs:KE}{h:CH}(hr:h.n<=1000000001):CSim rs h (h.toHeap rs):=⟨rfl,hr,λ_=>rfl⟩
theorem CSim.eq {rs:KE}{h:CH}{U:Heap}(hs:CSim rs h U):U=h.toHeap rs:=Heap.ext' (λj=>hs.get j) hs.n.symm
def Ax (x:Value×CH) (a:Option (Value×CH)):Prop:=∃ y,a=some y/\y.1=x.1/\y.2.n=x.2.n/\∀ i,y.2.get i=x.2.get i
theorem IQ {h h':CH}(hs:h.same h'=true):h.n=h'.n/\∀ i,h.get i=h'.get i:=by
 simp only[CH.same,z1,zf,zL,Nat.beq_eq] at hs;refine⟨hs.1,λi=>?_⟩;rcases zr i h.n with hi|hi
 .have:=hs.2 i hi;split at this
  .rename_i h1 h2;rw[h1,h2]
  .rename_i a b h1 h2;rw[h1,h2,EB.beq_eq this]
  .cases this
 .rw[CH.q0u hi,CH.q0u (by rw[<-hs.1];exact hi)]
theorem TZ (x:Value×CH):Good joinOps (Ax x):=by
 refine⟨λ⟨y,h,_⟩=>(by cases h),λa b h=>?_⟩;obtain⟨y,h1,h2,h3,h4⟩:=h;cases a with
 |none=>cases h1
 |some xa =>
  cases b with
  |none=>cases h1
  |some xb =>
   simp only[joinOps] at h1;split at h1
   .rename_i hc;obtain rfl:=osj h1;have e1:=N5 _ _ _ hc.1;obtain⟨e2,e3⟩:=IQ hc.2;exact⟨⟨xa,rfl,h2,h3,h4⟩,xb,rfl,by rw[<-e1];exact h2,by rw[<-e2];exact h3,λi=>by rw[<-e3 i];exact h4 i⟩
   .cases h1
theorem FD {b:EB}{q:Env×Loop}(h:b.plainE=true):(b.to q).plain=true/\∀ q',b.to q'=b.to q:=by cases b<;>first|exact⟨h,λ_=>rfl⟩|cases h
def gcP (n0:Nat) (refs:List Nat) (i:Nat):Nat:=if i<n0 then i else refs.getD (i-n0) 0
def RExt (n0:Nat) (a b:List Nat):Prop:=(∃ t,b=a++t/\∀ x∈t,n0<=x)/\(a.Nodup->b.Nodup)
theorem RExt.refl (n0:Nat) (a:List Nat):RExt n0 a a:=⟨⟨[],by simp,λx hx=>by cases hx⟩,id⟩
theorem RExt.trans {n0:Nat}{a b c:List Nat}(h:RExt n0 a b) (k:RExt n0 b c):RExt n0 a c:=by obtain⟨⟨t,rfl,ht⟩,h2⟩:=h;obtain⟨⟨u,rfl,hu⟩,k2⟩:=k;exact⟨⟨t++u,by simp,λx hx=>(zR.1 hx).elim (ht x) (hu x)⟩,λh=>k2 (h2 h)⟩
def Sub (a b:List Nat):Prop:=∃ t,b=a++t
theorem Sub.trans {a b c:List Nat}(h:Sub a b) (k:Sub b c):Sub a c:=by obtain⟨t,rfl⟩:=h;obtain⟨u,rfl⟩:=k;exact⟨t++u,by simp⟩
theorem RExt.sub {n0:Nat}{a b:List Nat}(h:RExt n0 a b):Sub a b:=by obtain⟨⟨t,h,_⟩,_⟩:=h;exact⟨t,h⟩
theorem De (n0:Nat) (refs:List Nat) (i:Nat):RExt n0 refs (gcI n0 refs i).2/\∀ (all:List Nat),Sub (gcI n0 refs i).2 all->(gcI n0 refs i).1<n0+all.length/\gcP n0 all (gcI n0 refs i).1=i:=by
 unfold gcI;split
 .rename_i hi;exact⟨RExt.refl _ _,λall _=>⟨by simp only;omega,by simp[gcP,hi]⟩⟩
 .rename_i hi;split
  .rename_i hc;have hm:i∈refs:=by simpa using hc
   have ai:=List.idxOf_lt_length_of_mem hm;refine⟨RExt.refl _ _,λall ⟨t,ht⟩=>?_⟩;simp only at ht;have cS:refs.idxOf i<all.length:=by rw[ht,zo];omega
   refine⟨by simp only;omega,?_⟩;simp only[gcP,z7 (show ¬ n0+refs.idxOf i<n0 by omega),show n0+refs.idxOf i-n0=refs.idxOf i by omega,ze];rw[ht,x9 ai,z8 ai];simp
  .rename_i hc;have hm:i∉refs:=by simpa using hc
   refine⟨⟨⟨[i],rfl,λx hx=>by simp at hx;omega⟩,λh1=>List.nodup_append.2 ⟨h1,by simp,λa ha b hb=>by simp at hb;subst hb;rintro rfl;exact hm ha⟩⟩,λall ⟨t,ht⟩=>?_⟩;simp only at ht;have ai:refs.length<all.length:=by rw[ht];simp
   refine⟨by simp only;omega,?_⟩;simp only[gcP,z7 (show ¬ n0+refs.length<n0 by omega),show n0+refs.length-n0=refs.length by omega];simp[ht,ze]
def Q38 (n0:Nat) (refs fw:List Nat) (v' v:Value):Prop:=RExt n0 refs fw/\∀ (all:List Nat),Sub fw all->Ren (n0+all.length) (gcP n0 all) v' v
def Q60 (n0:Nat) (refs fw:List Nat) (v' v:List Value):Prop:=RExt n0 refs fw/\∀ (all:List Nat),Sub fw all->LRen (n0+all.length) (gcP n0 all) v' v
theorem X_ {n0:Nat}{g:List Nat->Value->Option (Value×List Nat)}(hg:∀ refs v p,g refs v=some p->Q38 n0 refs p.2 p.1 v):∀ (vs:List Value) (refs:List Nat) (p:List Value×List Nat),Iz g vs refs=some p->Q60 n0 refs p.2 p.1 vs
 |[],refs,p,h=>by obtain rfl:=osj h;exact⟨RExt.refl _ _,λall _=>⟨rfl,λi a b ha=>by simp at ha⟩⟩
 |v::vs,refs,p,h=>by
  simp only[Iz] at h;split at h
  .cases h
  .rename_i p1 h1;split at h
   .cases h
   .rename_i p2 h2;obtain rfl:=osj h;obtain⟨a1,a2⟩:=hg _ _ _ h1;obtain⟨b1,b2⟩:=X_ hg vs _ _ h2;refine⟨a1.trans b1,λall hall=>?_⟩;have c1:=a2 all (b1.sub.trans hall);have c2:=b2 all hall;refine⟨by simp[c2.1],λi a b ha hb=>?_⟩;cases i with
    |zero=>simp at ha hb;subst ha;subst hb;exact c1
    |succ i=>exact c2.2 i a b (by simpa using ha) (by simpa using hb)
theorem LRen.agg {n:Nat}{π:Nat->Nat}{cG:List Value}{cs:Array Value}(h:LRen n π cG cs.toList):Ren n π (.agg cG.toArray) (.agg cs) :=
 .agg _ _ (by simpa using h.1) λi h1 h2=>h.2 i _ _ (by simp) (by simp)
theorem LRen.tuple {n:Nat}{π:Nat->Nat}{cG:List Value}{cs:Array Value}(h:LRen n π cG cs.toList):Ren n π (.tuple cG.toArray) (.tuple cs) :=
 .tuple _ _ (by simpa using h.1) λi h1 h2=>h.2 i _ _ (by simp) (by simp)
theorem Nv (n0:Nat):∀ (f:Nat) (refs:List Nat) (v:Value) (p:Value×List Nat),gcX n0 f refs v=some p->Q38 n0 refs p.2 p.1 v:=by
 intro f;induction f with
 |zero=>intro refs v p h;cases h
 |succ f ih =>
  intro refs v p h;unfold gcX at h;split at h
  .rename_i i o;obtain rfl:=osj h;obtain⟨h1,h2⟩:=De n0 refs i;refine⟨h1,λall hall=>?_⟩;obtain⟨k1,k2⟩:=h2 all hall;have:=Ren.ptr (n:=n0+all.length) (π:=gcP n0 all) (gcI n0 refs i).1 o k1
   rwa [k2] at this
  .rename_i i o l c;obtain rfl:=osj h;obtain⟨h1,h2⟩:=De n0 refs i;refine⟨h1,λall hall=>?_⟩;obtain⟨k1,k2⟩:=h2 all hall;have:=Ren.sl (n:=n0+all.length) (π:=gcP n0 all) (gcI n0 refs i).1 o l c k1
   rwa [k2] at this
  .rename_i i o l c;obtain rfl:=osj h;obtain⟨h1,h2⟩:=De n0 refs i;refine⟨h1,λall hall=>?_⟩;obtain⟨k1,k2⟩:=h2 all hall;have:=Ren.slx (n:=n0+all.length) (π:=gcP n0 all) (gcI n0 refs i).1 o l c k1
   rwa [k2] at this
  .rename_i i;obtain rfl:=osj h;obtain⟨h1,h2⟩:=De n0 refs i;refine⟨h1,λall hall=>?_⟩;obtain⟨k1,k2⟩:=h2 all hall;have:=Ren.map (n:=n0+all.length) (π:=gcP n0 all) (gcI n0 refs i).1 k1
   rwa [k2] at this
  .obtain rfl:=osj h;exact⟨RExt.refl _ _,λall _=>.poison _⟩
  .split at h
   .rename_i q hq;obtain rfl:=osj h;obtain⟨h1,h2⟩:=ih _ _ _ hq;exact⟨h1,λall hall=>.iface _ _ _ (h2 all hall)⟩
   .cases h
  .split at h
   .rename_i q hq;obtain rfl:=osj h;obtain⟨h1,h2⟩:=X_ ih _ _ _ hq;exact⟨h1,λall hall=>(h2 all hall).agg⟩
   .cases h
  .split at h
   .rename_i q hq;obtain rfl:=osj h;obtain⟨h1,h2⟩:=X_ ih _ _ _ hq;exact⟨h1,λall hall=>(h2 all hall).tuple⟩
   .cases h
  .split at h
   .rename_i q hq;split at h
    .rename_i q2 mL;obtain rfl:=osj h;obtain⟨h1,h2⟩:=X_ ih _ _ _ hq;obtain⟨h3,h4⟩:=X_ ih _ _ _ mL;refine⟨h1.trans h3,λall hall=>?_⟩;have c1:=h2 all (h3.sub.trans hall);have c2:=h4 all hall;exact .func _ _ _ _ _ (by simpa using c1.1) (by simpa using c2.1) (λi h1 h2=>c1.2 i _ _ (by simp) (by simp)) (λi h1 h2=>c2.2 i _ _ (by simp) (by simp))
    .cases h
   .cases h
  .rename_i i;split at h
   .rename_i hi;obtain rfl:=osj h;refine⟨RExt.refl _ _,λall _=>?_⟩;have:=Ren.yield (n:=n0+all.length) (π:=gcP n0 all) i (by omega)
    rwa [show gcP n0 all i=i by simp[gcP,hi]] at this
   .cases h
  .split at h
   .rename_i hp;obtain rfl:=osj h;exact⟨RExt.refl _ _,λall _=>.plain _ hp⟩
   .cases h
theorem Sl (n0:Nat):∀ (es:List ZZ) (refs:List Nat) (p:List ZZ×List Nat),Q4j n0 es refs=some p->RExt n0 refs p.2/\∀ (all:List Nat),Sub p.2 all ->
  p.1.length=es.length/\∀ (k:Nat) (a b:ZZ),p.1[k]?=some a->es[k]?=some b->a.1=b.1/\a.2.2=b.2.2/\Ren (n0+all.length) (gcP n0 all) a.2.1 b.2.1
 |[],refs,p,h=>by obtain rfl:=osj h;exact⟨RExt.refl _ _,λall _=>⟨rfl,λi a b ha=>by simp at ha⟩⟩
 |e::es,refs,p,h=>by
  simp only[Q4j] at h;split at h
  .cases h
  .rename_i p1 h1;split at h
   .cases h
   .rename_i p2 h2;obtain rfl:=osj h;obtain⟨a1,a2⟩:=Nv n0 _ _ _ _ h1;obtain⟨b1,b2⟩:=Sl n0 es _ _ h2;refine⟨a1.trans b1,λall hall=>?_⟩;have c1:=a2 all (b1.sub.trans hall);obtain⟨c2,c3⟩:=b2 all hall;refine⟨by simp[c2],λi a b ha hb=>?_⟩;cases i with
    |zero=>simp at ha hb;subst ha;subst hb;exact⟨rfl,rfl,c1⟩
    |succ i=>exact c3 i a b (by simpa using ha) (by simpa using hb)
theorem Oa {n0:Nat}{refs:List Nat}{b:EB}{p:EB×List Nat}(h:gcB n0 refs b=some p):RExt n0 refs p.2/\∀ (all:List Nat),Sub p.2 all->∀ q q',BRen (n0+all.length) (gcP n0 all) (p.1.to q') (b.to q):=by
 unfold gcB at h;split at h
 .split at h
  .rename_i q hq;obtain rfl:=osj h;obtain⟨h1,h2⟩:=X_ (Nv n0 8) _ _ _ hq;exact⟨h1,λall hall _ _=>⟨rfl,rfl,rfl,h2 all hall⟩⟩
  .cases h
 .split at h
  .rename_i q hq;obtain rfl:=osj h;obtain⟨h1,h2⟩:=Sl n0 _ _ _ hq;exact⟨h1,λall hall _ _=>⟨rfl,rfl,(h2 all hall).1,(h2 all hall).2⟩⟩
  .cases h
 .cases h
theorem Er {h':CH}{n0:Nat}:∀ (f k:Nat) (refs:List Nat) (acc:CH) (r:CH×List Nat),Oz h' n0 f k refs acc=some r->acc.n=n0+k->acc.n<=1000000001 ->
  RExt n0 refs r.2/\r.1.n=n0+r.2.length/\r.1.n<=1000000001/\(∀ i,i<acc.n->r.1.get i=acc.get i) /\
  ∀ j,k<=j->j<r.2.length->∃ b b',h'.get (r.2.getD j 0)=some b/\r.1.get (n0+j)=some b'/\∀ q q',BRen (n0+r.2.length) (gcP n0 r.2) (b'.to q') (b.to q):=by
 intro f;induction f with
 |zero=>intro k refs acc r h;cases h
 |succ f ih =>
  intro k refs acc r h hn hs;simp only[Oz] at h;split at h
  .split at h
   .rename_i hk;obtain rfl:=osj h;exact⟨RExt.refl _ _,by rw[hn,hk],hs,λ_ _=>rfl,λj h1 h2=>by simp only at h2;omega⟩
   .cases h
  .rename_i hk;split at h
   .cases h
   .rename_i b hb;split at h
    .cases h
    .rename_i p hp;split at h
     .rename_i aG;have aG:acc.n<=1000000000:=zF aG;obtain⟨a1,a2⟩:=Oa hp;have ly:(acc.push p.1).n=acc.n+1:=rfl;obtain⟨b1,b2,b3,b4,b5⟩:=ih (k+1) p.2 (acc.push p.1) r h (by rw[ly];omega) (by rw[ly];omega);refine⟨a1.trans b1,b2,b3,λi hi=>?_,λj qs e_=>?_⟩
      .rw[b4 i (by rw[ly];omega),CH.q1s hs,z7 (by omega)]
      .by_cases eA:j=k
       .subst eA;have cP:j<refs.length:=by omega
        obtain⟨t,ht⟩:=(a1.trans b1).sub;have hg:r.2.getD j 0=refs.getD j 0:=by rw[ht,ze,ze,x9 cP]
        refine⟨b,p.1,by rw[hg];exact hb,?_,a2 r.2 b1.sub⟩;rw[<-hn,b4 _ (by rw[ly];omega),CH.q1s hs,z6 rfl]
       .exact b5 j (by omega) e_
     .cases h
theorem Ga {rs bq:KE}{h h':CH}{U U':Heap}(hs:CSim rs h U) (a7:CSim bq h' U') (hr:∀ i,i<h.n->bq i=rs i) {v:Value}{y x:Value×CH}(hg:RD h h' v=some y) (h1:y.1=x.1) (h2:y.2.n=x.2.n) (h3:∀ i,y.2.get i=x.2.get i) :
  DropTo U v U' x.1 (x.2.toHeap rs):=by
 unfold RD at hg;split at hg
 .cases hg
 .rename_i p hp;split at hg
  .cases hg
  .rename_i q hq;obtain rfl:=osj hg;simp only at h1 h2 h3;obtain⟨f1,f2⟩:=Nv h.n 8 [] v p hp;unfold Q02 at hq;split at hq
   .rename_i dO;simp only[CH.keepOk,z1,zf,zL] at dO;obtain⟨hle,dO⟩:=dO;have hle:h.n<=h'.n:=zF hle;have nO:=hs.sm;obtain⟨g0,g1,g2,g3,g4⟩:=Er _ 0 p.2 ⟨h'.t,h.n⟩ q hq rfl nO;have hall:=f1.trans g0;have eS:q.2.Nodup:=hall.2 List.nodup_nil;have bu:∀ x∈q.2,h.n<=x:=by
     obtain⟨⟨t,ht,hx⟩,_⟩:=hall;simpa [ht] using hx
    have hold:∀ i,i<h.n->q.1.get i=h'.get i:=λi hi=>by rw[g3 i hi,CH.q0y (h:=⟨h'.t,h.n⟩) hi,CH.q0y (by omega)]
    have lz:(x.2.toHeap rs).n=h.n+q.2.length:=by show x.2.n=_;rw[<-h2,g1]
    have rY:∀ i,(x.2.toHeap rs).get i=(q.1.get i).map (EB.to (rs i)):=λi=>by show (x.2.get i).map _=_;rw[<-h3 i]
    rw[<-h1];refine DropTo.rename (gcP h.n q.2) (by rw[lz,<-hs.n];omega) (λi hi=>?_) (λi kE iG=>?_) (λi j kE iG qs e_ he=>?_) (by rw[lz];exact f2 q.2 g0.sub)
    .rw[<-hs.n] at hi;refine⟨by simp[gcP,hi],by rw[rY,hold i hi,a7.get,hr i hi],?_⟩;have:=dO i hi;rw[a7.get,hs.get];split at this
     .rename_i e2;rw[e2];exact .inr (.inr rfl)
     .rename_i a b e1 e2;rw[e1,e2];rw[zt] at this;rcases this with hb|hb
      .exact .inr (.inl ⟨_,rfl,(FD hb).1⟩)
      .rw[EB.beq_eq hb,hr i hi];exact .inl rfl
     .cases this
    .rw[<-hs.n] at kE;rw[lz] at iG;obtain⟨b,b',e1,e2,e3⟩:=g4 (i-h.n) (by omega) (by omega);have kA:gcP h.n q.2 i=q.2.getD (i-h.n) 0:=by simp[gcP,w4.2 kE]
     have aQ:q.2.getD (i-h.n) 0∈q.2:=by
      have:i-h.n<q.2.length:=by omega
      simp[ze,this]
     rw[show h.n+(i-h.n)=i by omega] at e2;rw[kA];refine⟨by rw[<-hs.n];exact bu _ aQ,b'.to (rs i),b.to (bq (q.2.getD (i-h.n) 0)),by rw[rY,e2];rfl,by rw[a7.get,e1];rfl,by rw[lz];exact e3 _ _⟩
    .rw[<-hs.n] at kE qs;rw[lz] at iG e_;simp only[gcP,w4.2 kE,w4.2 qs,if_false] at he;have ij:i-h.n<q.2.length:=by omega
     have fh:j-h.n<q.2.length:=by omega
     simp only[ze,z8 ij,z8 fh,Option.getD_some] at he;have:=(List.getElem_inj (h₀:=ij) (h₁:=fh) eS).1 he;omega
   .cases hq
theorem DK {a m d:Nat}{g:Value->Option Value}(hg:∀ v u,g v=some u->Sh a m d v u):∀ (vs us:List Value),Q35 g vs=some us->vs.length=us.length/\∀ (i:Nat) (v u:Value),vs[i]?=some v->us[i]?=some u->Sh a m d v u
 |[],us,h=>by obtain rfl:=osj h;exact⟨rfl,λi v u h=>by simp at h⟩
 |v::vs,us,h=>by
  simp only[Q35] at h;split at h
  .cases h
  .rename_i u hu;split at h
   .cases h
   .rename_i lG dF;obtain rfl:=osj h;obtain⟨h1,h2⟩:=DK hg vs lG dF;refine⟨by simp[h1],λi v' u' ku dG=>?_⟩;cases i with
    |zero=>simp at ku dG;subst ku;subst dG;exact hg _ _ hu
    |succ i=>exact h2 i v' u' (by simpa using ku) (by simpa using dG)
theorem OJ (a m d:Nat):∀ (f:Nat) (v u:Value),shX a m d f v=some u->Sh a m d v u:=by
 intro f;induction f with
 |zero=>intro v u h;cases h
 |succ f ih =>
  intro v u h;unfold shX at h;split at h
  .split at h
   .rename_i hc;obtain rfl:=osj h;exact .ptr _ _ hc.1 hc.2
   .cases h
  .split at h
   .rename_i hc;obtain rfl:=osj h;exact .sl _ _ _ _ hc.1 hc.2
   .cases h
  .split at h
   .rename_i p hp;obtain rfl:=osj h;obtain⟨h1,h2⟩:=DK ih _ _ hp;exact .agg _ _ (by simpa using h1) λi k1 k2=>h2 i _ _ (by simp) (by simp)
   .cases h
  .split at h
   .rename_i p hp;obtain rfl:=osj h;obtain⟨h1,h2⟩:=DK ih _ _ hp;exact .tuple _ _ (by simpa using h1) λi k1 k2=>h2 i _ _ (by simp) (by simp)
   .cases h
  .split at h
   .rename_i hc;obtain rfl:=osj h;exact .plain _ hc
   .cases h
theorem Dy {rs:KE}{h:CH}{U:Heap}(hs:CSim rs h U):∀ (m:List PB) (k:Nat) (refs r:List Nat),PL h k refs m=some r ->
  Sub refs r/\r.length=k+m.length/\∀ i b,m[i]?=some b->∃ wr c',U.get (r.getD (k+i) 0)=some (.cells c' b.esz wr b.tight)/\LRen r.length (gcP 0 r) b.c c'
 |[],k,refs,r,hb=>by
  simp only[PL] at hb;split at hb
  .rename_i hl;obtain rfl:=osj hb;exact⟨⟨[],by simp⟩,by simp[hl],λi b h=>by simp at h⟩
  .cases hb
 |b::m,k,refs,r,hb=>by
  simp only[PL] at hb;split at hb
  .rename_i hk;split at hb
   .rename_i c e w t hg;split at hb
    .rename_i p hp;split at hb
     .rename_i hc;simp only[z1,zg,zj] at hc;obtain⟨rfl,rfl,h3⟩:=hc;have h3:=K5 (N5 20) _ _ h3;obtain⟨s1,s2⟩:=X_ (Nv 0 8) _ _ _ hp;obtain⟨i1,i2,i3⟩:=Dy hs m (k+1) p.2 r hb;have cX:=s1.sub.trans i1;refine⟨cX,by rw[i2,xj];omega,λi b' bD=>?_⟩;cases i with
      |zero =>
       have bD:b=b':=by simpa using bD
       subst bD;obtain⟨u,hu⟩:=cX;have cZ:r.getD (k+0) 0=refs.getD k 0:=by rw[hu,zU,ze,ze,x9 hk]
       have hl:=s2 r i1;rw[h3,zQ] at hl;exact⟨w,c,by rw[cZ];exact hs.cells hg,hl⟩
      |succ i =>
       have:=i3 i b' (by simpa using bD)
       rwa [show k+1+i=k+(i+1) by omega] at this
     .cases hb
    .cases hb
   .cases hb
  .cases hb
theorem Gk {rs:KE}:∀ (fr:List PB) {h:CH}{U:Heap},CSim rs h U->h.n+fr.length<=1000000000->CSim rs (VG fr h) (Xi U fr)/\(VG fr h).n=h.n+fr.length
 |[],h,U,hs,_=>by
  have:Xi U []=U:=Heap.ext' (λj=>by
   show (if j<U.n then U.get j else _)=_;split
   .rfl
   .rename_i hj;rw[U.wf j (by omega)];simp) rfl
  rw[this];exact⟨hs,rfl⟩
 |b::l,h,U,hs,hr=>by
  have hr:h.n+(l.length+1)<=1000000000:=hr;have hn:=hs.n;have h1:CSim rs (h.push (.cells b.c b.esz true b.tight)) (U.push (b.blk true)):=hs.push (Nat.ble_eq_true_of_le (by omega)) rfl;obtain⟨h2,h3⟩:=Gk l h1 (by show h.n+1+_<=_;omega);refine⟨?_,by rw[show VG (b::l) h=VG l (h.push (.cells b.c b.esz true b.tight)) from rfl,h3];show h.n+1+l.length=h.n+(l.length+1);omega⟩;have:Xi U (b::l)=Xi (U.push (b.blk true)) l:=Heap.ext' (λj=>by
   show (if j<U.n then U.get j else _)=(if j<U.n+1 then (U.push (b.blk true)).get j else _);rcases Nat.lt_trichotomy j U.n with hj|hj|hj
   .rw[z6 hj,z6 (by omega),Heap.q0g _ _ hj]
   .subst hj;rw[z7 (by omega),z6 (by omega),Heap.q0a];simp
   .rw[z7 (by omega),z7 (by omega)];rw[show j-U.n=(j-(U.push (b.blk true)).n)+1 by simp;omega];rfl) (by simp[Xi];omega)
  rw[this];exact h2
theorem BS {h:CH}{args:List Value}{refs:List Nat}:∀ (ms:List Memo) (m:Memo),CC h args refs ms=some m->m∈ms/\args=m.args/\(PL h 0 refs m.bl).isSome=true
 |[],m,h=>by cases h
 |m0::ms,m,h=>by
  simp only[CC] at h;split at h
  .rename_i hc;obtain rfl:=osj h;rw[z1] at hc;exact⟨zl,K5 (N5 20) _ _ hc.1,hc.2⟩
  .obtain⟨h1,h2⟩:=BS ms m h;exact⟨zA _ h1,h2⟩
theorem HD {f:FuncId}{args:List Value}{ms:List Memo}(hm:∀ m∈ms,Ib P f m) {rs:KE}{h:CH}{U:Heap}(hs:CSim rs h U) {p:Value×CH}(hp:TR h args ms=some p)
  {K:Value->Heap->Prop}(hK:∀ U',h.n<=p.2.n->CSim rs p.2 U'->K p.1 U'):VCalled P f args U K:=by
 unfold TR at hp;split at hp
 .cases hp
 .rename_i q hq;split at hp
  .cases hp
  .rename_i m pK;obtain⟨h1,h2,h3⟩:=BS ms m pK;obtain⟨k1,k3⟩:=hm m h1;obtain⟨r,j_⟩:=Option.isSome_iff_exists.1 h3;obtain⟨l0,l1,l2⟩:=Dy hs _ _ _ _ j_;rw[zQ] at l1;split at hp
   .cases hp
   .rename_i hr;have hr:=zF hr;split at hp
    .rename_i v hv;obtain rfl:=osj hp;obtain⟨s1,s2⟩:=Gk m.fr hs hr;have hx:=(X_ (Nv 0 8) _ _ _ hq).2 r l0;rw[h2,l1] at hx;refine VCalled.localize (π:=gcP 0 r) k1 k3 (λi b hb=>?_) (by simpa using hx) ?_ (hK _ (by rw[s2];omega) s1)
     .obtain⟨wr,c',g1,g2⟩:=l2 i b hb;rw[l1] at g2;exact⟨wr,c',by simpa [gcP] using g1,g2⟩
     .have:=OJ _ _ _ _ _ _ hv
      rwa [hs.n] at this
    .cases hp
theorem H5 (hm:P.follows .mixedOrders=true) (hT:TabOk P T) (cF:Sd P ev) (hG:Good R G) {ys:Ys}{f:FuncId}{args:List Value}{h:CH}{k:Value->CH->A}{rs:KE}{U:Heap}{K:Value->Heap->Prop}
  (hY:YOk P ys rs h.n) (hs:CSim rs h U) (he:G (Co T ev R ys f args h k)) (hk:Q26 G rs h k K):VCalled P f args U K:=by
 unfold Co at he;split at he
 .rename_i vc rl nt hf;have hF:=hT.code f vc rl nt hf;split at he
  .rename_i hb;exact hF.calls hm T_ (cF R G hG ys vc none _ _ h _ rs U _ hY hs (ET.q1p (zF hb)) he (VB hG hk))
  .exact(hG.fail he).elim
 .rename_i vc rl nt hf;have hF:=hT.codeJ f vc rl nt hf;split at he
  .rename_i hb;split at he
   .rename_i x hx;split at he
    .rename_i hc;have aG:x.2.n<=1000000000:=zF hc.1;have hK:=hk x.1 x.2 rs _ (zF hc.2) (λ_ _=>rfl) (MF (by omega)) he;refine hF.calls hm T_ (cF joinOps (Ax x) (TZ x) ys vc none _ _ h _ rs U _ hY hs (ET.q1p (zF hb)) (show Ax x _ from ⟨x,hx,rfl,rfl,λ_=>rfl⟩) ?_);intro e dE h' bq U' ae hn hr a7 bT _ hg;have fin:Ax x (match VE dE h' rl with|some v=>RD h h' v|none=>none)->QM (J1 ae U' rl) λv=>∃ v' aI,DropTo U v U' v' aI/\K v' aI:=by
      rintro⟨y,hy,h1,h2,h3⟩;split at hy
      .rename_i v hv;rw[Uf a7 bT hv];exact⟨_,_,Ga hs a7 hr hy h1 h2 h3,hK⟩
      .cases hy
     cases e with
     |normal=>exact fin hg
     |ret=>exact fin hg
     |_=>obtain⟨y,hy,_⟩:=hg;cases hy
    .exact(hG.fail he).elim
   .exact(hG.fail he).elim
  .exact(hG.fail he).elim
 .rename_i vc rl nt ms hf;obtain⟨hF,hM⟩:=hT.codeM f vc rl nt ms hf;split at he
  .rename_i p hp;exact HD hM hs hp λU' hn a7=>hk _ _ rs U' hn (λ_ _=>rfl) a7 he
  .split at he
   .rename_i hb;exact hF.calls hm T_ (cF R G hG ys vc none _ _ h _ rs U _ hY hs (ET.q1p (zF hb)) he (VB hG hk))
   .exact(hG.fail he).elim
 .rename_i hf;split at he
  .rename_i v;exact hT.same f hf v U K (hk v h rs U (zd _) (λ_ _=>rfl) hs he)
  .exact(hG.fail he).elim
 .exact(hG.fail he).elim
theorem PV (hm:P.follows .mixedOrders=true) (cF:Sd P ev) (hG:Good R G) {ys:Ys}{f:FuncId}{vc:VCode}{rl:List VResult}{nt:Nat}(hf:T f=some (.code vc rl nt)) (hF:Fun P f vc rl nt) {args:List Value}{h:CH}{k:Value->CH->A}{rs:KE}{U:Heap}{K:Value->Heap->Prop}
  (hY:YOk P ys rs h.n) (hs:CSim rs h U) (he:G (Co T ev R ys f args h k)) (hk:Q26 G rs h k K):VCallsTo P f args U K:=by
 unfold Co at he;rw[hf] at he;simp only at he;split at he
 .rename_i hb;exact hF.callsTo hm T_ (cF R G hG ys vc none _ _ h _ rs U _ hY hs (ET.q1p (zF hb)) he (VB hG hk))
 .exact(hG.fail he).elim
theorem SX (cF:Sd P ev) (hG:Good R G) {ys:Ys}{i:Nat}{args:List Value}{h:CH}{k:Value->CH->A}{rs:KE}{U:Heap}{K:Value->Heap->Prop}
  (hY:YOk P ys rs h.n) (hs:CSim rs h U) (he:G (FV ev R ys i args h k)) (hk:Q26 G rs h k K):BD P i args U K:=by
 unfold FV at he;split at he
 .rename_i c hc;obtain⟨aQ,lu,al⟩:=hY i c hc;split at he
  .rename_i hg;split at he
   .rename_i hlen;refine al args U K ⟨hs.lp hg,hlen,?_⟩;refine cF R G hG ys c.a (some i) _ _ h _ rs U _ hY hs (PJ c.ps args lu) he ?_;intro e kF h1 fx σ1 bj gu ff fI fE _ ia;cases e with
    |normal =>
     simp only[Q0g] at ia;split at ia
     .rename_i jy;have e1:fx i=rs i:=ff i aQ;have nP:=fI.lp jy;rw[e1] at nP;refine⟨nP,?_⟩;have kE:=fI.lt jy;refine cF R G hG ys c.b (some i) kF bj _ _ fx _ _ (hY.mono (n':=(h1.upd i (.lp .busy none)).n) gu ff) (fI.upd kE (b:=.lp .busy none) (by rw[EB.to,e1])) fE ia ?_;intro e2 fJ h2 eo σ2 aR eU dD cU fK _ di;have lH:h1.n<=h2.n:=eU;have jz:eo i=rs i:=(dD i kE).trans e1;unfold ED at di;split at di
      .rename_i nQ;have iG:=cU.lt nQ;have nR:=cU.lp nQ;rw[jz] at nR;refine⟨nR,?_⟩;have agree:∀ j,j<h.n->eo j=rs j:=λj hj=>(dD j (xm hj gu)).trans (ff j hj);cases e2 with
       |normal=>exact hk _ (h2.upd i (.lp .ready none)) eo _ (zW gu lH) agree (cU.upd iG (b:=.lp .ready none) (by simp only[EB.to,jz])) di
       |ret=>exact hk _ (h2.upd i (.lp .done (some .ret))) eo _ (zW gu lH) agree (cU.upd iG (b:=.lp .done (some .ret)) (by simp only[EB.to,jz])) di
       |exit id=>exact hk _ (h2.upd i (.lp .done (some (.exit id)))) eo _ (zW gu lH) agree (cU.upd iG (b:=.lp .done (some (.exit id))) (by simp only[EB.to,jz])) di
       |_=>exact(hG.fail di).elim
      .exact(hG.fail di).elim
     .exact(hG.fail ia).elim
    |_=>exact(hG.fail ia).elim
   .exact(hG.fail he).elim
  .exact(hG.fail he).elim
 .exact(hG.fail he).elim
theorem Gz (hG:Good R G) {i m since clock:Nat}{seen:List Nat}{h:CH}{k:Value->CH->A}:∀ (es:List ZZ),
  (∀ e∈es,seen.contains e.2.2=true)/\Uu R i m since clock seen h k es=none \/
  ∃ a,Uu R i m since clock seen h k es=some a/\(G a->∀ e∈es,seen.contains e.2.2=false->G (k (.tuple #[.bool true,e.1,e.2.1]) (h.upd i (.iter m since (seen++[e.2.2]) clock))))
 |[]=>.inl ⟨λ_ h=>(by cases h),rfl⟩
 |e::es=>by
  have ih:=Gz hG (i:=i) (m:=m) (since:=since) (clock:=clock) (seen:=seen) (h:=h) (k:=k) es;by_cases hc:seen.contains e.2.2=true
  .have he:Uu R i m since clock seen h k (e::es)=Uu R i m since clock seen h k es:=by rw[Uu,z6 hc]
   rw[he];rcases ih with⟨h1,h2⟩|⟨a,h1,h2⟩
   .exact .inl ⟨λx hx=>by rcases zD.1 hx with rfl|hx;exact hc;exact h1 x hx,h2⟩
   .refine .inr ⟨a,h1,λlJ x hx aZ=>?_⟩;rcases zD.1 hx with rfl|hx
    .rw[hc] at aZ;cases aZ
    .exact h2 lJ x hx aZ
  .rcases ih with⟨h1,h2⟩|⟨a,h1,h2⟩
   .refine .inr ⟨k (.tuple #[.bool true,e.1,e.2.1]) (h.upd i (.iter m since (seen++[e.2.2]) clock)),by rw[Uu,z7 hc,h2],λlJ x hx aZ=>?_⟩;rcases zD.1 hx with rfl|hx
    .exact lJ
    .rw[h1 x hx] at aZ;cases aZ
   .refine .inr ⟨R.both (k (.tuple #[.bool true,e.1,e.2.1]) (h.upd i (.iter m since (seen++[e.2.2]) clock))) a,by rw[Uu,z7 hc,h1],λlJ x hx aZ=>?_⟩;obtain⟨g1,g2⟩:=hG.both _ _ lJ;rcases zD.1 hx with rfl|hx
    .exact g1
    .exact h2 g2 x hx aZ
theorem C9 (hG:Good R G) {x:Value}{h:CH}{k:Value->CH->A}{rs:KE}{U:Heap}{K:Value->Heap->Prop}(hs:CSim rs h U) (he:G (Q1w R x h k)) (hk:Q26 G rs h k K):LI x U K:=by
 unfold Q1w at he;unfold LI;split at he
 .rename_i i;split at he
  .rename_i m since seen last hg;have hi:=hs.lt hg;simp only[hs.iter hg];split at he
   .rename_i es clock wr gO;obtain⟨k1,_⟩:=hs.mapAt gO;simp only[k1];split at he
    .rename_i hc;refine⟨hc.1,hc.2,?_⟩;rcases Gz hG (i:=i) (m:=m) (since:=since) (clock:=clock) (seen:=seen) (h:=h) (k:=k) es with⟨h1,h2⟩|⟨a,h1,h2⟩
     .rw[h2] at he;simp only at he;split at he
      .exact⟨λ_=>hk _ _ rs U (zd _) (λ_ _=>rfl) hs he,λe iQ nS=>by rw[h1 e iQ] at nS;cases nS⟩
      .exact(hG.fail he).elim
     .rw[h1] at he;simp only at he;have key:G a->∀ e∈es,seen.contains e.2.2=false->K (.tuple #[.bool true,e.1,e.2.1]) (U.upd i (.obj (.iter m since (seen++[e.2.2]) clock) true)):=λlJ e iQ nS =>
       hk _ (h.upd i (.iter m since (seen++[e.2.2]) clock)) rs _ (zd _) (λ_ _=>rfl) (hs.upd hi rfl) (h2 lJ e iQ nS)
      split at he
      .obtain⟨g1,g2⟩:=hG.both _ _ he;exact⟨λ_=>hk _ _ rs U (zd _) (λ_ _=>rfl) hs g1,key g2⟩
      .rename_i hn;exact⟨λhh=>absurd hh hn,key he⟩
    .exact(hG.fail he).elim
   .exact(hG.fail he).elim
  .exact(hG.fail he).elim
 .exact(hG.fail he).elim
theorem PQ (hm:P.follows .mixedOrders=true) (hT:TabOk P T) (cF:Sd P ev) (hG:Good R G) {ys:Ys}{o:VOp}{et:ET}{env:Env}(hE:FRel et env) {h:CH}{k:Value->CH->A}{rs:KE}{U:Heap}{K:Value->Heap->Prop}
  (hY:YOk P ys rs h.n) (hs:CSim rs h U) (he:G (Q0l T ev R ys o et h k)) (hk:Q26 G rs h k K):vop (Q5 P) o env U K:=by
 have af:=D9 hE;have other:∀ o':VOp,G (EG R (LJ o' (N4 et) h) k)->QM (Q8 o' (Q6 env) U) λp=>K p.1 p.2:=by
  intro o' hg;rw[af] at hg;unfold EG at hg;split at hg
  .rename_i p hp;obtain⟨h1,U',h2,h3⟩:=WK hs hp;rw[h2];exact hk _ _ rs U' h1 (λ_ _=>rfl) h3 hg
  .exact(hG.fail hg).elim
 cases o
 case callF f args =>
  simp only[Q0l,af] at he;exact H5 hm hT cF hG hY hs he hk
 case callV f args =>
  simp only[Q0l,af] at he;simp only[vop];unfold OW at he;split at he
  .rename_i g first cap hg
   simp only[hg];exact H5 hm hT cF hG hY hs he hk
  .rename_i i first cap hg
   simp only[hg];exact SX cF hG hY hs he hk
  .exact(hG.fail he).elim
 case ext x =>
  cases x
  case nextMap x =>
   simp only[Q0l,af] at he;exact C9 hG hs he hk
  case delete a b c=>exact other (.ext (.delete a b c)) he
  case mapEntry a z b c=>exact other (.ext (.mapEntry a z b c)) he
  case entryStore a b c=>exact other (.ext (.entryStore a b c)) he
  all_goals exact other _ he
 case move a=>exact other (.move a) he
 case makeFunc a b c=>exact other (.makeFunc a b c) he
 case bad=>exact other .bad he
 all_goals exact other _ he
theorem Bi (hm:P.follows .mixedOrders=true) (hT:TabOk P T) (cF:Sd P ev) (hG:Good R G) {ys:Ys}{k:ET->CH->A}{K:Env->Heap->Prop}:∀ (ops:List VOper) (et:ET) (env:Env) (h:CH) (rs:KE) (U:Heap),
  YOk P ys rs h.n->CSim rs h U->FRel et env->G (FW T ev R ys ops et h k)->Ok G rs h (List.length env) k K->P5 (Q5 P) ops env U K:=by
 intro ops;induction ops with
 |nil=>intro et env h rs U hY hs hE he hk;exact hk et h rs U env (zd _) (λ_ _=>rfl) hs hE rfl he
 |cons o rest ih =>
  intro et env h rs U hY hs hE he hk
  have he:G (match Io et o.guard with
   |none=>R.fail
   |some true=>Q0l T ev R ys o.op et h λv h'=>FW T ev R ys rest (et.put o.dst v) h' k
   |some false=>FW T ev R ys rest (et.put o.dst undef) h k):=he
  rw[CG hE] at he;simp only[P5];split at he
  .exact(hG.fail he).elim
  .rename_i hw;rw[hw];refine⟨λ_=>?_,λhh=>by cases hh⟩;refine PQ hm hT cF hG hE hY hs he ?_;intro v h' bq U' hn hr a7 hg;refine ih _ _ h' bq U' (hY.mono hn hr) a7 (hE.put _ _) hg ?_;intro fJ h2 eo σ2 aR eU dD cU fK hl di;exact hk fJ h2 eo σ2 aR (zW hn eU) (λi hi=>(dD i (by omega)).trans (hr i hi)) cU fK (by rw[hl,Z8]) di
  .rename_i hw;rw[hw];refine⟨λhh=>(by cases hh),λ_=>?_⟩;refine ih _ _ h rs U hY hs (hE.put _ _) he ?_;intro fJ h2 eo σ2 aR eU dD cU fK hl di;exact hk fJ h2 eo σ2 aR eU dD cU fK (by rw[hl,Z8]) di
def CSims (rs:KE) (n:Nat):List CH->List Heap->Prop
 |[],[]=>True
 |h::hs,U::σs=>(CSim rs h U/\h.n<=n)/\CSims rs n hs σs
 |_,_=>False
theorem CSims.mono {rs bq:KE}{n n':Nat}(hn:n<=n') (hr:∀ i,i<n->bq i=rs i):∀ {hs:List CH}{σs:List Heap},CSims rs n hs σs->CSims bq n' hs σs
 |[],[],_=>trivial
 |h::hs,U::σs,⟨⟨h1,h2⟩,h3⟩=>⟨⟨h1.rs λi hi=>hr i (by omega),by omega⟩,CSims.mono hn hr h3⟩
 |[],_::_,h=>h.elim
 |_::_,[],h=>h.elim
theorem CSims.snoc {rs:KE}{n:Nat}{h:CH}{U:Heap}(hs:CSim rs h U) (hn:h.n<=n):∀ {hl:List CH}{σl:List Heap},CSims rs n hl σl->CSims rs n (hl++[h]) (σl++[U])
 |[],[],_=>⟨⟨hs,hn⟩,trivial⟩
 |_::_,_::_,⟨h1,h2⟩=>⟨h1,CSims.snoc hs hn h2⟩
 |[],_::_,h=>h.elim
 |_::_,[],h=>h.elim
theorem Gs {rs:KE}{h:CH}{U:Heap}(hs:CSim rs h U) {op:VOp}{ev:Operand->Value}{v:Value}(hr:CW op ev v h=true):J4 op ev v U:=by
 unfold CW at hr;split at hr
 .rename_i q hq;obtain⟨_,U',h2,_⟩:=WK hs hq;unfold J4;rw[h2];exact N5 _ _ _ hr
 .cases hr
def IH:List (Nat×(CH->Bool))->List (Nat×(Heap->Prop))->Prop
 |[],[]=>True
 |c::l,d::m=>(c.1=d.1/\∀ rs h U,CSim rs h U->c.2 h=true->d.2 U)/\IH l m
 |_,_=>False
theorem N0 {rs:KE}{h:CH}{U:Heap}(hs:CSim rs h U) {r:Nat}:∀ {l:List (Nat×(CH->Bool))}{m:List (Nat×(Heap->Prop))},IH l m->ER r h l=true->J8 r U m
 |[],[],_,_=>trivial
 |c::l,d::m,⟨⟨h1,h2⟩,h3⟩,he=>by
  simp only[ER,z1,zt,Bool.not_eq_true'] at he;refine⟨λhr=>h2 rs h U hs ?_,N0 hs h3 he.2⟩;rcases he.1 with h|h
  .rw[h1,Nat.ble_eq_true_of_le hr] at h;cases h
  .exact h
 |[],_::_,h,_=>h.elim
 |_::_,[],h,_=>h.elim
theorem CSims.mem {rs:KE}{n:Nat}:∀ {hl:List CH}{σl:List Heap},CSims rs n hl σl->∀ (f:CH->Bool) (Q:Heap->Prop),(∀ rs h U,CSim rs h U->f h=true->Q U)->∀ j,(hl.drop j).all f=true->∀ Z∈σl.drop j,Q Z
 |[],[],_,_,_,_,_,_,Z,hτ=>by simp at hτ
 |h::hl,U::σl,⟨h1,h2⟩,f,Q,hQ,0,ha,Z,hτ=>by
  simp only[xr,zX,z1,zD] at ha hτ;rcases hτ with rfl|hτ
  .exact hQ rs h Z h1.1 ha.1
  .exact CSims.mem h2 f Q hQ 0 (by simpa using ha.2) Z (by simpa using hτ)
 |h::hl,U::σl,⟨h1,h2⟩,f,Q,hQ,j+1,ha,Z,hτ=>CSims.mem h2 f Q hQ j (by simpa using ha) Z (by simpa using hτ)
 |[],_::_,h,_,_,_,_,_,_,_=>h.elim
 |_::_,[],h,_,_,_,_,_,_,_=>h.elim
theorem CSims.length {rs:KE}{n:Nat}:∀ {hl:List CH}{σl:List Heap},CSims rs n hl σl->hl.length=σl.length
 |[],[],_=>rfl
 |_::_,_::_,⟨_,h⟩=>by simp[CSims.length h]
 |[],_::_,h=>h.elim
 |_::_,[],h=>h.elim
theorem Gy (hm:P.follows .mixedOrders=true) (hT:TabOk P T) (cF:Sd P ev) (hG:Good R G) {ys:Ys}{k:ET->CH->A}{K:Env->Heap->Prop}:∀ (ops:List DOper) (et:ET) (env:Env) (hl:List CH) (h:CH) (pe:List (Nat×(CH->Bool))) (rs:KE) (σl:List Heap) (U:Heap) (pv:List (Nat×(Heap->Prop))),
  YOk P ys rs h.n->CSim rs h U->FRel et env->CSims rs h.n hl σl->IH pe pv->G (Uq T ev R ys ops et hl h pe k)->Ok G rs h (List.length env) k K->Z9 (Q5 P) ops env σl U pv K:=by
 intro ops;induction ops with
 |nil=>intro et env hl h pe rs σl U pv hY hs hE lK hp he hk;exact hk et h rs U env (zd _) (λ_ _=>rfl) hs hE rfl he
 |cons o rest ih =>
  intro et env hl h pe rs σl U pv hY hs hE lK eC he hk;have af:=D9 hE;simp only[Uq,CG hE,af] at he;simp only[Z9];have hlen:=lK.length;split at he
  .exact(hG.fail he).elim
  .rename_i hw;rw[hw];refine⟨λ_=>?_,λhh=>by cases hh⟩;split at he
   .rename_i aA;rw[z6 aA];split at he
    .rename_i p hp;split at he
     .rename_i lL;obtain⟨jT,kG⟩:=lL;simp only[CH.newOk,z1,zf] at jT;obtain⟨n1,n2,n3⟩:=jT;have n1:h.n<=p.2.n:=zF n1;have n2:p.2.n<=1000000000:=zF n2;have lM:CSim rs p.2 (p.2.toHeap rs):=MF (by omega);refine .inl ⟨p.1,p.2.toHeap rs,?_,?_,?_⟩
      .refine PQ hm hT cF (Q1v p) hE hY hs hp ?_;intro v h' bq U' hn hr a7 hg;have hg:(v,h')=p:=osj hg;subst hg;refine⟨rfl,?_⟩;have:CSim rs h' U':=by
        refine⟨a7.n,a7.sm,λi=>?_⟩;rw[a7.get];cases jy:h'.get i with
        |none=>rfl
        |some b =>
         rcases zr i h.n with hi|hi
         .rw[hr i hi]
         .have aQ:=a7.lt jy;have:=n3 i (List.mem_range'_1.2 ⟨hi,by simp at n1 |-;omega⟩);simp only[jy] at this;cases b<;>first|rfl|cases this
       exact this.eq
      .rw[<-hlen];exact N0 lM eC kG
      .refine ih _ _ _ p.2 pe rs _ _ pv (hY.mono n1 (λ_ _=>rfl)) lM (hE.put _ _) ((lK.mono n1 (λ_ _=>rfl)).snoc lM (zd _)) eC he ?_;intro fJ h2 eo σ2 aR eU dD cU fK b9 di;exact hk fJ h2 eo σ2 aR (zW n1 eU) (λi hi=>dD i (by omega)) cU fK (by rw[b9,Z8]) di
     .exact(hG.fail he).elim
    .exact(hG.fail he).elim
   .rename_i aA;rw[z7 aA];have done:∀ (u:Value) (pa:List (Nat×(CH->Bool))) (pb:List (Nat×(Heap->Prop))),IH pa pb->G (Uq T ev R ys rest (et.put o.dst u) hl h pa k)->Z9 (Q5 P) rest (Jb env o.dst u) σl U pb K:=by
     intro u pa pb bw hg;refine ih _ _ hl h pa rs σl U pb hY hs (hE.put _ _) lK bw hg ?_;intro fJ h2 eo σ2 aR eU dD cU fK b9 di;exact hk fJ h2 eo σ2 aR eU dD cU fK (by rw[b9,Z8]) di
    split at he
    .rename_i aV;rw[z6 aV];split at he
     .rename_i p hp;split at he
      .rename_i hall;obtain⟨_,U',h2,_⟩:=WK hs hp;rw[h2];refine⟨lK.mem _ _ (λrs h U hc hf=>Gs hc hf) _ hall,?_⟩;refine done _ _ _ ?_ he;rw[<-hlen];split
       .exact⟨⟨rfl,λrs h U hc hf=>Gs hc hf⟩,eC⟩
       .exact eC
      .exact(hG.fail he).elim
     .exact(hG.fail he).elim
    .rename_i aV;rw[z7 aV];split at he
     .rename_i p hp;obtain⟨_,U',h2,_⟩:=WK hs hp;rw[h2];exact done _ _ _ eC he
     .exact(hG.fail he).elim
  .rename_i hw;rw[hw];refine⟨λhh=>(by cases hh),λ_=>?_⟩;split at he
   .rename_i aA;rw[z6 aA];split at he
    .rename_i kG;refine⟨by rw[<-hlen];exact N0 hs eC kG,?_⟩;refine ih _ _ _ h pe rs _ U pv hY hs (hE.put _ _) (lK.snoc hs (zd _)) eC he ?_;intro fJ h2 eo σ2 aR eU dD cU fK b9 di;exact hk fJ h2 eo σ2 aR eU dD cU fK (by rw[b9,Z8]) di
    .exact(hG.fail he).elim
   .rename_i aA;rw[z7 aA];refine ih _ _ _ h pe rs _ U pv hY hs (hE.put _ _) lK eC he ?_;intro fJ h2 eo σ2 aR eU dD cU fK b9 di;exact hk fJ h2 eo σ2 aR eU dD cU fK (by rw[b9,Z8]) di
theorem ET.q2n {e:ET}{env:Env}(h:FRel e env):e.list=env:=by
 apply zN;intro i;unfold ET.list;rw[xp];rcases zr i e.m with hi|hi
 .rw[List.getElem?_range hi];have:=h.get i;rw[h.m] at hi;rw[ze,z8 hi] at this;rw[z8 hi,xN,<-this];rfl
 .rw[zI (by simpa using hi),zI (by rw[<-h.m];exact hi)];rfl
theorem Te {ρ:Plc}{n:Nat}{vs:Array Value}{cs:List Value}(h:VRel ρ n (.tuple vs) (.tuple cs.toArray)):LRel ρ n vs.toList cs:=by
 obtain⟨ds,he,hl⟩:=h.q1l;have:cs.toArray=ds:=by injection he
 subst this;simpa using hl
theorem RY (hm:P.follows .mixedOrders=true) (hT:TabOk P T) (cF:Sd P ev) {ys:Ys}{x:Value×CH}{vs:Array Value}(ky:x.1=.tuple vs) {K:Env->Heap->Prop}{et:ET}{env:Env}{h:CH}{rs:KE}{U:Heap}(hY:YOk P ys rs h.n) (hs:CSim rs h U) (hE:FRel et env)
  (hk:K vs.toList (x.2.toHeap rs)):∀ (alts:List (List DOper)),Ax x (A7 T ev ys et h alts)->∀ ops∈alts,Z9 (Q5 P) ops env [U] U [] λbj σ1=>∃ aR σ2,DropE U bj σ1 aR σ2/\K aR σ2:=by
 have one:∀ a:List DOper,Ax x (Q1s T ev ys et h a)->Z9 (Q5 P) a env [U] U [] λbj σ1=>∃ aR σ2,DropE U bj σ1 aR σ2/\K aR σ2:=by intro a ha;refine Gy hm hT cF (TZ x) a et env [h] h [] rs [U] U [] hY hs hE ⟨⟨hs,zd _⟩,trivial⟩ trivial ha ?_;intro dE h' bq U' ae hn hr a7 bT hl hg;obtain⟨y,hy,h1,h2,h3⟩:=hg;unfold Q4h at hy;have hd:=Ga hs a7 hr hy h1 h2 h3;rw[ET.q2n bT,ky] at hd;refine⟨vs.toList,x.2.toHeap rs,?_,hk⟩;intro ρ0 w0 ρ w cs fS p_ hH hL;obtain⟨ρ',d1,d2,d3⟩:=hd ρ0 w0 ρ w (.tuple cs.toArray) fS p_ hH (VRel.q0j hL);exact⟨ρ',Te d1,d2,d3⟩
 intro alts;induction alts with
 |nil=>rintro⟨y,hy,_⟩;cases hy
 |cons a l ih =>
  intro he ops ho;cases l with
  |nil =>obtain rfl:=zK.1 ho;exact one _ he
  |cons b r =>
   obtain⟨g1,g2⟩:=(TZ x).both _ _ he;rcases zD.1 ho with rfl|ho
   .exact one _ g1
   .exact ih g2 ops ho
theorem Sa (hm:P.follows .mixedOrders=true) (hT:TabOk P T) (cF:Sd P ev) (hG:Good R G) {ys:Ys}{k:ET->CH->A}{K:Env->Heap->Prop}:∀ (aT:List DSeg) (et:ET) (env:Env) (h:CH) (rs:KE) (U:Heap),
  YOk P ys rs h.n->CSim rs h U->FRel et env->G (DX T ev R ys aT et h k)->Ok G rs h (List.length env) k K->VS (Q5 P) aT env U K:=by
 intro aT;induction aT with
 |nil=>intro et env h rs U hY hs hE he hk;exact hk et h rs U env (zd _) (λ_ _=>rfl) hs hE rfl he
 |cons x rest ih =>
  intro et env h rs U hY hs hE he hk;have next:Ok G rs h (List.length env) (λet h=>DX T ev R ys rest et h k) (λenv U=>VS (Q5 P) rest env U K):=by intro kF h1 fx σ1 bj gu ff fI fE dS ia;refine ih kF bj h1 fx σ1 (hY.mono gu ff) fI fE ia ?_;intro fJ h2 eo σ2 aR eU dD cU fK b9 di;exact hk fJ h2 eo σ2 aR (zW gu eU) (λi hi=>(dD i (by omega)).trans (ff i hi)) cU fK (b9.trans dS) di
  cases x with
  |one o=>exact Bi hm hT cF hG [o] et env h rs U hY hs hE he next
  |alts l =>
   have many:G (match A7 T ev ys et h l with
     |some x=>(match x.1 with
      |.tuple vs=>if x.2.room=true/\Nat.ble h.n x.2.n=true/\vs.toList.length=et.m then DX T ev R ys rest (ET.of vs.toList 0) x.2 k else R.fail
      |_=>R.fail)
     |none=>R.fail)->VS (Q5 P) (.alts l::rest) env U K:=by
    intro he;split at he
    .rename_i x hx;split at he
     .rename_i vs ky;split at he
      .rename_i hc;obtain⟨c1,c2,c3⟩:=hc;have aG:x.2.n<=1000000000:=zF c1;have tU:FRel (ET.of vs.toList 0) vs.toList:=by
        have:=ET.q1p (args:=vs.toList) (nt:=0) (by show vs.toList.length+(0-vs.toList.length)<=_;have:=hE.sm;omega);simpa using this
       exact RY hm hT cF ky hY hs hE (next _ x.2 rs _ _ (zF c2) (λ_ _=>rfl) (MF (by omega)) tU (by rw[c3,hE.m]) he) l ⟨x,hx,rfl,rfl,λ_=>rfl⟩
      .exact(hG.fail he).elim
     .exact(hG.fail he).elim
    .exact(hG.fail he).elim
   match l,he with
   |[],he=>exact many he
   |[a],he =>intro ops ho;obtain rfl:=zK.1 ho;refine Gy hm hT cF hG ops et env [h] h [] rs [U] U [] hY hs hE ⟨⟨hs,zd _⟩,trivial⟩ trivial he ?_;intro dE h' bq U' ae hn hr a7 bT hl hg;exact⟨ae,U',.refl _ _ _,next dE h' bq U' ae hn hr a7 bT hl hg⟩
   |a::b::r,he=>exact many he
def RF (P:Program) (T:Tab) (ev:Q24) (c:VCode):Prop:=∀ {A:Type}(R:AnsOps A) (G:A->Prop),Good R G->∀ (ys:Ys) (ro:Option Nat) (et:ET) (env:Env) (h:CH) (k:Exit->ET->CH->A) (rs:KE) (U:Heap) (Q:Exit->Env->Heap->Prop),
 YOk P ys rs h.n->CSim rs h U->FRel et env->G (R_ T ev R ys c ro et h k)->IM G rs h (List.length env) k Q->vwp (Q5 P) c ro Q env U
theorem Sn (hm:P.follows .mixedOrders=true) (hT:TabOk P T) (cF:Sd P ev) (hG:Good R G) {ys:Ys}{g:Operand}{ps:List Nat}{a b:VCode}{ro:Option Nat}{et:ET}{env:Env}{h:CH}{k:Exit->ET->CH->A}{rs:KE}{U:Heap}{Q:Exit->Env->Heap->Prop}
  (hY:YOk P ys rs h.n) (hs:CSim rs h U) (hE:FRel et env) (he:G (EV T ev R ys (N4 et g) ps a b ro et h k)) (hk:IM G rs h (List.length env) k Q):vwp (Q5 P) (.rangeF g ps a b) ro Q env U:=by
 rw[D9 hE] at he;unfold EV at he;simp only[vwp,L5];split at he
 .rename_i f first cap hg
  simp only[hg];split at he
  .rename_i vc rl nt hf;have hF:=hT.code f vc rl nt hf;split at he
   .rename_i lL;obtain⟨aQ,aG⟩:=lL;have hit:(Q5 P).it f=some λi Y args U K=>Yr P i Y->VCallsTo P f args U K:=by
     simp only[Q5];rw[z6 hF.enterable]
    rw[hit];refine⟨?_,λr tV=>?_⟩
    .cases ro with
     |none=>trivial
     |some i =>
      simp only[Q0d] at aQ;split at aQ
      .rename_i st pend jy;exact⟨_,_,_,_,hs.lp jy⟩
      .cases aQ
    .let fx:KE:=λi=>if i=h.n then (env,r) else rs i
     have fa:∀ i,i<h.n->fx i=rs i:=λi hi=>by simp only[fx];rw[z7 (by omega)]
     have fI:CSim fx (h.push (.lp .ready none)) (U.push (.obj (.lp env r .ready none) true)) :=
      (hs.rs fa).push aG (by simp[EB.to,fx])
     have tW:YOk P ((h.n,⟨ps,a,b,et⟩)::ys) fx (h.push (.lp .ready none)).n:=by
      intro i c hc;simp only[Ys.find] at hc;split at hc
      .rename_i eW;have eW:=zP eW;subst eW;obtain rfl:=osj hc;refine⟨Nat.lt_succ_self _,by simp only[fx,zx];exact hE,?_⟩;rw[hs.n] at *
       simpa [fx,hs.n] using tV
      .obtain⟨h1,h2,h3⟩:=hY i c hc;rw[fa i h1];exact⟨Nat.lt_succ_of_lt h1,h2,h3⟩
     rw[<-hs.n];refine PV hm cF hG hf hF tW fI he ?_;intro v h' bq U' hn hr a7 dq;have mK:h.n+1<=h'.n:=hn;unfold Q2u at dq;unfold Oy;split at dq
     .rename_i st pend jy;have hi:=a7.lt jy;simp only[a7.lp jy];split at dq
      .rename_i cR;refine⟨(by rintro rfl;cases cR),?_⟩;have agree:∀ j,j<h.n->bq j=rs j:=λj hj=>(hr j (Nat.lt_succ_of_lt hj)).trans (fa j hj);have cP:=a7.kill hi;split at dq
       .exact hk _ _ _ bq _ _ (by show h.n<=h'.n;omega) agree cP hE rfl dq
       .exact hk _ _ _ bq _ _ (by show h.n<=h'.n;omega) agree cP hE rfl dq
       .exact hk _ _ _ bq _ _ (by show h.n<=h'.n;omega) agree cP hE rfl dq
       .exact(hG.fail dq).elim
      .exact(hG.fail dq).elim
     .exact(hG.fail dq).elim
   .exact(hG.fail he).elim
  .exact(hG.fail he).elim
 .exact(hG.fail he).elim
theorem RR (hm:P.follows .mixedOrders=true) (hT:TabOk P T) (cF:Sd P ev)
  (nT:∀ b,RF P T ev b->RF P T ev (.loop b)):∀ (c:VCode),RF P T ev c:=by
 intro c;induction c with
 |skip=>intro A R G hG ys ro et env h k rs U Q hY hs hE he hk;exact hk _ _ _ rs U _ (zd _) (λ_ _=>rfl) hs hE rfl he
 |region ops =>intro A R G hG ys ro et env h k rs U Q hY hs hE he hk;exact Bi hm hT cF hG ops et env h rs U hY hs hE he λdE h' bq U' ae h1 h2 h3 h4 h5 h6=>hk _ _ _ _ _ _ h1 h2 h3 h4 h5 h6
 |regionD aT =>intro A R G hG ys ro et env h k rs U Q hY hs hE he hk;exact Sa hm hT cF hG aT et env h rs U hY hs hE he λdE h' bq U' ae h1 h2 h3 h4 h5 h6=>hk _ _ _ _ _ _ h1 h2 h3 h4 h5 h6
 |rangeF g ps a b fH fj =>intro A R G hG ys ro et env h k rs U Q hY hs hE he hk;exact Sn hm hT cF hG hY hs hE he hk
 |seq a b fH fj =>
  intro A R G hG ys ro et env h k rs U Q hY hs hE he hk;simp only[vwp];refine fH R G hG ys ro et env h _ rs U _ hY hs hE he ?_;intro e dE h' bq U' ae hn hr a7 bT hl hg;cases e with
  |normal =>refine fj R G hG ys ro dE ae h' k bq U' Q (hY.mono hn hr) a7 bT hg ?_;intro e2 fJ h2 eo σ2 aR eU dD cU fK b9 di;exact hk e2 fJ h2 eo σ2 aR (zW hn eU) (λi hi=>(dD i (by omega)).trans (hr i hi)) cU fK (b9.trans hl) di
  |_=>exact hk _ dE h' bq U' ae hn hr a7 bT hl hg
 |cond c a b fH fj =>
  intro A R G hG ys ro et env h k rs U Q hY hs hE he hk;have he:G (Q16 R (N4 et c) (R_ T ev R ys a ro et h k) (R_ T ev R ys b ro et h k)):=he;rw[D9 hE] at he;unfold Q16 at he;simp only[vwp];split at he
  .rename_i hc;rw[hc];exact⟨λ_=>fH R G hG ys ro et env h k rs U Q hY hs hE he hk,λhh=>by cases hh⟩
  .rename_i hc;rw[hc];exact⟨λhh=>(by cases hh),λ_=>fj R G hG ys ro et env h k rs U Q hY hs hE he hk⟩
  .exact(hG.fail he).elim
 |block id b ih =>
  intro A R G hG ys ro et env h k rs U Q hY hs hE he hk;simp only[vwp];refine ih R G hG ys ro et env h _ rs U _ hY hs hE he ?_;intro e dE h' bq U' ae hn hr a7 bT hl hg;cases e with
  |exit iz =>
   simp only[Il] at hg;simp only[CL];split at hg
   .rename_i hid;rw[z6 hid];exact hk _ dE h' bq U' ae hn hr a7 bT hl hg
   .rename_i hid;rw[z7 hid];exact hk _ dE h' bq U' ae hn hr a7 bT hl hg
  |_=>exact hk _ dE h' bq U' ae hn hr a7 bT hl hg
 |loop b ih =>intro A R G hG ys ro et env h k rs U Q hY hs hE he hk;exact nT b ih R G hG ys ro et env h k rs U Q hY hs hE he hk
 |exit id=>intro A R G hG ys ro et env h k rs U Q hY hs hE he hk;exact hk _ _ _ rs U _ (zd _) (λ_ _=>rfl) hs hE rfl he
 |ret=>intro A R G hG ys ro et env h k rs U Q hY hs hE he hk;exact hk _ _ _ rs U _ (zd _) (λ_ _=>rfl) hs hE rfl he
 |bad=>intro A R G hG ys ro et env h k rs U Q hY hs hE he hk;exact(hG.fail he).elim
theorem Pr {v:Value}(h:AB v=true):QA v=true\/∃ vs,v=.tuple vs/\vs.toList.all QA=true:=by unfold AB at h;split at h<;>first|exact .inl rfl|exact .inr ⟨_,rfl,h⟩|cases h
theorem OF {ρ:Plc}{n:Nat}{v c:Value}(h:AB v=true) (hv:VRel ρ n v c):c=v:=by
 rcases Pr h with hp|⟨vs,rfl,hall⟩
 .exact XK hp hv
 .obtain⟨ds,rfl,hl⟩:=hv.q1l;have hall:∀ x∈vs.toList,QA x=true:=zf.1 hall;have:ds.toList=vs.toList:=by
   apply zN;intro i;rcases zr i vs.toList.length with hi|hi
   .have bS:i<ds.toList.length:=by rw[<-hl.1];exact hi
    rw[z8 hi,z8 bS];rw[XK (hall _ (zq hi)) (hl.2 i _ _ (z8 hi) (z8 bS))]
   .rw[zI hi,zI (by rw[<-hl.1];exact hi)]
  rw[H4 this]
theorem Fa {ρ:Plc}{n:Nat}{v:Value}(h:AB v=true):VRel ρ n v v:=by
 rcases Pr h with hp|⟨vs,rfl,hall⟩
 .exact JE hp
 .exact .tuple _ _ rfl λi h1 _=>JE (zf.1 hall _ (by simp))
theorem Mt (m:Nat) (env:Env) (h:List.length env=m):GJ (List.range m) env=env:=by
 apply zN;intro i;simp only[GJ,xp];rcases zr i m with hi|hi
 .rw[List.getElem?_range hi];simp[ze,h,hi]
 .rw[zI (by simpa using hi),zI (by omega)];rfl
theorem PT:∀ (l:List Nat) (vs base:List Value) (i:Nat),l.Nodup->vs.length=l.length->(∀ x∈l,x<base.length)->(JM l vs base)[i]?=if i∈l then vs[l.idxOf i]? else base[i]?
 |[],[],base,i,_,_,_=>by simp[JM]
 |[],_::_,_,_,_,h,_=>by simp at h
 |_::_,[],_,_,_,h,_=>by simp at h
 |x::l,v::vs,base,i,hn,h,hb=>by
  obtain⟨h1,h2⟩:=zO.1 hn;simp only[JM];rw[PT l vs _ i h2 (by simpa using h) (λy hy=>by rw[xi];exact hb y (by simp[hy]))];by_cases gy:i=x
  .subst gy;rw[z7 h1,z6 (by simp),List.getElem?_set_self (hb i (by simp))];simp
  .by_cases iI:i∈l
   .have e:(x::l).idxOf i=l.idxOf i+1:=by rw[List.idxOf_cons,show (x==i)=false from by simpa using Ne.symm gy];rfl
    rw[z6 iI,z6 (by simp[iI]),e];rfl
   .rw[z7 iI,z7 (by simp[gy,iI]),List.getElem?_set_ne (Ne.symm gy)]
theorem SN (m:Nat) (vs:List Value) (h:vs.length=m):JM (List.range m) vs (List.replicate m poison)=vs:=by
 apply zN;intro i;rw[PT _ _ _ _ List.nodup_range (by simpa using h) (λx hx=>by simpa using hx)];split
 .rename_i hi;have hi:=zL.1 hi;have:(List.range m).idxOf i=i:=by
   have h1:(List.range m).idxOf i<(List.range m).length:=List.idxOf_lt_length_of_mem (zL.2 hi);have h2:=List.getElem_idxOf h1;rw[List.getElem_range] at h2;exact h2
  rw[this]
 .rename_i hi;have hi:m<=i:=by simpa using hi
  rw[zI (by simpa using hi),zI (by omega)]
theorem Eo (hm:P.follows .mixedOrders=true) (hT:TabOk P T):∀ (n:Nat) (c:VCode),RF P T (SF T n) c:=by
 intro n;induction n using Nat.strongRecOn with
 |ind n o7 =>
  have cF:Sd P (SF T n):=by
   cases n with
   |zero=>intro A R G hG ys c ro et env h k rs U Q hY hs hE he hk;exact(hG.fail he).elim
   |succ n=>intro A R G hG ys c ro et env h k rs U Q hY hs hE he hk;exact o7 n (Nat.lt_succ_self _) c R G hG ys ro et env h k rs U Q hY hs hE he hk
  refine RR hm hT cF λb fj=>?_;intro A R G hG ys ro et env h k rs U Q hY hs hE he hk;have nU:∀ j,j<=n->RF P T (SF T j) b:=λj hj=>by
   rcases zr j n with h'|h'
   .exact o7 j h' b
   .obtain rfl:j=n:=by omega
    exact fj
  simp only[vwp];refine⟨List.range (List.length env),λj vs σ1=>j<=n/\∃ kF h1 fx,h.n<=h1.n/\(∀ i,i<h.n->fx i=rs i)/\CSim fx h1 σ1/\FRel kF vs/\List.length vs=List.length env/\G (R_ T (SF T j) R ys (.loop b) ro kF h1 k),n,?_,?_⟩
  .rw[Mt _ _ rfl];exact⟨zd _,et,h,rs,zd _,λ_ _=>rfl,hs,hE,rfl,he⟩
  .rintro j vs σ1 ⟨hj,kF,h1,fx,g1,g2,g3,gE,g4,g5⟩;rw[SN _ _ g4];refine nU j hj R G hG ys ro kF vs h1 _ fx σ1 _ (hY.mono g1 g2) g3 gE g5 ?_;intro e dE h' bq U' ae hn hr a7 bT hl hg;cases e with
   |normal =>
    cases j with
    |zero=>exact(hG.fail hg).elim
    |succ j =>
     refine⟨j,Nat.lt_succ_self _,by omega,dE,h',bq,zW g1 hn,λi hi=>(hr i (by omega)).trans (g2 i hi),a7,?_,?_,?_⟩
     .rw[Mt _ _ (hl.trans g4)];exact bT
     .rw[Mt _ _ (hl.trans g4)];exact hl.trans g4
     .exact hg
   |_=>exact hk _ dE h' bq U' ae (zW g1 hn) (λi hi=>(hr i (by omega)).trans (g2 i hi)) a7 bT (hl.trans g4) hg
theorem Lp (hm:P.follows .mixedOrders=true) (hT:TabOk P T) (n:Nat):Sd P (SF T n):=by
 cases n with
 |zero=>intro A R G hG ys c ro et env h k rs U Q hY hs hE he hk;exact(hG.fail he).elim
 |succ n=>intro A R G hG ys c ro et env h k rs U Q hY hs hE he hk;exact Eo hm hT n c R G hG ys ro et env h k rs U Q hY hs hE he hk
theorem HRel.forget {ρ:Plc}{U:Heap}{w:World}(hH:HRel ρ U w):HRel (λ_=>none) Heap.empty w :=
 ⟨⟨λi b h=>(by cases h),λ_ _=>rfl,λi p h=>(by cases h),λi j p q b _ h=>(by cases h)⟩,λg cs hg=>⟨(hH.tab g cs hg).1,λ⟨_,_,_,h,_⟩=>by cases h⟩⟩
theorem La {f:FuncId}{args:List Value}(ha:args.all QA=true) {v:Value}(hv:AB v=true) (he:ZT P f) (h0:VCallsTo P f args Heap.empty (λu _=>u=v)) {U:Heap}{K:Value->Heap->Prop}(hK:K v U):VCalled P f args U K:=by
 refine VCallsTo.called he ?_;intro ρ w au hH hL;refine (h0 (λ_=>none) w au hH.forget ?_).mono ?_
 .refine⟨hL.1,λi a c jY hc=>?_⟩;have hp:=zf.1 ha a (xc jY);have:=XK hp (hL.2 i a c jY hc);subst this;exact JE hp
 .rintro e w' ⟨c,rfl,u,ρ',U',rfl,eB,gv,hE⟩;refine⟨c,rfl,u,ρ,U,hK,?_,?_,?_⟩
  .have:c=u:=OF hv eB;subst this;exact Fa hv
  .exact hH.world hE.size (λi p hp=>hE.keep _ (hH.lt i p hp) (λ⟨_,_,_,h,_⟩=>by cases h)) λg cs hg=>hE.keep _ (hH.tab.lt hg) (λ⟨_,_,_,h,_⟩=>by cases h)
  .exact⟨hE.os,hE.tape,hE.output,hE.size,λB hB _=>hE.keep B hB (λ⟨_,_,_,h,_⟩=>by cases h),λ_ _ h=>h,zd _,λ_ _ _ h=>h⟩
theorem O5 (hm:P.follows .mixedOrders=true) (hT:TabOk P T) (n:Nat) {f:FuncId}{vc:VCode}{rl:List VResult}{nt:Nat}(hF:Fun P f vc rl nt) (args:List Value) (ha:args.all QA=true) (v:Value) (hv:AB v=true) (p:Value->Bool) (hp:∀ u,p u=true->u=v)
  (dV:Nat.ble (ET.of args nt).m 1000000=true) (he:SF T n Vz [] vc none (ET.of args nt) CH.empty (Q1k false rl λv _=>p v)=true) {U:Heap}{K:Value->Heap->Prop}(hK:K v U):VCalled P f args U K:=by
 refine La ha hv hF.enterable ?_ hK;refine hF.callsTo hm T_ ?_
 exact Lp hm hT n Vz (·=true) CK [] vc none _ _ CH.empty _ (λ_=>([],default)) Heap.empty _ (λi c h=>by cases h) ⟨rfl,by decide,λi=>rfl⟩ (ET.q1p (zF dV)) he
  (VB (R:=Vz) CK λv' h' bq U' _ _ _ hg=>hp v' hg)
end
end Go.V
namespace Go.V
open Go
def O3 (P:Program) (f:FuncId):Option FEnt->Prop
 |none=>True
 |some (.code vc rs nt)=>Fun P f vc rs nt
 |some (.codeJ vc rs nt)=>Fun P f vc rs nt
 |some (.codeM vc rs nt ms)=>Fun P f vc rs nt/\∀ m∈ms,Ib P f m
 |some .same=>∀ (v:Value) (U:Heap) (K:Value->Heap->Prop),K v U->VCalled P f [v] U K
def EntsOk (P:Program):Nat->List (Option FEnt)->Prop
 |_,[]=>True
 |i,e::l=>O3 P i e/\EntsOk P (i+1) l
theorem EntsOk.get {P:Program}:∀ {l:List (Option FEnt)}{i j:Nat}{e:FEnt},EntsOk P i l->l[j]?=some (some e)->O3 P (i+j) (some e)
 |[],_,_,_,_,h=>by simp at h
 |x::l,i,0,e,h,hj=>by simp at hj;subst hj;exact h.1
 |x::l,i,j+1,e,h,hj=>by have:=EntsOk.get (l:=l) (i:=i+1) (j:=j) h.2 (by simpa using hj);rw[zE,xR 1 j] at this;exact this
theorem O0 {P:Program}{l:List (Option FEnt)}(h:EntsOk P 0 l):TabOk P (λf=>(l[f]?).join):=by
 have key:∀ f e,(l[f]?).join=some e->O3 P f (some e):=λf e he=>by
  have:=EntsOk.get (j:=f) (e:=e) h (by
   cases hl:l[f]? with
   |none=>rw[hl] at he;cases he
   |some x=>rw[hl] at he;simp at he;rw[he])
  simpa using this
 exact⟨λf vc rs nt he=>key f _ he,λf vc rs nt he=>key f _ he,λf vc rs nt ms he=>key f _ he,λf he=>key f _ he⟩
theorem Oc {P:Program}{f:FuncId}{fn:Func}{e:Array Value->Sem Value}(hf:P.funcs[f]?=some fn) (h1:(fn.name=="runtime.NumGoroutine")=false) (h2:fn.body.isNone=true) (h3:Extern.findNext fn=none) (h4:Extern.find fn=some e) (h5:∀ (c:Value) w,(e #[c]).run P w=.ok c w)
  (v:Value) (U:Heap) (K:Value->Heap->Prop) (hK:K v U):VCalled P f [v] U K:=by
 intro ρ w au hH hL;obtain⟨c,hc⟩:∃ c,au=#[c]:=by
  have hl:=hL.1
  match au,hl with
  |⟨[c]⟩,_=>exact⟨c,rfl⟩
 subst hc;refine .inr ⟨c,⟨v,ρ,U,hK,hL.2 0 v c rfl rfl,hH,Ext.refl _ _ _⟩,λw' _=>?_⟩;have fh:fn.body=none:=by simpa using h2
 have ij:¬ fn.name="runtime.NumGoroutine":=by simpa using h1
 simp[callFunc,hf,ij,fh,h3,h4,h5]
def isTrue:Value->Bool
 |.bool true=>true
 |_=>false
theorem Iu {v:Value}(h:isTrue v=true):v=.bool true:=by
 unfold isTrue at h;split at h
 .rfl
 .cases h
theorem OA {P:Program}(hm:P.follows .mixedOrders=true) {T:Tab}(hT:TabOk P T) (n:Nat) {f:FuncId}{vc:VCode}{rl:List VResult}{nt:Nat}(hF:Fun P f vc rl nt) (dV:Nat.ble (ET.of [] nt).m 1000000=true)
  (he:SF T n Vz [] vc none (ET.of [] nt) CH.empty (Q1k false rl λv _=>isTrue v)=true) {U:Heap}{K:Value->Heap->Prop}(hK:K (.bool true) U):VCalled P f [] U K :=
 O5 hm hT n hF [] rfl (.bool true) rfl isTrue (λ_ h=>Iu h) dV he hK
end Go.V