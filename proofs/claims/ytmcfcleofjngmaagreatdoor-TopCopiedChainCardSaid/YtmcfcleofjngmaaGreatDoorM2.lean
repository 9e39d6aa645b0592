
import Derived.RangeFuncLeaves
import Derived.RangeFuncCalls
import Derived.OrdersIn
import Derived.TacticsIn
import Derived.Sort.LoopGhostIn
import Derived.Deep.LoopGhost
import Derived.Test.YtmcfcleofjngmaaGreatDoorM1
noncomputable section
namespace Go.V
open Go
section
variable {P:Program}{S:VSpecs}{B:Nat}
def FF:Option Nat->Fence
 |none=>Fence.wide
 |some l=>Fence.wide.inRound l
theorem Q3p (ro:Option Nat) (f:FuncId):(FF ro).fn f:=by cases ro<;>trivial
theorem EU (ro:Option Nat):(FF ro).depth=none:=by cases ro<;>rfl
theorem Q9l (ro:Option Nat):(FF ro).round=ro:=by cases ro<;>rfl
theorem Q2u {ro:Option Nat}{n:Nat}{f:FuncId}{args:Array Value}{w:World}{R:Ending->World->Prop}(h:Calls P f args w R):CallsIn (FF ro) n P f args w R:=by
 cases ro with
 |none=>exact callsIn_wide.2 h
 |some l=>exact CallsIn.inRound l (callsIn_wide.2 h)
theorem Q0b {ro:Option Nat}{n m:Nat}{l:Nat}{f:FuncId}{tmps:Array Value}{eN body:Code}{w:World}{R:Ending->World->Prop}(h:RoundIn Fence.wide m P l f tmps eN body w R):RoundIn (FF ro) n P l f tmps eN body w R:=by refine⟨Q3p _ _,λc cs _=>?_⟩;obtain⟨e,w',r,s⟩:=h.2 c cs (room_wide _);refine⟨e,w',r,?_⟩;cases ro<;>exact s
def Got (ρ:Plc) (U:Heap) (w:World) (R:Value->Heap->Prop) (c:Value) (w':World):Prop :=
 ∃ v ρ' U',R v U'/\VRel ρ' U'.n v c/\HRel ρ' U' w'/\Ext ρ U w ρ' U' w'
def VCallsTo (P:Program) (f:FuncId) (args:List Value) (U:Heap) (R:Value->Heap->Prop):Prop :=
 ∀ ρ w (au:Array Value),HRel ρ U w->LRel ρ U.n args au.toList->Calls P f au w λe w'=>∃ c,e=.returned c/\Got ρ U w R c w'
def VCalled (P:Program) (f:FuncId) (args:List Value) (U:Heap) (R:Value->Heap->Prop):Prop :=
 ∀ ρ w (au:Array Value),HRel ρ U w->LRel ρ U.n args au.toList ->
  ((∀ w,(callFunc f au).run P w=.ok (.enter f au) w)/\Calls P f au w λe w'=>∃ c,e=.returned c/\Got ρ U w R c w') \/
  (∃ c,Got ρ U w R c w/\∀ w',Like ρ w w'->(callFunc f au).run P w'=.ok (.value c) w')
def SN (P:Program) (i:Nat) (args:List Value) (U:Heap) (R:Value->Heap->Prop):Prop :=
 ∀ ρ w (au:Array Value),HRel ρ U w->LRel ρ U.n args au.toList ->
  ∃ p,ρ i=some p/\∃ fn tmps eN body,(Instr.yield p.blk au).run P w=.ok (.round p.blk fn tmps eN body) w /\
   RoundIn Fence.wide 0 P p.blk fn tmps eN body w λe w'=>∃ c,e=.returned c/\Got ρ U w R c w'
def Wf (P:Program) (f:FuncId):Prop:=∃ fn,P.funcs[f]?=some fn/\fn.body.isSome=true/\(fn.name=="runtime.NumGoroutine")=false
def Z8k (P:Program) (f:FuncId) (s:CD):Prop:=∀ args U K,s args U K->VCalled P f args U K
def UR (P:Program) (i:Nat) (s:CD):Prop:=∀ args U K,s args U K->SN P i args U K
def Z6t (P:Program) (f:FuncId) (T:Nat->CD->CD):Prop:=Wf P f/\∀ i Y,UR P i Y->∀ args U K,T i Y args U K->VCallsTo P f args U K
structure OkSpecs (P:Program) (S:VSpecs):Prop where
 fn:∀ f s,S.fn f=some s->Z8k P f s
 yl:∀ i s,S.yl i=some s->UR P i s
 it:∀ f T,S.it f=some T->Z6t P f T
theorem GQ {f:FuncId}(h:Wf P f) (args:Array Value) (w:World):(callFunc f args).run P w=.ok (.enter f args) w:=by
 obtain⟨fn,h1,h2,h3⟩:=h;have h4:¬ fn.body=none:=λe=>by rw[e] at h2;cases h2
 have h5:¬ fn.name="runtime.NumGoroutine":=λe=>by rw[e] at h3;simp at h3
 simp[callFunc,h1,h4,h5]
theorem VCallsTo.called {f:FuncId}{args:List Value}{U:Heap}{R:Value->Heap->Prop}(he:Wf P f) (h:VCallsTo P f args U R):VCalled P f args U R :=
 fun ρ w au hH hL=>.inl ⟨λw=>GQ he au w,h ρ w au hH hL⟩
theorem Got.mono {ρ:Plc}{U:Heap}{w:World}{R R':Value->Heap->Prop}{c:Value}{w':World}(h:Got ρ U w R c w') (hr:∀ v U',R v U'->R' v U'):Got ρ U w R' c w' :=
 let ⟨v,ρ',U',h1,h2⟩:=h;⟨v,ρ',U',hr _ _ h1,h2⟩
theorem VCallsTo.mono {f:FuncId}{args:List Value}{U:Heap}{R R':Value->Heap->Prop}(h:VCallsTo P f args U R) (hr:∀ v U',R v U'->R' v U'):VCallsTo P f args U R' :=
 fun ρ w au hH hL=>(h ρ w au hH hL).mono λ_ _ ⟨c,he,hg⟩=>⟨c,he,hg.mono hr⟩
theorem Ve {ρ:Plc}{n:Nat}{env:Env}{a:Act}(h:LRel ρ n env a.tmps.toList) {v c:Value}(hv:VRel ρ n v c) (d:Option Nat):LRel ρ n (XH env d v) (a.put d c).tmps.toList:=by
 cases d with
 |none=>exact h
 |some d=>simp only[XH,Act.put,Array.toList_setIfInBounds];exact h.set d hv
theorem J0 (env:Env) (d:Option Nat) (v:Value):List.length (XH env d v)=List.length env:=by cases d<;>simp[XH]
theorem W3 (a:Act) (d:Option Nat) (c:Value):(a.put d c).defers=a.defers:=by cases d<;>rfl
theorem HS {ρ:Plc}{n:Nat}{env:Env}{a:Act}{ops:Array Oper}{o:Oper}{vo:VOper}(hc:JH P ops o=some vo) (hL:LRel ρ n env a.tmps.toList) {b:Bool}(h:JD env vo.guard=some b) :
  Region.wanted o (yielded ops a.tmps)=b/\vo.dst=o.dst/\U2 P o.op=vo.op:=by
 unfold JH at hc;simp only[zy] at hc;cases hg:o.guard with
 |none =>simp[hg] at hc;subst hc;simp[JD] at h;subst h;simp[Region.wanted,hg]
 |some jw =>
  obtain⟨j,want⟩:=jw;simp[hg] at hc;cases hj:ops[j]? with
  |none=>simp[hj] at hc
  |some oj =>
   cases hd:oj.dst with
   |none=>simp[hj,hd] at hc
   |some d =>
    simp[hj,hd] at hc;subst hc;refine⟨?_,rfl,rfl⟩;simp only[JD] at h;simp only[Region.wanted,hg,yielded,hj,xi,hd];have hlen:List.length env=a.tmps.size:=by have:=hL.1;omega
    rcases zo d (List.length env) with aj|bI
    .have cX:d<a.tmps.size:=by rw[<-hlen];exact aj
     have hr:=hL.2 d env[d] a.tmps[d] (z8 aj) (by simp[cX]);have he:env.getD d undef=env[d]:=by simp[List.getD,aj]
     rw[he] at h;simp only[xI cX];split at h
     .rename_i b' heq;rw[heq] at hr;rw[hr.q1e];simp at h;simp[<-h]
     .rename_i vs heq;rw[heq] at hr;obtain⟨ds,hds,_⟩:=hr.q1m;simp_all
     .cases h
    .have he:env.getD d undef=undef:=by simp_all
     rw[he] at h;have:a.tmps[d]?=none:=(by simp_all);simp only[this];simp[undef] at h;subst h;simp
theorem Q94 {o:Oper}{vo:VOp}(hc:N6 P o.op=some vo) {ρ:Plc}{U:Heap}{env:Env}{a:Act}(hL:LRel ρ U.n env a.tmps.toList) {K:Value->Heap->Prop}
  (aE:(∃ f bS,vo=.callF f bS)\/(∃ f bS,vo=.callV f bS)) {σ0:Heap}(h:vop S vo env σ0 K) :
  (∃ f args au,vcall S f args σ0 K/\LRel ρ U.n args au.toList/\∀ w,(execOp a.eval o).run P w=(callFunc f au).run P w) \/
  (∃ i r args au,Q3g S i args σ0 K/\VRel ρ U.n (.func (.yield i) #[] #[]) (.func (.yield r) #[] #[])/\LRel ρ U.n args au.toList/\∀ w,(execOp a.eval o).run P w=(Instr.yield r au).run P w):=by
 have bt:=hc;cases eL:N6 P o.op with
 |none=>rw[eL] at hc;cases hc
 |some tM =>
  clear eL hc tM;obtain⟨dst,op,ty,pos,after,guard⟩:=o;simp only at bt;unfold N6 at bt;split at bt
  .cases bt
  rename_i ak;simp only[w_,xM] at ak;cases op
  case call c =>
   simp only[Op.operands] at ak bt;split at bt
   .rename_i f aI;simp at bt;subst bt;simp only[vop] at h;have ax:(c.args.toList).all W1=true:=by
     simp only[Call.operands,aI,Array.toList_append,List.all_append,z0] at ak;exact ak.2
    refine .inl ⟨f,_,c.args.map a.eval,h,by have:=Is (λx hx=>Yl hL hx) ax;simpa using this,λw=>?_⟩;simp[execOp,resolve,aI,Act.eval,Deferred.ofValue,invoke]
   .rename_i fo aG aI;simp at bt;subst bt;simp only[vop] at h;simp only[Call.operands,aI,Array.toList_append,List.all_append,z0] at ak;have hf:=Yl hL (x:=fo) (by simpa using ak.1);have has:=Is (λx hx=>Yl hL hx) ak.2;split at h
    .rename_i g first cap heq
     rw[heq] at hf;cases mW:a.eval fo with
     |func fn gs ds =>
      rw[mW] at hf;cases hf with
      |func _ _ _ _ _ h1 h2 h3 h4 =>
       refine .inl ⟨g,_,gs++c.args.map a.eval++ds,h,?_,λw=>?_⟩
       .have dz:=LRel.of_array h1 h3;have cN:=LRel.of_array h2 h4;have:=(dz.append has).append cN;simpa using this
       .simp[execOp,resolve,aI,mW,Deferred.ofValue,invoke]
     |_=>rw[mW] at hf;cases hf
    .rename_i i first cap heq
     rw[heq] at hf;have hinv:∀ c,VRel ρ U.n (.func (.yield i) first cap) c->∃ r,c=.func (.yield r) #[] #[]/\VRel ρ U.n (.func (.yield i) #[] #[]) (.func (.yield r) #[] #[]):=by
      intro c h;cases h with
      |yield _ r hi hr=>exact⟨r,rfl,.yield i r hi hr⟩
     obtain⟨r,mW,hv⟩:=hinv _ hf;refine .inr ⟨i,r,_,c.args.map a.eval,h,hv,by simpa using has,λw=>?_⟩;simp[execOp,resolve,aI,mW,Deferred.ofValue,invoke]
    .cases h
   all_goals
    repeat' first
     |(cases bt;done)
     |(simp at bt;subst bt;rcases aE with⟨f,bS,h⟩|⟨f,bS,h⟩<;>cases h;done)
     |split at bt
   grind [Option.bind_eq_bind,Option.bind_eq_some_iff]
  all_goals simp only[Op.operands] at ak bt
  all_goals
   repeat' first
    |(cases bt;done)
    |(simp at bt;subst bt;rcases aE with⟨f,bS,h⟩|⟨f,bS,h⟩<;>cases h;done)
    |split at bt
  all_goals simp only[zy,zY,reduceCtorEq,and_false,exists_false] at bt
  all_goals first
   |(obtain⟨_,_,bt⟩:=bt;simp at bt;subst bt;rcases aE with⟨f,bS,h⟩|⟨f,bS,h⟩<;>cases h;done)
   |(obtain⟨_,_,_,_,bt⟩:=bt;simp at bt;subst bt;rcases aE with⟨f,bS,h⟩|⟨f,bS,h⟩<;>cases h;done)
   |(obtain⟨_,_,_,_,_,_,bt⟩:=bt;simp at bt;subst bt;rcases aE with⟨f,bS,h⟩|⟨f,bS,h⟩<;>cases h;done)
   |(obtain⟨d,_,bt⟩:=bt;cases d<;>simp at bt<;>subst bt<;>rcases aE with⟨f,bS,h⟩|⟨f,bS,h⟩<;>cases h;done)
   |(obtain⟨_,_,_,_,bt⟩:=bt;split at bt<;>simp at bt;subst bt;rcases aE with⟨f,bS,h⟩|⟨f,bS,h⟩<;>cases h;done)
   |(obtain⟨_,_,bt⟩:=bt;split at bt<;>simp at bt;subst bt;rcases aE with⟨f,bS,h⟩|⟨f,bS,h⟩<;>cases h;done)
theorem GC {o:Op}{vo:VOp}(h:U2 P o=vo) (hv:vo≠.bad):N6 P o=some vo\/∃ x,CU P o=some x/\vo=.ext x:=by
 unfold U2 at h
 grind
theorem Q3w {o:Op}{x:XOp}(h:N6 P o=some (.ext x)):False:=by
 unfold N6 at h
 repeat' first
  |contradiction
  |(cases h;done)
  |(simp at h;done)
  |(rw[zy,zY] at h;obtain⟨_,_,h⟩:=h)
  |split at h
theorem Ic {o:Op}{vo:VOp}(h:U2 P o=vo) (hv:vo≠.bad) (c:Call):o≠.defer c:=by
 rintro rfl;rcases GC h hv with h|⟨x,h,_⟩
 .unfold N6 at h;split at h<;>simp at h
 .unfold CU at h;split at h<;>simp at h
theorem Q4f {o:Oper}{x:Operand}(hc:CU P o.op=some (.nextMap x)) {ρ:Plc}{U:Heap}{w:World}{env:Env}{ev:Operand->Value}(hH:HRel ρ U w) (hE:∀ x,W1 x=true->VRel ρ U.n (Q5 env x) (ev x))
  {K:Value->Heap->Prop}(h:Q0h (Q5 env x) U K):∃ c w',(execOp ev o).run P w=.ok (.value c) w'/\Got ρ U w K c w':=by
 obtain⟨dst,op,ty,pos,after,guard⟩:=o;simp only at hc;unfold CU at hc;split at hc
 .cases hc
 rename_i ak;simp only[w_,xM] at ak;have bD:op=.next x false:=by
  cases op
  case next y b=>cases b<;>simp at hc;subst hc;rfl
  all_goals
   simp only at hc
   repeat' first
    |contradiction
    |(obtain⟨_,h⟩:=Q4j hc;cases h;done)
    |(cases hc;done)
    |(simp at hc;done)
    |(rw[zy,zY] at hc;obtain⟨_,_,hc⟩:=hc)
    |split at hc
 subst bD;clear hc;simp[Op.operands] at ak;have hx:=hE x ak;unfold Q0h at h;split at h
 .rename_i i bc;rw[bc] at hx;split at h
  .rename_i m since seen last hb;split at h
   .rename_i es clock wr aA;obtain⟨h1,hall,h2,h3⟩:=h;obtain⟨p,hp,⟨_,dP⟩,O,hO,rm,rfl,oY⟩:=hH.live i _ hb;obtain⟨q,entries,iu,cD,aD,aH⟩:=Wo hH aA oY;simp at iu;subst iu;obtain⟨_,_,bU⟩:=hx.q0w hp;rw[dP,zU] at bU;have gT:(getObj p.blk).run P w=.ok (.mapIter (some q.blk) since seen.toArray last) w:=(by grind [QE]);have eK:(getObj q.blk).run P w=.ok (.map entries clock) w:=(by grind [QE]);let left:=entries.filter λe=>!seen.toArray.contains e.born;let aX:=left.filter (·.born<since);let new:=left.filter (·.born>=since);let b7:Array (Option MapEntry):=(if aX.isEmpty then #[none] else #[])++(aX++new).map some;have bh:0<b7.size:=by
     by_cases ho:aX.isEmpty=true
     .grind
     .have:aX.size≠0:=(by simp_all)
      grind
    obtain⟨k,w1,hk,dI,rS⟩:∃ k w1,k<b7.size/\(choose (.mapNext b7.size)).run P w=.ok k w1/\(w1=w\/w1=w.drew):=by
     rw[run_choose_drew];by_cases hf:(Question.mapNext b7.size).forced=true
     .exact⟨0,w,bh,by rw[z6 hf],.inl rfl⟩
     .refine⟨_,w.drew,?_,by rw[z7 hf],.inr rfl⟩;exact xT _ bh
    have iZ:HRel ρ U w1:=by rcases rS with rfl|rfl;exact hH;exact hH.drew
    have fv:Ext ρ U w ρ U w1:=by grind [Ext.refl,Ext.drew]
    have tN:w1.heap[p.blk]?=some (.mapIter (some q.blk) since seen.toArray last):=by rcases rS with rfl|rfl<;>exact hO
    have ah:¬ ((!seen.toArray.isEmpty&&!entries.isEmpty&&entries.all (λe=>decide (e.born>=last)))=true):=by
     intro hh;simp only[z0] at hh;obtain⟨⟨h4,h5⟩,h6⟩:=hh;simp only[zr] at h1;rcases h1 with (h1|h1)|h1
     .simp_all
     .rw[List.isEmpty_iff] at h1;subst h1;have:entries=#[]:=by have:=aH.1;simpa using this
      subst this;simp at h5
     .obtain⟨kv,dN,aj⟩:=xE.1 h1;obtain⟨j,hj⟩:=xc.1 dN;have cM:j<entries.toList.length:=by rw[aH.1];grind
      have he:=aH.2 j entries.toList[j] kv (z8 cM) hj;have:=Array.all_eq_true'.1 h6 entries.toList[j] (by rw[<-Array.mem_toList_iff];exact zl cM);have h7:=he.2.1
      grind
    have aW:∀ r,(match b7[k]? with
      |some (some e)=>(do setObj p.blk (.mapIter (some q.blk) since (seen.toArray.push e.born) clock);pure (Value.tuple #[.bool true,e.key,e.val]):Sem Value)
      |some none=>pure (.tuple #[.bool false])
      |none=>stuck "Next: no such candidate").run P w1=r->(Instr.next (ev x) false ty).run P w=r:=by
     intro r hr;rw[<-hr];simp only[Instr.next,bU,zp,gT,eK,zg];rw[z7 ah];simp only[zp];change ((choose (Question.mapNext b7.size)).run P w).andThen _=_;rw[dI];rfl
    have hval:∀ c w',(Instr.next (ev x) false ty).run P w=.ok c w'->(execOp ev ⟨dst,.next x false,ty,pos,after,guard⟩).run P w=.ok (.value c) w':=λc w' h=>by simp[execOp,h]
    have eM:b7[k]?=some b7[k]:=xI hk;cases hx:b7[k] with
    |none =>
     rw[hx] at eM;have aP:none∈b7:=hx▸Array.getElem_mem hk;have hold:aX.isEmpty=true:=by
      grind
     refine⟨_,w1,hval _ _ (aW _ (by rw[eM];rfl)),_,ρ,U,h2 ?_,VRel.q0j (LRel.cons (.bool _) (LRel.nil _ _)),iZ,fv⟩;refine zf.2 λkv dN=>?_;obtain⟨j,hj⟩:=xc.1 dN;have cM:j<entries.toList.length:=by rw[aH.1];grind
     have he:=aH.2 j entries.toList[j] kv (z8 cM) hj;cases tO:seen.contains kv.2.2 with
     |true=>rfl
     |false =>
      simp only[Bool.false_or,zh];rcases zo kv.2.2 since with aj|bI
      .exfalso;have:entries.toList[j]∈aX:=by
        simp only[aX,left,Array.mem_filter,zh];refine⟨⟨by simp_all,?_⟩,by rw[he.2.1];exact aj⟩;rw[he.2.1];simpa using tO
       simp_all
      .exact bI
    |some e =>
     rw[hx] at eM;have aP:some e∈b7:=hx▸Array.getElem_mem hk;have mX:e∈left:=by
      have h4:e∈aX++new:=by simp only[b7,Array.mem_append,Array.mem_map] at aP;simp_all
      grind
     obtain⟨hel,mf⟩:=Array.mem_filter.1 mX;rw[<-Array.mem_toList_iff] at hel;obtain⟨j,hj⟩:=xc.1 hel;have cM:j<es.length:=by rw[<-aH.1];grind
     have he:=aH.2 j e es[j] hj (z8 cM);have eX:=h3 es[j] (zl cM) (by rw[<-he.2.1];simpa using mf);obtain⟨k1,k2⟩:=iZ.setObj (o':=.iter m since (seen++[es[j].2.2]) clock) (O':=.mapIter (some q.blk) since (seen.toArray.push e.born) clock) hp hb ⟨q.blk,by rw[he.2.1];simp,oY⟩;have aL:VRel ρ U.n es[j].1 e.key:=by rw[he.1];exact Nq (by grind)
     refine⟨_,_,hval _ _ (aW _ (by
      rw[eM];simp only[zp,QR tN (λ_ _ _ e=>by cases e),zg,xj])),_,ρ,_,eX,VRel.q0j (LRel.cons (.bool _) (LRel.cons aL (LRel.cons he.2.2 (LRel.nil _ _)))),k1,fv.trans k2⟩
   .exact h.elim
  .exact h.elim
 .exact h.elim
theorem Q7e (hS:OkSpecs P S) {f:FuncId}{args:List Value}{U:Heap}{K:Value->Heap->Prop}(h:vcall S f args U K):VCalled P f args U K:=by
 unfold vcall at h;split at h
 .rename_i s hs;exact hS.fn f s hs _ _ _ h
 .exact h.elim
theorem Q4d (hS:OkSpecs P S) {i:Nat}{args:List Value}{U:Heap}{K:Value->Heap->Prop}(h:Q3g S i args U K):SN P i args U K:=by
 unfold Q3g at h;split at h
 .rename_i s hs;exact hS.yl i s hs _ _ _ h
 .exact h.elim
theorem Q6g {o:Oper}{vo:VOp}(hc:U2 P o.op=vo) {ρ:Plc}{U:Heap}{w:World}{env:Env}{a:Act}(hH:HRel ρ U w) (hL:LRel ρ U.n env a.tmps.toList) {v:Value}{U':Heap}
  (h:Q8 vo (Q5 env) U=some (v,U')):Ii P ρ U w v U' (execOp a.eval o):=by
 cases hq:vo.quiet with
 |false=>exact(by grind [Z1b,Yl])
 |true =>obtain⟨rfl,c,eu,hr⟩:=Q5x hc hq hH (λx hx=>Yl hL hx) h;exact⟨c,w,ρ,.inl (hr w (Like.refl ρ w)),eu,hH,Ext.refl _ _ _⟩
theorem Na (hS:OkSpecs P S) {ro:Option Nat}{n:Nat}{o:Oper}{vo:VOp}(bD:U2 P o.op=vo) {ρ:Plc}{U:Heap}{w:World}{env:Env}{a:Act}(hH:HRel ρ U w) (hL:LRel ρ U.n env a.tmps.toList)
  {K:Value->Heap->Prop}(h:vop S vo env U K) {next:Act->World->Prop}{Q':Exit->Act->World->Prop}(hn:∀ c w',Got ρ U w K c w'->next (a.put o.dst c) w'):o.wpIn (FF ro) n P a w next Q':=by
 refine⟨λf _=>Q3p _ _,?_⟩;have cU:vo≠.bad:=by rintro rfl;exact h.elim
 rw[Oper.semAt_eq _ _ _ (Ic bD cU)];by_cases aE:(∃ f bS,vo=.callF f bS)\/(∃ f bS,vo=.callV f bS)
 .have hc:N6 P o.op=some vo:=by
   grind [GC]
  rcases Q94 (S:=S) hc hL aE h with⟨f,args,au,hv,mO,hr⟩|⟨i,r,args,au,hv,cF,mO,hr⟩
  .rcases Q7e hS hv ρ w au hH mO with⟨h1,h2⟩|⟨c,hg,h2⟩
   .rw[hr,h1];exact⟨(by grind [EU]),(Q2u h2).mono (by simp_all)⟩
   .rw[hr,h2 w (Like.refl ρ w)];exact hn c w hg
  .obtain⟨p,hp,fn,tmps,eN,body,h1,h2⟩:=Q4d hS hv ρ w au hH mO;have tP:r=p.blk:=by
    cases cF with
    |yield _ _ _ hh=>exact hh p hp
   rw[hr,tP,h1];exact⟨(by grind [EU]),(Q0b h2).mono (by simp_all)⟩
 .by_cases iA:∃ x,vo=.ext (.nextMap x)
  .obtain⟨x,rfl⟩:=iA;have hc:CU P o.op=some (.nextMap x):=by
    rcases GC bD cU with hc|⟨y,hy,hx⟩
    .have:=Q3w hc;exact this.elim
    .cases hx;exact hy
   obtain⟨c,w',hr,hg⟩:=Q4f hc hH (λx hx=>Yl hL hx) h;rw[hr];exact hn c w' hg
  .have fK:∃ v U',Q8 vo (Q5 env) U=some (v,U')/\K v U':=by
    unfold vop at h;split at h
    .simp_all
    .simp_all
    .exact absurd ⟨_,rfl⟩ iA
    .cases dB:Q8 vo (Q5 env) U with
     |none=>rw[dB] at h;exact h.elim
     |some p=>rw[dB] at h;exact⟨p.1,p.2,rfl,h⟩
   obtain⟨v,U',dB,hK⟩:=fK;obtain⟨c,w',ρ',aW,eu,gj,hE⟩:=Q6g bD hH hL dB;have hg:Got ρ U w K c w':=⟨v,ρ',U',hK,eu,gj,hE⟩;rcases aW with aW|⟨aW,rfl⟩
   .rw[aW];exact hn c w' hg
   .rw[aW];exact hn undef w' hg
def Mks (B:Nat) (ds:List Deferred) (w:World):Prop:=B<=w.heap.size/\∃ Ds:List Nat,ds=Ds.map (λD=>⟨.collected D,#[]⟩)/\Ds.Nodup/\∀ D∈Ds,B<=D/\w.heap[D]?=some (.deferred (some []))
theorem Mks.nil {w:World}(h:B<=w.heap.size):Mks B [] w:=⟨h,[],rfl,List.nodup_nil,λ_ h=>by cases h⟩
theorem Mks.ext {ds:List Deferred}{ρ ρ':Plc}{U U':Heap}{w w':World}(h:Mks B ds w) (hH:HRel ρ U w) (hE:Ext ρ U w ρ' U' w'):Mks B ds w':=by
 obtain⟨h0,Ds,h1,h2,h3⟩:=h;refine⟨x6 h0 hE.size,Ds,h1,h2,λD hD=>⟨(h3 D hD).1,?_⟩⟩;have hb:=(h3 D hD).2;have aj:D<w.heap.size:=by
  grind
 rw[hE.keep D aj (λ⟨i,p,b,hp,_,_,tQ⟩=>hH.q0n hb i p hp tQ)];exact hb
def Ru (B m:Nat) (ρ:Plc) (U:Heap) (w:World) (K:Env->Heap->Prop) (a':Act) (w':World):Prop :=
 ∃ ae ρ' U',K ae U'/\List.length ae=m/\HRel ρ' U' w'/\LRel ρ' U'.n ae a'.tmps.toList/\Mks B a'.defers w'/\Ext ρ U w ρ' U' w'
theorem Q5g (hS:OkSpecs P S) {ro:Option Nat}{n:Nat}(ops:Array Oper) (Q:Exit->Act->World->Prop):∀ (l:List Oper) (lv:List VOper),l.mapM (JH P ops)=some lv ->
  ∀ (env:Env) (U:Heap) (K:Env->Heap->Prop) (ρ:Plc) (w:World) (a:Act),A0 S lv env U K->HRel ρ U w->LRel ρ U.n env a.tmps.toList->Mks B a.defers w ->
  (∀ a' w',Ru B (List.length env) ρ U w K a' w'->Q .normal a' w')->wpListIn (FF ro) n P ops Q l a w:=by
 intro l;induction l with
 |nil =>intro lv bV env U K ρ w a h hH hL hd hQ;simp at bV;subst bV;exact hQ a w ⟨env,ρ,U,h,rfl,hH,hL,hd,Ext.refl _ _ _⟩
 |cons o l ih =>
  intro lv bV env U K ρ w a h hH hL hd hQ;rw[xg] at bV;cases bt:JH P ops o with
  |none=>simp[bt] at bV
  |some vo =>
   cases fH:l.mapM (JH P ops) with
   |none=>simp[bt,fH] at bV
   |some rT =>
    simp[bt,fH] at bV;subst bV;simp only[A0] at h;cases hw:JD env vo.guard with
    |none=>rw[hw] at h;exact h.elim
    |some b =>
     rw[hw] at h;obtain⟨c_,bK,bD⟩:=HS bt hL hw;obtain⟨ht,hf⟩:=h;simp only[wpListIn];rw[c_];cases b with
     |false =>rw[z7 (by simp)];exact⟨λf _=>Q3p _ _,ih rT fH (XH env vo.dst undef) U K ρ w _ (hf rfl) hH (by rw[bK];exact Ve hL Xe o.dst) (by rw[W3];exact hd) (by grind [J0])⟩
     |true =>
      rw[z6 rfl];refine Na hS bD hH hL (ht rfl) λc w' ⟨v,ρ',U',hK,eu,gj,hE⟩=>?_
      exact ih rT fH (XH env vo.dst v) U' K ρ' w' _ hK gj (by rw[bK];exact Ve (hE.lrel hL) eu o.dst) (by rw[W3];exact hd.ext hH hE)
       (λa' oL ⟨mY,ep,aF,k1,k0,k2,k3,k4,k5⟩=>hQ a' oL ⟨mY,ep,aF,k1,by rw[k0,J0],k2,k3,k4,hE.trans k5⟩)
theorem FM:∀ (l:List Nat) (vs:List Value) (env:Env),(Wx l vs env).length=env.length:=by
 intro l;induction l with
 |nil=>intro vs env;cases vs<;>rfl
 |cons i l ih =>
  intro vs env;cases vs with
  |nil=>rfl
  |cons v vs=>simp only[Wx];rw[ih];simp
theorem Q4e {ρ:Plc}{n:Nat}:∀ (l:List Nat) (env base:Env) (cs:List Value),LRel ρ n env cs->LRel ρ n base cs->LRel ρ n (Wx l (RE l env) base) cs:=by
 intro l;induction l with
 |nil=>intro env base cs _ hb;exact hb
 |cons i l ih =>
  intro env base cs he hb;simp only[RE,zO,Wx];refine ih env _ cs he ?_;refine⟨by simp[hb.1],λj v c hv hc=>?_⟩;by_cases cT:i=j
  .subst cT;rcases zo i (List.length base) with aj|bI
   .rw[List.getElem?_set_self aj] at hv;obtain rfl:=osj hv;have cX:i<List.length env:=by rw[he.1,<-hb.1];exact aj
    have:env.getD i poison=env[i]:=by simp[List.getD,cX]
    rw[this];exact he.2 i _ c (z8 cX) hc
   simp_all
  .rw[List.getElem?_set_ne cT] at hv;exact hb.2 j v c hv hc
theorem Q53 {ρ:Plc}{n:Nat}(cs:List Value) {m:Nat}(h:m=cs.length):LRel ρ n (List.replicate m poison) cs :=
 ⟨by simp[h],λi v c hv _=>by
  have:=xe hv;rw[List.mem_replicate] at this;rw[this.2];exact .poison c⟩
def RoRel (cP ro:Option Nat) (ρ:Plc) (n:Nat):Prop:=(cP=none/\ro=none)\/∃ i l,cP=some i/\ro=some l/\i<n/\∀ p,ρ i=some p->p.blk=l
theorem RoRel.ext {cP ro:Option Nat}{ρ ρ':Plc}{U U':Heap}{w w':World}(h:RoRel cP ro ρ U.n) (hE:Ext ρ U w ρ' U' w'):RoRel cP ro ρ' U'.n:=by
 rcases h with h|⟨i,l,h1,h2,h3,h4⟩
 .exact .inl h
 .exact .inr ⟨i,l,h1,h2,zH h3 hE.n,λp hp=>h4 p (hE.pl i h3 p hp)⟩
def Sound (P:Program) (S:VSpecs) (c:Code) (vc:VCode):Prop :=
 ∀ ⦃B:Nat⦄ (cP ro:Option Nat) (n:Nat) (Q:Exit->Env->Heap->Prop) (env:Env) (U:Heap) (ρ:Plc) (w:World) (a:Act),vwp S vc cP Q env U->HRel ρ U w->LRel ρ U.n env a.tmps.toList->Mks B a.defers w->RoRel cP ro ρ U.n ->
  ∀ (Q':Exit->Act->World->Prop),(∀ e a' w',Ru B (List.length env) ρ U w (Q e) a' w'->Q' e a' w')->c.wpIn (FF ro) n P Q' a w
theorem Q67 {ρ:Plc}{n:Nat}:∀ (ps:List Nat) (vs cs:List Value) (env:Env) (tmps:Array Value),LRel ρ n env tmps.toList->LRel ρ n vs cs ->
  LRel ρ n (Li env ps vs) ((ps.zip cs).foldl (λ(tmps:Array Value) (q:Nat×Value)=>tmps.setIfInBounds q.1 q.2) tmps).toList:=by
 intro ps;induction ps with
 |nil=>intro vs cs env tmps h _;cases vs<;>exact h
 |cons p ps ih =>
  intro vs cs env tmps h hv;cases vs with
  |nil =>
   cases cs with
   |nil=>exact h
   |cons _ _=>have:=hv.1;simp at this
  |cons v vs =>
   cases cs with
   |nil=>have:=hv.1;simp at this
   |cons c cs =>simp only[Li,List.zip_cons_cons,xY];refine ih vs cs _ _ ?_ ⟨by have:=hv.1;simpa using this,λi a b ha hb=>hv.2 (i+1) a b (by simpa using ha) (by simpa using hb)⟩;rw[Array.toList_setIfInBounds];exact h.set p (hv.2 0 v c rfl rfl)
theorem WA {w:World}{l:Nat}{r:Loop}(h:w.heap[l]?=some (.loop r)):(Instr.getLoop l).run P w=.ok r w:=by simp[Instr.getLoop,QE h (λ_ _ _ e=>by cases e)]
theorem Be {ρ:Plc}{U:Heap}{w:World}(hH:HRel ρ U w) {i:Nat}{env:Env}{r:Loop}{st:LoopState}{pend:Option Code}{wr:Bool}(h:U.get i=some (.obj (.lp env r st pend) wr)) :
  ∃ p,ρ i=some p/\w.heap[p.blk]?=some (.loop {r with state:=st,pending:=pend})/\LRel ρ U.n env r.tmps.toList:=by
 obtain⟨p,hp,_,O,h1,rfl,h2⟩:=hH.live i _ h;exact⟨p,hp,h1,h2⟩
theorem OP {ρ:Plc}{U:Heap}{w:World}(hH:HRel ρ U w) {i:Nat}{env:Env}{r:Loop}{st:LoopState}{pend:Option Code}{p:Pl}(hp:ρ i=some p) (h:U.get i=some (.obj (.lp env r st pend) true)) (jQ:LoopState) (bP:Option Code) :
  HRel ρ (U.upd i (.obj (.lp env r jQ bP) true)) (Sl w p.blk (.loop {r with state:=jQ,pending:=bP})) /\
  Ext ρ U w ρ (U.upd i (.obj (.lp env r jQ bP) true)) (Sl w p.blk (.loop {r with state:=jQ,pending:=bP})):=by
 obtain⟨p',bE,h1,h2⟩:=Be hH h;exact hH.setObj hp h ⟨rfl,h2⟩
theorem Q0k {eN body:Code}{va vb:VCode}(ha:Sound P S eN va) (hb:Sound P S body vb) (ps:List Nat) (env:Env) (r:Loop) (fL:r.assign=eN) (gW:r.body=body) (kW:r.params.toList=ps) (i:Nat) :
  UR P i (Q31 (vwp S va (some i)) (vwp S vb (some i)) ps env r i):=by
 intro args U K h ρ w au hH hL;obtain⟨h1,h2,h3⟩:=h;obtain⟨p,hp,aD,kX⟩:=Be hH h1;refine⟨p,hp,r.fn,(r.params.zip au).foldl (λtmps (t,a)=>tmps.setIfInBounds t a) r.tmps,r.assign,r.body,?_,?_⟩
 .have aC:au.size=r.params.size:=by
   have h4:=hL.1
   grind
  simp[Instr.yield,WA aD,aC]
 .refine roundIn_of_wpIn (F:=Fence.wide) trivial ?_;rw[fL,gW];refine ha (some i) (some p.blk) 0 _ _ U ρ w _ h3 hH ?_ (Mks.nil (z9 _)) (.inr ⟨i,p.blk,rfl,rfl,U.lt h1,(by simp_all)⟩) _ ?_
  .have:=Q67 ps args au.toList env r.tmps kX hL;rw[<-kW,<-Array.toList_zip,Array.foldl_toList] at this;rw[kW] at this;exact this
  .intro e a1 w1 ⟨bq,ρ1,σ1,k1,k0,k2,k3,k4,k5⟩;cases e with
   |normal =>
    obtain⟨k6,k7⟩:=k1;obtain⟨p1,mi,jR,rU⟩:=Be k2 k6;have qa:p1=p:=by have:=k5.pl i (U.lt h1) p1 mi;simp_all
    subst qa;obtain⟨j1,j2⟩:=OP k2 mi k6 .busy none;refine⟨_,by simp[Instr.beginRound,WA jR,QR jR (λ_ _ _ e=>by cases e)];rfl,?_⟩;refine hb (some i) (some p1.blk) 0 _ _ _ ρ1 _ a1 k7 j1 k3 (k4.ext k2 j2) (.inr ⟨i,p1.blk,rfl,rfl,σ1.lt k6,(by simp_all)⟩) _ ?_;intro e2 a2 w2 ⟨bg,ρ2,σ2,m1,m0,m2,m3,m4,m5⟩;obtain⟨m6,m7⟩:=m1;obtain⟨p2,d_,ec,rV⟩:=Be m2 m6;have qa:p2=p1:=by have h8:=m5.pl i (by rw[Heap.q2k];exact σ1.lt k6) p2 d_;simp_all
    subst qa;cases e2 with
    |normal =>obtain⟨q1,q2⟩:=OP m2 d_ m6 .ready none;refine⟨.bool true,_,?_,_,rfl,.bool true,ρ2,_,m7,.bool _,q1,k5.trans (j2.trans (m5.trans q2))⟩;simp[Instr.endRound,WA ec,QR ec (λ_ _ _ e=>by cases e)]
    |ret =>obtain⟨q1,q2⟩:=OP m2 d_ m6 .done (some .ret);refine⟨.bool false,_,?_,_,rfl,.bool false,ρ2,_,m7,.bool _,q1,k5.trans (j2.trans (m5.trans q2))⟩;simp[Instr.endRound,WA ec,QR ec (λ_ _ _ e=>by cases e)]
    |exit id =>obtain⟨q1,q2⟩:=OP m2 d_ m6 .done (some (.exit id));refine⟨.bool false,_,?_,_,rfl,.bool false,ρ2,_,m7,.bool _,q1,k5.trans (j2.trans (m5.trans q2))⟩;simp[Instr.endRound,WA ec,QR ec (λ_ _ _ e=>by cases e)]
    |goto l=>exact m7.elim
    |panic ch=>exact m7.elim
    |outgrown=>exact m7.elim
   |exit id=>exact k1.elim
   |goto l=>exact k1.elim
   |ret=>exact k1.elim
   |panic ch=>exact k1.elim
   |outgrown=>exact k1.elim
theorem Heap.ext' {U U':Heap}(h:∀ j,U.get j=U'.get j) (hn:U.n=U'.n):U=U':=by obtain⟨g,n,wf⟩:=U;obtain⟨g',n',v_⟩:=U';have hg:g=g':=funext h;simp_all
theorem Mks.push {ds:List Deferred}{w:World}(h:Mks B ds w):Mks B ({target:=.collected w.heap.size,args:=#[]}::ds) (w.alloc (.deferred (some []))):=by
 obtain⟨h0,Ds,h1,h2,h3⟩:=h;have aj:∀ D∈Ds,D<w.heap.size:=(by grind);refine⟨by rw[World.size_alloc];omega,w.heap.size::Ds,by rw[h1];rfl,(by grind),λD hD=>?_⟩;rcases zN.1 hD with rfl|hD
 .refine⟨h0,?_⟩;show (w.heap.push _)[w.heap.size]?=_;simp
 .refine⟨(h3 D hD).1,?_⟩;show (w.heap.push _)[D]?=_
  grind
theorem Ext.q1g {ρ:Plc}{U:Heap}(w:World) (O:Obj):Ext ρ U w ρ U (w.alloc O) :=
 ⟨rfl,rfl,rfl,by have:=World.size_alloc w O;omega,λB hB _=>by show (w.heap.push _)[B]?=_;grind,λ_ _ h=>h,z9 _,λ_ _ _ h=>h⟩
theorem HRel.q1g {ρ:Plc}{U:Heap}{w:World}(h:HRel ρ U w) (O:Obj):HRel ρ U (w.alloc O) :=
 h.world (by have:=World.size_alloc w O;omega) (λi p hp=>by show (w.heap.push _)[p.blk]?=_;rw[Array.getElem?_push,z7 (by have:=h.lt i p hp;omega)]) λg cs hg=>by show (w.heap.push _)[g]?=_;rw[Array.getElem?_push,z7 (by have:=h.tab.lt hg;omega)]
theorem Q15 {cP ro:Option Nat}{ρ:Plc}{U:Heap}{w:World}{a:Act}{env:Env}(hH:HRel ρ U w) (hL:LRel ρ U.n env a.tmps.toList) (hd:Mks B a.defers w) (hR:RoRel cP ro ρ U.n) (aS:J46 U cP) (fn:FuncId) (ps:Array Nat) (eN body:Code) :
  ∃ (r:Loop) (mark:List Deferred) (w1:World) (ρ1:Plc),(Instr.enterLoop fn a.tmps ps eN body ro).run P w=.ok (w1.heap.size-1,mark) w1/\r.assign=eN/\r.body=body/\r.params=ps /\
   HRel ρ1 (U.push (.obj (.lp env r .ready none) true)) w1/\Ext ρ U w ρ1 (U.push (.obj (.lp env r .ready none) true)) w1/\Mks B (mark++a.defers) w1 /\
   (∀ p,ρ1 U.n=some p->p.blk=w1.heap.size-1):=by
 rcases hR with⟨rfl,rfl⟩|⟨i,l,rfl,rfl,hi,mj⟩
 .let w0:=w.alloc (.deferred (some []));have fM:HRel ρ U w0:=hH.q1g _;have qb:Ext ρ U w ρ U w0:=Ext.q1g _ _;let r:Loop:={state:=.ready,pending:=none,fn,tmps:=a.tmps,params:=ps,assign:=eN,body:=body,defers:=w.heap.size};obtain⟨ρ1,h1,h2,h3⟩:=fM.newObj (.lp env r .ready none) (.loop r) ⟨rfl,hL⟩;have aC:(w0.alloc (.loop r)).heap.size-1=w0.heap.size:=by simp_all
  refine⟨r,[{target:=.collected w.heap.size,args:=#[]}],w0.alloc (.loop r),ρ1,?_,rfl,rfl,rfl,h2,qb.trans h3,?_,λp hp=>?_⟩
  .rw[aC];simp[Instr.enterLoop];exact⟨(World.size_alloc w _).symm,rfl⟩
  .exact(hd.push).ext fM h3
  simp_all
 .obtain⟨tR,r0,st,pend,hb⟩:=aS;obtain⟨p,hp,aD,_⟩:=Be hH hb;have aY:=mj p hp;subst aY;let r:Loop:={state:=.ready,pending:=none,fn,tmps:=a.tmps,params:=ps,assign:=eN,body:=body,defers:=r0.defers};obtain⟨ρ1,h1,h2,h3⟩:=hH.newObj (.lp env r .ready none) (.loop r) ⟨rfl,hL⟩;have aC:(w.alloc (.loop r)).heap.size-1=w.heap.size:=by simp_all
  refine⟨r,[],w.alloc (.loop r),ρ1,?_,rfl,rfl,rfl,h2,h3,?_,λp hp=>?_⟩
  .rw[aC];simp[Instr.enterLoop,WA aD];rfl
  .exact hd.ext hH h3
  simp_all
theorem Q0u (hS:OkSpecs P S) {eN body:Code}{va vb:VCode}(ha:Sound P S eN va) (hb:Sound P S body vb) (g:Operand) (hg:W1 g=true) (ps:Array Nat):Sound P S (.rangeFunc g ps eN body) (.rangeF g ps.toList va vb):=by
 intro B cP ro n Q env U ρ w a h hH hL hd hR Q' hQ;simp only[vwp,OJ] at h;have gB:=Yl hL hg;split at h
 .rename_i f first cap bI
  rw[bI] at gB;split at h
  .rename_i T hT;obtain⟨aS,h⟩:=h;refine wpIn_rangeFunc λfn _=>?_;obtain⟨r,mark,w1,ρ1,he,fL,gW,kW,iZ,fv,aR,dz⟩:=Q15 (P:=P) hH hL hd hR aS fn ps eN body;obtain⟨iB,mZ⟩:=hS.it f T hT;obtain⟨gs,ds,o4,l9,jI⟩:∃ gs ds,a.eval g=.func (.func f) gs ds/\LRel ρ U.n first.toList gs.toList/\LRel ρ U.n cap.toList ds.toList:=by
    cases o4:a.eval g with
    |func wa gs ds =>
     rw[o4] at gB;cases gB with
     |func _ _ _ _ _ k1 k2 k3 k4=>exact⟨gs,ds,rfl,LRel.of_array k1 k3,LRel.of_array k2 k4⟩
    |_=>rw[o4] at gB;cases gB
   have hY:UR P U.n (Q31 (vwp S va (some U.n)) (vwp S vb (some U.n)) ps.toList env r U.n):=(by grind [Q0k]);have kY:=mZ U.n _ hY _ _ _ (h r) ρ1 w1 (gs++#[.func (.yield (w1.heap.size-1)) #[] #[]]++ds) iZ (by
    have k1:=fv.lrel l9;have k2:=fv.lrel jI;have k3:LRel ρ1 (U.push (.obj (.lp env r .ready none) true)).n [.func (.yield U.n) #[] #[]] [.func (.yield (w1.heap.size-1)) #[] #[]] :=
     LRel.cons (.yield _ _ (by simp) (λp hp=>(dz p hp).symm)) (LRel.nil _ _)
    have:=(k1.append k3).append k2;simpa using this)
   refine⟨w1.heap.size-1,mark,w1,{target:=.fn (.func f) ds,args:=gs++#[.func (.yield (w1.heap.size-1)) #[] #[]]},w1,f,gs++#[.func (.yield (w1.heap.size-1)) #[] #[]]++ds,w1,?_,?_,λ_ _=>Q3p _ _,?_,(by grind [EU]),?_⟩
   .rw[Q9l];exact he
   .simp[resolve,o4,Deferred.ofValue];rfl
   .simp only[invoke];exact GQ iB _ _
   .refine (Q2u kY).mono λe w3 ⟨c,tS,v,ρ3,σ3,k1,k2,k3,k4⟩=>?_;subst tS;unfold Z17 at k1;split at k1
    .rename_i ae r' st pend kR;obtain⟨a9,k1⟩:=k1;obtain⟨p3,rW,iC,rX⟩:=Be k3 kR;have aY:p3.blk=w1.heap.size-1:=dz p3 (k4.pl U.n (by simp) p3 rW);obtain⟨q1,q2⟩:=OP k3 rW kR .exhausted pend;rw[aY] at iC q1 q2;obtain⟨q3,q4⟩:=q1.kill U.n;have fI:(σ3.upd U.n (.obj (.lp ae r' .exhausted pend) true)).kill U.n=σ3.kill U.n:=by
      apply Heap.ext'
      .grind [Heap.q0g,Heap.q0d,Heap.q0b]
      .rfl
     rw[fI] at q3 q4;have jS:=fv.trans (k4.trans (q2.trans q4));have bL:=aR.ext iZ (k4.trans (q2.trans q4));refine⟨pend,_,by simp[Instr.endLoop,WA iC,QR iC (λ_ _ _ e=>by cases e),a9];rfl,?_⟩;have iA:∀ K:Env->Heap->Prop,K env (σ3.kill U.n)->Ru B (List.length env) ρ U w K {a with defers:=mark++a.defers} (Sl w3 (w1.heap.size-1) (.loop {r' with state:=.exhausted,pending:=pend})):=λK hK =>
      ⟨env,_,_,hK,rfl,q3,jS.lrel hL,bL,jS⟩
     grind [wpIn_ret,wpIn_exit]
    .exact k1.elim
  .exact h.elim
 .exact h.elim
end
end Go.V
namespace Go.V
open Go
theorem KG {ev fw:Operand->Value}(x:Option Operand) (d:Nat) (h:∀ y∈x.toList,ev y=fw y):Jz ev x d=Jz fw x d:=by
 cases x with
 |none=>rfl
 |some y=>simp only[Jz];rw[h y (by simp)]
theorem Q4o {o:XOp}{ev fw:Operand->Value}{U:Heap}(h:∀ x∈o.opds,ev x=fw x):J5 o ev U=J5 o fw U:=by cases o<;>simp only[XOp.opds,zN,List.not_mem_nil,or_false,forall_eq_or_imp,forall_eq] at h<;>simp only[J5]<;>(try simp only[h])
theorem Te {o:VOp}{ev fw:Operand->Value}{U:Heap}(h:∀ x∈o.opds,ev x=fw x):Q8 o ev U=Q8 o fw U:=by
 cases o
 case build z ps =>
  have:(ps.map λp=>(p.1,p.2.1,ev p.2.2))=ps.map λp=>(p.1,p.2.1,fw p.2.2):=xm λp hp=>by rw[h p.2.2 (zS.2 ⟨p,hp,rfl⟩)]
  simp only[Q8,this]
 case buildSlice e z n ps =>
  have:(ps.map λp=>(p.1*e.sz,e.sz,ev p.2))=ps.map λp=>(p.1*e.sz,e.sz,fw p.2):=xm λp hp=>by rw[h p.2 (zS.2 ⟨p,hp,rfl⟩)]
  simp only[Q8,this]
 case makeFunc fn a b =>
  have h1:a.map ev=a.map fw:=xm λx hx=>h x (x_ _ hx);have h2:b.map ev=b.map fw:=xm λx hx=>h x (xQ _ hx);simp only[Q8,h1,h2]
 case slice size x lo hi mx =>
  have h1:=KG lo 0 (λy hy=>h y (by simp[VOp.opds] at *;exact .inr (.inl hy)));have h2:∀ n,Jz ev hi n=Jz fw hi n:=λn=>KG hi n (λy hy=>h y (by simp[VOp.opds] at *;exact .inr (.inr (.inl hy))));have h3:=KG mx 0 (λy hy=>h y (by simp[VOp.opds] at *;exact .inr (.inr (.inr hy))));have h4:=h x (by simp[VOp.opds]);simp only[Q8,h4];cases fw x<;>simp only[h1,h2,h3]
 case sliceStr x lo hi =>
  have h1:=KG lo 0 (λy hy=>h y (by simp[VOp.opds] at *;exact .inr (.inl hy)));have h2:∀ n,Jz ev hi n=Jz fw hi n:=λn=>KG hi n (λy hy=>h y (by simp[VOp.opds] at *;exact .inr (.inr hy)));have h4:=h x (by simp[VOp.opds]);simp only[Q8,h4];cases fw x<;>simp only[h1,h2]
 case ext o=>exact Q4o h
 all_goals
  simp only[VOp.opds,zN,List.not_mem_nil,or_false,forall_eq_or_imp,forall_eq] at h;simp only[Q8];try simp only[h]
theorem O9 {S:VSpecs}{o:VOp}{env ae:Env}{U:Heap}{K:Value->Heap->Prop}(h:∀ x∈o.opds,Q5 env x=Q5 ae x):vop S o env U K=vop S o ae U K:=by
 cases o
 case callF f bS =>
  have:bS.map (Q5 env)=bS.map (Q5 ae):=xm h;simp only[vop,this]
 case callV f bS =>
  have h1:Q5 env f=Q5 ae f:=h f (by simp[VOp.opds]);have h2:bS.map (Q5 env)=bS.map (Q5 ae):=xm λx hx=>h x (by simp[VOp.opds,hx]);simp only[vop,h1,h2]
 case ext o =>
  by_cases hx:∃ x,o=.nextMap x
  .obtain⟨x,rfl⟩:=hx;have h1:Q5 env x=Q5 ae x:=h x (by simp[VOp.opds,XOp.opds]);simp only[vop,h1]
  .have e1:=Te (U:=U) h;cases o<;>first|exact absurd ⟨_,rfl⟩ hx|(simp only[vop];rw[e1])
 all_goals
  have e1:=Te (U:=U) h;simp only[vop];rw[e1]
theorem Heap.Le.refl (U:Heap):U.Le U:=⟨z9 _,λ_ _ h=>h⟩
theorem Heap.Le.trans {U U' aF:Heap}(h:U.Le U') (k:U'.Le aF):U.Le aF:=⟨x6 h.1 k.1,λi b hb=>k.2 i b (h.2 i b hb)⟩
theorem J0r {U U':Heap}(h:U.Le U') {esz:Nat}{v:Value}{xs:List Value}(hx:U.sl esz v=some xs):U'.sl esz v=some xs:=by
 unfold Heap.sl at hx |-;split at hx
 .exact hx
 .rename_i i o n c;split at hx
  .rename_i cs e wr t hb;simp only[h.2 i _ hb];exact hx
  .cases hx
 .cases hx
theorem Fw {U U':Heap}(h:U.Le U') {m:Nat}{x:List JO×Nat×Bool}(hx:U.mapAt m=some x):U'.mapAt m=some x:=by
 unfold Heap.mapAt at hx |-;split at hx
 .rename_i es clock wr hb;simp only[h.2 m _ hb];exact hx
 .cases hx
theorem Q4n {U U':Heap}(h:U.Le U') {kd:Nat}{a b:Value}{r:Bool}(hx:Y3 kd a b U=some r):Y3 kd a b U'=some r:=by
 unfold Y3 at hx |-
 split at hx<;>first
  |exact hx
  |(cases hx;done)
  |skip
 rename_i i o j q;split at hx
 .rename_i hc;obtain⟨h1,h2,h3⟩:=hc;obtain⟨b,hb⟩:=Option.isSome_iff_exists.1 h3;rw[z6 ⟨h1,h2,by rw[h.2 _ _ hb];rfl⟩];exact hx
 .cases hx
theorem On {neg:Bool}{s:List MK}{x y:Operand}{ev:Operand->Value}{U U' σ1:Heap}{v:Value}(h:J5 (.eqAgg neg s x y) ev U=some (v,σ1)):J5 (.eqAgg neg s x y) ev U'=some (v,U'):=by
 simp only[J5] at h |-;split at h
 .simp_all
 .cases h
theorem Q8j {o:XOp}{ev:Operand->Value}{U U' σ1:Heap}{v:Value}(hk:(VOp.ext o).kind≠2) (h:J5 o ev U=some (v,σ1)) (hl:U.Le U'):J5 o ev U'=some (v,U'):=by
 cases o<;>simp only[VOp.kind,VOp.quiet,XOp.quiet] at hk<;>try (exact absurd rfl hk)
 case eqAgg neg s x y=>exact On h
 case eqNil kd neg x y =>
  simp only[J5] at h |-
  grind [Q4n]
 case lookup mk z ok x i =>
  simp only[J5] at h |-;split at h
  .rename_i bG;rw[z6 bG];split at h
   .simp_all
   .rename_i m wb;split at h
    .rename_i es clock wr hm;simp only[Fw hl hm]
     grind
    .cases h
   .cases h
  .cases h
 case lenMap x =>
  simp only[J5] at h |-
  grind [Fw]
 case entry x =>
  simp only[J5] at h |-;split at h
  .rename_i i hx;split at h
   .rename_i m since seen last wr hb;simp only[hl.2 i _ hb];split at h
    .rename_i es clock kU b hm dA;simp only[Fw hl hm,dA]
     grind
    .cases h
   .cases h
  .cases h
 case toUnsafe x =>
  simp only[J5] at h |-;split at h
  .simp_all
  .rename_i i o hx;split at h
   .rename_i c e wr t hb;simp only[hl.2 i _ hb];simp_all
   .cases h
  .cases h
 case fromUnsafe u sz x =>
  simp only[J5] at h |-;split at h
  .simp_all
  .rename_i i o hx;split at h
   .rename_i c e hb;simp only[hl.2 i _ hb];simp_all
   .cases h
  .cases h
 case sliceData x =>
  simp only[J5] at h |-;split at h
  .simp_all
  .rename_i i o n cap hx;split at h
   .rename_i hc;obtain⟨h1,h2⟩:=hc;obtain⟨b,hb⟩:=Option.isSome_iff_exists.1 h2;rw[z6 ⟨h1,by rw[hl.2 _ _ hb];rfl⟩];simp_all
   .cases h
  .cases h
 case bytesStr x =>
  simp only[J5] at h |-;split at h
  .grind [J0r]
  .cases h
theorem SH {o:VOp}{ev:Operand -> Value}{U U' σ1:Heap}{v:Value}(hk:o.kind = 0) (h:Q8 o ev U = some (v, σ1)):Q8 o ev U' = some (v, U'):=by
  cases o
  case ext o =>
    cases o <;> first | (simp [VOp.kind, VOp.quiet, XOp.quiet] at hk; done) | skip
    case eqAgg neg s x y => exact On h
  case slice size x lo hi mx => cases mx <;> simp [VOp.kind, VOp.quiet] at hk
  case build z ps =>
    simp only [Q8] at h |-;split at h
    . simp_all
    . cases h
  all_goals first
    | (simp [VOp.kind, VOp.quiet] at hk; done)
    | skip
  all_goals
    simp only [Q8] at h |-
    (repeat' split at h) <;> first
      | (cases h; done)
      | (rename_i qc; obtain ⟨rfl, rfl, rfl⟩:=qc; simp_all; done)
      | (simp_all; done)
      | (simp_all
         obtain ⟨rfl, _⟩:=h
         first
          | rw [z7 (by omega)]
          | rw [z6 (by omega)])
theorem Ly {o:VOp}{ev:Operand->Value}{U U' σ1:Heap}{v:Value}(hk:o.kind≠2) (h:Q8 o ev U=some (v,σ1)) (hl:U.Le U'):Q8 o ev U'=some (v,U'):=by
 cases o
 case ext o=>exact Q8j hk h hl
 case load agg size a =>
  simp only[Q8] at h |-;split at h
  .split at h
   .split at h
    .rename_i hall;rw[z6 hall];split at h
     .simp_all
     .cases h
    .cases h
   .cases h
  .rename_i i o hx;split at h
   .rename_i c e wr t hb;simp only[hl.2 i _ hb];split at h
    .simp_all
    .cases h
   .cases h
  .cases h
 case slice size x lo hi mx =>
  cases mx with
  |some m=>simp[VOp.kind,VOp.quiet] at hk
  |none =>
   simp only[Q8] at h |-;split at h
   .rename_i a n cap hx;split at h
    .rename_i l k dz cN;unfold YK at h |-;split at h
     .simp_all
     .rename_i i o n' aq heq;split at h
      .rename_i c e wr t hb;simp only[hl.2 i _ hb];simp_all
      .cases h
     .cases h
    .rename_i hm;cases hm
    .cases h
   .cases h
 all_goals first
  |(exact absurd rfl hk)
  |(exact SH rfl h)
section
variable {P:Program}{S:VSpecs}{B:Nat}
def EL (lv:List VOper) (env:Env) (tr:Nat->Value) (A:Nat->Bool):Nat->Env
 |0=>env
 |i+1=>if A i then XH (EL lv env tr A i) ((lv[i]?).bind (·.dst)) (tr i) else EL lv env tr A i
theorem U0 (lv:List VOper) (env:Env) (tr:Nat->Value) (A:Nat->Bool):∀ i,List.length (EL lv env tr A i)=List.length env
 |0=>rfl
 |i+1=>by
  simp only[EL];split
  .rw[J0];exact U0 lv env tr A i
  .exact U0 lv env tr A i
theorem Un (lv:List VOper) (env:Env) {tr tr':Nat->Value}{A B:Nat->Bool}:∀ i,(∀ l,l<i->tr l=tr' l)->(∀ l,l<i->A l=B l)->EL lv env tr A i=EL lv env tr' B i
 |0,_,_=>rfl
 |i+1,h,h'=>by simp only[EL];rw[Un lv env i (λl hl=>h l (by omega)) (λl hl=>h' l (by omega)),h i (by omega),h' i (by omega)]
theorem HC (env:Env) (d:Option Nat) (v:Value) {x:Nat}(h:d≠some x):(XH env d v)[x]?=env[x]?:=by
 cases d with
 |none=>rfl
 |some d=>simp only[XH];rw[List.getElem?_set_ne (by rintro rfl;exact h rfl)]
theorem Z7t (lv:List VOper) (env:Env) {tr tr':Nat->Value}{A:Nat->Bool}:∀ i,(∀ l,l<i->A l=true->tr l=tr' l)->EL lv env tr A i=EL lv env tr' A i
 |0,_=>rfl
 |i+1,h=>by simp only[EL];rw[Z7t lv env i λl hl hA=>h l (by omega) hA];simp_all
theorem HD (lv:List VOper) (env:Env) (tr:Nat->Value) {A B:Nat->Bool}(x:Nat):∀ i,(∀ l,l<i->(lv[l]?).bind (·.dst)=some x->A l=B l)->(EL lv env tr A i)[x]?=(EL lv env tr B i)[x]?
 |0,_=>rfl
 |i+1,h=>by
  have ih:=HD lv env tr x i (λl hl hd=>h l (by omega) hd);by_cases hd:(lv[i]?).bind (·.dst)=some x
  .have ml:=h i (by omega) hd;simp only[EL];rw[ml];split
   .rw[hd];simp only[XH,xy];rw[U0,U0];rfl
   .exact ih
  .simp only[EL]
   grind [HC]
theorem PL (lv:List VOper) (env:Env) (tr:Nat->Value) (j:Nat):∀ i,j<=i->EL lv env tr (λl=>decide (l<j)) i=EL lv env tr (λ_=>true) j
 |0,h=>by
  obtain rfl:j=0:=by omega
  rfl
 |i+1,h=>by
  by_cases hj:j=i+1
  .subst hj;exact Un lv env _ (λ_ _=>rfl) (λl hl=>by simp[hl])
  .simp only[EL];rw[z7 (by simp;omega)];exact PL lv env tr j i (by omega)
def DFact (S:VSpecs) (d:DInfo) (lv:List VOper) (env:Env) (tr:Nat->Value) (hp:Nat->Heap) (u:Nat) (i:Nat):Prop :=
 ∀ v,lv[i]?=some v->∃ b,JD (EL lv env tr (λ_=>true) i) v.guard=some b /\
  (b=true->v.op.kind=2->vop S v.op (EL lv env tr (λ_=>true) i) (hp (d.rank i)) (λv' U'=>v'=tr i/\U'=hp (d.rank i+1))) /\
  (b=true->v.op.kind=1->∀ r,d.kmin i<=r->r<=d.kmax i->r<=u->∃ U',Q8 v.op (Q5 (EL lv env tr (λ_=>true) i)) (hp r)=some (tr i,U')) /\
  (b=true->v.op.kind≠1->v.op.kind≠2->∃ U',Q8 v.op (Q5 (EL lv env tr (λ_=>true) i)) (hp (d.rank i))=some (tr i,U')) /\
  (b=false->tr i=undef/\(v.op.kind=2->hp (d.rank i+1)=hp (d.rank i)))
def Z7u (d:DInfo) (lv:List VOper) (env:Env) (tr:Nat->Value) (i:Nat) (pend:List (Nat×(Heap->Prop))):Prop :=
 ∀ l,l<i->∀ v,lv[l]?=some v->JD (EL lv env tr (λ_=>true) l) v.guard=some true->v.op.kind=1->d.rank i+1<=d.kmax l->(d.kmax l,XD v.op (Q5 (EL lv env tr (λ_=>true) l)) (tr l))∈pend
inductive Know (S:VSpecs) (d:DInfo) (lv:List VOper) (env:Env) (K:Env->Heap->Prop):List Nat->Nat->(Nat->Value)->(Nat->Heap)->Prop
 |full {nd:List Nat}{tr:Nat->Value}{hp:Nat->Heap}(hF:∀ l,l<lv.length->l∉nd->DFact S d lv env tr hp (d.rank lv.length) l) (hK:K (EL lv env tr (λ_=>true) lv.length) (hp (d.rank lv.length))):Know S d lv env K nd lv.length tr hp
 |part {nd:List Nat}{i:Nat}{tr:Nat->Value}{hp:Nat->Heap}{v:VOper}(hv:lv[i]?=some v) (hk:v.op.kind=2) (hw:JD (EL lv env tr (λ_=>true) i) v.guard=some true)
   (hF:∀ l,l<i->l∉nd->DFact S d lv env tr hp (d.rank i) l) (jT:∀ j,i<j->j<lv.length->∃ e u,i<=e/\e<j/\lv[e]?=some u/\((∃ x,u.dst=some x/\∀ v,lv[j]?=some v->x∈Uy v)\/(u.op.kind=2/\∀ v,lv[j]?=some v->v.op.kind=2)))
   (R:Value->Heap->Prop) (fN:vop S v.op (EL lv env tr (λ_=>true) i) (hp (d.rank i)) R)
   (I:∀ u U',R u U'->Nat) (T:∀ u U',R u U'->Nat->Value) (H:∀ u U',R u U'->Nat->Heap)
   (hT:∀ u U' h,i<I u U' h/\(∀ l,l<i->T u U' h l=tr l)/\T u U' h i=u/\(∀ r,r<=d.rank i->H u U' h r=hp r)/\H u U' h (d.rank i+1)=U')
   (next:∀ u U' h,Know S d lv env K (i::nd) (I u U' h) (T u U' h) (H u U' h)):Know S d lv env K nd i tr hp
theorem IQ {r:Nat}{U:Heap}:∀ {l:List (Nat×(Heap->Prop))},XK r U l->∀ c∈l,r<=c.1->c.2 U
 |[],_,_,h=>by cases h
 |x::l,h,c,hc=>by
  rcases zN.1 hc with rfl|hc
  .exact h.1
  .exact IQ h.2 c hc
theorem Sy {op:VOp}{ev:Operand->Value}{v:Value}{Z:Heap}(h:XD op ev v Z):∃ U',Q8 op ev Z=some (v,U'):=by
 unfold XD at h;cases hv:Q8 op ev Z with
 |none=>rw[hv] at h;exact h.elim
 |some q =>rw[hv] at h;have h:q.1=v:=h;exact⟨q.2,by rw[<-h]⟩
theorem DFact.congr {d:DInfo}{lv:List VOper}{env:Env}{tr tr':Nat->Value}{hp bE:Nat->Heap}{u u' l:Nat}(h:DFact S d lv env tr hp u l) (ht:∀ k,k<=l->tr' k=tr k) (hh:∀ r,r<=u->bE r=hp r) (hr:d.rank l<=u) (h2:∀ v,lv[l]?=some v->v.op.kind=2->d.rank l+1<=u)
  (hu:∀ v,lv[l]?=some v->JD (EL lv env tr (λ_=>true) l) v.guard=some true->v.op.kind=1->∀ r,u<r->r<=u'->r<=d.kmax l->∃ U',Q8 v.op (Q5 (EL lv env tr (λ_=>true) l)) (bE r)=some (tr l,U')):DFact S d lv env tr' bE u' l:=by
 intro v hv;obtain⟨b,f1,f2,f3,f4,f5⟩:=h v hv;have e:=Un lv env (tr:=tr') (tr':=tr) (A:=λ_=>true) (B:=λ_=>true) l (λk hk=>ht k (by omega)) (λ_ _=>rfl);rw[e,ht l (z9 _),hh _ hr]
 grind
theorem EI:∀ (d:DInfo) (rest:List VOper) (i:Nat) (xs:List Nat),waits xs (d.opers rest i)=true->∀ (k:Nat) (v:VOper),rest[k]?=some v->v.op.kind=2\/(∃ x∈xs,x∈Uy v)\/∃ (e:Nat) (u:VOper) (x:Nat),e<k/\rest[e]?=some u/\u.dst=some x/\x∈Uy v
 |d,[],i,xs,_,k,v,hv=>by simp at hv
 |d,o::rest,i,xs,h,k,v,hv=>by
  simp only[DInfo.opers,waits,z0,zr,xE,zX] at h;obtain⟨h1,h2⟩:=h;cases k with
  |zero =>
   obtain rfl:o=v:=by simpa using hv
   rcases h1 with h1|⟨x,hx,bH⟩
   .exact .inl h1
   refine .inr (.inl ⟨x,by simpa using bH,?_⟩);simp only[Uy,xd] at hx |-;rcases hx with hx|hx
   .exact .inl (.inr hx)
   .exact .inr hx
  |succ k =>
   rcases EI d rest (i+1) _ h2 k v (by simpa using hv) with h3|⟨y,hy,rY⟩|⟨e,u,y,he,hu,hd,hn⟩
   .exact .inl h3
   .rcases xd.1 hy with hy|hy
    .exact .inr (.inr ⟨0,o,y,by omega,rfl,by simpa using hy,rY⟩)
    .exact .inr (.inl ⟨y,hy,rY⟩)
   .exact .inr (.inr ⟨e+1,u,y,by omega,by simpa using hu,hd,hn⟩)
theorem O6 (d:DInfo) {i j:Nat}(h:i<=j):d.rank i<=d.rank j:=by
 induction j with
 |zero =>
  obtain rfl:i=0:=by omega
  exact z9 _
 |succ j ih =>
  by_cases cT:i=j+1
  .subst cT;exact z9 _
  .have:=ih (by omega);simp only[DInfo.rank];split<;>omega
theorem Z8h (d:DInfo) (lv:List VOper) (mn:∀ i v,lv[i]?=some v->d.k i=v.op.kind) (env:Env) (K:Env->Heap->Prop):∀ (rest:List VOper) (i:Nat),i<=lv.length->lv.drop i=rest->∀ (nd:List Nat) (tp:Nat->Value) (hq:Nat->Heap) (pend:List (Nat×(Heap->Prop))),
  (∀ l,l<i->l∉nd->DFact S d lv env tp hq (d.rank i) l)->Z7u d lv env tp i pend ->
  Z_ S (d.opers rest i) (EL lv env tp (λ_=>true) i) ((List.range (d.rank i+1)).map hq) (hq (d.rank i)) pend K ->
  ∃ k tr hp,i<=k/\(∀ l,l<i->tr l=tp l)/\(∀ r,r<=d.rank i->hp r=hq r)/\Know S d lv env K nd k tr hp:=by
 intro rest;induction rest with
 |nil =>
  intro i mj hi nd tp hq pend hF hP h;have hl:lv.length<=i:=by simpa using hi
  obtain rfl:i=lv.length:=by omega
  simp only[DInfo.opers,Z_] at h;exact⟨_,tp,hq,z9 _,λ_ _=>rfl,λ_ _=>rfl,.full hF h⟩
 |cons v rest ih =>
  intro i mj hi nd tp hq pend hF hP h;have aj:i<lv.length:=by
   grind
  have hv:lv[i]?=some v:=by
   have:=congrArg List.head? hi
   grind [List.head?_drop]
  have gk:lv.drop (i+1)=rest:=by have:=congrArg List.tail hi;simpa using this
  have hk:=mn i v hv;have fL:v.op.kind=2->d.rank (i+1)=d.rank i+1:=λe=>by simp only[DInfo.rank,hk,e,zt]
  have jN:v.op.kind≠2->d.rank (i+1)=d.rank i:=λe=>by simp only[DInfo.rank,hk,e,if_false]
  have dQ:∀ l,l<i->d.rank l<=d.rank i/\∀ w,lv[l]?=some w->w.op.kind=2->d.rank l+1<=d.rank i:=λl hl=>by have h1:=O6 d (show l+1<=i by omega);refine⟨by simp only[DInfo.rank] at h1;split at h1<;>omega,λw hw h2=>?_⟩;simp only[DInfo.rank,mn l w hw,h2,zt] at h1;exact h1
  simp only[DInfo.opers,Z_] at h;have hlen:((List.range (d.rank i+1)).map hq).length=d.rank i+1:=by simp
  cases hw:JD (EL lv env tp (λ_=>true) i) v.guard with
  |none=>rw[hw] at h;exact h.elim
  |some b =>
   rw[hw] at h;obtain⟨ht,hf⟩:=h
   have go:∀ (jy:List Nat) (u:Value) (U':Heap) (bP:List (Nat×(Heap->Prop))),(∀ l,l∈nd->l∈jy) ->
     Z_ S (d.opers rest (i+1)) (XH (EL lv env tp (λ_=>true) i) v.dst u) (if v.op.kind=2 then (List.range (d.rank i+1)).map hq++[U'] else (List.range (d.rank i+1)).map hq) (if v.op.kind=2 then U' else hq (d.rank i)) bP K ->
     (v.op.kind=2->XK (d.rank i+1) U' pend)->(∀ c∈pend,c∈bP) ->
     (b=true->v.op.kind=1->d.rank i+1<=d.kmax i->(d.kmax i,XD v.op (Q5 (EL lv env tp (λ_=>true) i)) u)∈bP) ->
     (i∉jy->∀ tr hp,(∀ l,l<i->tr l=tp l)->tr i=u->(∀ r,r<=d.rank i->hp r=hq r)->(v.op.kind=2->hp (d.rank i+1)=U')->DFact S d lv env tr hp (d.rank (i+1)) i) ->
     ∃ k tr hp,i<k/\(∀ l,l<i->tr l=tp l)/\tr i=u/\(∀ r,r<=d.rank i->hp r=hq r)/\(v.op.kind=2->hp (d.rank i+1)=U')/\Know S d lv env K jy k tr hp:=by
    intro jy u U' bP ef h jU jz kZ m9;let iD:Nat->Value:=λl=>if l=i then u else tp l
    let cD:Nat->Heap:=λr=>if v.op.kind=2/\r=d.rank i+1 then U' else hq r
    have et:∀ l,l<i->iD l=tp l:=(by grind);have ei:iD i=u:=by simp[iD]
    have eh:∀ r,r<=d.rank i->cD r=hq r:=(by grind);have rZ:v.op.kind=2->cD (d.rank i+1)=U':=λaw=>by simp[cD,aw]
    have e1:EL lv env iD (λ_=>true) (i+1)=XH (EL lv env tp (λ_=>true) i) v.dst u:=by simp only[EL,zt];rw[Un lv env (tr:=iD) (tr':=tp) i et (λ_ _=>rfl),hv,ei];rfl
    have e2:(List.range (d.rank (i+1)+1)).map cD=if v.op.kind=2 then (List.range (d.rank i+1)).map hq++[U'] else (List.range (d.rank i+1)).map hq:=by
     grind [List.range_succ,List.map_congr_left]
    have e3:cD (d.rank (i+1))=if v.op.kind=2 then U' else hq (d.rank i):=by simp only[DInfo.rank,hk];split<;>rename_i aw<;>simp[cD,aw]
    have tT:∀ l,l<i+1->l∉jy->DFact S d lv env iD cD (d.rank (i+1)) l:=λl hl dC=>by
     by_cases iE:l=i
     .subst iE;exact m9 dC iD cD et ei eh rZ
     .have iE:l<i:=by omega
      refine (hF l iE λh=>dC (ef l h)).congr (λk hk=>et k (by omega)) eh (dQ l iE).1 (dQ l iE).2 λw gC o5 bp r r1 r2 r3=>?_;by_cases aw:v.op.kind=2
      .rw[fL aw] at r2;obtain rfl:r=d.rank i+1:=by omega
       rw[rZ aw];exact Sy (IQ (jU aw) _ (hP l iE w gC o5 bp (by omega)) (by simpa using r3))
      .rw[jN aw] at r2;omega
    have tU:Z7u d lv env iD (i+1) bP:=λl hl w gC o5 bp rR=>by
     by_cases iE:l=i
     .subst iE;rw[hv] at gC;obtain rfl:=osj gC;have e:=Un lv env (tr:=iD) (tr':=tp) (A:=λ_=>true) (B:=λ_=>true) l et (λ_ _=>rfl);simp_all
     .have iE:l<i:=by omega
      have e:=Un lv env (tr:=iD) (tr':=tp) (A:=λ_=>true) (B:=λ_=>true) l (λk hk=>et k (by omega)) (λ_ _=>rfl);rw[e] at o5 |-;rw[et l iE];have hle:d.rank i<=d.rank (i+1):=by simp only[DInfo.rank];split<;>omega
      exact jz _ (hP l iE w gC o5 bp (by omega))
    obtain⟨k,tr,hp,k0,k1,k2,k3⟩:=ih (i+1) (by omega) gk jy iD cD bP tT tU (by rw[e1,e2,e3];exact h)
    grind
   have weak:∀ {jy:List Nat}{u:Value}{U':Heap},(∃ k tr hp,i<k/\(∀ l,l<i->tr l=tp l)/\tr i=u/\(∀ r,r<=d.rank i->hp r=hq r)/\(v.op.kind=2->hp (d.rank i+1)=U')/\Know S d lv env K jy k tr hp)->∃ k tr hp,i<=k/\(∀ l,l<i->tr l=tp l)/\(∀ r,r<=d.rank i->hp r=hq r)/\Know S d lv env K jy k tr hp:=by
    grind
   have fact:∀ {u:Value}{U':Heap},(b=true->v.op.kind=1->∀ r,d.kmin i<=r->r<=d.rank i->XD v.op (Q5 (EL lv env tp (λ_=>true) i)) u (hq r))->(b=true->v.op.kind≠1->v.op.kind≠2->∃ aF,Q8 v.op (Q5 (EL lv env tp (λ_=>true) i)) (hq (d.rank i))=some (u,aF))->(b=false->u=undef/\(v.op.kind=2->U'=hq (d.rank i)))->(b=true->v.op.kind=2->vop S v.op (EL lv env tp (λ_=>true) i) (hq (d.rank i)) (λv' aF=>v'=u/\aF=U')) ->
     ∀ tr hp,(∀ l,l<i->tr l=tp l)->tr i=u->(∀ r,r<=d.rank i->hp r=hq r)->(v.op.kind=2->hp (d.rank i+1)=U')->DFact S d lv env tr hp (d.rank (i+1)) i:=by
    intro u U' g1 g2 g3 k5 tr hp k1 k2 k3 k4 v' o6;rw[hv] at o6;obtain rfl:=osj o6;have e:=Un lv env (tr:=tr) (tr':=tp) (A:=λ_=>true) (B:=λ_=>true) i k1 (λ_ _=>rfl);rw[e,k2,k3 _ (z9 _)]
    grind [Sy]
   cases b with
   |false =>
    have hf:=hf rfl;by_cases aw:v.op.kind=2
    .rw[z6 aw] at hf;obtain⟨mi,hf⟩:=hf;exact weak (go nd undef (hq (d.rank i)) pend (λ_ h=>h) (by rw[z6 aw,ite_self];exact hf) (by grind) (λ_ h=>h) (λh=>by cases h) (λ_=>fact (λh=>by cases h) (λh=>by cases h) (λ_=>⟨rfl,λ_=>rfl⟩) (λh=>by cases h)))
    .rw[z7 aw] at hf;exact weak (go nd undef (hq (d.rank i)) pend (λ_ h=>h) (by rw[z7 aw,ite_self];exact hf) (λh=>absurd h aw) (λ_ h=>h) (λh=>by cases h) (λ_=>fact (λh=>by cases h) (λh=>by cases h) (λ_=>⟨rfl,λ_=>rfl⟩) (λh=>by cases h)))
   |true =>
    have ht:=ht rfl;by_cases aw:v.op.kind=2
    .rw[z6 aw] at ht;rw[hlen] at ht;rcases ht with⟨u,U',h1,h2,h3⟩|⟨gX,fN⟩
     .exact weak (go nd u U' pend (λ_ h=>h) (by rw[z6 aw,z6 aw];exact h3) (λ_=>h2) (λ_ h=>h) (λ_ hk=>by omega) (λ_=>fact (λ_ hk=>by omega) (λ_ _ hk=>absurd aw hk) (λh=>by cases h) (λ_ _=>h1)))
     .have nx:∀ u U',(XK (d.rank i+1) U' pend/\Z_ S (d.opers rest (i+1)) (XH (EL lv env tp (λ_=>true) i) v.dst u) ((List.range (d.rank i+1)).map hq++[U']) U' pend K) ->
        ∃ k tr hp,i<k/\(∀ l,l<i->tr l=tp l)/\tr i=u/\(∀ r,r<=d.rank i->hp r=hq r)/\(v.op.kind=2->hp (d.rank i+1)=U')/\Know S d lv env K (i::nd) k tr hp:=λu U' ⟨h2,h3⟩ =>
       go (i::nd) u U' pend (λ_ h=>zB _ h) (by rw[z6 aw,z6 aw];exact h3) (λ_=>h2) (λ_ h=>h) (λ_ hk=>by omega) (λh=>absurd zn h)
      refine⟨i,tp,hq,z9 _,λ_ _=>rfl,λ_ _=>rfl,.part hv aw hw hF (λj hj aO=>?_) _ fN (λu U' h=>(nx u U' h).choose) (λu U' h=>(nx u U' h).choose_spec.choose) (λu U' h=>(nx u U' h).choose_spec.choose_spec.choose) (λu U' h=>?_) (λu U' h=>?_)⟩
      .obtain⟨n,hn⟩:∃ n,j=i+1+n:=⟨j-(i+1),by omega⟩;subst hn;have tV:∀ k w,lv[i+1+k]?=some w->rest[k]?=some w:=(by grind);have qd:∀ k w,rest[k]?=some w->lv[i+1+k]?=some w:=(by grind);have tW:=z8 aO;rcases EI d rest (i+1) _ gX n _ (tV n _ tW) with o7|⟨x,hx,k_⟩|⟨e,u,x,he,hu,hd,k_⟩
       .exact⟨i,v,z9 _,by omega,hv,(by grind)⟩
       .exact⟨i,v,z9 _,by omega,hv,(by grind)⟩
       .exact⟨i+1+e,u,by omega,by omega,qd e u hu,(by grind)⟩
      .grind
      grind
    .rw[z7 aw] at ht;by_cases bp:v.op.kind=1
     .rw[z6 bp] at ht;cases dB:Q8 v.op (Q5 (EL lv env tp (λ_=>true) i)) (hq (d.rank i)) with
      |none=>rw[dB] at ht;exact ht.elim
      |some p =>
       rw[dB] at ht;obtain⟨g1,g2⟩:=ht;refine weak (go nd p.1 (hq (d.rank i)) _ (λ_ h=>h) (by rw[z7 aw,ite_self];exact g2) (λh=>absurd h aw) (λc hc=>?_) (λ_ _ hr=>?_) (λ_=>fact (λ_ _ r tX tY=>?_) (λ_ hk=>absurd bp hk) (λh=>by cases h) (λ_ hk=>absurd hk aw)))
       .grind
       .grind
       .refine g1 _ ?_;rw[xc];refine⟨r-d.kmin i,?_⟩
        grind
     .rw[z7 bp] at ht;cases dB:Q8 v.op (Q5 (EL lv env tp (λ_=>true) i)) (hq (d.rank i)) with
      |none=>rw[dB] at ht;exact ht.elim
      |some p =>rw[dB] at ht;exact weak (go nd p.1 (hq (d.rank i)) pend (λ_ h=>h) (by rw[z7 aw,ite_self];exact ht) (λh=>absurd h aw) (λ_ h=>h) (λ_ hk=>absurd hk bp) (λ_=>fact (λ_ hk=>absurd hk bp) (λ_ _ _=>⟨p.2,dB⟩) (λh=>by cases h) (λ_ hk=>absurd hk aw)))
structure DOk (d:DInfo) (n:Nat):Prop where
 edge:∀ j,j<n->∀ e∈d.ed.getD j [],e<j
 path:∀ j,j<n->∀ i,i<j->d.lt i j=true->∃ e∈d.ed.getD j [],e=i\/(i<e/\d.lt i e=true)
 free:∀ j,j<n->∀ i,i<j->d.lt i j=false->d.touch i j=false/\¬(d.k i=2/\d.k j=2)
 kmin:∀ j,j<n->d.k j=1->(d.kmin j<=d.rank j/\d.rank j<=d.kmax j)/\d.kmax j<=d.rank n/\∀ l,l<n->d.k l=2->((d.lt l j=true<->d.rank l<d.kmin j)/\(d.lt j l=true<->d.kmax j<=d.rank l))
theorem DOk.of {d:DInfo}(h:d.ok=true):DOk d d.ks.length:=by
 have h0:∀ j,j<d.ks.length->d.okE j=true/\d.okP j=true/\d.okK j=true:=λj hj=>by have:=zf.1 h j (xk.2 hj);simpa [z0] using this
 refine⟨λj hj e he=>?_,λj hj i hi aj=>?_,λj hj i hi aj=>?_,λj hj hk=>?_⟩
 .have:=zf.1 (h0 j hj).1 e he;simpa using this
 .have:=zf.1 (h0 j hj).2.1 i (xk.2 hi);simp_all
 .have:=zf.1 (h0 j hj).2.1 i (xk.2 hi)
  grind
 .have:=(h0 j hj).2.2;simp only[DInfo.okK,hk,BEq.rfl,y7,Bool.false_or,z0,zh] at this
  grind
theorem Cm (d:DInfo) {i j:Nat}(h:i<j) (hk:d.k i=2):d.rank i<d.rank j:=by have:=O6 d (show i+1<=j from h);simp only[DInfo.rank,hk,zt] at this;omega
theorem NL (d:DInfo):∀ j r,r<d.rank j->∃ l,l<j/\d.k l=2/\d.rank l=r
 |0,r,h=>by simp[DInfo.rank] at h
 |j+1,r,h=>by
  simp only[DInfo.rank] at h;split at h
  .rename_i hk;rcases zo r (d.rank j) with h'|h'
   .obtain⟨l,h1,h2⟩:=NL d j r h';exact⟨l,by omega,h2⟩
   grind
  .obtain⟨l,h1,h2⟩:=NL d j r h;exact⟨l,by omega,h2⟩
theorem Ps {d:DInfo}{n:Nat}(hd:DOk d n) {A:Nat->Bool}(hc:∀ j,j<n->A j=true->∀ e∈d.ed.getD j [],A e=true):∀ j,j<n->A j=true->∀ i,i<j->d.lt i j=true->A i=true:=by
 intro j;induction j using Nat.strongRecOn with
 |ind j ih =>
  intro hj hA i hi aj;obtain⟨e,he,h⟩:=hd.path j hj i hi aj;have m_:=hd.edge j hj e he;have gY:=hc j hj hA e he;rcases h with rfl|⟨h1,h2⟩
  .exact gY
  .exact ih e m_ (by omega) gY i h1 h2
def cnt (A:Nat->Bool):Nat->Nat
 |0=>0
 |i+1=>cnt A i+if A i then 0 else 1
theorem Q1w {A:Nat->Bool}:∀ {n},cnt A n=0->∀ i,i<n->A i=true
 |0,_,i,h=>by omega
 |n+1,hc,i,h=>by
  simp only[cnt] at hc;by_cases hi:i=n
  .simp_all
  .exact Q1w (n:=n) (by omega) i (by omega)
theorem Q7i {A B:Nat->Bool}{j:Nat}(hA:A j=false) (hB:B j=true) (h:∀ i,i≠j->A i=B i):∀ n,j<n->cnt A n=cnt B n+1
 |0,hj=>by omega
 |n+1,hj=>by
  simp only[cnt];by_cases aO:j=n
  .subst aO;have:cnt A j=cnt B j:=by
    have key:∀ m,m<=j->cnt A m=cnt B m:=by
     intro m;induction m with
     |zero=>intro _;rfl
     |succ m ih=>intro hm;simp only[cnt];rw[ih (by omega),h m (by omega)]
    exact key j (z9 _)
   simp[hA,hB,this]
  .have:=Q7i hA hB h n (by omega);rw[h n (by omega)];omega
theorem Z55 (o:VOp):o.kind<=2:=by
 unfold VOp.kind;split<;>try omega
 split<;>omega
theorem Z3w {o:VOp}{env:Env}{U:Heap}{p:Value×Heap}{K:Value->Heap->Prop}(hk:o.kind≠2) (h:Q8 o (Q5 env) U=some p) (hK:K p.1 p.2):vop S o env U K:=by
 cases o
 case callF=>exact absurd rfl hk
 case callV=>exact absurd rfl hk
 case ext x =>
  cases x
  case nextMap=>exact absurd rfl hk
  all_goals (simp only[vop];rw[h];exact hK)
 all_goals (simp only[vop];rw[h];exact hK)
theorem HZ {o:VOp}{ev:Operand->Value}{U U':Heap}{v:Value}(hk:o.kind≠2) (h:Q8 o ev U=some (v,U')):U'=U:=by have:=Ly hk h (Heap.Le.refl U);simp_all
theorem Ez {env ae:Env}{g:Option (Nat×Bool)}(h:∀ x b,g=some (x,b)->env[x]?=ae[x]?):JD env g=JD ae g:=by
 cases g with
 |none=>rfl
 |some p =>obtain⟨x,b⟩:=p;simp only[JD,zj];rw[h x b rfl]
theorem E9 {env ae:Env}{x:Operand}(h:∀ t,x=.tmp t->env[t]?=ae[t]?):Q5 env x=Q5 ae x:=by
 cases x<;>try rfl
 rename_i t;simp only[Q5,zj];rw[h t rfl]
structure DInv (B:Nat) (d:DInfo) (lv:List VOper) (env:Env) (tr:Nat->Value) (hp:Nat->Heap) (ρ0:Plc) (σ0:Heap) (w0:World) (A:Nat->Bool) (a:Act) (w:World):Prop where
 closed:∀ j,j<lv.length->A j=true->∀ e∈d.ed.getD j [],A e=true
 run:∃ m ρ,(∀ l,l<lv.length->d.k l=2->(A l=true<->d.rank l<m))/\m<=d.rank lv.length/\HRel ρ (hp m) w/\LRel ρ (hp m).n (EL lv env tr A lv.length) a.tmps.toList/\Mks B a.defers w/\Ext ρ0 σ0 w0 ρ (hp m) w
structure DLink (P:Program) (ops:Array Oper) (pm:List Nat) (d:DInfo) (lv:List VOper):Prop where
 comp:∀ (p:Nat) (v:VOper),lv[p]?=some v->∃ o,ops[pm.getD p 0]?=some o/\JH P ops o=some v/\d.k p=v.op.kind
 touch:∀ (i j:Nat) (u v:VOper),lv[i]?=some u->lv[j]?=some v->d.touch i j=false->(∀ x,u.dst=some x->x∉Uy v)/\(∀ x,v.dst=some x->x∉Uy u)
 size:pm.length=lv.length
theorem DLink.of {ops:Array Oper}{vs:List VOper}(h:ops.toList.mapM (JH P ops)=some vs) {d0:DInfo}{pm:List Nat}(jH:∀ i∈pm,i<vs.length):DLink P ops pm (Q1a d0 vs pm) (Nz vs pm):=by
 obtain⟨h1,h2⟩:=Yy _ _ _ h;refine⟨λp v hv=>?_,λi j u v hu hv ht=>?_,by simp[Nz]⟩
 .simp only[Nz,xx,zi] at hv;obtain⟨i,hi,rfl⟩:=hv;have aS:=jH i (xe hi);have jA:i<ops.toList.length:=by omega
  obtain⟨v,hv,hc⟩:=h2 i _ (z8 jA);have hg:vs.getD i default=v:=by simp[zj,hv]
  have hp:pm.getD p 0=i:=by simp[zj,hi]
  refine⟨ops.toList[i],?_,by rw[hg];exact hc,?_⟩
  .rw[hp];simp
  .simp[DInfo.k,Q1a,Nz,zj,hi]
 .simp only[DInfo.touch,Q1a,Z1r,zj,xx,hu,hv,yc,Option.getD_some,Bool.or_eq_false_iff] at ht
  grind
theorem Q2l {v:VOper}{x:Nat}(h:v.dst=some x):x∈Uy v:=by simp[Uy,h]
theorem Q2h {v:VOper}{x:Nat}(h:Operand.tmp x∈v.op.opds):x∈Uy v:=by refine x_ _ (xQ _ ?_);exact List.mem_filterMap.2 ⟨_,h,rfl⟩
theorem EK {v:VOper}{x:Nat}{b:Bool}(h:v.guard=some (x,b)):x∈Uy v:=by refine xQ _ ?_;simp[h]
theorem LW (hS:OkSpecs P S) {ro:Option Nat}{n:Nat}{ops:Array Oper}{pm:List Nat}{d:DInfo}{lv:List VOper}(hl:DLink P ops pm d lv) (hd:DOk d lv.length) {env:Env}{tr:Nat->Value}{hp:Nat->Heap}
  {bd j:Nat}(hF:DFact S d lv env tr hp bd j)
  {Q:Exit->Act->World->Prop}{ρ0:Plc}{σ0:Heap}{w0:World}{A:Nat->Bool}{a:Act}{w:World}(tZ:∀ m,(∀ l,l<lv.length->d.k l=2->(A l=true<->d.rank l<m))->m<=d.rank lv.length->m<=bd) (hI:DInv B d lv env tr hp ρ0 σ0 w0 A a w)
  (aO:j<lv.length) (lb:A j=false) (fO:∀ e∈d.ed.getD j [],A e=true) {A':Nat->Bool}(a7:∀ i,A' i=if i=j then true else A i) {K:Act->World->Prop}(hK:∀ a' w',DInv B d lv env tr hp ρ0 σ0 w0 A' a' w'->K a' w'):wpOpIn (FF ro) n P ops Q (pm.getD j 0) K a w:=by
 obtain⟨v,hv⟩:∃ v,lv[j]?=some v:=⟨_,z8 aO⟩;obtain⟨o,ho,hc,hk⟩:=hl.comp j v hv;obtain⟨cQ,m,ρ,hm,mq,hH,hL,dR,hE⟩:=hI;have na:∀ i,i<j->d.lt i j=true->A i=true:=by
  intro i hi aj;obtain⟨e,he,h⟩:=hd.path j aO i hi aj;have m_:=hd.edge j aO e he;have gY:A e=true:=fO e he;rcases h with rfl|⟨h1,h2⟩
  .exact gY
  .exact Ps hd cQ e (by omega) gY i h1 h2
 have iF:∀ i,i<lv.length->j<i->d.lt j i=true->A i=false:=by
  intro i hi aQ aj;cases hA:A i with
  |false=>rfl
  |true=>rw[Ps hd cQ i hi hA j aQ aj] at lb;cases lb
 have nb:∀ x,x∈Uy v->(EL lv env tr A lv.length)[x]?=(EL lv env tr (λ_=>true) j)[x]?:=by
  intro x hx;rw[<-PL lv env tr j lv.length (by omega)];refine HD lv env tr x lv.length λl br bK=>?_;cases bV:lv[l]? with
  |none=>rw[bV] at bK;cases bK
  |some u =>
   rw[bV] at bK;rcases Nat.lt_trichotomy l j with h|h|h
   .have aj:d.lt l j=true:=by
     cases aj:d.lt l j with
     |true=>rfl
     |false=>exact absurd hx ((hl.touch l j u v bV hv (hd.free j aO l h aj).1).1 x bK)
    simp_all
   .simp_all
   .have aj:d.lt j l=true:=by
     cases aj:d.lt j l with
     |true=>rfl
     |false=>exact absurd hx ((hl.touch j l v u hv bV (hd.free l br j h aj).1).2 x bK)
    grind
 obtain⟨b,f1,f2,f3,t_,f4⟩:=hF v hv;have hw:JD (EL lv env tr A lv.length) v.guard=some b:=by
  grind [Ez,EK]
 have jB:∀ x∈v.op.opds,Q5 (EL lv env tr A lv.length) x=Q5 (EL lv env tr (λ_=>true) j) x:=(by grind [E9,Q2h]);obtain⟨c_,bK,bD⟩:=HS hc hL hw;have ez:EL lv env tr A' lv.length=XH (EL lv env tr A lv.length) v.dst (tr j):=by
  apply zT;intro x;by_cases hx:v.dst=some x
  .have h1:(EL lv env tr A' lv.length)[x]?=(EL lv env tr (λl=>decide (l<j+1)) lv.length)[x]?:=by
    refine HD lv env tr x lv.length λl br cB=>?_;rw[a7];by_cases iG:l=j
    .subst iG;simp
    .rw[z7 iG];cases bV:lv[l]? with
     |none=>rw[bV] at cB;cases cB
     |some u =>
      rw[bV] at cB;have jV:=Q2l hx;rcases zo l j with h|h
      .have aj:d.lt l j=true:=by
        cases aj:d.lt l j with
        |true=>rfl
        |false=>exact absurd jV ((hl.touch l j u v bV hv (hd.free j aO l h aj).1).1 x cB)
       grind
      .have h':j<l:=by omega
       have aj:d.lt j l=true:=by
        cases aj:d.lt j l with
        |true=>rfl
        |false=>exact absurd jV ((hl.touch j l v u hv bV (hd.free l br j h' aj).1).2 x cB)
       grind
   rw[h1,PL lv env tr (j+1) lv.length (by omega)];simp only[EL,zt,hv,xi,hx,XH];rw[xy,xy];simp only[zt,U0]
  grind [HC,HD]
 have cj:∀ i,i<lv.length->A' i=true->∀ e∈d.ed.getD i [],A' e=true:=by
  grind
 have qe:d.k j=2->d.rank j=m:=by
  intro aw;have h1:¬ d.rank j<m:=(by grind);by_cases h2:d.rank j=m
  .exact h2
  .obtain⟨l,iG,cL,dQ⟩:=NL d j m (by omega);have aj:d.lt l j=true:=by
    cases aj:d.lt l j with
    |true=>rfl
    |false=>exact absurd ⟨cL,aw⟩ (hd.free j aO l iG aj).2
   grind
 have gZ:d.k j=2->∀ l,l<lv.length->d.k l=2->(A' l=true<->d.rank l<m+1):=by
  grind [Nat.lt_or_ge,Cm]
 have jW:d.k j≠2->∀ l,l<lv.length->d.k l=2->(A' l=true<->d.rank l<m):=by
  grind
 have ld:d.k j=2->m+1<=d.rank lv.length:=(by grind [Cm]);unfold wpOpIn;simp only[ho];cases b with
 |false =>
  rw[c_,z7 (by simp)];obtain⟨g1,g2⟩:=f4 rfl;refine⟨λf _=>Q3p _ _,hK _ _ ⟨cj,?_⟩⟩;by_cases aw:d.k j=2
  .grind [W3,Ve,Xe]
  .grind [W3,Ve,Xe]
 |true =>
  rw[c_,z6 rfl];by_cases aw:d.k j=2
  .have eP:=qe aw;have g1:=f2 rfl (hk▸aw);rw[eP] at g1;rw[<-O9 jB] at g1;refine Na hS bD hH hL g1 λc w' ⟨u,ρ',U',⟨hu,hσ⟩,eu,gj,bZ⟩=>hK _ _ ⟨cj,?_⟩;subst hu;subst hσ;refine⟨m+1,ρ',gZ aw,ld aw,gj,?_,by rw[W3];exact dR.ext hH bZ,hE.trans bZ⟩;rw[ez,bK];exact Ve (bZ.lrel hL) eu o.dst
  .have g2:∃ σ1,Q8 v.op (Q5 (EL lv env tr A lv.length)) (hp m)=some (tr j,σ1):=by
    rw[Te jB];by_cases bp:d.k j=1
    .obtain⟨⟨k1,k4⟩,k3,k2⟩:=hd.kmin j aO bp;refine f3 rfl (hk▸bp) m ?_ ?_ (tZ m hm mq)
     .rcases zo m (d.kmin j) with h|h
      .obtain⟨l,br,cL,dQ⟩:=NL d j m (by omega)
       grind
      .exact h
     .rcases zo (d.kmax j) m with h|h
      .obtain⟨l,br,cL,dQ⟩:=NL d lv.length (d.kmax j) (by omega);have aj:=(k2 l br cL).2.2 (by omega);have r7:=(hm l br cL).2 (by omega);rcases Nat.lt_trichotomy j l with h'|h'|h'
       .simp_all
       .subst h';omega
       .exfalso;have fL:d.rank l<d.rank j:=Cm d h' cL;omega
      .exact h
    .have iw:v.op.kind=0:=by
      grind [Z55]
     obtain⟨σ1,g1⟩:=t_ rfl (by omega) (by omega);exact⟨hp m,SH iw g1⟩
   obtain⟨σ1,g2⟩:=g2;have hq:=HZ (hk▸aw) g2;subst hq;refine Na hS (K:=λv' U'=>v'=tr j/\U'=hp m) bD hH hL (by grind [Z3w]) λc w' ⟨u,ρ',U',⟨hu,hσ⟩,eu,gj,bZ⟩=>hK _ _ ⟨cj,?_⟩;subst hu;subst hσ;refine⟨m,ρ',jW aw,mq,gj,?_,by rw[W3];exact dR.ext hH bZ,hE.trans bZ⟩;rw[ez,bK];exact Ve (bZ.lrel hL) eu o.dst
theorem Q17 (hS:OkSpecs P S) {ro:Option Nat}{n:Nat}{ops:Array Oper}{pm:List Nat}{d:DInfo}{lv:List VOper}(hl:DLink P ops pm d lv) (hd:DOk d lv.length) {env:Env}{tr:Nat->Value}{hp:Nat->Heap}
  {j:Nat}{v:VOper}(hv:lv[j]?=some v) (qf:v.op.kind=2) (wc:JD (EL lv env tr (λ_=>true) j) v.guard=some true) {R:Value->Heap->Prop}(fN:vop S v.op (EL lv env tr (λ_=>true) j) (hp (d.rank j)) R)
  {Q:Exit->Act->World->Prop}{ρ0:Plc}{σ0:Heap}{w0:World}{A:Nat->Bool}{a:Act}{w:World}(hI:DInv B d lv env tr hp ρ0 σ0 w0 A a w) (r8:∀ l,j<=l->l<lv.length->A l=false)
  (aO:j<lv.length) (lb:A j=false) (fO:∀ e∈d.ed.getD j [],A e=true) {A':Nat->Bool}(a7:∀ i,A' i=if i=j then true else A i) {K:Act->World->Prop}
  (hK:∀ u U' a' w',R u U'->(∀ tr' bE,(∀ l,l<j->tr' l=tr l)->tr' j=u->(∀ r,r<=d.rank j->bE r=hp r)->bE (d.rank j+1)=U'->DInv B d lv env tr' bE ρ0 σ0 w0 A' a' w')->K a' w'):wpOpIn (FF ro) n P ops Q (pm.getD j 0) K a w:=by
 obtain⟨o,ho,hc,hk⟩:=hl.comp j v hv;obtain⟨cQ,m,ρ,hm,mq,hH,hL,dR,hE⟩:=hI;have na:∀ i,i<j->d.lt i j=true->A i=true:=by
  intro i hi aj;obtain⟨e,he,h⟩:=hd.path j aO i hi aj;have m_:=hd.edge j aO e he;have gY:A e=true:=fO e he;rcases h with rfl|⟨h1,h2⟩
  .exact gY
  .exact Ps hd cQ e (by omega) gY i h1 h2
 have iF:∀ i,i<lv.length->j<i->d.lt j i=true->A i=false:=by
  grind
 have nb:∀ x,x∈Uy v->(EL lv env tr A lv.length)[x]?=(EL lv env tr (λ_=>true) j)[x]?:=by
  intro x hx;rw[<-PL lv env tr j lv.length (by omega)];refine HD lv env tr x lv.length λl br bK=>?_;cases bV:lv[l]? with
  |none=>rw[bV] at bK;cases bK
  |some u =>
   rw[bV] at bK;rcases Nat.lt_trichotomy l j with h|h|h
   .have aj:d.lt l j=true:=by
     cases aj:d.lt l j with
     |true=>rfl
     |false=>exact absurd hx ((hl.touch l j u v bV hv (hd.free j aO l h aj).1).1 x bK)
    simp_all
   .simp_all
   .grind
 have hw:JD (EL lv env tr A lv.length) v.guard=some true:=by
  grind [Ez,EK]
 have jB:∀ x∈v.op.opds,Q5 (EL lv env tr A lv.length) x=Q5 (EL lv env tr (λ_=>true) j) x:=(by grind [E9,Q2h]);obtain⟨c_,bK,bD⟩:=HS hc hL hw;have ez:∀ tr:Nat->Value,EL lv env tr A' lv.length=XH (EL lv env tr A lv.length) v.dst (tr j):=λtr=>by
  apply zT;intro x;by_cases hx:v.dst=some x
  .have h1:(EL lv env tr A' lv.length)[x]?=(EL lv env tr (λl=>decide (l<j+1)) lv.length)[x]?:=by
    refine HD lv env tr x lv.length λl br cB=>?_;rw[a7];by_cases iG:l=j
    .subst iG;simp
    .rw[z7 iG];cases bV:lv[l]? with
     |none=>rw[bV] at cB;cases cB
     |some u =>
      rw[bV] at cB;have jV:=Q2l hx;rcases zo l j with h|h
      .have aj:d.lt l j=true:=by
        cases aj:d.lt l j with
        |true=>rfl
        |false=>exact absurd jV ((hl.touch l j u v bV hv (hd.free j aO l h aj).1).1 x cB)
       grind
      .grind
   rw[h1,PL lv env tr (j+1) lv.length (by omega)];simp only[EL,zt,hv,xi,hx,XH];rw[xy,xy];simp only[zt,U0]
  grind [HC,HD]
 have cj:∀ i,i<lv.length->A' i=true->∀ e∈d.ed.getD i [],A' e=true:=by
  grind
 have qe:d.k j=2->d.rank j=m:=by
  intro aw;have h1:¬ d.rank j<m:=(by grind);by_cases h2:d.rank j=m
  .exact h2
  .obtain⟨l,iG,cL,dQ⟩:=NL d j m (by omega);have aj:d.lt l j=true:=by
    cases aj:d.lt l j with
    |true=>rfl
    |false=>exact absurd ⟨cL,aw⟩ (hd.free j aO l iG aj).2
   grind
 have gZ:d.k j=2->∀ l,l<lv.length->d.k l=2->(A' l=true<->d.rank l<m+1):=by
  grind [Nat.lt_or_ge,Cm]
 have jW:d.k j≠2->∀ l,l<lv.length->d.k l=2->(A' l=true<->d.rank l<m):=by omega
 have ld:d.k j=2->m+1<=d.rank lv.length:=(by grind [Cm]);unfold wpOpIn;simp only[ho];rw[c_,z6 rfl];have aw:d.k j=2:=hk.trans qf;have eP:=qe aw;rw[eP,<-O9 jB] at fN;refine Na hS bD hH hL fN λc w' ⟨u,ρ',U',hR,eu,gj,bZ⟩=>hK u U' _ _ hR λtr' bE t1 t2 t3 t4=>⟨cj,m+1,ρ',gZ aw,ld aw,?_,?_,?_,?_⟩
 .rw[<-eP,t4];exact gj
 .have e0:EL lv env tr' A lv.length=EL lv env tr A lv.length:=(by grind [Z7t,Nat.lt_or_ge]);rw[<-eP,t4,ez tr',e0,bK,t2];exact Ve (bZ.lrel hL) eu o.dst
 .rw[W3];exact dR.ext hH bZ
 .rw[<-eP,t4];exact hE.trans bZ
theorem J4t {ops:Array Oper}{pm:List Nat}{d:DInfo}{lv:List VOper}(_hl:DLink P ops pm d lv) {env:Env}{tr:Nat->Value}{hp:Nat->Heap}{ρ0:Plc}{σ0:Heap}{w0:World}{A:Nat->Bool}{a:Act}{w:World}
  (hI:DInv B d lv env tr hp ρ0 σ0 w0 A a w) (hall:∀ j,j<lv.length->A j=true):Ru B (List.length env) ρ0 σ0 w0 (λae U'=>ae=EL lv env tr (λ_=>true) lv.length/\U'=hp (d.rank lv.length)) a w:=by
 obtain⟨cQ,m,ρ,hm,mq,hH,hL,dR,hE⟩:=hI;have fe:m=d.rank lv.length:=by
  rcases zo m (d.rank lv.length) with h|h
  .grind [NL]
  .omega
 subst fe;have e:=Un lv env (tr:=tr) (tr':=tr) (A:=A) (B:=λ_=>true) lv.length (λ_ _=>rfl) (λl hl=>hall l hl);exact⟨_,ρ,_,⟨rfl,rfl⟩,U0 _ _ _ _ _,hH,by rw[<-e];exact hL,dR,hE⟩
def Q60 (pm:List Nat) (d:DInfo) (n:Nat):(Nat->Bool)->List Nat->Prop
 |A,[]=>∀ p,p<n->A p=true
 |A,j::rest=>∃ p,p<n/\pm.getD p 0=j/\A p=false/\(∀ e∈d.ed.getD p [],A e=true)/\Q60 pm d n (λq=>if q=p then true else A q) rest
theorem Q3r (hS:OkSpecs P S) {ro:Option Nat}{n:Nat}{ops:Array Oper}{pm:List Nat}{d:DInfo}{lv:List VOper}(hl:DLink P ops pm d lv) (hd:DOk d lv.length) {env:Env}{K:Env->Heap->Prop}
  {Q:Exit->Act->World->Prop}{ρ0:Plc}{σ0:Heap}{w0:World}{l2:List Nat}(hQ:∀ a w,Ru B (List.length env) ρ0 σ0 w0 K a w->wpOpsIn (FF ro) n P ops Q l2 a w) {nd:List Nat}{i:Nat}{tr:Nat->Value}{hp:Nat->Heap}(ua:Know S d lv env K nd i tr hp) :
  ∀ (l:List Nat) (A:Nat->Bool) (a:Act) (w:World),Q60 pm d lv.length A l->DInv B d lv env tr hp ρ0 σ0 w0 A a w->(∀ j,i<=j->j<lv.length->A j=false)->(∀ j,j∈nd->j<lv.length->A j=true)->wpOpsIn (FF ro) n P ops Q (l++l2) a w:=by
 induction ua with
 |full hF hK =>
  intro l;induction l with
  |nil =>intro A a w hs hI _ _;obtain⟨ae,ρ',U',⟨e1,e2⟩,n1⟩:=J4t hl hI hs;exact hQ a w ⟨ae,ρ',U',by rw[e1,e2];exact hK,n1⟩
  |cons j rest ih =>
   intro A a w hs hI hA hN;obtain⟨p,bE,rfl,jX,he,a_⟩:=hs;rw[xq,wpOpsIn_cons];refine LW hS hl hd (hF p bE λh=>?_) (λm _ h=>h) hI bE jX he (λ_=>rfl) λa' w' nc=>ih _ a' w' a_ nc (λj h1 h2=>by omega) (λj hj iX=>?_)
   .rw[hN p h bE] at jX;cases jX
   .simp_all
 |part hv hk hw hF jT R fN I T H hT next qg =>
  rename_i nd i tr hp v;have aS:i<lv.length:=by
   grind
  intro l;induction l with
  |nil =>intro A a w hs hI hA _;have:=hs i aS;rw[hA i (z9 _) aS] at this;cases this
  |cons j rest ih =>
   intro A a w hs hI hA hN;obtain⟨p,bE,rfl,jX,he,a_⟩:=hs;rw[xq,wpOpsIn_cons];have kJ:d.k i=2:=by obtain⟨_,_,_,h⟩:=hl.comp i v hv;exact h.trans hk
   rcases Nat.lt_trichotomy p i with jY|rfl|jY
   .refine LW hS hl hd (hF p jY λh=>?_) (λm hm _=>?_) hI bE jX he (λ_=>rfl) λa' w' nc=>ih _ a' w' a_ nc (λj h1 h2=>?_) (λj hj iX=>?_)
    .rw[hN p h bE] at jX;cases jX
    .grind
    .grind
    simp_all
   .refine Q17 hS hl hd hv hk hw fN hI hA bE jX he (λ_=>rfl) λu U' a' w' hR nc=>?_;obtain⟨q1,q2,q3,q4,q5⟩:=hT u U' hR;refine qg u U' hR _ _ a' w' a_ (nc _ _ q2 q3 q4 q5) (λj h1 h2=>?_) (λj hj iX=>?_)
    .grind
    grind
   .exfalso;obtain⟨e,u,h1,h2,hu,hn⟩:=jT p jY bE;have jU:=z8 bE;have aj:d.lt e p=true:=by
     cases h:d.lt e p with
     |true=>rfl
     |false =>
      rcases hn with⟨x,hx,hn⟩|⟨gh,fP⟩
      .exact absurd (hn _ jU) ((hl.touch e p u _ hu jU (hd.free p bE e h2 h).1).1 x hx)
      .obtain⟨_,_,_,q1⟩:=hl.comp e u hu;obtain⟨_,_,_,q2⟩:=hl.comp p _ jU;exact absurd ⟨q1.trans gh,q2.trans (fP _ jU)⟩ (hd.free p bE e h2 h).2
    have gY:A e=true:=by
     obtain⟨e',r9,h3⟩:=hd.path p bE e h2 aj;have ng:=he e' r9;rcases h3 with rfl|⟨h3,h4⟩
     .exact ng
     .exact Ps hd hI.closed e' (by have:=hd.edge p bE e' r9;omega) ng e h3 h4
    grind
def UA (ops:Array Oper):Array Bool->List Nat->Prop
 |L,[]=>∀ j,j<ops.size->L.getD j false=true
 |L,j::rest=>j∈Region.ready .any ops L/\UA ops (L.setIfInBounds j true) rest
theorem M1 (L:Array Bool) (j i:Nat) (hj:j<L.size):(L.setIfInBounds j true).getD i false=if i=j then true else L.getD i false:=by
 by_cases h:i=j
 .subst h;simp[hj]
 .simp[h,Array.getElem?_setIfInBounds_ne (Ne.symm h)]
theorem Q88 {ops:Array Oper}(iH:∀ (j:Nat) (o:Oper),ops[j]?=some o->∀ e∈T_ o,e<j) {L:Array Bool}(hs:L.size=ops.size) (h:Region.ready .any ops L=[]):∀ j,j<ops.size->L.getD j false=true:=by
 intro j;induction j using Nat.strongRecOn with
 |ind j ih =>
  intro hj;cases hA:L.getD j false with
  |true=>rfl
  |false =>
   exfalso;have:j∈Region.ready .any ops L:=by
    refine mem_ready.2 ⟨?_,ops[j],xI hj,λe he hb=>?_⟩
    .simp_all
    .have:=iH j ops[j] (xI hj) e.on (zS.2 (by grind));exact ih _ this (by omega)
   rw[h] at this;cases this
theorem RX {ops:Array Oper}{L:Array Bool}(hs:L.size=ops.size) {j:Nat}(h:j∈Region.ready .any ops L):j<ops.size/\L.getD j false=false/\∃ o,ops[j]?=some o/\∀ e∈T_ o,L.getD e false=true:=by obtain⟨h1,o,ho,h2⟩:=mem_ready.1 h;have aO:j<ops.size:=(xO.1 ho).1;refine⟨aO,by simp[hs,aO] at h1 |-;exact h1,o,ho,λe he=>?_⟩;obtain⟨x,hx,rfl⟩:=zS.1 he;simp_all
theorem Z26 {ops:Array Oper}(iH:∀ (j:Nat) (o:Oper),ops[j]?=some o->∀ e∈T_ o,e<j):∀ (fuel t:Nat) (L:Array Bool),L.size=ops.size->cnt (λi=>L.getD i false) ops.size<=fuel ->
  UA ops L (Region.linearise.go .any ops fuel t L []):=by
 intro fuel;induction fuel with
 |zero =>intro t L hs hc;simp only[Region.linearise.go,List.reverse_nil,UA];exact Q1w (by omega)
 |succ fuel ih =>
  intro t L hs hc;simp only[Region.linearise.go]
  change UA ops L (match (Region.ready .any ops L)[t % (Region.ready .any ops L).length]? with
   |some i=>Region.linearise.go .any ops fuel (t / (Region.ready .any ops L).length) (L.setIfInBounds i true) [i]
   |none=>[].reverse)
  cases hi:(Region.ready .any ops L)[t % (Region.ready .any ops L).length]? with
  |none =>
   have gF:Region.ready .any ops L=[]:=by
    cases hr:Region.ready .any ops L with
    |nil=>rfl
    |cons x xs =>rw[hr] at hi;have aj:t % (x::xs).length<(x::xs).length:=xT _ (by simp);simp at hi;simp at aj;omega
   simp only[List.reverse_nil,UA];exact Q88 iH hs gF
  |some i =>
   simp only[];rw[linearise_go_acc,List.reverse_singleton,List.singleton_append];have jZ:=xe hi;obtain⟨aS,o8,_⟩:=RX hs jZ;refine⟨jZ,ih _ _ (by simp[hs]) ?_⟩;have j5:i<L.size:=by rw[hs];exact aS
   have:=Q7i (A:=λi=>L.getD i false) (B:=λk=>(L.setIfInBounds i true).getD k false) (j:=i) o8 (by simp only[M1 L i i j5,zt]) (λk hk=>by simp only[M1 L i k j5,z7 hk]) ops.size aS;omega
theorem Q12 {ops:Array Oper}:∀ (l:List Nat) (L:Array Bool),L.size=ops.size->UA ops L l->l.Nodup/\∀ j,j∈l<->(j<ops.size/\L.getD j false=false):=by
 intro l;induction l with
 |nil=>intro L hs h;exact⟨List.nodup_nil,λj=>⟨λh=>(by cases h),λ⟨h1,h2⟩=>by rw[h j h1] at h2;cases h2⟩⟩
 |cons i l ih =>
  intro L hs h;obtain⟨jZ,h'⟩:=h;obtain⟨aS,o8,_⟩:=RX hs jZ;have j5:i<L.size:=by rw[hs];exact aS
  obtain⟨k1,k2⟩:=ih _ (by simp[hs]) h';refine⟨x8.2 ⟨λhm=>?_,k1⟩,λj=>?_⟩
  .simp_all
  .grind [M1]
structure DBase (ops:Array Oper) (d:DInfo):Prop where
 ed:∀ (j:Nat) (o:Oper),ops[j]?=some o->d.ed.getD j []=T_ o
 edge:∀ j,j<ops.size->∀ e∈d.ed.getD j [],e<j
 path:∀ j,j<ops.size->∀ i,i<j->d.lt i j=true->∃ e∈d.ed.getD j [],e=i\/(i<e/\d.lt i e=true)
 up:∀ i j,d.lt i j=true->i<j
 size:d.ks.length=ops.size
theorem Q16 {ops:Array Oper}{d:DInfo}(hb:DBase ops d) {A:Nat->Bool}(hc:∀ j,j<ops.size->A j=true->∀ e∈d.ed.getD j [],A e=true):∀ j,j<ops.size->A j=true->∀ i,i<j->d.lt i j=true->A i=true:=by
 intro j;induction j using Nat.strongRecOn with
 |ind j ih =>
  intro hj hA i hi aj;obtain⟨e,he,h⟩:=hb.path j hj i hi aj;have m_:=hb.edge j hj e he;have gY:=hc j hj hA e he;rcases h with rfl|⟨h1,h2⟩
  .exact gY
  .exact ih e m_ (by omega) gY i h1 h2
theorem Z6w {ops:Array Oper}{d:DInfo}(hb:DBase ops d):∀ (l:List Nat) (L:Array Bool),L.size=ops.size->(∀ j,j<ops.size->L.getD j false=true->∀ e∈d.ed.getD j [],L.getD e false=true)->UA ops L l ->
  l.Pairwise λj i=>d.lt i j=false:=by
 intro l;induction l with
 |nil=>intro L _ _ _;exact List.Pairwise.nil
 |cons j l ih =>
  intro L hs hc h;obtain⟨jZ,h'⟩:=h;obtain⟨aS,o8,o,ho,iH⟩:=RX hs jZ;have j5:j<L.size:=by rw[hs];exact aS
  have dg:∀ k,k<ops.size->(L.setIfInBounds j true).getD k false=true->∀ e∈d.ed.getD k [],(L.setIfInBounds j true).getD e false=true:=by
   intro k hk hA e he;rw[M1 L j e j5];split
   .rfl
   .rw[M1 L j k j5] at hA;split at hA
    .rename_i ub;subst ub;rw[hb.ed _ o ho] at he;exact iH e he
    .exact hc k hk hA e he
  obtain⟨k1,k2⟩:=Q12 l _ (by simp[hs]) h';refine List.Pairwise.cons (λi hi=>?_) (ih _ (by simp[hs]) dg h');cases aj:d.lt i j with
  |false=>rfl
  |true =>
   exfalso;have cT:=hb.up i j aj;have hA:(L.setIfInBounds j true).getD j false=true:=by rw[M1 L j j j5,z6 rfl]
   have:=Q16 hb dg j aS hA i cT aj;rw[((k2 i).1 hi).2] at this;cases this
theorem Fp (lt:Nat->Nat->Bool):∀ (s l:List Nat) (n:Nat),s.Perm l->l.length<=n->s.Pairwise (λj i=>lt i j=false)->s∈exts lt n l:=by
 intro s;induction s with
 |nil =>intro l n hp hn _;have:l=[]:=hp.symm.eq_nil;subst this;cases n<;>simp[exts]
 |cons k s ih =>
  intro l n hp hn hs;have hk:k∈l:=hp.mem_iff.1 (by simp);cases l with
  |nil=>cases hk
  |cons x xs =>
   cases n with
   |zero=>simp at hn
   |succ n =>
    simp only[exts];refine List.mem_flatMap.2 ⟨k,hk,?_⟩;obtain⟨h1,h2⟩:=xX.1 hs;have hall:((x::xs).all λi=>i==k||!lt i k)=true:=by
     grind
    rw[z6 hall];refine zS.2 ⟨s,ih _ n ?_ ?_ h2,rfl⟩
    .grind
    .simp_all
theorem Q9i {j:Nat}:∀ (a a' b b':List Nat),j∉a->j∉a'->a++j::b=a'++j::b'->a=a':=by
 intro a;induction a with
 |nil =>
  intro a' b b' _ h' h;cases a' with
  |nil=>rfl
  |cons x a'=>simp at h;exact(by simp_all)
 |cons x a ih =>
  intro a' b b' h1 h2 h;cases a' with
  |nil=>simp at h;exact(by simp_all)
  |cons y a' =>simp at h;obtain⟨rfl,h⟩:=h;rw[ih a' b b' (λhm=>h1 (by simp[hm])) (λhm=>h2 (by simp[hm])) h]
theorem Q3d {ops:Array Oper}{d:DInfo}(hb:DBase ops d):∀ (l:List Nat) (L:Array Bool),L.size=ops.size->UA ops L l->∀ pre j post,l=pre++j::post->∀ e∈d.ed.getD j [],L.getD e false=true\/e∈pre:=by
 intro l;induction l with
 |nil=>intro L _ _ pre j post h;simp at h
 |cons i l ih =>
  intro L hs h pre j post he e jC;obtain⟨jZ,h'⟩:=h;obtain⟨aS,o8,o,ho,iH⟩:=RX hs jZ;have j5:i<L.size:=by rw[hs];exact aS
  cases pre with
  |nil =>simp at he;obtain⟨rfl,_⟩:=he;rw[hb.ed _ o ho] at jC;exact .inl (iH e jC)
  |cons x pre =>
   simp at he;obtain⟨rfl,he⟩:=he;rcases ih _ (by simp[hs]) h' pre j post he e jC with h1|h1
   .grind [M1]
   .exact .inr (by simp[h1])
theorem Oc {d0 d:DInfo}{pm l:List Nat}(N:Nat) (hN:∀ i∈l,i<N) (kZ:pm.Nodup) (dC:l.Nodup) (aP:∀ i,i∈pm<->i∈l) (cR:∀ pre j post,l=pre++j::post->∀ e∈d0.ed.getD j [],e∈l->e∈pre)
  (iH:∀ p,p<pm.length->d.ed.getD p []=Z40 d0 pm p) (hf:pm.filter (λi=>d0.k i==2)=l.filter (λi=>d0.k i==2)) :
  ∀ (post pre:List Nat),l=pre++post->Q60 pm d pm.length (λq=>pre.contains (pm.getD q N)) post:=by
 intro post;induction post with
 |nil =>
  intro pre hl p hp;have hm:pm.getD p N∈pm:=by simp[zj,hp]
  have:=(aP _).1 hm;rw[hl,xC] at this;simpa using this
 |cons j post ih =>
  intro pre hl;have cM:j∈l:=by rw[hl];simp
  have eP:=(aP j).2 cM;have hp:pm.idxOf j<pm.length:=List.idxOf_lt_length_of_mem eP;have wg:pm[pm.idxOf j]'hp=j:=List.getElem_idxOf hp;have hg:∀ z,pm.getD (pm.idxOf j) z=j:=(by simp_all);have nh:j∉pre:=(by grind);refine⟨pm.idxOf j,hp,hg 0,by simp only[hg];simpa using nh,λe he=>?_,?_⟩
  .rw[iH _ hp] at he;rcases xd.1 he with he|he
   .obtain⟨e0,rO,rfl⟩:=zS.1 he
    grind
   .split at he
    .rename_i aw;rw[hg] at aw;obtain⟨hq,hk⟩:=xt.1 (List.mem_of_getLast? (Option.mem_toList.1 he));have cD:e<pm.idxOf j:=xk.1 hq;have hel:e<pm.length:=by omega
     have heq:pm.getD e N=pm[e]'hel:=by simp[zj,hel]
     have qh:pm.getD e 0=pm[e]'hel:=by simp[zj,hel]
     rw[qh] at hk;simp only[heq];have fQ:pm=pm.take (pm.idxOf j)++j::pm.drop (pm.idxOf j+1):=by
      grind [List.take_append_drop,List.drop_eq_getElem_cons]
     have r_:j∉pm.take (pm.idxOf j):=by
      grind
     have uc:(pm.take (pm.idxOf j)).filter (λi=>d0.k i==2)++j::(pm.drop (pm.idxOf j+1)).filter (λi=>d0.k i==2)=pre.filter (λi=>d0.k i==2)++j::post.filter (λi=>d0.k i==2):=by
      grind
     have:=Q9i _ _ _ _ (by grind) (by grind) uc;have aS:pm[e]∈(pm.take (pm.idxOf j)).filter (λi=>d0.k i==2):=(by grind)
     grind
    .cases he
  .have qi:(λq=>if q=pm.idxOf j then true else pre.contains (pm.getD q N))=λq=>(pre++[j]).contains (pm.getD q N):=by
    grind
   rw[qi];exact ih (pre++[j]) (by rw[hl];simp)
theorem Q8h {ops:Array Oper}{vs:List VOper}(h:ops.toList.mapM (JH P ops)=some vs) (ak:(UJ ops.toList vs).okB=true):DBase ops (UJ ops.toList vs):=by
 have hlen:vs.length=ops.size:=by have:=(Yy _ _ _ h).1;simpa using this
 have mn:(UJ ops.toList vs).ks.length=ops.size:=by simp[UJ,hlen]
 have cO:=ak;unfold DInfo.okB at cO;rw[z0,zh] at cO;obtain⟨wh,mN⟩:=cO;have h0:∀ j,j<ops.size->(UJ ops.toList vs).okE j=true/\(UJ ops.toList vs).an.getD j 0<2 ^ j/\((List.range j).all λi=>!((UJ ops.toList vs).lt i j)||((UJ ops.toList vs).ed.getD j []).any (λe=>e==i||decide (i<e)&&(UJ ops.toList vs).lt i e))=true:=(by simp_all);have ni:∀ j,j<ops.size->∀ e∈(UJ ops.toList vs).ed.getD j [],e<j:=λj hj e he=>by have:=zf.1 (h0 j hj).1 e he;simpa using this
 refine⟨λj o ho=>by simp[UJ,zj,ho],ni,λj hj i hi aj=>?_,λi j aj=>?_,mn⟩
 .grind
 .rcases zo i j with h|h
  .exact h
  .exfalso;unfold DInfo.lt at aj
   grind [Nat.lt_or_ge,Nat.lt_of_lt_of_le,Nat.pow_le_pow_right,Nat.testBit_lt_two_pow,List.getElem?_eq_none]
theorem Q2z {t:Nat}:∀ (l:List Nat),l.Pairwise (λj i=>¬ (i<t/\t<=j))->l=l.filter (λi=>decide (i<t))++l.filter (λi=>decide (t<=i))
 |[],_=>rfl
 |x::l,h=>by
  obtain⟨h1,h2⟩:=xX.1 h;have ih:=Q2z l h2;by_cases hx:x<t
  .grind
  .have rK:t<=x:=by omega
   have gF:l.filter (λi=>decide (i<t))=[]:=(by grind [List.filter_eq_nil_iff])
   grind
theorem LK (hS:OkSpecs P S) {ro:Option Nat}{n:Nat}{ops:Array Oper}{vs:List VOper}(cz:ops.toList.mapM (JH P ops)=some vs) {d0:DInfo}(_hb:DBase ops d0) {l l2 idx pm:List Nat}(dC:l.Nodup) (aj:∀ i∈l,i<ops.size) (ud:∀ i,i∈l<->i∈idx)
  (cR:∀ pre j post,l=pre++j::post->∀ e∈d0.ed.getD j [],e∈l->e∈pre) (fe:Z9i d0 vs idx (l.filter λi=>d0.k i==2) pm=true)
  {env:Env}{U:Heap}{K:Env->Heap->Prop}{ρ:Plc}{w:World}{a:Act}(qj:Z_ S ((Q1a d0 vs pm).opers (Nz vs pm) 0) env [U] U [] K) (hH:HRel ρ U w) (hL:LRel ρ U.n env a.tmps.toList) (dR:Mks B a.defers w)
  {Q:Exit->Act->World->Prop}(hQ:∀ a' w',Ru B (List.length env) ρ U w K a' w'->wpOpsIn (FF ro) n P ops Q l2 a' w'):wpOpsIn (FF ro) n P ops Q (l++l2) a w:=by
 have mI:vs.length=ops.size:=by have:=(Yy _ _ _ cz).1;simpa using this
 simp only[Z9i,z0,zh,zf,List.contains_iff_mem] at fe;obtain⟨m1,m2,m3,m4,m5⟩:=fe;have nj:∀ i,i∈pm<->i∈l:=(by grind);have jY:∀ i∈pm,i<vs.length:=(by simp_all);have hl:DLink P ops pm (Q1a d0 vs pm) (Nz vs pm):=DLink.of cz jY;have qk:(Nz vs pm).length=pm.length:=by simp[Nz]
 have mn:(Q1a d0 vs pm).ks.length=(Nz vs pm).length:=by simp[Q1a]
 have hd:=DOk.of m5;rw[mn] at hd;have iH:∀ p,p<pm.length->(Q1a d0 vs pm).ed.getD p []=Z40 d0 pm p:=λp hp=>by simp[Q1a,zj,hp]
 have iI:=Oc (d:=Q1a d0 vs pm) ops.size aj m3 dC nj cR iH m4 l [] (by simp);have fI:∀ i v,(Nz vs pm)[i]?=some v->(Q1a d0 vs pm).k i=v.op.kind:=λi v hv=>(hl.comp i v hv).choose_spec.2.2;obtain⟨k,tr,hp,_,_,k2,k3⟩:=Z8h (Q1a d0 vs pm) (Nz vs pm) fI env K (Nz vs pm) 0 (by omega) rfl [] (λ_=>undef) (λ_=>U) [] (λl hl=>by omega) (λl hl=>by omega) (by simpa [DInfo.rank,EL] using qj);have ql:hp 0=U:=k2 0 (by omega);have nk:(λq=>([]:List Nat).contains (pm.getD q ops.size))=λ_=>false:=by funext q;rfl
 rw[nk] at iI;refine Q3r (B:=B) (pm:=pm) hS hl hd hQ k3 l (λ_=>false) a w (by rw[qk];exact iI) ?_ (λ_ _ _=>rfl) (λj hj=>by cases hj) (ρ0:=ρ) (σ0:=U) (w0:=w)
 .refine⟨λj hj hA=>(by cases hA),0,ρ,λl br hk=>by simp,by omega,by rw[ql];exact hH,?_,dR,by rw[ql];exact Ext.refl _ _ _⟩;have e:EL (Nz vs pm) env tr (λ_=>false) (Nz vs pm).length=env:=by
   have:∀ m,EL (Nz vs pm) env tr (λ_=>false) m=env:=by
    intro m;induction m with
    |zero=>rfl
    |succ m ih=>simp only[EL,zm,if_false];exact ih
   exact this _
  rw[e,ql];exact hL
theorem I9 (d:DInfo):∀ (lv:List VOper) (i:Nat),(∀ v∈lv,v.op.kind≠2)->∀ (env:Env) (U:Heap) (pend:List (Nat×(Heap->Prop))) (K:Env->Heap->Prop),A0 S lv env U K->Z_ S (d.opers lv i) env [U] U pend K:=by
 intro lv;induction lv with
 |nil=>intro i _ env U pend K h;exact h
 |cons v rest ih =>
  intro i hk env U pend K h;have aw:v.op.kind≠2:=hk v (by simp);have gk:∀ u∈rest,u.op.kind≠2:=λu hu=>hk u (by simp[hu]);simp only[A0] at h;simp only[DInfo.opers,Z_];cases hw:JD env v.guard with
  |none=>rw[hw] at h;exact h.elim
  |some b =>
   rw[hw] at h;obtain⟨ht,hf⟩:=h;refine⟨λe=>?_,λe=>?_⟩
   .have ht:=ht e;have fK:∃ p,Q8 v.op (Q5 env) U=some p/\A0 S rest (XH env v.dst p.1) p.2 K:=by
     have cU:∀ x:XOp,v.op=.ext x->(∀ y,x≠.nextMap y):=λx hx y hy=>by rw[hx,hy] at aw;exact aw rfl
     have:=ht;unfold vop at this;split at this
     .rename_i f bS heq;rw[heq] at aw;exact absurd rfl aw
     .rename_i f bS heq;rw[heq] at aw;exact absurd rfl aw
     .simp_all
     .cases dB:Q8 v.op (Q5 env) U with
      |none=>rw[dB] at this;exact this.elim
      |some p=>rw[dB] at this;exact⟨p,rfl,this⟩
    obtain⟨p,hp,hr⟩:=fK;have hq:p.2=U:=(by grind [HZ]);rw[hq] at hr;rw[z7 aw];split
    .rw[hp];refine⟨λZ hτ=>?_,ih (i+1) gk _ _ _ _ hr⟩;have:Z=U:=by
      grind
     subst this;show Zm (Q8 v.op (Q5 env) Z) _;rw[hp];rfl
    .rw[hp];exact ih (i+1) gk _ _ _ _ hr
   .simp_all
theorem Q6c (hS:OkSpecs P S) {ro:Option Nat}{n:Nat}{ops:Array Oper}{vs:List VOper}(cz:ops.toList.mapM (JH P ops)=some vs) {d0:DInfo}(hb:DBase ops d0) (_hk0:∀ i v,vs[i]?=some v->d0.k i=v.op.kind) {s len:Nat}(hlen:0<len) (gi:s+len<=ops.size) {x:DSeg}(hx:Z9u d0 vs s len=some x)
  {l l2:List Nat}(dC:l.Nodup) (aP:∀ i,i∈l<->(s<=i/\i<s+len)) (cR:∀ pre j post,l=pre++j::post->∀ e∈d0.ed.getD j [],e∈l->e∈pre) (fx:l.Pairwise λj i=>d0.lt i j=false)
  {rest:List DSeg}{env:Env}{U:Heap}{K:Env->Heap->Prop}{ρ:Plc}{w:World}{a:Act}(h:Bj S (x::rest) env U K) (hH:HRel ρ U w) (hL:LRel ρ U.n env a.tmps.toList) (dR:Mks B a.defers w)
  {Q:Exit->Act->World->Prop}(hQ:∀ a' w',Ru B (List.length env) ρ U w (λenv U=>Bj S rest env U K) a' w'->wpOpsIn (FF ro) n P ops Q l2 a' w'):wpOpsIn (FF ro) n P ops Q (l++l2) a w:=by
 have mI:vs.length=ops.size:=by have:=(Yy _ _ _ cz).1;simpa using this
 unfold Z9u at hx;split at hx
 .rename_i h1;subst h1;obtain rfl:=osj hx;have hs:s<ops.size:=by omega
  have dz:l=[s]:=by
   have hm:∀ i,i∈l<->i=s:=λi=>by rw[aP i];omega
   have hp:l.Perm [s]:=(by grind);exact List.perm_singleton.1 hp
  subst dz;obtain⟨v,hv,hc⟩:=(Yy _ _ _ cz).2 s ops[s] (by simp[hs]);have hg:vs.getD s default=v:=by simp[zj,hv]
  simp only[Bj,hg] at h;simp only[A0] at h;rw[List.singleton_append,wpOpsIn_cons];unfold wpOpIn;rw[xI hs];simp only;cases hw:JD env v.guard with
  |none=>rw[hw] at h;exact h.elim
  |some b =>
   rw[hw] at h;obtain⟨ht,hf⟩:=h;obtain⟨c_,bK,bD⟩:=HS hc hL hw;rw[c_];cases b with
   |false =>rw[z7 (by simp)];refine⟨λf _=>Q3p _ _,hQ _ _ ⟨_,ρ,U,hf rfl,J0 _ _ _,hH,by rw[bK];exact Ve hL Xe _,by rw[W3];exact dR,Ext.refl _ _ _⟩⟩
   |true =>rw[z6 rfl];refine Na hS bD hH hL (ht rfl) λc w' ⟨u,ρ',U',hK,eu,gj,hE⟩=>?_;exact hQ _ _ ⟨_,ρ',U',hK,J0 _ _ _,gj,by rw[bK];exact Ve (hE.lrel hL) eu _,by rw[W3];exact dR.ext hH hE,hE⟩
 .rename_i gh;simp only at hx;split at hx
  .rename_i hP;obtain rfl:=osj hx;simp only[Bj] at h;have nq:(l.filter λi=>d0.k i==2).Perm ((List.range' s len).filter λi=>d0.k i==2):=by
    grind [List.Perm.filter,List.perm_ext_iff_of_nodup,List.nodup_range']
   have hs:=Fp d0.lt _ _ len nq (by
    refine x6 (List.length_filter_le _ _) (by simp)) (fx.filter _)
   have fe:=zf.1 hP _ (zS.2 ⟨_,hs,rfl⟩);have qj:=h _ (zS.2 ⟨_,zS.2 ⟨_,hs,rfl⟩,rfl⟩);exact LK hS cz hb dC (by grind) (by simp_all) cR fe qj hH hL dR (λa' w' hn=>by
    obtain⟨ae,ρ',U',⟨bg,σ2,hD,hR⟩,n1,n2,n3,n4,n5⟩:=hn;obtain⟨ρ2,d1,d2,d3⟩:=hD ρ w ρ' w' a'.tmps.toList hH n5 n2 n3;exact hQ a' w' ⟨bg,ρ2,σ2,hR,(d1.1.trans n3.1.symm).trans n1,d2,d1,n4,d3⟩)
  .cases hx
theorem Q4t (hS:OkSpecs P S) {ro:Option Nat}{n:Nat}{ops:Array Oper}{vs:List VOper}(cz:ops.toList.mapM (JH P ops)=some vs) {d0:DInfo}(hb:DBase ops d0) (iw:∀ i v,vs[i]?=some v->d0.k i=v.op.kind)
  {Q:Exit->Act->World->Prop}{K:Env->Heap->Prop}:∀ (f s:Nat) (aT:List DSeg),Q6k d0 vs f s=some aT->s<=ops.size->∀ (l:List Nat),l.Nodup->(∀ i,i∈l<->(s<=i/\i<ops.size)) ->
   (∀ pre j post,l=pre++j::post->∀ e∈d0.ed.getD j [],e∈l->e∈pre)->(l.Pairwise λj i=>d0.lt i j=false) ->
   ∀ (env:Env) (U:Heap) (ρ:Plc) (w:World) (a:Act),Bj S aT env U K->HRel ρ U w->LRel ρ U.n env a.tmps.toList->Mks B a.defers w->(∀ a' w',Ru B (List.length env) ρ U w K a' w'->Q .normal a' w') ->
   wpOpsIn (FF ro) n P ops Q l a w:=by
 intro f
 have fin:∀ (s:Nat) (aT:List DSeg),s=d0.ks.length->[]=aT->∀ (l:List Nat),(∀ i,i∈l<->(s<=i/\i<ops.size))->∀ (env:Env) (U:Heap) (ρ:Plc) (w:World) (a:Act),Bj S aT env U K->HRel ρ U w->LRel ρ U.n env a.tmps.toList->Mks B a.defers w->(∀ a' w',Ru B (List.length env) ρ U w K a' w'->Q .normal a' w') ->
   wpOpsIn (FF ro) n P ops Q l a w:=by
  intro s aT hs fy l aP env U ρ w a h hH hL dR hQ;subst fy;have:l=[]:=by
   cases l with
   |nil=>rfl
   |cons x l =>have:=(aP x).1 (by simp);rw[hs,hb.size] at this;omega
  subst this;exact hQ a w ⟨env,ρ,U,h,rfl,hH,hL,dR,Ext.refl _ _ _⟩
 induction f with
 |zero =>
  intro s aT fy hs l dC aP cR fx env U ρ w a h hH hL dR hQ;simp only[Q6k] at fy;split at fy
  .grind
  .cases fy
 |succ f ih =>
  intro s aT fy hs l dC aP cR fx env U ρ w a h hH hL dR hQ;simp only[Q6k] at fy;split at fy
  .grind
  .rename_i aG;split at fy
   .cases fy
   .rename_i t ht;have qm:=List.find?_some ht;have nr:=List.mem_range'_1.1 (List.mem_of_find?_eq_some ht);rw[hb.size] at nr;split at fy
    .rename_i x r hx hr;obtain rfl:=osj fy;have aj:∀ i p,i<t->t<=p->p<ops.size->d0.lt i p=true:=λi p hi hp kZ=>by
      have h1:=zf.1 qm p (List.mem_range'_1.2 ⟨hp,by rw[hb.size];omega⟩);simp_all
     have qn:l.Pairwise (λj i=>¬ (i<t/\t<=j)):=by
      grind [List.pairwise_iff_forall_sublist]
     have fQ:=Q2z l qn;have jW:∀ i,i∈l.filter (λi=>decide (i<t))<->(s<=i/\i<s+(t-s)):=λi=>by rw[xt,aP i,zh];omega
     have gZ:∀ i,i∈l.filter (λi=>decide (t<=i))<->(t<=i/\i<ops.size):=λi=>by rw[xt,aP i,zh];omega
     rw[fQ];refine Q6c hS cz hb iw (by omega) (by omega) hx (dC.filter _) jW ?_ (fx.filter _) h hH hL dR ?_
     .grind
     .intro a' w' ⟨ae,ρ',U',k1,k0,k2,k3,k4,k5⟩;refine ih t r hr (by omega) _ (dC.filter _) gZ ?_ (fx.filter _) ae U' ρ' w' a' k1 k2 k3 k4 ?_
      .intro pre j post he e jC hel;have:=cR (l.filter (λi=>decide (i<t))++pre) j post (fQ.trans (by rw[he,x9])) e jC (xt.1 hel).1
       grind
      .intro a2 w2 ⟨bg,ρ2,σ2,m1,m0,m2,m3,m4,m5⟩;exact hQ a2 w2 ⟨bg,ρ2,σ2,m1,m0.trans k0,m2,m3,m4,k5.trans m5⟩
    .cases fy
theorem Q49 (hm:P.follows .mixedOrders=true) (hS:OkSpecs P S) {ro:Option Nat}{n:Nat}{id:Nat}{ops:Array Oper}{vs:List VOper}(cz:ops.toList.mapM (JH P ops)=some vs) {aT:List DSeg}(ak:Z3u (UJ ops.toList vs) vs=some aT)
  {env:Env}{U:Heap}{K:Env->Heap->Prop}{ρ:Plc}{w:World}{a:Act}(h:Bj S aT env U K) (hH:HRel ρ U w) (hL:LRel ρ U.n env a.tmps.toList) (dR:Mks B a.defers w)
  {Q:Exit->Act->World->Prop}(hQ:∀ a' w',Ru B (List.length env) ρ U w K a' w'->Q .normal a' w'):(Code.region id ops true).wpIn (FF ro) n P Q a w:=by
 unfold Z3u at ak;split at ak
 .rename_i hB;have hb:=Q8h cz hB;have fI:∀ i v,vs[i]?=some v->(UJ ops.toList vs).k i=v.op.kind:=λi v hv=>by
   simp[DInfo.k,UJ,zj,hv]
  generalize p8:UJ ops.toList vs=d0 at *
  refine wpIn_region_draw λt=>?_;simp only[Region.schedule,hm,Bool.true_or,zt];have fR:∀ (j:Nat) (o:Oper),ops[j]?=some o->∀ e∈T_ o,e<j:=λj o ho e he=>hb.edge j (xO.1 ho).1 e (by rw[hb.ed j o ho];exact he);have hall:∀ i,(Array.replicate ops.size false).getD i false=false:=λi=>by rw[Array.getD_eq_getD_getElem?,Array.getElem?_replicate];split<;>rfl
  have gG:=Z26 fR ops.size t (Array.replicate ops.size false) (by simp) (by
   have:∀ m,cnt (λi=>(Array.replicate ops.size false).getD i false) m<=m:=by
    intro m;induction m with
    |zero=>exact z9 _
    |succ m ih=>simp only[cnt];split<;>omega
   exact this _)
  change wpOpsIn _ _ _ _ _ (Region.linearise.go .any ops ops.size t (Array.replicate ops.size false) []) _ _;generalize Region.linearise.go .any ops ops.size t (Array.replicate ops.size false) []=l at *
  obtain⟨ef,aP⟩:=Q12 l _ (by simp) gG;have fx:=Z6w hb l _ (by simp) (λj _ hA=>by rw[hall] at hA;cases hA) gG;have cR:=Q3d hb l _ (by simp) gG;refine Q4t hS cz hb fI _ 0 aT ak (by omega) l ef (λi=>by rw[aP i,hall];simp) (λpre j post he e jC _=>?_) fx env U ρ _ a h hH.drew hL (dR.ext hH (Ext.drew _ _ _)) (λa' w' hn=>?_)
  .grind
  .obtain⟨ae,ρ',U',n0,n1,n2,n3,n4,n5⟩:=hn;exact hQ a' w' ⟨ae,ρ',U',n0,n1,n2,n3,n4,(Ext.drew _ _ _).trans n5⟩
 .cases ak
theorem Oe (hm:P.follows .mixedOrders=true) (hS:OkSpecs P S) {ro:Option Nat}{n:Nat}{id:Nat}{ops:Array Oper}{vs:List VOper}(cz:ops.toList.mapM (JH P ops)=some vs) (ak:Hv (UJ ops.toList vs) vs=true)
  {env:Env}{U:Heap}{K:Env->Heap->Prop}{ρ:Plc}{w:World}{a:Act}(h:A0 S vs env U K) (hH:HRel ρ U w) (hL:LRel ρ U.n env a.tmps.toList) (dR:Mks B a.defers w)
  {Q:Exit->Act->World->Prop}(hQ:∀ a' w',Ru B (List.length env) ρ U w K a' w'->Q .normal a' w'):(Code.region id ops true).wpIn (FF ro) n P Q a w:=by
 simp only[Hv,z0] at ak;obtain⟨hB,qo,jH⟩:=ak;have hb:=Q8h cz hB;have mI:vs.length=ops.size:=by have:=(Yy _ _ _ cz).1;simpa using this
 have aw:∀ v∈vs,v.op.kind≠2:=(by simp_all);have fI:∀ i v,vs[i]?=some v->(UJ ops.toList vs).k i=v.op.kind:=λi v hv=>by simp[DInfo.k,UJ,zj,hv]
 generalize p8:UJ ops.toList vs=d0 at *
 refine wpIn_region_draw λt=>?_;simp only[Region.schedule,hm,Bool.true_or,zt];have fR:∀ (j:Nat) (o:Oper),ops[j]?=some o->∀ e∈T_ o,e<j:=λj o ho e he=>hb.edge j (xO.1 ho).1 e (by rw[hb.ed j o ho];exact he);have hall:∀ i,(Array.replicate ops.size false).getD i false=false:=λi=>by rw[Array.getD_eq_getD_getElem?,Array.getElem?_replicate];split<;>rfl
 have gG:=Z26 fR ops.size t (Array.replicate ops.size false) (by simp) (by
  have:∀ m,cnt (λi=>(Array.replicate ops.size false).getD i false) m<=m:=by
   intro m;induction m with
   |zero=>exact z9 _
   |succ m ih=>simp only[cnt];split<;>omega
  exact this _)
 change wpOpsIn _ _ _ _ _ (Region.linearise.go .any ops ops.size t (Array.replicate ops.size false) []) _ _;generalize Region.linearise.go .any ops ops.size t (Array.replicate ops.size false) []=l at *
 obtain⟨ef,aP⟩:=Q12 l _ (by simp) gG;have cR:=Q3d hb l _ (by simp) gG;have aj:∀ i∈l,i<ops.size:=λi hi=>((aP i).1 hi).1;have gF:l.filter (λi=>d0.k i==2)=[]:=(by simp_all);have uf:Nz vs (List.range' 0 d0.ks.length)=vs:=by
  apply zT;intro i;unfold Nz;rw[xx];rcases zo i vs.length with hi|hi
  .rw[List.getElem?_range' (by rw[hb.size];omega),z8 hi];simp[zj,hi]
  .rw[x7 (by simp[hb.size];omega),x7 hi];rfl
 have hd:=I9 (S:=S) (Q1a d0 vs (List.range' 0 d0.ks.length)) vs 0 aw env U [] K h;rw[<-xC l];refine LK hS cz hb ef aj (λi=>by rw[aP i,hall,List.mem_range'_1,hb.size];simp) (λpre j post he e jC _=>?_) (idx:=List.range' 0 d0.ks.length) (pm:=List.range' 0 d0.ks.length) (by rw[gF];exact jH) (by rw[uf];exact hd) hH.drew hL (dR.ext hH (Ext.drew _ _ _)) (λa' w' hn=>?_)
 .grind
 .obtain⟨ae,ρ',U',n0,n1,n2,n3,n4,n5⟩:=hn;exact hQ a' w' ⟨ae,ρ',U',n0,n1,n2,n3,n4,(Ext.drew _ _ _).trans n5⟩
theorem Ox (hS:OkSpecs P S) {id:Nat}{ops:Array Oper}{lv:List VOper}(bV:ops.toList.mapM (JH P ops)=some lv):Sound P S (.region id ops false) (.region lv):=by
 intro B cP ro n Q env U ρ w a h hH hL hd hR Q' hQ;simp only[vwp] at h;refine wpIn_region ?_;rw[List.range_eq_range',<-Array.length_toList,wpOpsIn_eq_wpListIn ops.toList 0 (by simp)]
 grind [Q5g]
theorem cond_true {v:Value}{A B:Prop}(h:Q80 v A B):∃ t,v=.bool t/\(t=true->A)/\(t=false->B):=by
 unfold Q80 at h;split at h
 .exact⟨_,rfl,h⟩
 .exact h.elim
theorem Q3n {c:Code}{vc:VCode}(ih:Sound P S c vc):Sound P S (.loop c) (.loop vc):=by
 intro B cP ro n Q env U ρ w a h hH hL hd hR Q' hQ;simp only[vwp] at h;obtain⟨live,I,n0,h0,lf⟩:=h;refine wpIn_loop_ghost (λk a' w'=>Ru B (List.length env) ρ U w (λae U'=>I k (RE live ae) U') a' w') n0 ⟨env,ρ,U,h0,rfl,hH,hL,hd,Ext.refl _ _ _⟩ ?_;rintro k a1 w1 ⟨bq,ρ1,σ1,k1,k0,k2,k3,k4,k5⟩;have hlen:List.length (Wx live (RE live bq) (List.replicate env.length poison))=List.length env:=by rw[FM];simp
 refine ih cP ro n _ _ σ1 ρ1 w1 a1 (lf k (RE live bq) σ1 k1) k2 (Q4e live bq _ _ k3 (Q53 _ (by rw[<-k3.1,k0]))) k4 (hR.ext k5) _ ?_;rintro e a2 w2 ⟨bg,ρ2,σ2,m1,m0,m2,m3,m4,m5⟩;rw[hlen] at m0;cases e with
 |normal =>obtain⟨n',sd,hI⟩:=m1;exact⟨n',sd,bg,ρ2,σ2,hI,m0,m2,m3,m4,k5.trans m5⟩
 |_=>exact hQ _ a2 w2 ⟨bg,ρ2,σ2,m1,m0,m2,m3,m4,k5.trans m5⟩
theorem HU (c:Code):Sound P S c .bad:=by intro B cP ro n Q env U ρ w a h;exact h.elim
theorem Q4b (hm:P.follows .mixedOrders=true) (hS:OkSpecs P S):∀ (c:Code) (vc:VCode),comp P c=some vc->Sound P S c vc:=by
 intro c;induction c with
 |skip =>intro vc hc;simp[comp] at hc;subst hc;intro B cP ro n Q env U ρ w a h hH hL hd hR Q' hQ;exact wpIn_skip (hQ _ _ _ ⟨env,ρ,U,h,rfl,hH,hL,hd,Ext.refl _ _ _⟩)
 |region id ops dr =>
  intro vc hc;cases dr with
  |false =>simp only[comp,zy,zY] at hc;obtain⟨lv,bV,hc⟩:=hc;simp at hc;subst hc;exact Ox hS bV
  |true =>
   simp only[comp,zy,zY] at hc;obtain⟨lv,bV,hc⟩:=hc;split at hc
   .rename_i ak;simp at hc;subst hc;intro B cP ro n Q env U ρ w a h hH hL hd hR Q' hQ;exact Oe hm hS bV ak h hH hL hd (λa' w' hn=>hQ .normal a' w' hn)
   split at hc
   .rename_i aT ak;simp at hc;subst hc;intro B cP ro n Q env U ρ w a h hH hL hd hR Q' hQ;exact Q49 hm hS bV ak h hH hL hd (λa' w' hn=>hQ .normal a' w' hn)
   .simp at hc;subst hc;exact HU _
 |seq x y j6 o9 =>
  intro vc hc;simp only[comp,zy,zY] at hc;obtain⟨vx,hx,vy,hy,hc⟩:=hc;simp at hc;subst hc;intro B cP ro n Q env U ρ w a h hH hL hd hR Q' hQ;simp only[vwp] at h;refine wpIn_seq (j6 vx hx cP ro n _ env U ρ w a h hH hL hd hR _ ?_);rintro e a1 w1 ⟨bq,ρ1,σ1,k1,k0,k2,k3,k4,k5⟩;cases e with
  |normal =>refine o9 vy hy cP ro n _ bq σ1 ρ1 w1 a1 k1 k2 k3 k4 (hR.ext k5) _ ?_;rintro e2 a2 w2 ⟨bg,ρ2,σ2,m1,m0,m2,m3,m4,m5⟩;exact hQ e2 a2 w2 ⟨bg,ρ2,σ2,m1,m0.trans k0,m2,m3,m4,k5.trans m5⟩
  |_=>exact hQ _ a1 w1 ⟨bq,ρ1,σ1,k1,k0,k2,k3,k4,k5⟩
 |cond c x y j6 o9 =>
  intro vc hc;simp only[comp] at hc;split at hc
  .rename_i ak;simp only[zy,zY] at hc;obtain⟨vx,hx,vy,hy,hc⟩:=hc;simp at hc;subst hc;intro B cP ro n Q env U ρ w a h hH hL hd hR Q' hQ;simp only[vwp] at h;obtain⟨t,ht,h1,h2⟩:=cond_true h;have hv:=Yl hL ak;rw[ht] at hv;refine wpIn_cond_split hv.q1e (λe=>?_) (λe=>?_)
   .exact j6 vx hx cP ro n Q env U ρ w a (h1 e) hH hL hd hR Q' hQ
   .exact o9 vy hy cP ro n Q env U ρ w a (h2 e) hH hL hd hR Q' hQ
  .simp at hc;subst hc;exact HU _
 |block id x j6 =>
  intro vc hc;simp only[comp,zy,zY] at hc;obtain⟨vx,hx,hc⟩:=hc;simp at hc;subst hc;intro B cP ro n Q env U ρ w a h hH hL hd hR Q' hQ;simp only[vwp] at h;refine wpIn_block (j6 vx hx cP ro n _ env U ρ w a h hH hL hd hR _ ?_);rintro e a1 w1 ⟨bq,ρ1,σ1,k1,k0,k2,k3,k4,k5⟩;cases e with
  |exit ia =>
   simp only[Q1s] at k1;simp only[Exit.inBlock];split at k1
   .rename_i he;rw[z6 he];exact hQ _ a1 w1 ⟨bq,ρ1,σ1,k1,k0,k2,k3,k4,k5⟩
   .rename_i he;rw[z7 he];exact hQ _ a1 w1 ⟨bq,ρ1,σ1,k1,k0,k2,k3,k4,k5⟩
  |_=>exact hQ _ a1 w1 ⟨bq,ρ1,σ1,k1,k0,k2,k3,k4,k5⟩
 |loop x j6 =>intro vc hc;simp only[comp,zy,zY] at hc;obtain⟨vx,hx,hc⟩:=hc;simp at hc;subst hc;exact Q3n (j6 vx hx)
 |rangeFunc g ps x y j6 o9 =>
  intro vc hc;simp only[comp] at hc;split at hc
  .rename_i ak;simp only[zy,zY] at hc
   grind [Q0u]
  .simp at hc;subst hc;exact HU _
 |exit id =>intro vc hc;simp[comp] at hc;subst hc;intro B cP ro n Q env U ρ w a h hH hL hd hR Q' hQ;exact wpIn_exit (hQ _ _ _ ⟨env,ρ,U,h,rfl,hH,hL,hd,Ext.refl _ _ _⟩)
 |ret =>intro vc hc;simp[comp] at hc;subst hc;intro B cP ro n Q env U ρ w a h hH hL hd hR Q' hQ;exact wpIn_ret (hQ _ _ _ ⟨env,ρ,U,h,rfl,hH,hL,hd,Ext.refl _ _ _⟩)
 |_ =>intro vc hc;simp[comp] at hc;subst hc;exact HU _
end
end Go.V
namespace Go.V
open Go
inductive Ren (n:Nat) (π:Nat->Nat):Value->Value->Prop
 |plain (v:Value) (h:Zl v=true):Ren n π v v
 |poison (c:Value):Ren n π poison c
 |glob (g o s:Nat):Ren n π (.pointer (some ⟨g,o,some s⟩)) (.pointer (some ⟨g,o,some s⟩))
 |ptr (i o:Nat) (hi:i<n):Ren n π (.pointer (some ⟨i,o,none⟩)) (.pointer (some ⟨π i,o,none⟩))
 |sl (i o len cap:Nat) (hi:i<n):Ren n π (.slice (some ⟨i,o,none⟩) len cap) (.slice (some ⟨π i,o,none⟩) len cap)
 |slx (i o len cap:Nat) (hi:i<n):Ren n π (.slice (some ⟨i,o,some 0⟩) len cap) (.slice (some ⟨π i,o,some 0⟩) len cap)
 |map (i:Nat) (hi:i<n):Ren n π (.map (some i)) (.map (some (π i)))
 |iface (t:TypeId) (v c:Value) (h:Ren n π v c):Ren n π (.iface t v) (.iface t c)
 |yield (i:Nat) (hi:i<n):Ren n π (.func (.yield i) #[] #[]) (.func (.yield (π i)) #[] #[])
 |func (fn:FuncId) (fs gs cs ds:Array Value) (hf:fs.size=gs.size) (hc:cs.size=ds.size)
   (h1:∀ i (h1:i<fs.size) (h2:i<gs.size),Ren n π fs[i] gs[i]) (h2:∀ i (h1:i<cs.size) (h2:i<ds.size),Ren n π cs[i] ds[i]):Ren n π (.func (.func fn) fs cs) (.func (.func fn) gs ds)
 |agg (cs ds:Array Value) (hc:cs.size=ds.size) (h:∀ i (h1:i<cs.size) (h2:i<ds.size),Ren n π cs[i] ds[i]):Ren n π (.agg cs) (.agg ds)
 |tuple (cs ds:Array Value) (hc:cs.size=ds.size) (h:∀ i (h1:i<cs.size) (h2:i<ds.size),Ren n π cs[i] ds[i]):Ren n π (.tuple cs) (.tuple ds)
def LRen (n:Nat) (π:Nat->Nat) (vs cs:List Value):Prop:=vs.length=cs.length/\∀ (i:Nat) (v c:Value),vs[i]?=some v->cs[i]?=some c->Ren n π v c
theorem Ren.rel {ρ:Plc}{nf n':Nat}{π:Nat->Nat}{v' v:Value}(h:Ren n' π v' v):∀ {c:Value},VRel ρ nf v c->VRel (λi=>if i<n' then ρ (π i) else none) n' v' c:=by
 induction h with
 |plain v h =>intro c hv;have:c=v:=V7 h hv;subst this;exact Yu h
 |poison c=>intro c _;exact .poison _
 |glob g o s=>intro c hv;cases hv;exact .glob _ _ _
 |ptr i o hi =>intro c hv;obtain⟨a,rfl,_,h⟩:=hv.q1h;exact .ptr _ _ _ hi (by simp_all)
 |sl i o len cap hi =>intro c hv;obtain⟨a,aq,rfl,_,h⟩:=hv.q1c;exact .sl _ _ _ _ _ _ hi (by simp_all)
 |slx i o len cap hi =>
  intro c hv;cases hv with
  |slx _ _ _ _ a _ h=>exact .slx _ _ _ _ _ hi (by simp_all)
 |map i hi =>
  intro c hv;cases hv with
  |map _ r _ h=>exact .map _ _ hi (by simp_all)
 |yield i hi =>
  intro c hv;cases hv with
  |yield _ r _ h=>exact .yield _ _ hi (by simp_all)
 |iface t v c h ih =>
  intro c hv;cases hv with
  |iface _ _ _ h=>exact .iface _ _ _ (ih h)
 |func fn fs gs cs ds hf hc h1 h2 l7 l8 =>
  intro c hv;cases hv with
  |func _ _ wi _ ds' qp dg lg o_ =>exact .func _ _ _ _ _ (hf.trans qp) (hc.trans dg) (by simp_all) (by simp_all)
 |agg cs ds hc h ih =>
  intro c hv;cases hv with
  |agg _ ds' dg h'=>exact .agg _ _ (hc.trans dg) (by simp_all)
 |tuple cs ds hc h ih =>
  intro c hv;cases hv with
  |tuple _ ds' dg h'=>exact .tuple _ _ (hc.trans dg) (by simp_all)
theorem VRel.ren {ρ:Plc}{n n':Nat}{π:Nat->Nat}(hn:n<=n') (hπ:∀ i,i<n->π i=i) {v c:Value}(h:VRel ρ n v c):Ren n' π v v:=by
 induction h with
 |poison c=>exact .poison _
 |bool b=>exact .plain _ rfl
 |int k x=>exact .plain _ rfl
 |string s=>exact .plain _ rfl
 |nilPtr=>exact .plain _ rfl
 |nilSl=>exact .plain _ rfl
 |nilMap=>exact .plain _ rfl
 |nilFunc=>exact .plain _ rfl
 |nilIface=>exact .plain _ rfl
 |glob g o s=>exact .glob _ _ _
 |ptr i o a hi h=>have:=Ren.ptr (n:=n') (π:=π) i o (by omega);rwa [hπ i hi] at this
 |sl i o len cap a aq hi h=>have:=Ren.sl (n:=n') (π:=π) i o len cap (by omega);rwa [hπ i hi] at this
 |slx i o len cap a hi h=>have:=Ren.slx (n:=n') (π:=π) i o len cap (by omega);rwa [hπ i hi] at this
 |map i r hi h=>have:=Ren.map (n:=n') (π:=π) i (by omega);rwa [hπ i hi] at this
 |yield i r hi h=>have:=Ren.yield (n:=n') (π:=π) i (by omega);rwa [hπ i hi] at this
 |iface t v c _ ih=>exact .iface _ _ _ ih
 |func fn fs gs cs ds hf hc _ _ l7 l8=>exact .func _ _ _ _ _ rfl rfl (λi k1 _=>l7 i k1 (by omega)) (λi k1 _=>l8 i k1 (by omega))
 |agg cs ds hc _ ih=>exact .agg _ _ rfl λi k1 _=>ih i k1 (by omega)
 |tuple cs ds hc _ ih=>exact .tuple _ _ rfl λi k1 _=>ih i k1 (by omega)
theorem LRen.rel {ρ:Plc}{nf n':Nat}{π:Nat->Nat}{cG vs:List Value}(h:LRen n' π cG vs) {cs:List Value}(hL:LRel ρ nf vs cs):LRel (λi=>if i<n' then ρ (π i) else none) n' cG cs:=by
 refine⟨h.1.trans hL.1,λi v c hv hc=>?_⟩;have aj:i<vs.length:=by rw[<-h.1];grind
 exact(h.2 i v _ hv (z8 aj)).rel (hL.2 i _ c (z8 aj) hc)
theorem LRel.ren {ρ:Plc}{n n':Nat}{π:Nat->Nat}(hn:n<=n') (hπ:∀ i,i<n->π i=i) {vs cs:List Value}(h:LRel ρ n vs cs):LRen n' π vs vs :=
 ⟨rfl,λi v u hv hu=>by
  obtain rfl:v=u:=osj (hv.symm.trans hu);obtain⟨c,_,hc⟩:=h.get hv;exact hc.ren hn hπ⟩
def ORen (n:Nat) (π:Nat->Nat):VObj->VObj->Prop
 |.map es clock,.map fs lh=>clock=lh/\es.length=fs.length/\∀ (k:Nat) (a b:JO),es[k]?=some a->fs[k]?=some b->a.1=b.1/\a.2.2=b.2.2/\Ren n π a.2.1 b.2.1
 |.iter m since seen last,.iter m' lj nu nw=>m'=π m/\m<n/\since=lj/\seen=nu/\last=nw
 |.lp env r st pend,.lp ae r' jQ bP=>LRen n π env ae/\r=r'/\st=jQ/\pend=bP
 |.siter s pos,.siter s' pos'=>s=s'/\pos=pos'
 |_,_=>False
theorem ORen.rel {ρ:Plc}{nf n':Nat}{π:Nat->Nat}{o' o:VObj}(h:ORen n' π o' o) {O:Obj}(hO:ORel ρ nf o O):ORel (λi=>if i<n' then ρ (π i) else none) n' o' O:=by
 cases o'<;>cases o<;>try exact h.elim
 .obtain⟨rfl,hl,hk⟩:=h;obtain⟨entries,h1,h2,h3⟩:=hO;refine⟨entries,h1,by rw[hl];exact h2,λk a ha=>?_⟩;have cL:=(zq.1 ha).1;rw[hl] at cL;obtain⟨e,he,h4,h5,h6⟩:=h3 k _ (z8 cL);obtain⟨k1,k2,k3⟩:=hk k a _ ha (z8 cL);exact⟨e,he,h4.trans k1.symm,h5.trans k2.symm,k3.rel h6⟩
 .obtain⟨rfl,hm,rfl,rfl,rfl⟩:=h;obtain⟨rm,h1,h2⟩:=hO;exact⟨rm,h1,(Ren.map _ hm).rel h2⟩
 .obtain⟨hl,rfl,rfl,rfl⟩:=h;exact⟨hO.1,hl.rel hO.2⟩
 .obtain⟨rfl,rfl⟩:=h;exact hO
theorem ORel.ren {ρ:Plc}{n n':Nat}{π:Nat->Nat}(hn:n<=n') (hπ:∀ i,i<n->π i=i) {o:VObj}{O:Obj}(h:ORel ρ n o O):ORen n' π o o:=by
 cases o with
 |map es clock =>obtain⟨entries,h1,h2,h3⟩:=h;refine⟨rfl,rfl,λk a b ha hb=>?_⟩;obtain rfl:a=b:=osj (ha.symm.trans hb);obtain⟨e,_,_,_,hv⟩:=h3 k a ha;exact⟨rfl,rfl,hv.ren hn hπ⟩
 |iter m since seen last =>
  obtain⟨rm,h1,h2⟩:=h;cases h2 with
  |map _ _ hi _=>exact⟨(hπ m hi).symm,by omega,rfl,rfl,rfl⟩
 |siter s pos=>exact⟨rfl,rfl⟩
 |lp env r st pend=>exact⟨h.2.ren hn hπ,rfl,rfl,rfl⟩
def BRen (n:Nat) (π:Nat->Nat):Blk->Blk->Prop
 |.cells c esz wr tight,.cells d ny kU iJ=>esz=ny/\wr=kU/\tight=iJ/\LRen n π c d
 |.obj o wr,.obj o' kU=>wr=kU/\ORen n π o o'
 |_,_=>False
theorem BRen.wr {n:Nat}{π:Nat->Nat}{b c:Blk}(h:BRen n π b c):b.wr=c.wr:=by cases b<;>cases c<;>first|(exact h.elim)|exact h.2.1|exact h.1
theorem BRen.rel {ρ:Plc}{nf n':Nat}{π:Nat->Nat}{p:Pl}{w:World}{b' b:Blk}(h:BRen n' π b' b) (hB:BRel ρ nf p w b):BRel (λi=>if i<n' then ρ (π i) else none) n' p w b':=by
 cases b' with
 |cells c esz wr tight =>
  cases b with
  |cells d ny kU iJ =>
   obtain⟨rfl,rfl,rfl,hl⟩:=h;obtain⟨h1,h2,h3,h4,h5,h6⟩:=hB;refine⟨h1,h2,by rw[hl.1];exact h3,h4,λk v hk=>?_,h6⟩;have cL:k<d.length:=by rw[<-hl.1];grind
   obtain⟨u,hu,hv⟩:=h5 k _ (z8 cL);exact⟨u,hu,(hl.2 k v _ hk (z8 cL)).rel hv⟩
  |obj _ _=>exact h.elim
 |obj o wr =>
  cases b with
  |cells _ _ _ _=>exact h.elim
  |obj o' kU =>obtain⟨rfl,ho⟩:=h;obtain⟨h0,O,h1,h2⟩:=hB;exact⟨h0,O,h1,ho.rel h2⟩
def VObj.plain:VObj->Bool
 |.map es _=>es.all λkv=>Zl kv.2.1
 |_=>false
def Blk.plain:Blk->Bool
 |.cells c _ _ _=>c.all Zl
 |.obj o _=>o.plain
theorem LRen.plain {n:Nat}{π:Nat->Nat}{c:List Value}(h:c.all Zl=true):LRen n π c c :=
 ⟨rfl,λi v u hv hu=>by
  obtain rfl:v=u:=osj (hv.symm.trans hu);exact .plain _ (by grind)⟩
theorem BRen.plain {n:Nat}{π:Nat->Nat}{b:Blk}(h:b.plain=true):BRen n π b b:=by
 cases b with
 |cells c esz wr tight=>exact⟨rfl,rfl,rfl,LRen.plain h⟩
 |obj o wr =>
  cases o with
  |map es clock =>refine⟨rfl,rfl,rfl,λk a b ha hb=>?_⟩;obtain rfl:a=b:=osj (ha.symm.trans hb);exact⟨rfl,rfl,.plain _ (zf.1 h a (xe ha))⟩
  |_=>cases h
theorem BRel.ren {ρ:Plc}{n n':Nat}{π:Nat->Nat}(hn:n<=n') (hπ:∀ i,i<n->π i=i) {p:Pl}{w:World}{b:Blk}(h:BRel ρ n p w b):BRen n' π b b:=by
 cases b with
 |cells c esz wr tight =>refine⟨rfl,rfl,rfl,rfl,λi v u hv hu=>?_⟩;obtain rfl:v=u:=osj (hv.symm.trans hu);obtain⟨_,_,ug⟩:=h.2.2.2.2.1 i v hv;exact ug.ren hn hπ
 |obj o wr =>obtain⟨_,O,_,ho⟩:=h;exact⟨rfl,ho.ren hn hπ⟩
def DropTo (σ0:Heap) (v:Value) (σf:Heap) (v':Value) (U':Heap):Prop :=
 ∀ ρ0 w0 ρ w c,HRel ρ0 σ0 w0->Ext ρ0 σ0 w0 ρ σf w->HRel ρ σf w->VRel ρ σf.n v c->∃ ρ',VRel ρ' U'.n v' c/\HRel ρ' U' w/\Ext ρ0 σ0 w0 ρ' U' w
theorem DropTo.refl (σ0:Heap) (v:Value) (σf:Heap):DropTo σ0 v σf v σf:=λ_ _ ρ _ _ _ hE hH hv=>⟨ρ,hv,hH,hE⟩
theorem DropTo.rename {σ0 σf U':Heap}{v v':Value}(π:Nat->Nat) (h1:σ0.n<=U'.n)
  (h2:∀ i,i<σ0.n->π i=i/\U'.get i=σf.get i/\(σf.get i=σ0.get i\/(∃ b,σf.get i=some b/\b.plain=true)\/σf.get i=none))
  (h3:∀ i,σ0.n<=i->i<U'.n->σ0.n<=π i/\∃ b' b,U'.get i=some b'/\σf.get (π i)=some b/\BRen U'.n π b' b)
  (h4:∀ i j,σ0.n<=i->i<U'.n->σ0.n<=j->j<U'.n->π i=π j->i=j) (h5:Ren U'.n π v' v):DropTo σ0 v σf v' U':=by
 intro ρ0 w0 ρ w c fM hE hH hv;have hπ:∀ i,i<σ0.n->π i=i:=λi hi=>(h2 i hi).1;have aD:∀ i b',U'.get i=some b'->∃ b,σf.get (π i)=some b/\BRen U'.n π b' b:=λi b' hb=>by
  have hi:=U'.lt hb;rcases zo i σ0.n with aj|bI
  .obtain⟨k1,k2,k3⟩:=h2 i aj;rw[k1];rw[k2] at hb;refine⟨b',hb,?_⟩;rcases k3 with k3|⟨b,k3,k4⟩|k3
   .rw[k3] at hb;obtain⟨p,_,hB⟩:=fM.live i b' hb;exact hB.ren h1 hπ
   .grind [osj,BRen.plain]
   .rw[k3] at hb;cases hb
  grind
 have eB:∀ i j,i<U'.n->j<U'.n->π i=π j->i=j:=(by grind);have hX:Ext ρ0 σ0 w0 (λi=>if i<U'.n then ρ (π i) else none) U' w:=by
  refine⟨hE.os,hE.tape,hE.output,hE.size,hE.keep,?_,h1,λi hi p hp=>?_⟩
  .rintro B hB ⟨i,p,b,hp,hb,hw,rfl⟩;change (if i<U'.n then ρ (π i) else none)=some p at hp;split at hp
   .obtain⟨b0,bM,bw⟩:=aD i b hb;exact hE.wr _ hB ⟨π i,p,b0,hp,bM,by rw[<-bw.wr];exact hw,rfl⟩
   .cases hp
  .change (if i<U'.n then ρ (π i) else none)=some p at hp;split at hp
   .rw[hπ i hi] at hp;exact hE.pl i hi p hp
   .cases hp
 refine⟨λi=>if i<U'.n then ρ (π i) else none,h5.rel hv,fM.ext ⟨λi b' hb=>?_,λi hi=>?_,λi p hp=>?_,λi j p q b cT hp hq hb hw hx=>?_⟩ hX,hX⟩
 .obtain⟨b,bM,bw⟩:=aD i b' hb;obtain⟨p,hp,hB⟩:=hH.live _ b bM;exact⟨p,by simp[U'.lt hb,hp],bw.rel hB⟩
 .show (if i<U'.n then ρ (π i) else none)=none;split
  .rename_i aj;rcases zo i σ0.n with cX|bI
   .obtain⟨k1,k2,_⟩:=h2 i cX;rw[k1];exact hH.dead i (by rw[<-k2];exact hi)
   grind
  .rfl
 .change (if i<U'.n then ρ (π i) else none)=some p at hp;split at hp
  .exact hH.lt _ p hp
  .cases hp
 .change (if i<U'.n then ρ (π i) else none)=some p at hp;change (if j<U'.n then ρ (π j) else none)=some q at hq;split at hp
  .rename_i hi;split at hq
   .rename_i hj;obtain⟨b0,bM,bw⟩:=aD i b hb;exact hH.sep (π i) (π j) p q b0 (λe=>cT (eB i j hi hj e)) hp hq bM (by rw[<-bw.wr];exact hw) hx
   .cases hq
  .cases hp
def Agree (σ0 σf:Heap):Prop:=∀ i,i<σ0.n->σf.get i=σ0.get i
theorem Agree.refl (U:Heap):Agree U U:=λ_ _=>rfl
theorem Agree.push {σ0 U:Heap}(h:Agree σ0 U) (hn:σ0.n<=U.n) (b:Blk):Agree σ0 (U.push b):=λi hi=>(Heap.q0i U b (by omega)).trans (h i hi)
theorem Agree.trans {σ0 σ1 σ2:Heap}(h:Agree σ0 σ1) (k:Agree σ1 σ2) (hn:σ0.n<=σ1.n):Agree σ0 σ2:=λi hi=>(k i (by omega)).trans (h i hi)
section
variable {P:Program}{S:VSpecs}
def Nn (tmps:Array Value):ResultVar->Sem Value
 |.tmp t=>pure (tmps.getD t undef)
 |.cell a t=>do loadVar t (<-asAddr (tmps.getD a undef))
theorem EC (fn:Func) (tmps:Array Value):results fn tmps=(do
  let vs <-fn.results.mapM (Nn tmps)
  pure (if h:vs.size=1 then vs[0] else .tuple vs)):=by
 unfold results;congr 1
theorem Ip {ρ:Plc}{U:Heap}{w:World}{env:Env}{tmps:Array Value}(hH:HRel ρ U w) (hL:LRel ρ U.n env tmps.toList) {r:ResultVar}{vr:VResult}
  (hc:Xg P r=some vr) {v:Value}(h:X5 env U vr=some v):∃ c,VRel ρ U.n v c/\(Nn tmps r).run P w=.ok c w:=by
 have al:∀ t,VRel ρ U.n (env.getD t undef) (tmps.getD t undef):=λt=>Yl (a:=⟨tmps,[]⟩) hL (x:=.tmp t) rfl;cases r with
 |tmp t =>simp[Xg] at hc;subst hc;simp only[X5,xp] at h;subst h;exact⟨_,al t,rfl⟩
 |cell a t =>
  simp only[Xg] at hc;split at hc
  .rename_i i d hi hu;simp at hc;subst hc;simp only[X5,zi] at h;obtain⟨p,hp,rfl⟩:=h;simp only[Q8,Q5] at hp;have ha:=al a;split at hp
   .rename_i g o s h1;rw[h1] at ha;split at hp
    .rename_i c hb;split at hp
     .rename_i hall;split at hp
      .rename_i v0 hv;simp at hp;subst hp;obtain⟨u,cH,hr⟩:=IG hH hi hu hb hall hv ha;refine⟨u,cH,?_⟩;have:=hr w (Like.refl ρ w);have nz:tmps.getD a undef=.pointer (some ⟨g,o,none⟩):=by
        generalize tmps.getD a undef=c at ha;cases ha;rfl
       rw[nz] at this;simp only[Instr.loadAt,Instr.sureAddr,zp,xj,zg] at this;simp only[Nn,nz,asAddr,zp,xj,zg];exact this
      .cases hp
     .cases hp
    .cases hp
   .rename_i i' o h1;rw[h1] at ha;split at hp
    .rename_i c esz wr tight hb;split at hp
     .rename_i v0 hv;simp at hp;subst hp;obtain⟨u,cH,hr⟩:=Q2q hH hi hu hb hv ha;refine⟨u,cH,?_⟩;have:=hr w (Like.refl ρ w);obtain⟨ad,nz,_⟩:=ha.q1h;rw[nz] at this;simp only[Instr.loadAt,Instr.sureAddr,zp,xj,zg] at this;simp only[Nn,nz,asAddr,zp,xj,zg];exact this
     .cases hp
    .cases hp
   .cases hp
  .cases hc
theorem Q1b {α:Type}{ρ:Plc}{n:Nat}(g:α->Sem Value) (w:World) (f:α->Option Value):∀ (l:List α) (vs:List Value),l.mapM f=some vs ->
  (∀ a∈l,∀ v,f a=some v->∃ c,VRel ρ n v c/\(g a).run P w=.ok c w)->∃ cs,LRel ρ n vs cs/\(l.mapM g).run P w=.ok cs w:=by
 intro l;induction l with
 |nil=>intro vs h _;simp at h;subst h;exact⟨[],LRel.nil _ _,rfl⟩
 |cons a l ih =>
  intro vs h hg;rw[xg] at h;cases hf:f a with
  |none=>simp[hf] at h
  |some v =>
   cases hm:l.mapM f with
   |none=>simp[hf,hm] at h
   |some cG =>simp[hf,hm] at h;subst h;obtain⟨c,ja,jb⟩:=hg a (by simp) v hf;obtain⟨cs,qq,eC⟩:=ih cG hm (λb hb=>hg b (by simp[hb]));refine⟨c::cs,LRel.cons ja qq,?_⟩;rw[xg];simp[jb,eC]
theorem Am {ρ:Plc}{U:Heap}{w:World}{env:Env}{tmps:Array Value}(hH:HRel ρ U w) (hL:LRel ρ U.n env tmps.toList) {fn:Func}{rs:List VResult}
  (hc:NK P fn.results.toList=some rs) {v:Value}(h:Jl env U rs=some v):∃ c,VRel ρ U.n v c/\(results fn tmps).run P w=.ok c w:=by
 unfold NK at hc;have hall:∀ vs,rs.mapM (X5 env U)=some vs->∃ cs,LRel ρ U.n vs cs/\(fn.results.mapM (Nn tmps)).run P w=.ok cs.toArray w:=by
  intro vs cz;have nB:fn.results.toList.mapM (λr=>(Xg P r).bind (X5 env U))=some vs:=by
   have:∀ (l:List ResultVar) (rs:List VResult) (vs:List Value),l.mapM (Xg P)=some rs->rs.mapM (X5 env U)=some vs->l.mapM (λr=>(Xg P r).bind (X5 env U))=some vs:=by
    intro l;induction l with
    |nil=>intro rs vs h1 h2;simp at h1;subst h1;simpa using h2
    |cons r l ih =>
     intro rs vs h1 h2;rw[xg] at h1;cases hg:Xg P r with
     |none=>simp[hg] at h1
     |some x =>
      cases hm:l.mapM (Xg P) with
      |none=>simp[hg,hm] at h1
      |some bu =>
       simp[hg,hm] at h1;subst h1;rw[xg] at h2;cases hx:X5 env U x with
       |none=>simp[hx] at h2
       |some y =>
        cases gZ:bu.mapM (X5 env U) with
        |none=>simp[hx,gZ] at h2
        |some cG =>simp[hx,gZ] at h2;subst h2;rw[xg];simp[hg,hx,ih bu cG hm gZ]
   exact this _ _ _ hc cz
  obtain⟨cs,k1,k2⟩:=Q1b (P:=P) (ρ:=ρ) (n:=U.n) (Nn tmps) w _ _ _ nB (λr _ v hv=>by
   cases hr:Xg P r with
   |none=>rw[hr] at hv;cases hv
   |some vr=>rw[hr] at hv;exact Ip hH hL hr hv)
  refine⟨cs,k1,?_⟩;rw[Array.mapM_eq_mapM_toList];simp[k2]
 unfold Jl at h;split at h
 .rename_i r;obtain⟨cs,k1,k2⟩:=hall [v] (by simp[h]);have cu:cs.length=1:=by rw[<-k1.1];rfl
  obtain⟨c,rfl⟩:=z_.1 cu;refine⟨c,k1.2 0 v c rfl rfl,?_⟩;rw[EC];simp_all
 .rename_i aG;simp only[zi] at h;obtain⟨vs,cz,rfl⟩:=h;obtain⟨cs,k1,k2⟩:=hall vs cz;refine⟨.tuple cs.toArray,VRel.q0j k1,?_⟩;have hl:cs.length≠1:=by
   rw[<-k1.1,(Yy _ _ _ cz).1]
   grind [List.length_eq_one_iff]
  rw[EC];simp_all
theorem Ow {ρ:Plc}{n:Nat}(k:Nat):LRel ρ n (List.replicate k undef) (List.replicate k undef) :=
 ⟨rfl,(by grind [osj,List.mem_of_getElem?,Xe])⟩
theorem Rq {w:World}{D:Nat}{ds:List Deferred}(h:w.heap[D]?=some (.deferred (some ds))):(Instr.takeDeferred D).run P w=.ok ds (Sl w D (.deferred none)):=by simp[Instr.takeDeferred,QE h (λ_ _ _ e=>by cases e),QR h (λ_ _ _ e=>by cases e)]
theorem Ext.mark {ρ0 ρ:Plc}{σ0 U:Heap}{w0 w:World}(hE:Ext ρ0 σ0 w0 ρ U w) {D:Nat}(hD:w0.heap.size<=D) (O:Obj):Ext ρ0 σ0 w0 ρ U (Sl w D O) :=
 ⟨hE.os,hE.tape,hE.output,by rw[Px];exact hE.size,λB hB hW=>(Vi w D O B (by omega)).trans (hE.keep B hB hW),hE.wr,hE.n,hE.pl⟩
theorem HRel.mark {ρ:Plc}{U:Heap}{w:World}(hH:HRel ρ U w) {D:Nat}{d:Option (List Deferred)}(hD:w.heap[D]?=some (.deferred d)) (O:Obj):HRel ρ U (Sl w D O) :=
 hH.world (by rw[Px];exact z9 _) (λi p hp=>Vi w D O p.blk (hH.q0n hD i p hp)) λg cs hg=>Vi w D O g λe=>by obtain⟨⟨e',f,h1⟩,_⟩:=hH.tab g cs hg;rw[e,hD] at h1;cases h1
theorem O8 {fn:Func}{tmps:Array Value}{R:Ending->World->Prop}{ρ0:Plc}{σ0:Heap}{w0:World}{ρ:Plc}{U:Heap}
  (qs:∀ w,HRel ρ U w->Ext ρ0 σ0 w0 ρ U w->∃ v,(results fn tmps).run P w=.ok v w/\R (.returned v) w) :
  ∀ (Ds:List Nat) (w:World),Ds.Nodup->(∀ D∈Ds,w0.heap.size<=D/\w.heap[D]?=some (.deferred (some [])))->HRel ρ U w->Ext ρ0 σ0 w0 ρ U w ->
   LeavesInM Fence.wide 0 P fn tmps R (Ds.map λD=>⟨.collected D,#[]⟩) .returning w:=by
 intro Ds;induction Ds with
 |nil=>intro w _ _ hH hE;exact qs w hH hE
 |cons D Ds ih =>intro w ef hall hH hE;obtain⟨h1,h2⟩:=x8.1 ef;obtain⟨h3,h4⟩:=hall D (by simp);refine⟨by simp,.inl ⟨D,_,rfl,Rq h4,ih _ h2 (λE bZ=>?_) (hH.mark h4 _) (hE.mark h3 _)⟩⟩;obtain⟨k1,k2⟩:=hall E (by simp[bZ]);exact⟨k1,by grind [Vi]⟩
theorem TY (hm:P.follows .mixedOrders=true) (hS:OkSpecs P S) {f:FuncId}{fn:Func}{c:Code}{vc:VCode}{rs:List VResult}(hf:P.funcs[f]?=some fn) (hb:fn.body=some c) (hc:comp P c=some vc) (hr:NK P fn.results.toList=some rs)
  {args:List Value}{U:Heap}{R:Value->Heap->Prop}(h:vwp S vc none (Z9f rs λv σf=>∃ v' U',DropTo U v σf v' U'/\R v' U') (args++List.replicate (fn.ntmps-args.length) undef) U):VCallsTo P f args U R:=by
 intro ρ w au hH hL;refine callsIn_wide.1 (callsIn_of_wp_marks (n:=0) hf hb trivial (Q4b hm hS c vc hc (B:=w.heap.size) none none 0 _ _ U ρ w _ h hH ?_ (Mks.nil (z9 _)) (.inl ⟨rfl,rfl⟩) _ ?_) rfl)
 .have hl:args.length=au.size:=by have:=hL.1;simpa using this
  have:=hL.append (Ow (ρ:=ρ) (n:=U.n) (fn.ntmps-args.length));simpa [hl] using this
 .intro e a' w' ⟨ae,ρ',U',k1,_,k2,k3,⟨_,Ds,k4,k6,k7⟩,k5⟩;have fin:(Zm (Jl ae U' rs) λv=>∃ v' aF,DropTo U v U' v' aF/\R v' aF)->LeavesInM Fence.wide 0 P fn a'.tmps (λe w'=>∃ c,e=.returned c/\Got ρ U w R c w') a'.defers .returning w':=by
   intro hk;rw[k4];refine O8 (λw1 iZ fv=>?_) Ds w' k6 k7 k2 k5;cases hv:Jl ae U' rs with
   |none=>rw[hv] at hk;exact hk.elim
   |some v =>rw[hv] at hk;obtain⟨v',aF,hd,hR⟩:=hk;obtain⟨c,ja,jb⟩:=Am iZ k3 hr hv;obtain⟨ep,j1,j2,j3⟩:=hd ρ w ρ' w1 c hH fv iZ ja;exact⟨c,jb,c,rfl,v',ep,aF,hR,j1,j2,j3⟩
  cases e with
  |normal=>exact fin k1
  |ret=>exact fin k1
  |_=>exact k1.elim
end
end Go.V
namespace Go.V
open Go
def Fun (P:Program) (f:FuncId) (vc:VCode) (rs:List VResult) (nt:Nat):Prop :=
 ∃ fn,P.funcs[f]?=some fn/\fn.body.bind (comp P)=some vc/\NK P fn.results.toList=some rs/\fn.ntmps=nt/\(fn.name=="runtime.NumGoroutine")=false
def Z9p (U:Heap) (rs:List VResult) (R:Value->Heap->Prop):Exit->Env->Heap->Prop:=Z9f rs λv σf=>∃ v' U',DropTo U v σf v' U'/\R v' U'
section
variable {P:Program}{S:VSpecs}{f:FuncId}{vc:VCode}{rs:List VResult}{nt:Nat}
theorem Fun.calls (h:Fun P f vc rs nt) (hm:P.follows .mixedOrders=true) (hS:OkSpecs P S) {args:List Value}{U:Heap}{R:Value->Heap->Prop}
  (hw:vwp S vc none (Z9p U rs R) (args++List.replicate (nt-args.length) undef) U):VCalled P f args U R:=by
 obtain⟨fn,h1,h2,h3,h4,h5⟩:=h;cases hb:fn.body with
 |none=>rw[hb] at h2;cases h2
 |some c =>rw[hb] at h2;exact VCallsTo.called ⟨fn,h1,by rw[hb];rfl,h5⟩ (TY hm hS h1 hb h2 h3 (by rw[h4];exact hw))
theorem Fun.enterable (h:Fun P f vc rs nt):Wf P f:=by
 obtain⟨fn,h1,h2,h3,h4,h5⟩:=h;refine⟨fn,h1,?_,h5⟩;cases hb:fn.body with
 |none=>rw[hb] at h2;cases h2
 |some c=>rfl
theorem Fun.callsTo (h:Fun P f vc rs nt) (hm:P.follows .mixedOrders=true) (hS:OkSpecs P S) {args:List Value}{U:Heap}{R:Value->Heap->Prop}
  (hw:vwp S vc none (Z9p U rs R) (args++List.replicate (nt-args.length) undef) U):VCallsTo P f args U R:=by
 obtain⟨fn,h1,h2,h3,h4,h5⟩:=h;cases hb:fn.body with
 |none=>rw[hb] at h2;cases h2
 |some c =>rw[hb] at h2;exact TY hm hS h1 hb h2 h3 (by rw[h4];exact hw)
def Q4 (P:Program):VSpecs where
 fn f:=some λargs U K=>VCalled P f args U K
 yl i:=some λargs U K=>SN P i args U K
 it f:=@ite _ (Wf P f) (Classical.propDecidable _) (some λi Y args U K=>UR P i Y->VCallsTo P f args U K) none
theorem Rw:OkSpecs P (Q4 P) :=
  ⟨λf s h => by obtain rfl:=osj h; exactλargs U K h => h,
   λf s h => by obtain rfl:=osj h; exactλargs U K h => h,
   λf T h => by
    simp only [Q4] at h;split at h
    . rename_i he; obtain rfl:=osj h; exact ⟨he, λi Y hY args U K h => h hY⟩
    . cases h⟩
end
end Go.V
namespace Go.V
open Go
inductive EB where
 |cells (c:List Value) (esz:El) (wr tight:Bool)
 |map (es:List JO) (clock:Nat) (wr:Bool)
 |iter (m since:Nat) (seen:List Nat) (last:Nat)
 |lp (st:LoopState) (pend:Option Code)
 |siter (s:ByteArray) (pos:Nat)
inductive GT (α:Type) where
 |nil
 |node (v:α) (l r:GT α)
def GT.get {α:Type}(d:α) (t:GT α):Nat->α :=
 GT.rec (motive:=λ_=>Nat->α) (λ_=>d)
  (λv _ _ gl gr i=>Bool.rec (motive:=λ_=>α) (Bool.rec (motive:=λ_=>α) (gr (i / 2-1)) (gl (i / 2)) (Nat.beq (i % 2) 1)) v (Nat.beq i 0)) t
def GT.set {α:Type}(d:α) (f:Nat):GT α->Nat->α->GT α :=
 Nat.rec (motive:=λ_=>GT α->Nat->α->GT α) (λt _ _=>t)
  (λ_ ih t i b=>GT.rec (motive:=λ_=>GT α)
   (Bool.rec (motive:=λ_=>GT α) (Bool.rec (motive:=λ_=>GT α) (.node d .nil (ih .nil (i / 2-1) b)) (.node d (ih .nil (i / 2) b) .nil) (Nat.beq (i % 2) 1)) (.node b .nil .nil) (Nat.beq i 0))
   (λv l r _ _=>Bool.rec (motive:=λ_=>GT α) (Bool.rec (motive:=λ_=>GT α) (.node v l (ih r (i / 2-1) b)) (.node v (ih l (i / 2) b) r) (Nat.beq (i % 2) 1)) (.node b l r) (Nat.beq i 0)) t) f
theorem GT.q0z {α:Type}(d v:α) (l r:GT α) (k:Nat):(GT.node v l r).get d k=if k=0 then v else if k % 2=1 then l.get d (k / 2) else r.get d (k / 2-1):=by
 show (Bool.rec (motive:=λ_=>α) (Bool.rec (motive:=λ_=>α) (r.get d (k / 2-1)) (l.get d (k / 2)) (Nat.beq (k % 2) 1)) v (Nat.beq k 0))=_;by_cases h0:k=0
 .subst h0;rfl
 .have:Nat.beq k 0=false:=by
   cases h:Nat.beq k 0 with
   |false=>rfl
   |true=>exact absurd (zL h) h0
  rw[this,z7 h0];by_cases h1:k % 2=1
  .rw[z6 h1,h1];rfl
  .have:Nat.beq (k % 2) 1=false:=by
    cases h:Nat.beq (k % 2) 1 with
    |false=>rfl
    |true=>exact absurd (zL h) h1
   rw[this,z7 h1]
theorem GT.q2d {α:Type}(d v:α) (f:Nat) (l r:GT α) (i:Nat) (b:α):(GT.node v l r).set d (f+1) i b=if i=0 then .node b l r else if i % 2=1 then .node v (l.set d f (i / 2) b) r else .node v l (r.set d f (i / 2-1) b):=by
 show (Bool.rec (motive:=λ_=>GT α) (Bool.rec (motive:=λ_=>GT α) (.node v l (r.set d f (i / 2-1) b)) (.node v (l.set d f (i / 2) b) r) (Nat.beq (i % 2) 1)) (.node b l r) (Nat.beq i 0))=_;by_cases h0:i=0
 .subst h0;rfl
 .have:Nat.beq i 0=false:=by
   cases h:Nat.beq i 0 with
   |false=>rfl
   |true=>exact absurd (zL h) h0
  rw[this,z7 h0];by_cases h1:i % 2=1
  .rw[z6 h1,h1];rfl
  .have:Nat.beq (i % 2) 1=false:=by
    cases h:Nat.beq (i % 2) 1 with
    |false=>rfl
    |true=>exact absurd (zL h) h1
   rw[this,z7 h1]
theorem GT.set_nil {α:Type}(d:α) (f i:Nat) (b:α):(GT.nil:GT α).set d (f+1) i b=(GT.node d .nil .nil).set d (f+1) i b:=rfl
theorem GT.q1f {α:Type}(d:α):∀ (f:Nat) (t:GT α) (i:Nat) (b:α) (j:Nat),i+1<2 ^ f->(t.set d f i b).get d j=if j=i then b else t.get d j:=by
 intro f;induction f with
 |zero=>intro t i b j h;simp at h
 |succ f ih =>
  intro t i b j h;have hp:2 ^ (f+1)=2*2 ^ f:=by rw[Nat.pow_succ];omega
  have gm:∀ v l r,((GT.node v l r).set d (f+1) i b).get d j=if j=i then b else (GT.node v l r).get d j:=by
   intro v l r;rw[GT.q2d];by_cases hi:i=0
   .subst hi;rw[z6 rfl,GT.q0z,GT.q0z];split<;>rfl
   .rw[z7 hi];by_cases ho:i % 2=1
    .rw[z6 ho,GT.q0z,GT.q0z,ih _ _ _ _ (by omega)];by_cases eJ:j=0
     .subst eJ;rw[z6 rfl,z7 (Ne.symm hi),z6 rfl]
     .rw[z7 eJ,z7 eJ];by_cases eD:j % 2=1
      .rw[z6 eD,z6 eD];by_cases aQ:j=i
       .subst aQ;simp
       .rw[z7 aQ,z7 (by omega)]
      .rw[z7 eD,z7 eD,z7 (by rintro rfl;exact eD ho)]
    .rw[z7 ho,GT.q0z,GT.q0z,ih _ _ _ _ (by omega)];by_cases eJ:j=0
     .subst eJ;rw[z6 rfl,z7 (Ne.symm hi),z6 rfl]
     .rw[z7 eJ,z7 eJ];by_cases eD:j % 2=1
      .rw[z6 eD,z6 eD,z7 (by rintro rfl;exact ho eD)]
      .rw[z7 eD,z7 eD];by_cases aQ:j=i
       .subst aQ;simp
       .rw[z7 aQ,z7 (by omega)]
  cases t with
  |node v l r=>exact gm v l r
  |nil =>
   rw[GT.set_nil,gm d .nil .nil,GT.q0z];split
   .rfl
   .split
    .rfl
    .split<;>rfl
structure CH where
 t:GT (Option EB)
 n:Nat
def CH.get (h:CH) (i:Nat):Option EB:=Bool.rec (motive:=λ_=>Option EB) none (h.t.get none i) (Nat.blt i h.n)
def CH.upd (h:CH) (i:Nat) (b:EB):CH:=⟨h.t.set none 32 i (some b),h.n⟩
def CH.kill (h:CH) (i:Nat):CH:=⟨h.t.set none 32 i none,h.n⟩
def CH.push (h:CH) (b:EB):CH:=⟨h.t.set none 32 h.n (some b),h.n+1⟩
def CH.room (h:CH):Bool:=Nat.ble h.n 1000000000
def CH.empty:CH:=⟨.nil,0⟩
theorem CH.q1a {h:CH}{i:Nat}(hi:i<h.n):h.get i=h.t.get none i:=by unfold CH.get;rw[show Nat.blt i h.n=true from Nat.ble_eq_true_of_le hi]
theorem CH.q0x {h:CH}{i:Nat}(hi:h.n<=i):h.get i=none:=by
 unfold CH.get;cases hb:Nat.blt i h.n with
 |false=>rfl
 |true=>have:=zx hb;omega
theorem CH.q2h {h:CH}{i:Nat}{b:EB}(hi:i<h.n) (hs:h.n<=1000000001) (j:Nat):(h.upd i b).get j=if j=i then some b else h.get j:=by
 rcases zo j h.n with hj|hj
 .rw[CH.q1a (h:=h.upd i b) hj,CH.q1a hj];exact GT.q1f none 32 _ _ _ _ (by omega)
 .rw[CH.q0x (h:=h.upd i b) hj,CH.q0x hj,z7 (by omega)]
theorem CH.q2e {h:CH}{i:Nat}(hi:i<h.n) (hs:h.n<=1000000001) (j:Nat):(h.kill i).get j=if j=i then none else h.get j:=by
 rcases zo j h.n with hj|hj
 .rw[CH.q1a (h:=h.kill i) hj,CH.q1a hj];exact GT.q1f none 32 _ _ _ _ (by omega)
 .rw[CH.q0x (h:=h.kill i) hj,CH.q0x hj];simp
theorem CH.q1s {h:CH}{b:EB}(hs:h.n<=1000000001) (j:Nat):(h.push b).get j=if j=h.n then some b else h.get j:=by
 rcases zo j (h.n+1) with hj|hj
 .rw[CH.q1a (h:=h.push b) hj];show (h.t.set none 32 h.n (some b)).get none j=_;rw[GT.q1f none 32 _ _ _ _ (by omega)];split
  .rfl
  .rw[CH.q1a (by omega)]
 .rw[CH.q0x (h:=h.push b) hj,CH.q0x (by omega),z7 (by omega)]
def EB.to (q:Env×Loop):EB->Blk
 |.cells c e w t=>.cells c e w t
 |.map es cl w=>.obj (.map es cl) w
 |.iter m s sn l=>.obj (.iter m s sn l) true
 |.lp st pend=>.obj (.lp q.1 q.2 st pend) true
 |.siter s pos=>.obj (.siter s pos) true
structure CSim (rs:Nat->Env×Loop) (h:CH) (U:Heap):Prop where
 n:h.n=U.n
 sm:h.n<=1000000001
 get:∀ i,U.get i=(h.get i).map (EB.to (rs i))
theorem CSim.cells {rs:Nat->Env×Loop}{h:CH}{U:Heap}(hs:CSim rs h U) {i:Nat}{c:List Value}{e:El}{w t:Bool}(hg:h.get i=some (.cells c e w t)):U.get i=some (.cells c e w t):=by rw[hs.get,hg];rfl
theorem CSim.map {rs:Nat->Env×Loop}{h:CH}{U:Heap}(hs:CSim rs h U) {i:Nat}{es:List JO}{cl:Nat}{w:Bool}(hg:h.get i=some (.map es cl w)):U.get i=some (.obj (.map es cl) w):=by rw[hs.get,hg];rfl
theorem CSim.iter {rs:Nat->Env×Loop}{h:CH}{U:Heap}(hs:CSim rs h U) {i m s:Nat}{sn:List Nat}{l:Nat}(hg:h.get i=some (.iter m s sn l)):U.get i=some (.obj (.iter m s sn l) true):=by rw[hs.get,hg];rfl
theorem CSim.lp {rs:Nat->Env×Loop}{h:CH}{U:Heap}(hs:CSim rs h U) {i:Nat}{st:LoopState}{pend:Option Code}(hg:h.get i=some (.lp st pend)):U.get i=some (.obj (.lp (rs i).1 (rs i).2 st pend) true):=by rw[hs.get,hg];rfl
theorem CSim.lt {rs:Nat->Env×Loop}{h:CH}{U:Heap}(hs:CSim rs h U) {i:Nat}{b:EB}(hg:h.get i=some b):i<h.n:=by
 have:U.get i=some (b.to (rs i)):=by rw[hs.get,hg];rfl
 rw[hs.n];exact U.lt this
theorem CSim.upd {rs:Nat->Env×Loop}{h:CH}{U:Heap}(hs:CSim rs h U) {i:Nat}(hi:i<h.n) {b:EB}{b':Blk}(hb:b.to (rs i)=b'):CSim rs (h.upd i b) (U.upd i b'):=by
 refine⟨hs.n,hs.sm,λj=>?_⟩;rw[CH.q2h hi hs.sm];show (if j=i/\i<U.n then some b' else U.get j)=_;by_cases hj:j=i
 .subst hj;rw[z6 ⟨rfl,by rw[<-hs.n];exact hi⟩,z6 rfl,<-hb];rfl
 .rw[z7 (λe=>hj e.1),z7 hj];exact hs.get j
theorem CSim.kill {rs:Nat->Env×Loop}{h:CH}{U:Heap}(hs:CSim rs h U) {i:Nat}(hi:i<h.n):CSim rs (h.kill i) (U.kill i):=by
 refine⟨hs.n,hs.sm,λj=>?_⟩;rw[CH.q2e hi hs.sm];show (if j=i then none else U.get j)=_;by_cases hj:j=i
 .rw[z6 hj,z6 hj];rfl
 .rw[z7 hj,z7 hj];exact hs.get j
theorem CSim.push {rs:Nat->Env×Loop}{h:CH}{U:Heap}(hs:CSim rs h U) (hr:h.room=true) {b:EB}{b':Blk}(hb:b.to (rs h.n)=b'):CSim rs (h.push b) (U.push b'):=by
 have hr:h.n<=1000000000:=zx hr;refine⟨by show h.n+1=U.n+1;rw[hs.n],by show h.n+1<=_;omega,λj=>?_⟩;rw[CH.q1s hs.sm];show (if j=U.n then some b' else U.get j)=_;rw[<-hs.n];by_cases hj:j=h.n
 .subst hj;rw[z6 rfl,z6 rfl,<-hb];rfl
 .rw[z7 hj,z7 hj];exact hs.get j
theorem CSim.rs {rs bu:Nat->Env×Loop}{h:CH}{U:Heap}(hs:CSim rs h U) (hr:∀ i,i<h.n->bu i=rs i):CSim bu h U :=
 ⟨hs.n,hs.sm,λi=>by
  rw[hs.get];cases hg:h.get i with
  |none=>rfl
  |some b=>rw[hr i (hs.lt hg)]⟩
def CH.sl (U:CH) (esz:Nat):Value->Option (List Value)
 |.slice none 0 0=>some []
 |.slice (some ⟨i,o,none⟩) n _ =>
  match U.get i with
  |some (.cells c e _ _)=>if e.sz=esz/\o+n*esz<=c.length then some ((c.drop o).take (n*esz)) else none
  |_=>none
 |_=>none
def CH.mapAt (U:CH) (m:Nat):Option (List JO×Nat×Bool):=match U.get m with
 |some (.map es clock wr)=>some (es,clock,wr)
 |_=>none
def NP (U:CH) (b:EB) (v:Value):Option (Value×CH):=if U.room=true then some (v,U.push b) else none
def FU (esz:El) (bytes:Nat) (U:CH) (s:Value) (m:Nat) (xs:List Value):Option (Value×CH) :=
 match s with
 |.slice none 0 0 =>
  if m=0 then some (s,U) else
  if m*bytes<=2 ^ 46 then NP U (.cells xs esz true false) (.slice (some ⟨U.n,0,none⟩) m m) else none
 |.slice (some ⟨i,o,none⟩) n cap =>
  match U.get i with
  |some (.cells c e wr tight) =>
   if e=esz/\n<=cap/\o+n*esz.sz<=c.length then
    if m=0 then some (s,U) else
    if n+m<=cap then
     (if wr=true/\o+(n+m)*esz.sz<=c.length then some (.slice (some ⟨i,o,none⟩) (n+m) cap,U.upd i (.cells (Wz c (o+n*esz.sz) xs) e wr tight)) else none)
    else if (n+m)*bytes<=2 ^ 46 then
     (if tight then NP U (.cells ((c.drop o).take (n*esz.sz)++xs) esz true false) (.slice (some ⟨U.n,0,none⟩) (n+m) (n+m))
     else if wr then NP (U.kill i) (.cells ((c.drop o).take (n*esz.sz)++xs) esz true false) (.slice (some ⟨U.n,0,none⟩) (n+m) (n+m))
     else none)
    else none
   else none
  |_=>none
 |.slice (some ⟨i,o,some 0⟩) n cap =>
  match U.get i with
  |some (.cells c e _ _) =>
   if e=esz/\n=cap/\o+n*esz.sz<=c.length/\m≠0/\(n+m)*bytes<=2 ^ 46 then
    NP U (.cells ((c.drop o).take (n*esz.sz)++xs) esz true false) (.slice (some ⟨U.n,0,none⟩) (n+m) (n+m))
   else none
  |_=>none
 |_=>none
def Q2b (size:Nat) (U:CH) (s:Value) (l h:Nat) (m:Option Nat):Option (Value×CH) :=
 match s with
 |.slice none 0 0=>if l=0/\h=0/\(m.getD 0)=0 then some (.slice none 0 0,U) else none
 |.slice (some ⟨i,o,none⟩) _ cap =>
  match U.get i with
  |some (.cells _ e _ t) =>
   match m with
   |none=>if e.sz=size/\l<=h/\h<=cap then some (.slice (some ⟨i,o+l*size,none⟩) (h-l) (cap-l),U) else none
   |some m =>
    if e.sz=size/\l<=h/\h<=m/\m<=cap then
     if m=l then NP U (.cells [] e false true) (.slice (some ⟨U.n,0,none⟩) 0 0)
     else if t=false/\h=m then some (.slice (some ⟨i,o+l*size,some 0⟩) (h-l) (m-l),U)
     else some (.slice (some ⟨i,o+l*size,none⟩) (h-l) (m-l),U)
    else none
  |_=>none
 |_=>none
def Z4q:Nat->Value->Value->CH->Option Bool
 |0,.pointer none,.pointer none,_=>some true
 |0,.pointer none,.pointer (some _),_=>some false
 |0,.pointer (some _),.pointer none,_=>some false
 |0,.pointer (some ⟨i,o,none⟩),.pointer (some ⟨j,q,none⟩),U=>if i=j/\o=q/\(U.get i).isSome=true then some true else none
 |1,.slice none _ _,.slice none _ _,_=>some true
 |1,.slice none _ _,.slice (some _) _ _,_=>some false
 |1,.slice (some _) _ _,.slice none _ _,_=>some false
 |2,.map none,.map none,_=>some true
 |2,.map none,.map (some _),_=>some false
 |2,.map (some _),.map none,_=>some false
 |3,.nilFunc,.nilFunc,_=>some true
 |3,.nilFunc,.func _ _ _,_=>some false
 |3,.func _ _ _,.nilFunc,_=>some false
 |_,_,_,_=>none
def W9 (o:XOp) (ev:Operand->Value) (U:CH):Option (Value×CH) :=
 match o with
 |.eqAgg neg s x y=>match ev x,ev y with
  |.agg a,.agg b=>if fits s a.toList=true/\fits s b.toList=true then some (.bool (if neg then !(QD a.toList b.toList) else QD a.toList b.toList),U) else none
  |_,_=>none
 |.eqNil kd neg x y=>match Z4q kd (ev x) (ev y) U with|some b=>some (.bool (if neg then !b else b),U)|none=>none
 |.makeMap=>NP U (.map [] 0 true) (.map (some U.n))
 |.lookup mk z ok x i =>
  let k:=ev i
  if ZF mk k then
   match ev x with
   |.map none=>some (if ok then .tuple #[z,.bool false] else z,U)
   |.map (some m)=>match U.mapAt m with
    |some (es,_,_)=>if es.all (λe=>ZF mk e.1) then
      (match Qh k es with
      |some e=>some (if ok then .tuple #[e.2.1,.bool true] else e.2.1,U)
      |none=>some (if ok then .tuple #[z,.bool false] else z,U)) else none
    |none=>none
   |_=>none
  else none
 |.mapUpdate mk m k v=>match ev m with
  |.map (some i)=>match U.mapAt i with
   |some (es,clock,true)=>if ZF mk (ev k)&&es.all (λe=>ZF mk e.1) then some (undef,U.upd i (.map (Qx (ev k) (ev v) clock es).1 (Qx (ev k) (ev v) clock es).2 true)) else none
   |_=>none
  |_=>none
 |.delete mk m k=>match ev m with
  |.map (some i)=>match U.mapAt i with
   |some (es,clock,true)=>if ZF mk (ev k)&&es.all (λe=>ZF mk e.1) then some (.tuple #[],U.upd i (.map (Uv (ev k) es) clock true)) else none
   |_=>none
  |_=>none
 |.lenMap x=>match ev x with
  |.map none=>some (.int .i64 0,U)
  |.map (some m)=>match U.mapAt m with
   |some (es,_,_)=>some (.int .i64 es.length,U)
   |none=>none
  |_=>none
 |.rangeMap x=>match ev x with
  |.map (some m)=>match U.mapAt m with
   |some (_,clock,_)=>NP U (.iter m clock [] clock) (.pointer (some ⟨U.n,0,none⟩))
   |none=>none
  |_=>none
 |.rangeStr x=>match ev x with
  |.string s=>NP U (.siter s 0) (.pointer (some ⟨U.n,0,none⟩))
  |_=>none
 |.nextStr x=>match ev x with
  |.pointer (some ⟨i,0,none⟩)=>match U.get i with
   |some (.siter s pos)=>match s.data.toList[pos]? with
    |some b=>if b.toNat<128 then some (.tuple #[.bool true,.int .i64 pos,.int .i32 b.toNat],U.upd i (.siter s (pos+1))) else none
    |none=>some (.tuple #[.bool false],U)
   |_=>none
  |_=>none
 |.entry x=>match ev x with
  |.pointer (some ⟨i,0,none⟩)=>match U.get i with
   |some (.iter m _ seen last)=>match U.mapAt m,seen.getLast? with
    |some (es,clock,_),some b=>if clock=last then (match es.find? (λe=>e.2.2==b) with|some e=>if UI e.1 then some (.tuple #[e.1,e.2.1],U) else none|none=>none) else none
    |_,_=>none
   |_=>none
  |_=>none
 |.copy size d s=>match ev d,ev s with
  |.slice db dn _,.slice sb sn sc =>
   if min sn dn=0 then some (.int .i64 0,U) else
   match db,U.sl size (.slice sb (min sn dn) sc) with
   |some ⟨i,o,none⟩,some xs=>match U.get i with
    |some (.cells c e wr tight)=>if wr=true/\e.sz=size/\o+xs.length<=c.length/\xs.all cellOk=true then some (.int .i64 (min sn dn:Nat),U.upd i (.cells (Wz c o xs) e wr tight)) else none
    |_=>none
   |_,_=>none
  |_,_=>none
 |.clear z x=>match ev x with
  |.slice b n _ =>
   if n=0 then some (.tuple #[],U) else
   match b with
   |some ⟨i,o,none⟩=>match U.get i with
    |some (.cells c e wr tight)=>if wr=true/\o+n*z.length<=c.length/\z.all cellOk=true then some (.tuple #[],U.upd i (.cells (Wz c o (TW n z)) e wr tight)) else none
    |_=>none
   |_=>none
  |_=>none
 |.toUnsafe x=>match ev x with
  |.pointer none=>some (.pointer none,U)
  |.pointer (some ⟨i,o,none⟩)=>match U.get i with
   |some (.cells c _ _ _)=>if o<c.length then some (.pointer (some ⟨i,o,none⟩),U) else none
   |_=>none
  |_=>none
 |.fromUnsafe u size x=>match ev x with
  |.pointer none=>some (.pointer none,U)
  |.pointer (some ⟨i,o,none⟩)=>match U.get i with
   |some (.cells c e true true)=>if o=0/\e.ty=u/\size<=c.length then some (.pointer (some ⟨i,o,none⟩),U) else none
   |_=>none
  |_=>none
 |.sliceData x=>match ev x with
  |.slice none _ _=>some (.pointer none,U)
  |.slice (some ⟨i,o,none⟩) _ cap=>if cap≠0/\(U.get i).isSome=true then some (.pointer (some ⟨i,o,none⟩),U) else none
  |_=>none
 |.unsafeStr e x n=>match ev x,ev n with
  |.pointer p,.int .i64 k =>
   if k=0 then some (.string ⟨#[]⟩,U) else
   match p with
   |some ⟨i,o,none⟩=>match U.get i with
    |some (.cells c el true tight) =>
     if 0<k/\k<=2 ^ 62/\el.ty=e/\o+k.toNat<=c.length then
      (match AZ ((c.drop o).take k.toNat) with
      |some s=>some (.string s,U.upd i (.cells c el false tight))
      |none=>none) else none
    |_=>none
   |_=>none
  |_,_=>none
 |.bytesStr x=>match ev x with
  |.slice a n c=>match U.sl 1 (.slice a n c) with
   |some xs=>match AZ xs with|some s=>some (.string s,U)|none=>none
   |none=>none
  |_=>none
 |.strBytes e x=>match ev x with
  |.string s=>if s.size<=2 ^ 62 then NP U (.cells (s.data.toList.map λb=>.int .u8 b.toNat) ⟨1,e⟩ true false) (.slice (some ⟨U.n,0,none⟩) s.size s.size) else none
  |_=>none
 |_=>none
def Heap.empty:Heap:=⟨λ_=>none,0,λ_ _=>rfl⟩
def Q90 (o:VOp) (ev:Operand->Value) (U:CH):Option (Value×CH) :=
 match o with
 |.alloc t z=>NP U (.cells z ⟨z.length,t⟩ true true) (.pointer (some ⟨U.n,0,none⟩))
 |.box t x=>match Vv (ev x) with
  |some vs=>NP U (.cells vs ⟨vs.length,t⟩ true true) (.pointer (some ⟨U.n,0,none⟩))
  |none=>none
 |.buildSlice esz z len parts=>match Gf (TW len z) (parts.map λp=>(p.1*esz.sz,esz.sz,ev p.2)) with
  |some cs=>NP U (.cells cs esz true true) (.slice (some ⟨U.n,0,none⟩) len len)
  |none=>none
 |.load agg size a=>match ev a with
  |.pointer (some ⟨g,o,some _⟩)=>(match Q9k g with
   |some c=>if c.all Zl then (match YC agg size c o with|some v=>some (v,U)|none=>none) else none
   |none=>none)
  |.pointer (some ⟨i,o,none⟩)=>match U.get i with
   |some (.cells c _ _ _)=>match YC agg size c o with|some v=>some (v,U)|none=>none
   |_=>none
  |_=>none
 |.store size a v=>match ev a,Vv (ev v) with
  |.pointer (some ⟨i,o,none⟩),some vs=>match U.get i with
   |some (.cells c e wr tight)=>if wr=true/\vs.length=size/\o+size<=c.length/\vs.all cellOk=true then some (undef,U.upd i (.cells (Wz c o vs) e wr tight)) else none
   |_=>none
  |_,_=>none
 |.slice size x lo hi mx =>
  match ev x with
  |.slice a n cap =>
   match Jz ev lo 0,Jz ev hi n,mx with
   |some l,some h,none=>Q2b size U (.slice a n cap) l h none
   |some l,some h,some _=>match Jz ev mx 0,hi with
    |some m,some _=>Q2b size U (.slice a n cap) l h (some m)
    |_,_=>none
   |_,_,_=>none
  |_=>none
 |.makeSlice esz bytes z l c =>
  match ev l,ev c with
  |.int _ a,.int _ b=>if 0<=a/\a<=b/\b*bytes<=2 ^ 46/\b<=2 ^ 46 then NP U (.cells (TW b.toNat z) esz true true) (.slice (some ⟨U.n,0,none⟩) a.toNat b.toNat) else none
  |_,_=>none
 |.append esz bytes s x =>
  match U.sl esz.sz (ev x),ev x with
  |some xs,.slice _ m _=>if xs.all cellOk then FU esz bytes U (ev s) m xs else none
  |_,_=>none
 |.ext o=>W9 o ev U
 |o=>if o.kind=0 then (match Q8 o ev Heap.empty with|some p=>some (p.1,U)|none=>none) else none
def ESnd (rs:Nat->Env×Loop) (h:CH) (_σ:Heap) (r:Option (Value×Heap)) (p:Value×CH):Prop:=h.n<=p.2.n/\∃ U',r=some (p.1,U')/\CSim rs p.2 U'
theorem ESnd.same {rs:Nat->Env×Loop}{h:CH}{U:Heap}(hs:CSim rs h U) {r:Option (Value×Heap)}{v:Value}(hr:r=some (v,U)):ESnd rs h U r (v,h):=⟨z9 _,U,hr,hs⟩
theorem ESnd.upd {rs:Nat->Env×Loop}{h:CH}{U:Heap}(hs:CSim rs h U) {r:Option (Value×Heap)}{v:Value}{i:Nat}{b:EB}{b0:EB}(hg:h.get i=some b0) {b':Blk}(hb:b.to (rs i)=b') (hr:r=some (v,U.upd i b')):ESnd rs h U r (v,h.upd i b):=by have hi:=hs.lt hg;have pa:=hs.sm;exact⟨z9 _,_,hr,hs.upd hi hb⟩
theorem ESnd.push {rs:Nat->Env×Loop}{h:CH}{U:Heap}(hs:CSim rs h U) {r:Option (Value×Heap)}{v:Value}{p:Value×CH}{b:EB}(hp:NP h b v=some p) {b':Blk}(hb:b.to (rs h.n)=b') (hr:r=some (v,U.push b')):ESnd rs h U r p:=by
 unfold NP at hp;split at hp
 .rename_i aK;obtain rfl:=osj hp;have pa:=hs.sm;exact⟨Nat.le_succ _,_,hr,hs.push aK hb⟩
 .cases hp
theorem CSim.sl {rs:Nat->Env×Loop}{h:CH}{U:Heap}(hs:CSim rs h U) {esz:Nat}{v:Value}{xs:List Value}(hx:h.sl esz v=some xs):U.sl esz v=some xs:=by
 unfold CH.sl at hx;unfold Heap.sl;split at hx
 .exact hx
 .rename_i i o n c;split at hx
  .rename_i cs e wr t hb;simp only[hs.cells hb];exact hx
  .cases hx
 .cases hx
theorem CSim.mapAt {rs:Nat->Env×Loop}{h:CH}{U:Heap}(hs:CSim rs h U) {m:Nat}{x:List JO×Nat×Bool}(hx:h.mapAt m=some x):U.mapAt m=some x/\h.get m=some (.map x.1 x.2.1 x.2.2):=by
 unfold CH.mapAt at hx;unfold Heap.mapAt;split at hx
 .rename_i es clock wr hb;obtain rfl:=osj hx;exact⟨by simp only[hs.map hb],hb⟩
 .cases hx
theorem Q1p {rs:Nat->Env×Loop}{h:CH}{U:Heap}(hs:CSim rs h U) {kd:Nat}{a b:Value}{r:Bool}(hx:Z4q kd a b h=some r):Y3 kd a b U=some r:=by
 unfold Z4q at hx;unfold Y3
 split at hx<;>first
  |exact hx
  |(cases hx;done)
  |skip
 rename_i i o j q;split at hx
 .rename_i hc;obtain⟨h1,h2,h3⟩:=hc;have dg:i=j/\o=q/\(U.get i).isSome=true:=⟨h1,h2,by rw[hs.get];simpa using h3⟩;simp only[z6 dg];exact hx
 .cases hx
theorem I8 {rs:Nat->Env×Loop}{h:CH}{U:Heap}(hs:CSim rs h U) {esz:El}{bytes:Nat}{s:Value}{m:Nat}{xs:List Value}{p:Value×CH}(hx:FU esz bytes h s m xs=some p):ESnd rs h U (Wc esz bytes U s m xs) p:=by
 unfold FU at hx;unfold Wc;split at hx
 .split at hx
  .rename_i hm;simp only[z6 hm];obtain rfl:=osj hx;exact .same hs rfl
  .rename_i hm;simp only[z7 hm];split at hx
   .rename_i hb;simp only[z6 hb];rw[hs.n] at hx;exact .push hs hx rfl rfl
   .cases hx
 .rename_i i o n cap;split at hx
  .rename_i c e wr tight hg;have pa:=hs.sm;have hi:=hs.lt hg;simp only[hs.cells hg];split at hx
   .rename_i h1;simp only[z6 h1];split at hx
    .rename_i h2;simp only[z6 h2];obtain rfl:=osj hx;exact .same hs rfl
    .rename_i h2;simp only[z7 h2];split at hx
     .rename_i h3;simp only[z6 h3];split at hx
      .rename_i h4;simp only[z6 h4];obtain rfl:=osj hx;exact .upd hs hg rfl rfl
      .cases hx
     .rename_i h3;simp only[z7 h3];split at hx
      .rename_i h4;simp only[z6 h4];split at hx
       .rename_i h5;simp only[z6 h5];rw[hs.n] at hx;exact .push hs hx rfl rfl
       .rename_i h5;simp only[z7 h5];split at hx
        .rename_i h6;simp only[z6 h6];rw[hs.n] at hx;have hk:=hs.kill hi;obtain⟨k1,U',k2,k3⟩:=ESnd.push (r:=some (.slice (some ⟨U.n,0,none⟩) (n+m) (n+m),(U.kill i).push (.cells ((c.drop o).take (n*esz.sz)++xs) esz true false))) hk hx rfl rfl;exact⟨k1,U',k2,k3⟩
        .cases hx
      .cases hx
   .cases hx
  .cases hx
 .rename_i i o n cap;split at hx
  .rename_i c e wr tight hg;simp only[hs.cells hg];split at hx
   .rename_i h1;simp only[z6 h1];rw[hs.n] at hx;exact .push hs hx rfl rfl
   .cases hx
  .cases hx
 .cases hx
theorem R9 {rs:Nat->Env×Loop}{h:CH}{U:Heap}(hs:CSim rs h U) {size:Nat}{s:Value}{l k:Nat}{m:Option Nat}{p:Value×CH}(hx:Q2b size h s l k m=some p):ESnd rs h U (YK size U s l k m) p:=by
 unfold Q2b at hx;unfold YK;split at hx
 .split at hx
  .rename_i hm;simp only[z6 hm];obtain rfl:=osj hx;exact .same hs rfl
  .cases hx
 .rename_i i o n cap;split at hx
  .rename_i c e wr tight hg;simp only[hs.cells hg];split at hx
   .split at hx
    .rename_i h1;simp only[z6 h1];obtain rfl:=osj hx;exact .same hs rfl
    .cases hx
   .split at hx
    .rename_i h1;simp only[z6 h1];split at hx
     .rename_i h2;simp only[z6 h2];rw[hs.n] at hx;exact .push hs hx rfl rfl
     .rename_i h2;simp only[z7 h2];split at hx
      .rename_i h3;simp only[z6 h3];obtain rfl:=osj hx;exact .same hs rfl
      .rename_i h3;simp only[z7 h3];obtain rfl:=osj hx;exact .same hs rfl
    .cases hx
  .cases hx
 .cases hx
theorem LM {rs:Nat->Env×Loop}{h:CH}{U:Heap}(hs:CSim rs h U) {o:XOp}{ev:Operand->Value}{p:Value×CH}(hx:W9 o ev h=some p):ESnd rs h U (J5 o ev U) p:=by
 cases o
 case eqAgg neg s x y =>
  simp only[W9] at hx;simp only[J5];split at hx
  .rename_i a b ha hb;split at hx
   .rename_i hc;rw[ha,hb];simp only;rw[z6 hc];obtain rfl:=osj hx;exact .same hs rfl
   .cases hx
  .cases hx
 case eqNil kd neg x y =>
  simp only[W9] at hx;simp only[J5];split at hx
  .rename_i b hb;rw[Q1p hs hb];obtain rfl:=osj hx;exact .same hs rfl
  .cases hx
 case makeMap =>
  simp only[W9] at hx;simp only[J5];rw[hs.n] at hx;exact .push hs hx rfl rfl
 case lookup mk z ok x i =>
  simp only[W9] at hx;simp only[J5];generalize ev x=q0 at hx |-;generalize ev i=q1 at hx |-;split at hx
  .rename_i hk;simp only[z6 hk];split at hx
   .obtain rfl:=osj hx;exact .same hs rfl
   .rename_i m hm;split at hx
    .rename_i es cl wr fS;obtain⟨k1,k2⟩:=hs.mapAt fS;simp only[k1];split at hx
     .rename_i hall;simp only[z6 hall];split at hx
      .rename_i e hf;simp only[hf];obtain rfl:=osj hx;exact .same hs rfl
      .rename_i hf;simp only[hf];obtain rfl:=osj hx;exact .same hs rfl
     .cases hx
    .cases hx
   .cases hx
  .cases hx
 case mapUpdate mk m k v =>
  simp only[W9] at hx;simp only[J5];generalize ev m=q0 at hx |-;split at hx
  .rename_i i hi;split at hx
   .rename_i es cl fS;obtain⟨k1,k2⟩:=hs.mapAt fS;simp only[k1];split at hx
    .rename_i hc;simp only[z6 hc];obtain rfl:=osj hx;exact .upd hs k2 rfl rfl
    .cases hx
   .cases hx
  .cases hx
 case delete mk m k =>
  simp only[W9] at hx;simp only[J5];generalize ev m=q0 at hx |-;split at hx
  .rename_i i hi;split at hx
   .rename_i es cl fS;obtain⟨k1,k2⟩:=hs.mapAt fS;simp only[k1];split at hx
    .rename_i hc;simp only[z6 hc];obtain rfl:=osj hx;exact .upd hs k2 rfl rfl
    .cases hx
   .cases hx
  .cases hx
 case mapEntry=>cases hx
 case entryStore=>cases hx
 case lenMap x =>
  simp only[W9] at hx;simp only[J5];generalize ev x=q0 at hx |-;split at hx
  .obtain rfl:=osj hx;exact .same hs rfl
  .split at hx
   .rename_i es cl wr fS;obtain⟨k1,k2⟩:=hs.mapAt fS;simp only[k1];obtain rfl:=osj hx;exact .same hs rfl
   .cases hx
  .cases hx
 case rangeMap x =>
  simp only[W9] at hx;simp only[J5];generalize ev x=q0 at hx |-;split at hx
  .split at hx
   .rename_i es cl wr fS;obtain⟨k1,k2⟩:=hs.mapAt fS;simp only[k1];rw[hs.n] at hx;exact .push hs hx rfl rfl
   .cases hx
  .cases hx
 case nextMap=>cases hx
 case rangeStr x =>
  simp only[W9] at hx;simp only[J5];generalize ev x=q0 at hx |-;split at hx
  .rw[hs.n] at hx;exact .push hs hx rfl rfl
  .cases hx
 case nextStr x =>
  simp only[W9] at hx;simp only[J5];generalize ev x=q0 at hx |-;split at hx
  .rename_i i;split at hx
   .rename_i s pos hg;have de:U.get i=some (.obj (.siter s pos) true):=by rw[hs.get,hg];rfl
    simp only[de];split at hx
    .rename_i b hb;split at hx
     .rename_i aj;simp only[hb,z6 aj];obtain rfl:=osj hx;exact .upd hs hg rfl rfl
     .cases hx
    .rename_i hb;simp only[hb];obtain rfl:=osj hx;exact .same hs rfl
   .cases hx
  .cases hx
 case entry x =>
  simp only[W9] at hx;simp only[J5];generalize ev x=q0 at hx |-;split at hx
  .split at hx
   .rename_i m since seen last hg;simp only[hs.iter hg];split at hx
    .rename_i es clock wr b fS dA;obtain⟨k1,_⟩:=hs.mapAt fS;simp only[k1,dA];split at hx
     .rename_i hc;rw[z6 hc];split at hx
      .rename_i e hf;split at hx
       .rename_i hp;rw[hf];simp only[hp,zt];obtain rfl:=osj hx;exact .same hs rfl
       .cases hx
      .cases hx
     .cases hx
    .cases hx
   .cases hx
  .cases hx
 case copy size d s =>
  simp only[W9] at hx;simp only[J5];generalize ev d=q0 at hx |-;generalize ev s=q1 at hx |-;split at hx
  .rename_i db dn dc sb sn sc h1 h2;split at hx
   .rename_i hm;simp only[z6 hm];obtain rfl:=osj hx;exact .same hs rfl
   .rename_i hm;simp only[z7 hm];split at hx
    .rename_i i o xs bH;simp only[hs.sl bH];split at hx
     .rename_i c e wr tight hg;simp only[hs.cells hg];split at hx
      .rename_i hc;simp only[z6 hc];obtain rfl:=osj hx;exact .upd hs hg rfl rfl
      .cases hx
     .cases hx
    .cases hx
  .cases hx
 case clear z x =>
  simp only[W9] at hx;simp only[J5];generalize ev x=q0 at hx |-;split at hx
  .rename_i b n cap;split at hx
   .rename_i hm;simp only[z6 hm];obtain rfl:=osj hx;exact .same hs rfl
   .rename_i hm;simp only[z7 hm];split at hx
    .rename_i i o;split at hx
     .rename_i c e wr tight hg;simp only[hs.cells hg];split at hx
      .rename_i hc;simp only[z6 hc];obtain rfl:=osj hx;exact .upd hs hg rfl rfl
      .cases hx
     .cases hx
    .cases hx
  .cases hx
 case toUnsafe x =>
  simp only[W9] at hx;simp only[J5];generalize ev x=q0 at hx |-;split at hx
  .obtain rfl:=osj hx;exact .same hs rfl
  .split at hx
   .rename_i c e wr tight hg;simp only[hs.cells hg];split at hx
    .rename_i hc;simp only[z6 hc];obtain rfl:=osj hx;exact .same hs rfl
    .cases hx
   .cases hx
  .cases hx
 case fromUnsafe u size x =>
  simp only[W9] at hx;simp only[J5];generalize ev x=q0 at hx |-;split at hx
  .obtain rfl:=osj hx;exact .same hs rfl
  .split at hx
   .rename_i c e hg;simp only[hs.cells hg];split at hx
    .rename_i hc;simp only[z6 hc];obtain rfl:=osj hx;exact .same hs rfl
    .cases hx
   .cases hx
  .cases hx
 case sliceData x =>
  simp only[W9] at hx;simp only[J5];generalize ev x=q0 at hx |-;split at hx
  .obtain rfl:=osj hx;exact .same hs rfl
  .rename_i i o n cap;split at hx
   .rename_i hc;simp only[z6 (show cap≠0/\(U.get i).isSome=true from ⟨hc.1,by rw[hs.get];simpa using hc.2⟩)];obtain rfl:=osj hx;exact .same hs rfl
   .cases hx
  .cases hx
 case unsafeStr e x n =>
  simp only[W9] at hx;simp only[J5];generalize ev x=q0 at hx |-;generalize ev n=q1 at hx |-;split at hx
  .rename_i q k h1 h2;split at hx
   .rename_i hk;simp only[z6 hk];obtain rfl:=osj hx;exact .same hs rfl
   .rename_i hk;simp only[z7 hk];split at hx
    .rename_i i o;split at hx
     .rename_i c el tight hg;simp only[hs.cells hg];split at hx
      .rename_i hc;simp only[z6 hc];split at hx
       .rename_i u hu;simp only[hu];obtain rfl:=osj hx;exact .upd hs hg rfl rfl
       .cases hx
      .cases hx
     .cases hx
    .cases hx
  .cases hx
 case bytesStr x =>
  simp only[W9] at hx;simp only[J5];generalize ev x=q0 at hx |-;split at hx
  .split at hx
   .rename_i xs bH;simp only[hs.sl bH];split at hx
    .rename_i u hu;simp only[hu];obtain rfl:=osj hx;exact .same hs rfl
    .cases hx
   .cases hx
  .cases hx
 case strBytes e x =>
  simp only[W9] at hx;simp only[J5];generalize ev x=q0 at hx |-;split at hx
  .split at hx
   .rename_i h1;simp only[z6 h1];rw[hs.n] at hx;exact .push hs hx rfl rfl
   .cases hx
  .cases hx
theorem Q7a {rs:Nat->Env×Loop}{h:CH}{U:Heap}(hs:CSim rs h U) {o:VOp}{ev:Operand->Value}{p:Value×CH}
  (hx:(if o.kind=0 then (match Q8 o ev Heap.empty with|some p=>some (p.1,h)|none=>none) else none)=some p):ESnd rs h U (Q8 o ev U) p:=by
 split at hx
 .rename_i hk;split at hx
  .rename_i q hq;obtain rfl:=osj hx;exact .same hs (SH hk (v:=q.1) (σ1:=q.2) hq)
  .cases hx
 .cases hx
theorem K0 {rs:Nat->Env×Loop}{h:CH}{U:Heap}(hs:CSim rs h U) {o:VOp}{ev:Operand->Value}{p:Value×CH}(hx:Q90 o ev h=some p):ESnd rs h U (Q8 o ev U) p:=by
 cases o
 case alloc t z =>
  simp only[Q90] at hx;simp only[Q8];rw[hs.n] at hx;exact .push hs hx rfl rfl
 case box t x =>
  simp only[Q90] at hx;simp only[Q8];generalize Vv (ev x)=q0 at hx |-;split at hx
  .rw[hs.n] at hx;exact .push hs hx rfl rfl
  .cases hx
 case buildSlice esz z len parts =>
  simp only[Q90] at hx;simp only[Q8];generalize Gf (TW len z) (parts.map λp=>(p.1*esz.sz,esz.sz,ev p.2))=q0 at hx |-;split at hx
  .rw[hs.n] at hx;exact .push hs hx rfl rfl
  .cases hx
 case load agg size a =>
  simp only[Q90] at hx;simp only[Q8];generalize ev a=q0 at hx |-;split at hx
  .split at hx
   .rename_i c hg;split at hx
    .rename_i hall;simp only[hg,z6 hall];split at hx
     .rename_i u hu;simp only[hu];obtain rfl:=osj hx;exact .same hs rfl
     .cases hx
    .cases hx
   .cases hx
  .split at hx
   .rename_i c e wr tight hg;simp only[hs.cells hg];split at hx
    .rename_i u hu;simp only[hu];obtain rfl:=osj hx;exact .same hs rfl
    .cases hx
   .cases hx
  .cases hx
 case store size a v =>
  simp only[Q90] at hx;simp only[Q8];generalize Vv (ev v)=q0 at hx |-;generalize ev a=q1 at hx |-;split at hx
  .rename_i i o vs h1 h2;split at hx
   .rename_i c e wr tight hg;simp only[hs.cells hg];split at hx
    .rename_i hc;simp only[z6 hc];obtain rfl:=osj hx;exact .upd hs hg rfl rfl
    .cases hx
   .cases hx
  .cases hx
 case slice size x lo hi mx =>
  simp only[Q90] at hx;simp only[Q8];generalize ev x=q0 at hx |-;split at hx
  .rename_i a n cap;dsimp only;generalize Jz ev lo 0=q1 at hx |-;generalize Jz ev hi n=q2 at hx |-;split at hx
   .exact R9 hs hx
   .rename_i l k m;dsimp only;generalize Jz ev (some m) 0=q3 at hx |-;split at hx
    .exact R9 hs hx
    .cases hx
   .cases hx
  .cases hx
 case makeSlice esz bytes z l c =>
  simp only[Q90] at hx;simp only[Q8];generalize ev l=q0 at hx |-;generalize ev c=q1 at hx |-;split at hx
  .split at hx
   .rename_i hc;simp only[z6 hc];rw[hs.n] at hx;exact .push hs hx rfl rfl
   .cases hx
  .cases hx
 case append esz bytes s x =>
  simp only[Q90] at hx;simp only[Q8];generalize ev x=q0 at hx |-;split at hx
  .rename_i bH;simp only[hs.sl bH];split at hx
   .rename_i hc;simp only[z6 hc];exact I8 hs hx
   .cases hx
  .cases hx
 case ext o=>exact LM hs hx
 all_goals exact Q7a hs hx
def Q48 (k:IntKind) (n:Int):Int:=match n with
 |.ofNat x=>match Nat.ble x 127 with
  |true=>.ofNat x
  |false=>k.wrap (.ofNat x)
 |.negSucc x=>k.wrap (.negSucc x)
theorem Q2j (k:IntKind) (n:Int):Q48 k n=k.wrap n:=by
 cases n with
 |negSucc x=>rfl
 |ofNat x =>
  simp only[Q48];split
  .rename_i h;have hx:x<=127:=zx h;show (x:Int)=k.wrap (x:Int);cases k<;>simp[IntKind.wrap,IntKind.bits,IntKind.signed]<;>omega
  .rfl
def Z8t (c a b:Value):Option Value:=match c with|.bool t=>some (if t then a else b)|_=>none
def Z1y (op:BinOp) (x y:Value):Option Value:=match x,y with|.int k a,.int k' b=>if k=k' then some (.int k (match op with|.add=>Q48 k (a+b)|.sub=>Q48 k (a-b)|_=>Q48 k (a*b))) else none|_,_=>none
def J3w (op:BinOp) (x y:Value):Option Value:=match x,y with|.int k a,.int k' b=>if k=k'/\b≠0 then some (.int k (Z5d op k a b)) else none|_,_=>none
def Z8e (op:BinOp) (x y:Value):Option Value:=match x,y with|.int k a,.int k' b=>if k=k' then some (.int k (Qb op k a b)) else none|_,_=>none
def Z2o (op:BinOp) (x y:Value):Option Value:=match x,y with|.int k a,.int _ b=>if 0<=b then some (.int k (Eu op k a b)) else none|_,_=>none
def J45 (op:BinOp) (x y:Value):Option Value:=match x,y with|.int k a,.int k' b=>if k=k' then some (.bool (Z9l op a b)) else none|_,_=>none
def J3u (op:BinOp) (x y:Value):Option Value:=match x,y with
  |.string a,.string b=>match op with
   |.add=>if a.size+b.size<=2 ^ 62 then some (.string (a++b)) else none
   |.eql=>some (.bool (a.data.toList==b.data.toList))
   |.neq=>some (.bool (!(a.data.toList==b.data.toList)))
   |.lss=>some (.bool (Op.bytesLess a.data.toList b.data.toList))
   |_=>none
  |_,_=>none
def J44 (neg:Bool) (x y:Value):Option Value:=match x,y with|.bool a,.bool b=>some (.bool (if neg then !(a==b) else (a==b)))|_,_=>none
def pUn (op:UnOp) (x:Value):Option Value:=match op,x with
  |.not,.bool b=>some (.bool (!b))
  |.neg,.int k n=>some (.int k (k.wrap (0-n)))
  |.xor,.int k n=>some (.int k (Qb .xor k (if k.signed then -1 else k.max) n))
  |_,_=>none
def Z2j (k:IntKind) (x:Value):Option Value:=match x with|.int _ n=>some (.int k (Q48 k n))|_=>none
def Z33 (x:Value):Option Value:=match x with|.string s=>some (.string s)|_=>none
def Z2e (z:List Value) (l:List (Nat×Nat×Value)):Option Value:=match Gf z l with|some cs=>some (.agg cs.toArray)|none=>none
def ED (off:Nat) (a:Value):Option Value:=match a with
  |.pointer (some ⟨i,o,none⟩)=>some (.pointer (some ⟨i,o+off,none⟩))
  |_=>none
def Z2y (agg:Bool) (off size:Nat) (x:Value):Option Value:=match x with
  |.agg cs=>YC agg size cs.toList off
  |_=>none
def Et (size:Nat) (x i:Value):Option Value:=match x,i with
  |.slice (some ⟨b,o,none⟩) n _,.int _ k=>if 0<=k/\k<n then some (.pointer (some ⟨b,o+k.toNat*size,none⟩)) else none
  |_,_=>none
def PV (len size:Nat) (x i:Value):Option Value:=match x,i with
  |.pointer (some ⟨g,o,some s⟩),.int _ k=>if 0<=k/\k<len then some (.pointer (some ⟨g,o+k.toNat*size,some s⟩)) else none
  |.pointer (some ⟨b,o,none⟩),.int _ k=>if 0<=k/\k<len then some (.pointer (some ⟨b,o+k.toNat*size,none⟩)) else none
  |_,_=>none
def OV (x i:Value):Option Value:=match x,i with
  |.string s,.int _ k=>if 0<=k then (match s.data.toList[k.toNat]? with|some b=>some (.int .u8 b.toNat)|none=>none) else none
  |_,_=>none
def O1 (len:Nat) (agg:Bool) (size:Nat) (x i:Value):Option Value:=match x,i with
  |.agg cs,.int _ k=>if 0<=k/\k<len then YC agg size cs.toList (k.toNat*size) else none
  |_,_=>none
def Q03 (ev:Operand->Value) (x:Value) (lo hi:Option Operand):Option Value:=match x with
  |.string s =>
   match Jz ev lo 0,Jz ev hi s.size with
   |some l,some h=>if l<=h/\h<=s.size then some (.string (s.extract l h)) else none
   |_,_=>none
  |_=>none
def J3r (x:Value):Option Value:=match x with|.slice _ n _=>some (.int .i64 n)|_=>none
def Q7m (x:Value):Option Value:=match x with|.string s=>some (.int .i64 s.size)|_=>none
def Z8b (x y z w:Value):Option Value:=match x,y,z,w with|.int k a,.int k2 b,.int k3 c,.int k4 d=>if k=k2/\k=k3/\k=k4 then some (.int k (Q5n (Q5n (Q5n a b) c) d)) else none|_,_,_,_=>none
def J42 (x y:Value):Option Value:=match x,y with|.int k a,.int k' b=>if k=k' then some (.int k (if b > a then b else a)) else none|_,_=>none
def J3l (x y:Value):Option Value:=match x,y with|.int k a,.int k' b=>if k=k' then some (.int k (if b<a then b else a)) else none|_,_=>none
def Z3a (t:TypeId) (x:Value):Option Value:=match x with|.chan _=>none|v=>some (.iface t v)
def Q2o (i:Nat) (x:Value):Option Value:=match x with
  |.tuple vs=>vs.toList[i]?
  |_=>none
def OO (x:Value):Option Value:=match x with
  |.pointer (some a)=>some (.pointer (some a))
  |.func (.func f) first cap=>some (.func (.func f) first cap)
  |_=>none
def ppp (r:Option Value) (U:CH):Option (Value×CH):=match r with|some v=>some (v,U)|none=>none
def J50 (t:Nat) (x:Value) (U:CH):Option (Value×CH):=match Vv x with
  |some vs=>NP U (.cells vs ⟨vs.length,t⟩ true true) (.pointer (some ⟨U.n,0,none⟩))
  |none=>none
def Q0c (esz:El) (z:List Value) (len:Nat) (l:List (Nat×Nat×Value)) (U:CH):Option (Value×CH):=match Gf (TW len z) l with
  |some cs=>NP U (.cells cs esz true true) (.slice (some ⟨U.n,0,none⟩) len len)
  |none=>none
def Z5y (agg:Bool) (size:Nat) (a:Value) (U:CH):Option (Value×CH):=match a with
  |.pointer (some ⟨g,o,some _⟩)=>(match Q9k g with
   |some c=>if c.all Zl then (match YC agg size c o with|some v=>some (v,U)|none=>none) else none
   |none=>none)
  |.pointer (some ⟨i,o,none⟩)=>match U.get i with
   |some (.cells c _ _ _)=>match YC agg size c o with|some v=>some (v,U)|none=>none
   |_=>none
  |_=>none
def stL (c:List Value) (o:Nat) (vs:List Value):List Value:=match vs with
 |[v]=>c.set o v
 |vs=>c.take o++(vs++c.drop (o+vs.length))
theorem Q2c:∀ (vs a b c:List Value),vs.length=b.length->Wz (a++(b++c)) a.length vs=a++(vs++c)
 |[],a,b,c,h=>by have:b=[]:=List.eq_nil_of_length_eq_zero (by simpa using h.symm);subst this;rfl
 |v::vs,a,[],c,h=>by simp at h
 |v::vs,a,x::b,c,h=>by
  simp only[Wz];have e:(a++(x::b++c)).set a.length v=(a++[v])++(b++c):=by simp
  rw[e];have:=Q2c vs (a++[v]) b c (by simpa using h);rw[zG,xL] at this;rw[this];simp
theorem Z8z {c:List Value}{o:Nat}{vs:List Value}(h:o+vs.length<=c.length):stL c o vs=Wz c o vs:=by
 unfold stL;split
 .rfl
 .have h1:c=c.take o++((c.drop o).take vs.length++c.drop (o+vs.length)):=by
   rw[<-List.drop_drop,xA,xA]
  have h2:(c.take o).length=o:=by simp;omega
  have:=Q2c vs (c.take o) ((c.drop o).take vs.length) (c.drop (o+vs.length)) (by simp;omega);rw[h2,<-h1] at this;exact this.symm
def Z1w (size:Nat) (a v:Value) (U:CH):Option (Value×CH):=match a,Vv v with
  |.pointer (some ⟨i,o,none⟩),some vs=>match U.get i with
   |some (.cells c e wr tight)=>if wr=true/\vs.length=size/\o+size<=c.length/\vs.all cellOk=true then some (undef,U.upd i (.cells (stL c o vs) e wr tight)) else none
   |_=>none
  |_,_=>none
def Q4u (esz:El) (bytes:Nat) (z:List Value) (l c:Value) (U:CH):Option (Value×CH) :=
  match l,c with
  |.int _ a,.int _ b=>if 0<=a/\a<=b/\b*bytes<=2 ^ 46/\b<=2 ^ 46 then NP U (.cells (TW b.toNat z) esz true true) (.slice (some ⟨U.n,0,none⟩) a.toNat b.toNat) else none
  |_,_=>none
def J4x (esz:El) (bytes:Nat) (s x:Value) (U:CH):Option (Value×CH) :=
  match U.sl esz.sz x,x with
  |some xs,.slice _ m _=>if xs.all cellOk then FU esz bytes U s m xs else none
  |_,_=>none
def Q1h (o:VOp) (ev:Operand->Value) (U:CH):Option (Value×CH) :=
 match o with
 |.move x=>some (ev x,U)
 |.pick c a b=>ppp (Z8t (ev c) (ev a) (ev b)) U
 |.arith op x y=>ppp (Z1y op (ev x) (ev y)) U
 |.div op x y=>ppp (J3w op (ev x) (ev y)) U
 |.bits op x y=>ppp (Z8e op (ev x) (ev y)) U
 |.shift op x y=>ppp (Z2o op (ev x) (ev y)) U
 |.cmp op x y=>ppp (J45 op (ev x) (ev y)) U
 |.str op x y=>ppp (J3u op (ev x) (ev y)) U
 |.eqB n x y=>ppp (J44 n (ev x) (ev y)) U
 |.un op x=>ppp (pUn op (ev x)) U
 |.convI k x=>ppp (Z2j k (ev x)) U
 |.convS x=>ppp (Z33 (ev x)) U
 |.build z parts=>ppp (Z2e z (parts.map λp=>(p.1,p.2.1,ev p.2.2))) U
 |.fieldAddr off a=>ppp (ED off (ev a)) U
 |.field agg off size x=>ppp (Z2y agg off size (ev x)) U
 |.indexAddr size x i=>ppp (Et size (ev x) (ev i)) U
 |.indexAddrArr len size x i=>ppp (PV len size (ev x) (ev i)) U
 |.indexStr x i=>ppp (OV (ev x) (ev i)) U
 |.indexArr len agg size x i=>ppp (O1 len agg size (ev x) (ev i)) U
 |.sliceStr x lo hi=>ppp (Q03 ev (ev x) lo hi) U
 |.len x=>ppp (J3r (ev x)) U
 |.lenStr x=>ppp (Q7m (ev x)) U
 |.max x y=>ppp (J42 (ev x) (ev y)) U
 |.max4 x y z w=>ppp (Z8b (ev x) (ev y) (ev z) (ev w)) U
 |.min x y=>ppp (J3l (ev x) (ev y)) U
 |.makeFunc fn first cap=>some (.func fn (first.map ev).toArray (cap.map ev).toArray,U)
 |.iface t x=>ppp (Z3a t (ev x)) U
 |.extract x i=>ppp (Q2o i (ev x)) U
 |.nilCheck x=>ppp (OO (ev x)) U
 |.alloc t z=>NP U (.cells z ⟨z.length,t⟩ true true) (.pointer (some ⟨U.n,0,none⟩))
 |.box t x=>J50 t (ev x) U
 |.buildSlice esz z len parts=>Q0c esz z len (parts.map λp=>(p.1*esz.sz,esz.sz,ev p.2)) U
 |.load agg size a=>Z5y agg size (ev a) U
 |.store size a v=>Z1w size (ev a) (ev v) U
 |.slice size x lo hi mx=>Q90 (.slice size x lo hi mx) ev U
 |.makeSlice esz bytes z l c=>Q4u esz bytes z (ev l) (ev c) U
 |.append esz bytes s x=>J4x esz bytes (ev s) (ev x) U
 |.ext o=>W9 o ev U
 |_=>none
theorem Q6f {rs:Nat->Env×Loop}{h:CH}{U:Heap}(hs:CSim rs h U) {r:Option Value}{r':Option (Value×Heap)}{p:Value×CH}(hr:∀ v,r=some v->r'=some (v,U)) (hx:ppp r h=some p):ESnd rs h U r' p:=by
 unfold ppp at hx;split at hx
 .rename_i v;obtain rfl:=osj hx;exact .same hs (hr v rfl)
 .cases hx
theorem Vw {rs:Nat->Env×Loop}{h:CH}{U:Heap}(hs:CSim rs h U) {o:VOp}{ev:Operand->Value}{p:Value×CH}(hx:Q1h o ev h=some p):ESnd rs h U (Q8 o ev U) p:=by
 cases o
 case move x=>exact .same hs (by obtain rfl:=osj hx;rfl) |> λ(h:ESnd rs _ U (Q8 (.move x) ev U) (ev x,_))=>by obtain rfl:=osj hx;exact h
 case makeFunc fn a b=>obtain rfl:=osj hx;exact .same hs rfl
 case alloc t z=>exact K0 (o:=.alloc t z) hs hx
 case box t x=>exact K0 (o:=.box t x) hs hx
 case buildSlice a b c d=>exact K0 (o:=.buildSlice a b c d) hs hx
 case load a b c=>exact K0 (o:=.load a b c) hs hx
 case store size a v =>
  simp only[Q1h] at hx;simp only[Q8];unfold Z1w at hx;generalize Vv (ev v)=q0 at hx |-;generalize ev a=q1 at hx |-;split at hx
  .rename_i i o vs;split at hx
   .rename_i c e wr tight hg;simp only[hs.cells hg];split at hx
    .rename_i hc;simp only[z6 hc];rw[Z8z (by omega)] at hx;obtain rfl:=osj hx;exact .upd hs hg rfl rfl
    .cases hx
   .cases hx
  .cases hx
 case slice a b c d e=>exact K0 (o:=.slice a b c d e) hs hx
 case makeSlice a b c d e=>exact K0 (o:=.makeSlice a b c d e) hs hx
 case append a b c d=>exact K0 (o:=.append a b c d) hs hx
 case ext o=>exact LM hs hx
 case callF=>cases hx
 case callV=>cases hx
 case bad=>cases hx
 all_goals refine Q6f hs (λv hv=>?_) hx
 case arith op x y =>
  simp only[Q8];generalize ev x=a at hv |-;generalize ev y=b at hv |-;unfold Z1y at hv;split at hv
  .split at hv
   .rename_i hk;simp only[z6 hk];obtain rfl:=osj hv;cases op<;>simp only[Eg,Q2j]
   .cases hv
  .cases hv
 case convI k x =>
  simp only[Q8];generalize ev x=a at hv |-;unfold Z2j at hv;split at hv
  .obtain rfl:=osj hv;simp only[Q2j]
  .cases hv
 case pick c a b =>
  simp only[Q8];generalize ev c=q0 at hv |-;generalize ev a=q1 at hv |-;generalize ev b=q2 at hv |-;unfold Z8t at hv
  (repeat' split at hv)<;>first|(cases hv;done)|(obtain rfl:=osj hv;first|rfl|(simp_all;done)|(simp_all;intros;omega))
 case div op x y =>
  simp only[Q8];generalize ev x=q0 at hv |-;generalize ev y=q1 at hv |-;unfold J3w at hv
  (repeat' split at hv)<;>first|(cases hv;done)|(obtain rfl:=osj hv;first|rfl|(simp_all;done)|(simp_all;intros;omega))
 case bits op x y =>
  simp only[Q8];generalize ev x=q0 at hv |-;generalize ev y=q1 at hv |-;unfold Z8e at hv
  (repeat' split at hv)<;>first|(cases hv;done)|(obtain rfl:=osj hv;first|rfl|(simp_all;done)|(simp_all;intros;omega))
 case shift op x y =>
  simp only[Q8];generalize ev x=q0 at hv |-;generalize ev y=q1 at hv |-;unfold Z2o at hv
  (repeat' split at hv)<;>first|(cases hv;done)|(obtain rfl:=osj hv;first|rfl|(simp_all;done)|(simp_all;intros;omega))
 case cmp op x y =>
  simp only[Q8];generalize ev x=q0 at hv |-;generalize ev y=q1 at hv |-;unfold J45 at hv
  (repeat' split at hv)<;>first|(cases hv;done)|(obtain rfl:=osj hv;first|rfl|(simp_all;done)|(simp_all;intros;omega))
 case eqB n x y =>
  simp only[Q8];generalize ev x=q0 at hv |-;generalize ev y=q1 at hv |-;unfold J44 at hv
  (repeat' split at hv)<;>first|(cases hv;done)|(obtain rfl:=osj hv;first|rfl|(simp_all;done)|(simp_all;intros;omega))
 case un op x =>
  simp only[Q8];generalize ev x=q0 at hv |-;unfold pUn at hv
  (repeat' split at hv)<;>first|(cases hv;done)|(obtain rfl:=osj hv;first|rfl|(simp_all;done)|(simp_all;intros;omega))
 case convS x =>
  simp only[Q8];generalize ev x=q0 at hv |-;unfold Z33 at hv
  (repeat' split at hv)<;>first|(cases hv;done)|(obtain rfl:=osj hv;first|rfl|(simp_all;done)|(simp_all;intros;omega))
 case fieldAddr off a =>
  simp only[Q8];generalize ev a=q0 at hv |-;unfold ED at hv
  (repeat' split at hv)<;>first|(cases hv;done)|(obtain rfl:=osj hv;first|rfl|(simp_all;done)|(simp_all;intros;omega))
 case indexAddr size x i =>
  simp only[Q8];generalize ev x=q0 at hv |-;generalize ev i=q1 at hv |-;unfold Et at hv
  (repeat' split at hv)<;>first|(cases hv;done)|(obtain rfl:=osj hv;first|rfl|(simp_all;done)|(simp_all;intros;omega))
 case indexAddrArr len size x i =>
  simp only[Q8];generalize ev x=q0 at hv |-;generalize ev i=q1 at hv |-;unfold PV at hv
  (repeat' split at hv)<;>first|(cases hv;done)|(obtain rfl:=osj hv;first|rfl|(simp_all;done)|(simp_all;intros;omega))
 case len x =>
  simp only[Q8];generalize ev x=q0 at hv |-;unfold J3r at hv
  (repeat' split at hv)<;>first|(cases hv;done)|(obtain rfl:=osj hv;first|rfl|(simp_all;done)|(simp_all;intros;omega))
 case lenStr x =>
  simp only[Q8];generalize ev x=q0 at hv |-;unfold Q7m at hv
  (repeat' split at hv)<;>first|(cases hv;done)|(obtain rfl:=osj hv;first|rfl|(simp_all;done)|(simp_all;intros;omega))
 case max4 x y z w =>
  simp only[Q8];generalize ev x=q0 at hv |-;generalize ev y=q1 at hv |-;generalize ev z=q2 at hv |-;generalize ev w=q3 at hv |-;unfold Z8b at hv
  (repeat' split at hv)<;>first|(cases hv;done)|(rename_i qc;obtain⟨rfl,rfl,rfl⟩:=qc;obtain rfl:=osj hv;simp_all;done)
 case max x y =>
  simp only[Q8];generalize ev x=q0 at hv |-;generalize ev y=q1 at hv |-;unfold J42 at hv
  (repeat' split at hv)<;>first|(cases hv;done)|(obtain rfl:=osj hv;first|rfl|(simp_all;done)|(simp_all;intros;omega))
 case min x y =>
  simp only[Q8];generalize ev x=q0 at hv |-;generalize ev y=q1 at hv |-;unfold J3l at hv
  (repeat' split at hv)<;>first|(cases hv;done)|(obtain rfl:=osj hv;first|rfl|(simp_all;done)|(simp_all;intros;omega))
 case nilCheck x =>
  simp only[Q8];generalize ev x=q0 at hv |-;unfold OO at hv
  (repeat' split at hv)<;>first|(cases hv;done)|(obtain rfl:=osj hv;first|rfl|(simp_all;done)|(simp_all;intros;omega))
 case str op x y =>
  simp only[Q8];generalize ev x=q0 at hv |-;generalize ev y=q1 at hv |-;unfold J3u at hv
  (repeat' split at hv)<;>first|(cases hv;done)|(obtain rfl:=osj hv;first|rfl|(simp_all;done)|(simp_all;intros;omega))
 case build z parts =>
  simp only[Q8];unfold Z2e at hv;split at hv
  .rename_i cs hc;rw[hc];obtain rfl:=osj hv;rfl
  .cases hv
 case field agg off size x =>
  simp only[Q8];generalize ev x=q0 at hv |-;unfold Z2y at hv;split at hv
  .dsimp only;rw[hv]
  .cases hv
 case indexStr x i =>
  simp only[Q8];generalize ev x=q0 at hv |-;generalize ev i=q1 at hv |-;unfold OV at hv;split at hv
  .split at hv
   .rename_i hc;simp only[z6 hc];split at hv
    .rename_i b hb;simp only[hb];obtain rfl:=osj hv;rfl
    .cases hv
   .cases hv
  .cases hv
 case indexArr len agg size x i =>
  simp only[Q8];generalize ev x=q0 at hv |-;generalize ev i=q1 at hv |-;unfold O1 at hv;split at hv
  .split at hv
   .rename_i hc;simp only[z6 hc,hv]
   .cases hv
  .cases hv
 case sliceStr x lo hi =>
  simp only[Q8];generalize ev x=q0 at hv |-;unfold Q03 at hv;split at hv
  .rename_i s;split at hv
   .rename_i l h h1 h2;split at hv
    .rename_i hc;simp only[h1,h2,z6 hc];obtain rfl:=osj hv;rfl
    .cases hv
   .cases hv
  .cases hv
 case iface t x =>
  simp only[Q8];generalize ev x=q0 at hv |-;unfold Z3a at hv;split at hv
  .cases hv
  .rename_i aG;obtain rfl:=osj hv;split
   .exact absurd rfl (aG _)
   .rfl
 case extract x i =>
  simp only[Q8];generalize ev x=q0 at hv |-;unfold Q2o at hv;split at hv
  .dsimp only;rw[hv]
  .cases hv
inductive Sh (a m d:Nat):Value->Value->Prop
 |plain (v:Value) (h:Zl v=true):Sh a m d v v
 |ptr (i o:Nat) (h:a<=i) (hi:i<m):Sh a m d (.pointer (some ⟨i,o,none⟩)) (.pointer (some ⟨d+(i-a),o,none⟩))
 |sl (i o len cap:Nat) (h:a<=i) (hi:i<m):Sh a m d (.slice (some ⟨i,o,none⟩) len cap) (.slice (some ⟨d+(i-a),o,none⟩) len cap)
 |agg (cs ds:Array Value) (hc:cs.size=ds.size) (h:∀ i (h1:i<cs.size) (h2:i<ds.size),Sh a m d cs[i] ds[i]):Sh a m d (.agg cs) (.agg ds)
 |tuple (cs ds:Array Value) (hc:cs.size=ds.size) (h:∀ i (h1:i<cs.size) (h2:i<ds.size),Sh a m d cs[i] ds[i]):Sh a m d (.tuple cs) (.tuple ds)
theorem Sh.rel {ρ ρ':Plc}{a m d n':Nat}(hn:d+(m-a)<=n') (hρ:∀ i,a<=i->i<m->ρ' (d+(i-a))=ρ i) {v v':Value}(h:Sh a m d v v') :
  ∀ {c:Value},VRel ρ m v c->VRel ρ' n' v' c:=by
 induction h with
 |plain v h =>intro c hv;have:c=v:=V7 h hv;subst this;exact Yu h
 |ptr i o h hi =>intro c hv;obtain⟨a',rfl,_,bE⟩:=hv.q1h;exact .ptr _ _ _ (by omega) (by simp_all)
 |sl i o len cap h hi =>intro c hv;obtain⟨a',aq,rfl,_,bE⟩:=hv.q1c;exact .sl _ _ _ _ _ _ (by omega) (by simp_all)
 |agg cs ds hc h ih =>
  intro c hv;cases hv with
  |agg _ ds' dg h'=>exact .agg _ _ (hc.symm.trans dg) (by simp_all)
 |tuple cs ds hc h ih =>
  intro c hv;cases hv with
  |tuple _ ds' dg h'=>exact .tuple _ _ (hc.symm.trans dg) (by simp_all)
theorem BRel.any {ρ ρ':Plc}{n n':Nat}{p:Pl}{w:World}{c:List Value}{esz:El}{wr tight:Bool}(hp:c.all Zl=true) (h:BRel ρ n p w (.cells c esz wr tight)) :
  BRel ρ' n' p w (.cells c esz wr tight):=by
 obtain⟨h1,h2,h3,h4,h5,h6⟩:=h;refine⟨h1,h2,h3,h4,λk v hk=>?_,h6⟩
 grind [List.all_eq_true,List.mem_of_getElem?,V7,Yu]
theorem BRel.renRo {ρ:Plc}{nf n':Nat}{π:Nat->Nat}{p:Pl}{w:World}{c c':List Value}{esz:El}{wr tight:Bool}(hr:LRen n' π c c') (h:BRel ρ nf p w (.cells c' esz wr tight)) :
  BRel (λi=>if i<n' then ρ (π i) else none) n' p w (.cells c esz false tight):=by
 obtain⟨h1,h2,h3,h4,h5,h6⟩:=h;refine⟨h1,h2,by rw[hr.1];exact h3,h4,λk v hk=>?_,λh=>by cases h⟩;have aj:k<c'.length:=by rw[<-hr.1];grind
 obtain⟨u,hu,hv⟩:=h5 k _ (z8 aj);exact⟨u,hu,(hr.2 k v _ hk (z8 aj)).rel hv⟩
structure PB where
 c:List Value
 esz:El
 tight:Bool
def PB.blk (wr:Bool) (b:PB):Blk:=.cells b.c b.esz wr b.tight
def KE (bl fr:List PB):Heap where
 get i:=if i<bl.length then (bl[i]?).map (PB.blk false) else (fr[i-bl.length]?).map (PB.blk true)
 n:=bl.length+fr.length
 wf i h:=by grind
def YS (U:Heap) (fr:List PB):Heap where
 get i:=if i<U.n then U.get i else (fr[i-U.n]?).map (PB.blk true)
 n:=U.n+fr.length
 wf i h:=by grind
theorem VCalled.localize {P:Program}{f:FuncId}{iK args:List Value}{bl fr:List PB}{vm v:Value}{U:Heap}{π:Nat->Nat}{K:Value->Heap->Prop}
  (hm:VCalled P f iK (KE bl []) λu Z=>u=vm/\Z=KE bl fr)
  (cJ:∀ b∈fr,b.c.all Zl=true)
  (hπ:∀ i b,bl[i]?=some b->∃ wr c',U.get (π i)=some (.cells c' b.esz wr b.tight)/\LRen bl.length π b.c c')
  (ax:LRen bl.length π iK args) (hv:Sh bl.length (bl.length+fr.length) U.n vm v) (hK:K v (YS U fr)):VCalled P f args U K:=by
 intro ρ w au hH hL;have bQ:∀ B,¬ Wr (λi=>if i<bl.length then ρ (π i) else none) (KE bl []) B:=by
  rintro B ⟨i,p,b,_,hb,hw,_⟩;have hi:i<bl.length:=by simp_all
  simp only[KE,z6 hi] at hb;cases eQ:bl[i]? with
  |none=>rw[eQ] at hb;cases hb
  |some b0=>rw[eQ] at hb;obtain rfl:=osj hb;cases hw
 have uh:HRel (λi=>if i<bl.length then ρ (π i) else none) (KE bl []) w:=by
  refine⟨⟨λi b hb=>?_,λi hi=>?_,λi p hp=>?_,λi j p q b _ hp _ hb hw _=>(bQ _ ⟨i,p,b,hp,hb,hw,rfl⟩).elim⟩,λg cs hg=>⟨(hH.tab g cs hg).1,bQ g⟩⟩
  .have hi:i<bl.length:=by have:=(KE bl []).lt hb;simpa [KE] using this
   simp only[KE,z6 hi] at hb;cases eQ:bl[i]? with
   |none=>rw[eQ] at hb;cases hb
   |some b0 =>rw[eQ] at hb;obtain rfl:=osj hb;obtain⟨wr,c',hg,qt⟩:=hπ i b0 eQ;obtain⟨p,hp,hB⟩:=hH.live _ _ hg;exact⟨p,by simp[hi,hp],BRel.renRo qt hB⟩
  .by_cases h:i<bl.length
   .simp only[KE,z6 h,z8 h] at hi;cases hi
   .simp[h]
  .skip
   split at hp
   .exact hH.lt _ p hp
   .cases hp
 have ui:LRel (λi=>if i<bl.length then ρ (π i) else none) (KE bl []).n iK au.toList:=by have:=ax.rel hL;simpa [KE] using this
 have lift:∀ c w',Got (λi=>if i<bl.length then ρ (π i) else none) (KE bl []) w (λu Z=>u=vm/\Z=KE bl fr) c w'->Got ρ U w K c w':=by
  rintro c w' ⟨_,ρm,_,⟨rfl,rfl⟩,cF,iL,hE⟩;have dD:∀ B,B<w.heap.size->w'.heap[B]?=w.heap[B]?:=λB hB=>hE.keep B hB (bQ B);have qu:∀ i p,bl.length<=i->ρm i=some p->w.heap.size<=p.blk:=λi p hi hp=>by
   rcases zo p.blk w.heap.size with h|h
   .refine (bQ _ (hE.wr p.blk h ?_)).elim;have mj:=iL.idlt hp;cases hb:(KE bl fr).get i with
    |none=>rw[iL.dead i hb] at hp;cases hp
    |some b =>
     refine⟨i,p,b,hp,hb,?_,rfl⟩;simp only[KE,z7 (yd.2 hi)] at hb;cases eQ:fr[i-bl.length]? with
     |none=>rw[eQ] at hb;cases hb
     |some b0=>rw[eQ] at hb;obtain rfl:=osj hb;rfl
   .exact h
  have hρ:∀ i,U.n<=i->(if i<U.n then ρ i else if i<U.n+fr.length then ρm (bl.length+(i-U.n)) else none)=if i<U.n+fr.length then ρm (bl.length+(i-U.n)) else none:=λi hi=>z7 (by omega)
  have hX:Ext ρ U w (λi=>if i<U.n then ρ i else if i<U.n+fr.length then ρm (bl.length+(i-U.n)) else none) (YS U fr) w':=by
   refine⟨hE.os,hE.tape,hE.output,hE.size,λB hB _=>dD B hB,?_,by simp[YS],λi hi p hp=>?_⟩
   .rintro B hB ⟨i,p,b,hp,hb,hw,rfl⟩
    replace hp:(if i<U.n then ρ i else if i<U.n+fr.length then ρm (bl.length+(i-U.n)) else none)=some p:=hp
    by_cases hi:i<U.n
    .rw[z6 hi] at hp;simp only[YS,z6 hi] at hb;exact⟨i,p,b,hp,hb,hw,rfl⟩
    grind
   .skip
    rwa [z6 hi] at hp
  refine⟨v,λi=>if i<U.n then ρ i else if i<U.n+fr.length then ρm (bl.length+(i-U.n)) else none,YS U fr,hK,?_,hH.ext ⟨λi b hb=>?_,λi hi=>?_,λi p hp=>?_,λi j p q b cT hp hq hb hw hx=>?_⟩ hX,hX⟩
  .refine hv.rel (by simp[YS]) (λi h1 h2=>?_) cF
   grind
  .by_cases hi:i<U.n
   .simp only[YS,z6 hi] at hb;obtain⟨p,hp,hB⟩:=hH.live i b hb;exact⟨p,by simp[hi,hp],hB.mono (by simp[YS]) (by simp_all) (dD _ (hH.lt i p hp))⟩
   .simp only[YS,z7 hi] at hb;cases eQ:fr[i-U.n]? with
    |none=>rw[eQ] at hb;cases hb
    |some b0 =>
     rw[eQ] at hb;obtain rfl:=osj hb;have aj:i-U.n<fr.length:=(zq.1 eQ).1;obtain⟨p,hp,hB⟩:=iL.live (bl.length+(i-U.n)) (b0.blk true) (by
      show (if _ then _ else _)=_;simp_all)
     exact⟨p,by grind,BRel.any (cJ b0 (xe eQ)) hB⟩
  .by_cases h:i<U.n
   .simp only[YS,z6 h] at hi;rw[z6 h];exact hH.dead i hi
   .simp only[YS,z7 h] at hi
    grind
  .skip
   split at hp
   .exact zH (hH.lt i p hp) hE.size
   .split at hp
    .exact iL.lt _ p hp
    .cases hp
  .skip
   by_cases hi:i<U.n<;>by_cases hj:j<U.n
   .rw[z6 hi] at hp;rw[z6 hj] at hq;simp only[YS,z6 hi] at hb;exact hH.sep i j p q b cT hp hq hb hw hx
   .rw[z6 hi] at hp;rw[z7 hj] at hq;split at hq
    .have h1:=hH.lt i p hp
     grind
    .cases hq
   .rw[z7 hi] at hp;rw[z6 hj] at hq;split at hp
    .have h1:=hH.lt j q hq
     grind
    .cases hp
   .rw[z7 hi] at hp;rw[z7 hj] at hq;split at hp
    .split at hq
     .simp only[YS,z7 hi] at hb;refine iL.sep (bl.length+(i-U.n)) (bl.length+(j-U.n)) p q b (by omega) hp hq ?_ hw hx;show (if _ then _ else _)=_;simp_all
     .cases hq
    .cases hp
 rcases hm _ w au uh ui with⟨h1,h2⟩|⟨c,h1,h2⟩
 .refine .inl ⟨h1,?_⟩;exact h2.mono (by simp_all)
 .refine .inr ⟨c,lift c w h1,λw' gC=>h2 w' ⟨gC.1,λi p hp=>?_,gC.tab⟩⟩
  replace hp:(if i<bl.length then ρ (π i) else none)=some p:=hp
  split at hp
  .exact gC.2 _ p hp
  .cases hp
def Q6y {α:Type}(p:α->α->Bool):List α->List α->Bool
 |[],[]=>true
 |a::l,b::m=>p a b&&Q6y p l m
 |_,_=>false
theorem Gl {α:Type}{p:α->α->Bool}(hp:∀ a b,p a b=true->a=b):∀ l m,Q6y p l m=true->l=m
 |[],[],_=>rfl
 |a::l,b::m,h=>by simp only[Q6y,z0] at h;rw[hp a b h.1,Gl hp l m h.2]
 |[],_::_,h=>by cases h
 |_::_,[],h=>by cases h
def Q2s:Nat->Value->Value->Bool
 |0,_,_=>false
 |f+1,a,b=>match a,b with
  |.bool x,.bool y=>x==y
  |.int k x,.int k' y=>decide (k=k')&&decide (x=y)
  |.string s,.string t=>decide (s.data.toList=t.data.toList)
  |.pointer none,.pointer none=>true
  |.pointer (some ⟨i,o,none⟩),.pointer (some ⟨j,q,none⟩)=>Nat.beq i j&&Nat.beq o q
  |.slice none l c,.slice none l' c'=>Nat.beq l l'&&Nat.beq c c'
  |.slice (some ⟨i,o,none⟩) l c,.slice (some ⟨j,q,none⟩) l' c'=>Nat.beq i j&&(Nat.beq o q&&(Nat.beq l l'&&Nat.beq c c'))
  |.slice (some ⟨i,o,some 0⟩) l c,.slice (some ⟨j,q,some 0⟩) l' c'=>Nat.beq i j&&(Nat.beq o q&&(Nat.beq l l'&&Nat.beq c c'))
  |.map x,.map y=>decide (x=y)
  |.chan none,.chan none=>true
  |.nilFunc,.nilFunc=>true
  |.nilIface,.nilIface=>true
  |.func (.func g) fs cs,.func (.func g') se cs'=>decide (g=g')&&(Q6y (Q2s f) fs.toList se.toList&&Q6y (Q2s f) cs.toList cs'.toList)
  |.func (.yield i) ⟨[]⟩ ⟨[]⟩,.func (.yield j) ⟨[]⟩ ⟨[]⟩=>Nat.beq i j
  |.iface t v,.iface t' v'=>decide (t=t')&&Q2s f v v'
  |.agg cs,.agg ds=>Q6y (Q2s f) cs.toList ds.toList
  |.tuple cs,.tuple ds=>Q6y (Q2s f) cs.toList ds.toList
  |_,_=>false
theorem Es {α:Type}{a b:Array α}(h:a.toList=b.toList):a=b:=by cases a;cases b;simp at h;rw[h]
theorem H6:∀ (f:Nat) (a b:Value),Q2s f a b=true->a=b:=by
 intro f;induction f with
 |zero=>intro a b h;cases h
 |succ f ih =>
  intro a b h;unfold Q2s at h
  split at h<;>first
   |(cases h;done)
   |rfl
   |(simp at h;subst h;rfl)
   |(simp at h;obtain⟨rfl,rfl⟩:=h;rfl)
   |(simp at h;obtain⟨rfl,rfl,rfl,rfl⟩:=h;rfl)
   |skip
  .rename_i s t;have h:=zu h;have:=Es h;cases s;cases t;simp at this;rw[this]
  .rename_i g fs cs g' se cs';simp only[z0,zh] at h
   grind [Es,Gl]
  .grind
  .rw[Es (Gl ih _ _ h)]
  .rw[Es (Gl ih _ _ h)]
def EB.beq:EB->EB->Bool
 |.cells c e w t,.cells c' e' w' t'=>decide (e=e')&&(w==w'&&(t==t'&&Q6y (Q2s 20) c c'))
 |.map es cl w,.map bJ uj w'=>Nat.beq cl uj&&(w==w'&&Q6y (λa b=>Q2s 20 a.1 b.1&&(Q2s 20 a.2.1 b.2.1&&Nat.beq a.2.2 b.2.2)) es bJ)
 |.iter m s sn l,.iter m' s' uk l'=>Nat.beq m m'&&(Nat.beq s s'&&(Nat.beq l l'&&decide (sn=uk)))
 |.lp .ready none,.lp .ready none=>true
 |.lp .busy none,.lp .busy none=>true
 |.siter s p,.siter s' p'=>decide (s.data.toList=s'.data.toList)&&Nat.beq p p'
 |_,_=>false
theorem EB.beq_eq {a b:EB}(h:a.beq b=true):a=b:=by
 unfold EB.beq at h
 split at h<;>first
  |(cases h;done)
  |rfl
  |skip
 .simp only[z0,zh,zX] at h;obtain⟨rfl,rfl,rfl,h⟩:=h;rw[Gl (H6 20) _ _ h]
 .simp only[z0,zX,Nat.beq_eq] at h;obtain⟨rfl,rfl,h⟩:=h;rw[Gl (λa b h=>by
   simp only[z0,Nat.beq_eq] at h;obtain⟨a1,a2,a3⟩:=a;obtain⟨b1,b2,b3⟩:=b;obtain⟨h1,h2,h3⟩:=h;simp at h1 h2 h3;rw[H6 _ _ _ h1,H6 _ _ _ h2,h3]) _ _ h]
 .simp only[z0,zh,Nat.beq_eq] at h;obtain⟨rfl,rfl,rfl,rfl⟩:=h;rfl
 .rename_i s _ s' _;simp only[z0,zh,Nat.beq_eq] at h;obtain⟨h1,rfl⟩:=h;have:=Es h1;cases s;cases s';simp at this;rw[this]
def CH.newOk (h h':CH):Bool:=Nat.ble h.n h'.n&&(h'.room&&(List.range' h.n (h'.n-h.n)).all λi=>match h'.get i with
 |some (.lp _ _)=>false
 |_=>true)
structure AnsOps (A:Type) where
 fail:A
 both:A->A->A
structure Good {A:Type}(R:AnsOps A) (G:A->Prop):Prop where
 fail:¬ G R.fail
 both:∀ a b,G (R.both a b)->G a/\G b
def D9:AnsOps Bool:=⟨false,and⟩
theorem Q1y:Good D9 (·=true):=⟨by simp[D9],λa b h=>by simpa [D9] using h⟩
def Q24:AnsOps (Option (Value×CH)):=⟨none,λ_ _=>none⟩
theorem Z4t (x:Value×CH):Good Q24 (·=some x):=⟨by simp[Q24],λa b h=>by simp[Q24] at h⟩
def CH.same (h h':CH):Bool:=Nat.beq h.n h'.n&&(List.range h.n).all λi=>match h.get i,h'.get i with
 |none,none=>true
 |some a,some b=>a.beq b
 |_,_=>false
def EB.plainE:EB->Bool
 |.cells c _ _ _=>c.all Zl
 |.map es _ _=>es.all λkv=>Zl kv.2.1
 |_=>false
def CH.keepOk (h h':CH):Bool:=Nat.ble h.n h'.n&&(List.range h.n).all λi=>match h.get i,h'.get i with
 |_,none=>true
 |some a,some b=>b.plainE||a.beq b
 |_,_=>false
def gcI (n0:Nat) (refs:List Nat) (i:Nat):Nat×List Nat :=
 if i<n0 then (i,refs) else if refs.contains i=true then (n0+refs.idxOf i,refs) else (n0+refs.length,refs++[i])
def Q8z (g:List Nat->Value->Option (Value×List Nat)):List Value->List Nat->Option (List Value×List Nat)
 |[],refs=>some ([],refs)
 |v::vs,refs=>match g refs v with
  |none=>none
  |some p=>match Q8z g vs p.2 with
   |none=>none
   |some q=>some (p.1::q.1,q.2)
def gcX (n0:Nat):Nat->List Nat->Value->Option (Value×List Nat)
 |0,_,_=>none
 |f+1,refs,v=>match v with
  |.pointer (some ⟨i,o,none⟩)=>some (.pointer (some ⟨(gcI n0 refs i).1,o,none⟩),(gcI n0 refs i).2)
  |.slice (some ⟨i,o,none⟩) l c=>some (.slice (some ⟨(gcI n0 refs i).1,o,none⟩) l c,(gcI n0 refs i).2)
  |.slice (some ⟨i,o,some 0⟩) l c=>some (.slice (some ⟨(gcI n0 refs i).1,o,some 0⟩) l c,(gcI n0 refs i).2)
  |.map (some i)=>some (.map (some (gcI n0 refs i).1),(gcI n0 refs i).2)
  |.chan none=>some (.chan none,refs)
  |.iface t u=>match gcX n0 f refs u with
   |some p=>some (.iface t p.1,p.2)
   |none=>none
  |.agg cs=>match Q8z (gcX n0 f) cs.toList refs with
   |some p=>some (.agg p.1.toArray,p.2)
   |none=>none
  |.tuple cs=>match Q8z (gcX n0 f) cs.toList refs with
   |some p=>some (.tuple p.1.toArray,p.2)
   |none=>none
  |.func (.func g) fs cs=>match Q8z (gcX n0 f) fs.toList refs with
   |some p=>match Q8z (gcX n0 f) cs.toList p.2 with
    |some q=>some (.func (.func g) p.1.toArray q.1.toArray,q.2)
    |none=>none
   |none=>none
  |.func (.yield i) ⟨[]⟩ ⟨[]⟩=>if i<n0 then some (.func (.yield i) ⟨[]⟩ ⟨[]⟩,refs) else none
  |v=>if Zl v=true then some (v,refs) else none
def Z9h (n0:Nat):List JO->List Nat->Option (List JO×List Nat)
 |[],refs=>some ([],refs)
 |e::es,refs=>match gcX n0 8 refs e.2.1 with
  |none=>none
  |some p=>match Z9h n0 es p.2 with
   |none=>none
   |some q=>some ((e.1,p.1,e.2.2)::q.1,q.2)
def gcB (n0:Nat) (refs:List Nat):EB->Option (EB×List Nat)
 |.cells c e w t=>match Q8z (gcX n0 8) c refs with
  |some p=>some (.cells p.1 e w t,p.2)
  |none=>none
 |.map es cl w=>match Z9h n0 es refs with
  |some p=>some (.map p.1 cl w,p.2)
  |none=>none
 |_=>none
def Q9y (h':CH) (n0:Nat):Nat->Nat->List Nat->CH->Option (CH×List Nat)
 |0,_,_,_=>none
 |f+1,k,refs,acc=>if refs.length<=k then (if k=refs.length then some (acc,refs) else none) else match h'.get (refs.getD k 0) with
  |none=>none
  |some b=>match gcB n0 refs b with
   |none=>none
   |some p=>if acc.room=true then Q9y h' n0 f (k+1) p.2 (acc.push p.1) else none
def Z2z (h h':CH) (refs:List Nat):Option (CH×List Nat) :=
 if h.keepOk h'=true then Q9y h' h.n 100000 0 refs ⟨h'.t,h.n⟩ else none
def OQ (h h':CH) (v:Value):Option (Value×CH):=match gcX h.n 8 [] v with
 |none=>none
 |some p=>match Z2z h h' p.2 with
  |none=>none
  |some q=>some (p.1,q.1)
def joinOps:AnsOps (Option (Value×CH)):=⟨none,λa b=>match a with
 |some x=>match b with
  |some y=>if Q2s 20 x.1 y.1=true/\x.2.same y.2=true then some x else none
  |none=>none
 |none=>none⟩
structure ET where
 t:GT Value
 m:Nat
def ET.get (e:ET) (i:Nat):Value:=Bool.rec (motive:=λ_=>Value) undef (e.t.get undef i) (Nat.blt i e.m)
def ET.set (e:ET) (i:Nat) (v:Value):ET:=Bool.rec (motive:=λ_=>ET) e ⟨e.t.set undef 32 i v,e.m⟩ (Nat.blt i e.m)
def ET.put (e:ET) (d:Option Nat) (v:Value):ET:=Option.rec (motive:=λ_=>ET) e (λd=>e.set d v) d
def etL (l:List Value):Nat->GT Value->GT Value:=List.rec (motive:=λ_=>Nat->GT Value->GT Value) (λ_ t=>t) (λv _ ih i t=>ih (i+1) (t.set undef 32 i v)) l
def ET.of (args:List Value) (nt:Nat):ET:=⟨etL args 0 .nil,args.length+(nt-args.length)⟩
def HA (e:ET) (x:Operand):Value:=Operand.rec (motive:=λ_=>Value) (λt=>e.get t) (λv=>v) (λg=>.pointer (some ⟨g,0,some 0⟩)) (λf=>.func (.func f) #[] #[]) x
def Z27 (e:ET) (ps:List Nat):List Value->ET:=List.rec (motive:=λ_=>ET->List Value->ET) (λe _=>e) (λp _ ih e vs=>List.rec (motive:=λ_=>ET) e (λv vs _=>ih (e.set p v) vs) vs) ps e
def Q6w (e:ET) (g:Option (Nat×Bool)):Option Bool:=match g with
 |none=>some true
 |some (d,want)=>match e.get d with
  |.bool b=>some (b==want)
  |.tuple _=>some false
  |_=>none
def ET.list (e:ET):List Value:=(List.range e.m).map e.get
def Z88 (h h':CH) (e:ET):Option (Value×CH):=OQ h h' (.tuple e.list.toArray)
structure RCtx where
 ps:List Nat
 a:VCode
 b:VCode
 env:ET
abbrev Ys:=List (Nat×RCtx)
def Ys.find:Ys->Nat->Option RCtx
 |[],_=>none
 |(j,c)::l,i=>if Nat.beq i j=true then some c else Ys.find l i
structure Memo where
 args:List Value
 bl:List PB
 v:Value
 fr:List PB
def Z8a (g:Value->Option Value):List Value->Option (List Value)
 |[]=>some []
 |v::vs=>match g v with
  |none=>none
  |some u=>match Z8a g vs with
   |none=>none
   |some us=>some (u::us)
def shX (a m d:Nat):Nat->Value->Option Value
 |0,_=>none
 |f+1,v=>match v with
  |.pointer (some ⟨i,o,none⟩)=>if a<=i/\i<m then some (.pointer (some ⟨d+(i-a),o,none⟩)) else none
  |.slice (some ⟨i,o,none⟩) l c=>if a<=i/\i<m then some (.slice (some ⟨d+(i-a),o,none⟩) l c) else none
  |.agg cs=>match Z8a (shX a m d f) cs.toList with
   |some p=>some (.agg p.toArray)
   |none=>none
  |.tuple cs=>match Z8a (shX a m d f) cs.toList with
   |some p=>some (.tuple p.toArray)
   |none=>none
  |v=>if Zl v=true then some v else none
def Ed (h:CH):Nat->List Nat->List PB->Option (List Nat)
 |k,refs,[]=>if refs.length=k then some refs else none
 |k,refs,b::m=>if k<refs.length then
   match h.get (refs.getD k 0) with
   |some (.cells c e _ t)=>(match Q8z (gcX 0 8) c refs with
    |some p=>if (decide (e=b.esz)&&(t==b.tight&&Q6y (Q2s 20) p.1 b.c))=true then Ed h (k+1) p.2 m else none
    |none=>none)
   |_=>none
  else none
def Bg:List PB->CH->CH
 |[],h=>h
 |b::l,h=>Bg l (h.push (.cells b.c b.esz true b.tight))
def Q28 (h:CH) (args:List Value) (refs:List Nat):List Memo->Option Memo
 |[]=>none
 |m::ms=>if (Q6y (Q2s 20) args m.args&&(Ed h 0 refs m.bl).isSome)=true then some m else Q28 h args refs ms
def I6 (h:CH) (args:List Value) (ms:List Memo):Option (Value×CH) :=
 match Q8z (gcX 0 8) args [] with
 |none=>none
 |some p=>match Q28 h p.1 p.2 ms with
  |none=>none
  |some m=>match Nat.ble (h.n+m.fr.length) 1000000000 with
   |false=>none
   |true=>match shX m.bl.length (m.bl.length+m.fr.length) h.n 8 m.v with
    |some v=>some (v,Bg m.fr h)
    |none=>none
inductive FEnt where
 |code (vc:VCode) (rs:List VResult) (nt:Nat)
 |codeJ (vc:VCode) (rs:List VResult) (nt:Nat)
 |codeM (vc:VCode) (rs:List VResult) (nt:Nat) (ms:List Memo)
 |same
abbrev Tab:=FuncId->Option FEnt
abbrev Z5k:=∀ {A:Type},AnsOps A->Ys->VCode->Option Nat->ET->CH->(Exit->ET->CH->A)->A
def LA (env:ET) (U:CH):VResult->Option Value
 |.tmp t=>some (env.get t)
 |.cell a agg size=>match Z5y agg size (env.get a) U with|some p=>some p.1|none=>none
def PI (env:ET) (U:CH):List VResult->Option (List Value)
 |[]=>some []
 |r::rs=>match LA env U r with
  |none=>none
  |some v=>match PI env U rs with
   |none=>none
   |some vs=>some (v::vs)
def Bf (env:ET) (U:CH) (rs:List VResult):Option Value :=
 match rs with
 |[r]=>LA env U r
 |rs=>match PI env U rs with|some vs=>some (.tuple vs.toArray)|none=>none
section
variable (T:Tab) (ev:Z5k) {A:Type}(R:AnsOps A) (ys:Ys)
def Z49 (fail:A) (rs:List VResult) (k:Value->CH->A):Exit->ET->CH->A:=λe env h'=>match e with
  |.normal=>(match Bf env h' rs with|some v=>k v h'|none=>fail)
  |.ret=>(match Bf env h' rs with|some v=>k v h'|none=>fail)
  |_=>fail
def Q0r (f:FuncId) (args:List Value) (h:CH) (k:Value->CH->A):A :=
 match T f with
 |some (.code vc rs nt)=>match Nat.ble (ET.of args nt).m 1000000 with
  |true=>ev R ys vc none (ET.of args nt) h (Z49 R.fail rs k)
  |false=>R.fail
 |some (.codeJ vc rs nt)=>match Nat.ble (ET.of args nt).m 1000000 with
  |true=>(match ev joinOps ys vc none (ET.of args nt) h (Z49 none rs λv h'=>OQ h h' v) with
   |some x=>if x.2.room=true/\Nat.ble h.n x.2.n=true then k x.1 x.2 else R.fail
   |none=>R.fail)
  |false=>R.fail
 |some (.codeM vc rs nt ms)=>match I6 h args ms with
  |some p=>k p.1 p.2
  |none=>match Nat.ble (ET.of args nt).m 1000000 with
   |true=>ev R ys vc none (ET.of args nt) h (Z49 R.fail rs k)
   |false=>R.fail
 |some .same=>match args with
  |[v]=>k v h
  |_=>R.fail
 |none=>R.fail
def Q7p (i:Nat) (k:Value->CH->A):Exit->ET->CH->A:=λe _ h =>
 match h.get i with
 |some (.lp .busy none)=>match e with
  |.normal=>k (.bool true) (h.upd i (.lp .ready none))
  |.ret=>k (.bool false) (h.upd i (.lp .done (some .ret)))
  |.exit id=>k (.bool false) (h.upd i (.lp .done (some (.exit id))))
  |_=>R.fail
 |_=>R.fail
def Z2w (c:RCtx) (i:Nat) (k:Value->CH->A):Exit->ET->CH->A:=λe bq h1=>match e with
 |.normal=>(match h1.get i with
  |some (.lp .ready none)=>ev R ys c.b (some i) bq (h1.upd i (.lp .busy none)) (Q7p R i k)
  |_=>R.fail)
 |_=>R.fail
def Q5z (i:Nat) (args:List Value) (h:CH) (k:Value->CH->A):A :=
 match ys.find i with
 |some c=>match h.get i with
  |some (.lp .ready none)=>if args.length=c.ps.length then ev R ys c.a (some i) (Z27 c.env c.ps args) h (Z2w ev R ys c i k) else R.fail
  |_=>R.fail
 |none=>R.fail
def BX (i m since clock:Nat) (seen:List Nat) (h:CH) (k:Value->CH->A):List JO->Option A
 |[]=>none
 |e::es=>if seen.contains e.2.2=true then BX i m since clock seen h k es
  else match BX i m since clock seen h k es with
   |none=>some (k (.tuple #[.bool true,e.1,e.2.1]) (h.upd i (.iter m since (seen++[e.2.2]) clock)))
   |some a=>some (R.both (k (.tuple #[.bool true,e.1,e.2.1]) (h.upd i (.iter m since (seen++[e.2.2]) clock))) a)
def Z42 (x:Value) (h:CH) (k:Value->CH->A):A :=
 match x with
 |.pointer (some ⟨i,0,none⟩)=>match h.get i with
  |some (.iter m since seen last)=>match h.mapAt m with
   |some (es,clock,_) =>
    if (seen.isEmpty||es.isEmpty||es.any (λe=>decide (e.2.2<last)))=true/\es.all (λe=>UI e.1)=true then
     (match BX R i m since clock seen h k es with
     |none=>if es.all (λe=>seen.contains e.2.2||decide (since<=e.2.2))=true then k (.tuple #[.bool false]) h else R.fail
     |some a=>if es.all (λe=>seen.contains e.2.2||decide (since<=e.2.2))=true then R.both (k (.tuple #[.bool false]) h) a else a)
    else R.fail
   |none=>R.fail
  |_=>R.fail
 |_=>R.fail
def Z3e (f:Value) (args:List Value) (h:CH) (k:Value->CH->A):A:=match f with
  |.func (.func g) first cap=>Q0r T ev R ys g (first.toList++args++cap.toList) h k
  |.func (.yield i) _ _=>Q5z ev R ys i args h k
  |_=>R.fail
def Q73 (r:Option (Value×CH)) (k:Value->CH->A):A:=match r with
  |some p=>k p.1 p.2
  |none=>R.fail
def Z53 (o:VOp) (env:ET) (h:CH) (k:Value->CH->A):A :=
 match o with
 |.callF f args=>Q0r T ev R ys f (args.map (HA env)) h k
 |.callV f args=>Z3e T ev R ys (HA env f) (args.map (HA env)) h k
 |.ext (.nextMap x)=>Z42 R (HA env x) h k
 |o=>Q73 R (Q1h o (HA env) h) k
def Q62 (l:List VOper):ET->CH->(ET->CH->A)->A :=
 List.rec (motive:=λ_=>ET->CH->(ET->CH->A)->A) (λenv h k=>k env h)
  (λo _ ih env h k=>match Q6w env o.guard with
   |none=>R.fail
   |some true=>Z53 T ev R ys o.op env h λv h'=>ih (env.put o.dst v) h' k
   |some false=>ih (env.put o.dst undef) h k) l
def Q2w (op:VOp) (ev:Operand->Value) (v:Value) (h:CH):Bool:=match Q1h op ev h with
 |some q=>Q2s 20 q.1 v
 |none=>false
def Q76 (r:Nat) (h:CH):List (Nat×(CH->Bool))->Bool
 |[]=>true
 |c::l=>(!(Nat.ble r c.1)||c.2 h)&&Q76 r h l
def By:List DOper->ET->List CH->CH->List (Nat×(CH->Bool))->(ET->CH->A)->A
 |[],env,_,h,_,k=>k env h
 |o::rest,env,hs,h,pend,k=>match Q6w env o.guard with
  |none=>R.fail
  |some true=>if o.kind=2 then
    (match Z53 T ev Q24 ys o.op env h (λv h'=>some (v,h')) with
    |some p=>if h.newOk p.2=true/\Q76 hs.length p.2 pend=true then By rest (env.put o.dst p.1) (hs++[p.2]) p.2 pend k else R.fail
    |none=>R.fail)
   else if o.kind=1 then
    (match Q1h o.op (HA env) h with
    |some p=>if (hs.drop o.kmin).all (Q2w o.op (HA env) p.1)=true then
      By rest (env.put o.dst p.1) hs h (if hs.length<=o.kmax then (o.kmax,Q2w o.op (HA env) p.1)::pend else pend) k else R.fail
    |none=>R.fail)
   else match Q1h o.op (HA env) h with
    |some p=>By rest (env.put o.dst p.1) hs h pend k
    |none=>R.fail
  |some false=>if o.kind=2 then
    (if Q76 hs.length h pend=true then By rest (env.put o.dst undef) (hs++[h]) h pend k else R.fail)
   else By rest (env.put o.dst undef) hs h pend k
def Z4o (env:ET) (h:CH) (a:List DOper):Option (Value×CH):=By T ev joinOps ys a env [h] h [] λenv h'=>Z88 h h' env
def Q23 (env:ET) (h:CH):List (List DOper)->Option (Value×CH)
 |[]=>none
 |[a]=>Z4o T ev ys env h a
 |a::b::r=>joinOps.both (Z4o T ev ys env h a) (Q23 env h (b::r))
def Ck:List DSeg->ET->CH->(ET->CH->A)->A
 |[],env,h,k=>k env h
 |.one o::rest,env,h,k=>Q62 T ev R ys [o] env h λenv h=>Ck rest env h k
 |.alts [a]::rest,env,h,k=>By T ev R ys a env [h] h [] λenv h=>Ck rest env h k
 |.alts l::rest,env,h,k=>match Q23 T ev ys env h l with
  |some x=>(match x.1 with
   |.tuple vs=>if x.2.room=true/\Nat.ble h.n x.2.n=true/\vs.toList.length=env.m then Ck rest (ET.of vs.toList 0) x.2 k else R.fail
   |_=>R.fail)
  |none=>R.fail
def Z2d (h:CH):Option Nat->Bool
 |none=>true
 |some i=>match h.get i with
  |some (.lp _ _)=>true
  |_=>false
def Z50:LoopState->Bool
 |.busy=>false
 |_=>true
def Z65 (env:ET) (i:Nat) (k:Exit->ET->CH->A):Value->CH->A:=λ_ h =>
 match h.get i with
 |some (.lp st pend)=>if Z50 st=true then (match pend with
   |none=>k .normal env (h.kill i)
   |some .ret=>k .ret env (h.kill i)
   |some (.exit id)=>k (.exit id) env (h.kill i)
   |some _=>R.fail) else R.fail
 |_=>R.fail
def Z6q (kb k:Exit->ET->CH->A):Exit->ET->CH->A:=λe env h=>match e with
 |.normal=>kb .normal env h
 |e=>k e env h
def Q81 (id:Nat) (k:Exit->ET->CH->A):Exit->ET->CH->A:=λe env h=>match e with
 |.exit ia=>if ia=id then k .normal env h else k (.exit ia) env h
 |e=>k e env h
def Z3r (v:Value) (a b:A):A:=match v with
 |.bool true=>a
 |.bool false=>b
 |_=>R.fail
def Q8d (g:Value) (ps:List Nat) (a b:VCode) (ro:Option Nat) (env:ET) (h:CH) (k:Exit->ET->CH->A):A:=match g with
 |.func (.func f) first cap=>match T f with
  |some (.code _ _ _)=>if Z2d h ro=true/\h.room=true then
    Q0r T ev R ((h.n,⟨ps,a,b,env⟩)::ys) f (first.toList++[.func (.yield h.n) #[] #[]]++cap.toList) (h.push (.lp .ready none)) (Z65 R env h.n k)
   else R.fail
  |_=>R.fail
 |_=>R.fail
def IP (c:VCode):Option Nat->ET->CH->(Exit->ET->CH->A)->A :=
 VCode.rec (motive:=λ_=>Option Nat->ET->CH->(Exit->ET->CH->A)->A)
  (λ_ env h k=>k .normal env h)
  (λops _ env h k=>Q62 T ev R ys ops env h (k .normal))
  (λaT _ env h k=>Ck T ev R ys aT env h (k .normal))
  (λg ps a b _ _ ro env h k=>Q8d T ev R ys (HA env g) ps a b ro env h k)
  (λ_ _ fz ff ro env h k=>fz ro env h (Z6q (λ_ ae h'=>ff ro ae h' k) k))
  (λc _ _ fz ff ro env h k=>Z3r R (HA env c) (fz ro env h k) (ff ro env h k))
  (λid _ ih ro env h k=>ih ro env h (Q81 id k))
  (λb ih ro env h k=>ih ro env h (Z6q (λ_ ae h'=>ev R ys (.loop b) ro ae h' k) k))
  (λid _ env h k=>k (.exit id) env h)
  (λ_ env h k=>k .ret env h)
  (λ_ _ _ _=>R.fail) c
end
def IH (T:Tab) (n:Nat):Z5k :=
 Nat.rec (motive:=λ_=>Z5k) (λR _ _ _ _ _ _=>R.fail) (λ_ ih {_} R ys c ro env h k=>IP T ih R ys c ro env h k) n
end Go.V
namespace Go.V
open Go
structure FRel (e:ET) (env:Env):Prop where
 m:e.m=List.length env
 sm:e.m<=1000000
 get:∀ i,env.getD i undef=e.get i
theorem ET.q1a {e:ET}{i:Nat}(hi:i<e.m):e.get i=e.t.get undef i:=by unfold ET.get;rw[show Nat.blt i e.m=true from Nat.ble_eq_true_of_le hi]
theorem ET.q0x {e:ET}{i:Nat}(hi:e.m<=i):e.get i=undef:=by
 unfold ET.get;cases hb:Nat.blt i e.m with
 |false=>rfl
 |true=>have:=zx hb;omega
theorem ET.q2a {e:ET}{i:Nat}{v:Value}(hi:i<e.m):e.set i v=⟨e.t.set undef 32 i v,e.m⟩:=by unfold ET.set;rw[show Nat.blt i e.m=true from Nat.ble_eq_true_of_le hi]
theorem ET.q2f {e:ET}{i:Nat}{v:Value}(hi:e.m<=i):e.set i v=e:=by
 unfold ET.set;cases hb:Nat.blt i e.m with
 |false=>rfl
 |true=>have:=zx hb;omega
theorem ET.q2i (e:ET) (i:Nat) (v:Value):(e.set i v).m=e.m:=by
 grind [Nat.lt_or_ge,ET.q2a,ET.q2f]
theorem ET.q1f {e:ET}(hs:e.m<=1000000) (i:Nat) (v:Value) (j:Nat):(e.set i v).get j=if j=i/\i<e.m then v else e.get j:=by
 rcases zo i e.m with hi|hi
 .rw[ET.q2a hi];rcases zo j e.m with hj|hj
  .rw[ET.q1a (e:=⟨e.t.set undef 32 i v,e.m⟩) hj,ET.q1a hj];show (e.t.set undef 32 i v).get undef j=_;rw[GT.q1f undef 32 _ _ _ _ (by omega)];simp_all
  .rw[ET.q0x (e:=⟨e.t.set undef 32 i v,e.m⟩) hj,ET.q0x hj,z7 (by rintro⟨rfl,_⟩;omega)]
 .rw[ET.q2f hi,z7 (by rintro⟨_,h⟩;omega)]
theorem FRel.set {e:ET}{env:Env}(h:FRel e env) (i:Nat) (v:Value):FRel (e.set i v) (env.set i v):=by
 refine⟨by rw[ET.q2i,zE];exact h.m,by rw[ET.q2i];exact h.sm,λj=>?_⟩;rw[ET.q1f h.sm,<-h.get,zj,zj,xy,h.m]
 grind
theorem FRel.put {e:ET}{env:Env}(h:FRel e env) (d:Option Nat) (v:Value):FRel (e.put d v) (XH env d v):=by
 cases d with
 |none=>exact h
 |some d=>exact h.set d v
theorem S3 {e:ET}{env:Env}(h:FRel e env):HA e=Q5 env:=by
 funext x
 cases x with
 |tmp t=>exact(h.get t).symm
 |_=>rfl
theorem Q2n {e:ET}{env:Env}(h:FRel e env) (g:Option (Nat×Bool)):Q6w e g=JD env g:=by
 cases g with
 |none=>rfl
 |some p =>obtain⟨d,w⟩:=p;simp only[Q6w,JD,h.get];cases e.get d<;>rfl
theorem Ey:∀ (ps:List Nat) (vs:List Value) {e:ET}{env:Env},FRel e env->FRel (Z27 e ps vs) (Li env ps vs)
 |[],vs,e,env,h=>by cases vs<;>exact h
 |p::ps,[],e,env,h=>h
 |p::ps,v::vs,e,env,h=>Ey ps vs (h.set p v)
theorem Q66:∀ (l:List Value) (i:Nat) (t:GT Value) (j:Nat),i+l.length<=1000000->(etL l i t).get undef j=if i<=j/\j<i+l.length then l.getD (j-i) undef else t.get undef j
 |[],i,t,j,_=>by rw[z7 (by simp only[List.length_nil];omega)];rfl
 |v::l,i,t,j,h=>by
  have h:i+(l.length+1)<=1000000:=h;show (etL l (i+1) (t.set undef 32 i v)).get undef j=_;rw[Q66 l (i+1) _ j (by omega),GT.q1f undef 32 _ _ _ _ (by omega)]
  grind
theorem ET.q1p {args:List Value}{nt:Nat}(h:(ET.of args nt).m<=1000000):FRel (ET.of args nt) (args++List.replicate (nt-args.length) undef):=by
 refine⟨by simp[ET.of],h,λi=>?_⟩;have hm:(ET.of args nt).m=args.length+(nt-args.length):=rfl;rw[hm] at h;rcases zo i (ET.of args nt).m with hi|hi
 .rw[ET.q1a hi];show _=(etL args 0 .nil).get undef i;rw[Q66 _ _ _ _ (by omega),zj,List.getElem?_append];rw[hm] at hi;by_cases hl:i<args.length
  .simp_all
  .rw[z7 hl,z7 (by omega),List.getElem?_replicate,z6 (by omega)];rfl
 grind [ET.q0x,List.getElem?_eq_none]
def Q70 (P:Program) (f:FuncId) (m:Memo):Prop :=
 VCalled P f m.args (KE m.bl []) (λu Z=>u=m.v/\Z=KE m.bl m.fr)/\∀ b∈m.fr,b.c.all Zl=true
structure TabOk (P:Program) (T:Tab):Prop where
 code:∀ f vc rs nt,T f=some (.code vc rs nt)->Fun P f vc rs nt
 codeJ:∀ f vc rs nt,T f=some (.codeJ vc rs nt)->Fun P f vc rs nt
 codeM:∀ f vc rs nt ms,T f=some (.codeM vc rs nt ms)->Fun P f vc rs nt/\∀ m∈ms,Q70 P f m
 same:∀ f,T f=some .same->∀ (v:Value) (U:Heap) (K:Value->Heap->Prop),K v U->VCalled P f [v] U K
section
variable {P:Program}{T:Tab}{ev:Z5k}
abbrev Gk:=Nat->Env×Loop
def YOk (P:Program) (ys:Ys) (rs:Gk) (n:Nat):Prop :=
 ∀ i c,ys.find i=some c->i<n/\FRel c.env (rs i).1/\UR P i (Q31 (vwp (Q4 P) c.a (some i)) (vwp (Q4 P) c.b (some i)) c.ps (rs i).1 (rs i).2 i)
theorem YOk.mono {ys:Ys}{rs bu:Gk}{n n':Nat}(h:YOk P ys rs n) (hn:n<=n') (hr:∀ i,i<n->bu i=rs i):YOk P ys bu n':=λi c hc=>by
 obtain⟨h1,h2,h3⟩:=h i c hc
 grind
def Z5h {A:Type}(G:A->Prop) (rs:Gk) (h:CH) (k:Value->CH->A) (K:Value->Heap->Prop):Prop :=
 ∀ v h' bu U',h.n<=h'.n->(∀ i,i<h.n->bu i=rs i)->CSim bu h' U'->G (k v h')->K v U'
def Z13 {A:Type}(G:A->Prop) (rs:Gk) (h:CH) (m:Nat) (k:Exit->ET->CH->A) (Q:Exit->Env->Heap->Prop):Prop :=
 ∀ e dx h' bu U' ae,h.n<=h'.n->(∀ i,i<h.n->bu i=rs i)->CSim bu h' U'->FRel dx ae->List.length ae=m->G (k e dx h')->Q e ae U'
def Q9n {A:Type}(G:A->Prop) (rs:Gk) (h:CH) (m:Nat) (k:ET->CH->A) (K:Env->Heap->Prop):Prop :=
 ∀ dx h' bu U' ae,h.n<=h'.n->(∀ i,i<h.n->bu i=rs i)->CSim bu h' U'->FRel dx ae->List.length ae=m->G (k dx h')->K ae U'
def Sd (P:Program) (ev:Z5k):Prop:=∀ {A:Type}(R:AnsOps A) (G:A->Prop),Good R G->∀ (ys:Ys) (c:VCode) (ro:Option Nat) (et:ET) (env:Env) (h:CH) (k:Exit->ET->CH->A) (rs:Gk) (U:Heap) (Q:Exit->Env->Heap->Prop),
 YOk P ys rs h.n->CSim rs h U->FRel et env->G (ev R ys c ro et h k)->Z13 G rs h (List.length env) k Q->vwp (Q4 P) c ro Q env U
theorem P9 {rs:Gk}{h:CH}{U:Heap}(hs:CSim rs h U) {et:ET}{env:Env}(hE:FRel et env) {r:VResult}{v:Value}(hr:LA et h r=some v):X5 env U r=some v:=by
 cases r with
 |tmp t=>simp only[LA] at hr;simp only[X5,hE.get];exact hr
 |cell a agg size =>
  simp only[LA] at hr;split at hr
  .rename_i p hp;rw[<-hE.get] at hp;obtain⟨_,U',h1,_⟩:=Vw (o:=.load agg size (.tmp a)) (ev:=Q5 env) hs hp;simp only[X5,h1,yc];exact hr
  .cases hr
theorem BA {rs:Gk}{h:CH}{U:Heap}(hs:CSim rs h U) {et:ET}{env:Env}(hE:FRel et env):∀ (l:List VResult) (vs:List Value),PI et h l=some vs->l.mapM (X5 env U)=some vs
 |[],vs,hr=>by simp[PI] at hr;subst hr;rfl
 |r::l,vs,hr=>by
  simp only[PI] at hr;split at hr
  .cases hr
  .rename_i v hv;split at hr
   .cases hr
   .rename_i ws hw;obtain rfl:=osj hr;rw[xg,P9 hs hE hv];simp[BA hs hE l ws hw]
theorem BZ {rs:Gk}{h:CH}{U:Heap}(hs:CSim rs h U) {et:ET}{env:Env}(hE:FRel et env) {l:List VResult}{v:Value}(hr:Bf et h l=some v):Jl env U l=some v:=by
 unfold Bf at hr;split at hr
 .exact P9 hs hE hr
 .rename_i aG;split at hr
  .rename_i vs cz;unfold Jl
   grind [BA]
  .cases hr
variable {A:Type}{R:AnsOps A}{G:A->Prop}
theorem B4 (hG:Good R G) {rl:List VResult}{k:Value->CH->A}{rs:Gk}{h:CH}{U:Heap}{K:Value->Heap->Prop}{m:Nat}(hk:Z5h G rs h k K):Z13 G rs h m (Z49 R.fail rl k) (Z9p U rl K):=by
 intro e dx h' bu U' ae hn hr a_ bZ _ hg;have fin:G (match Bf dx h' rl with|some v=>k v h'|none=>R.fail)->Zm (Jl ae U' rl) λv=>∃ v' aF,DropTo U v U' v' aF/\K v' aF:=by
  intro hg;split at hg
  .rename_i v hv;rw[BZ a_ bZ hv];exact⟨v,U',.refl _ _ _,hk v h' bu U' hn hr a_ hg⟩
  .exact(hG.fail hg).elim
 cases e with
 |normal=>exact fin hg
 |ret=>exact fin hg
 |_=>exact(hG.fail hg).elim
def CH.toHeap (rs:Gk) (h:CH):Heap:=⟨λi=>(h.get i).map (EB.to (rs i)),h.n,λi hi=>by rw[CH.q0x hi];rfl⟩
theorem TA {rs:Gk}{h:CH}(hr:h.n<=1000000001):CSim rs h (h.toHeap rs):=⟨rfl,hr,λ_=>rfl⟩
theorem CSim.eq {rs:Gk}{h:CH}{U:Heap}(hs:CSim rs h U):U=h.toHeap rs:=Heap.ext' (λj=>hs.get j) hs.n.symm
def Q55 (x:Value×CH) (a:Option (Value×CH)):Prop:=∃ y,a=some y/\y.1=x.1/\y.2.n=x.2.n/\∀ i,y.2.get i=x.2.get i
theorem Z15 {h h':CH}(hs:h.same h'=true):h.n=h'.n/\∀ i,h.get i=h'.get i:=by
 simp only[CH.same,z0,zf,xk,Nat.beq_eq] at hs
 grind [Nat.lt_or_ge,EB.beq_eq,CH.q0x]
theorem I1 (x:Value×CH):Good joinOps (Q55 x):=by
 refine⟨λ⟨y,h,_⟩=>(by cases h),λa b h=>?_⟩;obtain⟨y,h1,h2,h3,h4⟩:=h;cases a with
 |none=>cases h1
 |some xa =>
  cases b with
  |none=>cases h1
  |some xb =>
   simp only[joinOps] at h1;split at h1
   .rename_i hc;obtain rfl:=osj h1;have e1:=H6 _ _ _ hc.1;obtain⟨e2,e3⟩:=Z15 hc.2;exact⟨⟨xa,rfl,h2,h3,h4⟩,xb,rfl,by rw[<-e1];exact h2,by rw[<-e2];exact h3,λi=>by rw[<-e3 i];exact h4 i⟩
   .cases h1
theorem Q6u {b:EB}{q:Env×Loop}(h:b.plainE=true):(b.to q).plain=true/\∀ q',b.to q'=b.to q:=by cases b<;>first|exact⟨h,λ_=>rfl⟩|cases h
def gcP (n0:Nat) (refs:List Nat) (i:Nat):Nat:=if i<n0 then i else refs.getD (i-n0) 0
def RExt (n0:Nat) (a b:List Nat):Prop:=(∃ t,b=a++t/\∀ x∈t,n0<=x)/\(a.Nodup->b.Nodup)
theorem RExt.refl (n0:Nat) (a:List Nat):RExt n0 a a:=⟨(by simp_all),id⟩
theorem RExt.trans {n0:Nat}{a b c:List Nat}(h:RExt n0 a b) (k:RExt n0 b c):RExt n0 a c:=by obtain⟨⟨t,rfl,ht⟩,h2⟩:=h;obtain⟨⟨u,rfl,hu⟩,k2⟩:=k;exact⟨(by grind),λh=>k2 (h2 h)⟩
def Sub (a b:List Nat):Prop:=∃ t,b=a++t
theorem Sub.trans {a b c:List Nat}(h:Sub a b) (k:Sub b c):Sub a c:=by obtain⟨t,rfl⟩:=h;obtain⟨u,rfl⟩:=k;exact⟨t++u,by simp⟩
theorem RExt.sub {n0:Nat}{a b:List Nat}(h:RExt n0 a b):Sub a b:=by obtain⟨⟨t,h,_⟩,_⟩:=h;exact⟨t,h⟩
theorem Sr (n0:Nat) (refs:List Nat) (i:Nat):RExt n0 refs (gcI n0 refs i).2/\∀ (all:List Nat),Sub (gcI n0 refs i).2 all->(gcI n0 refs i).1<n0+all.length/\gcP n0 all (gcI n0 refs i).1=i:=by
 unfold gcI;split
 .rename_i hi;exact⟨RExt.refl _ _,λall _=>⟨by simp only;omega,by simp[gcP,hi]⟩⟩
 .rename_i hi;split
  .rename_i hc;have hm:i∈refs:=by simpa using hc
   have aj:=List.idxOf_lt_length_of_mem hm;refine⟨RExt.refl _ _,λall ⟨t,ht⟩=>?_⟩;simp only at ht;have cX:refs.idxOf i<all.length:=by rw[ht,zG];omega
   refine⟨by simp only;omega,?_⟩;simp only[gcP,z7 (show ¬ n0+refs.idxOf i<n0 by omega),show n0+refs.idxOf i-n0=refs.idxOf i by omega,zj];rw[ht,xH aj,z8 aj];simp
  .rename_i hc;have hm:i∉refs:=by simpa using hc
   refine⟨⟨⟨[i],rfl,λx hx=>by simp at hx;omega⟩,λh1=>List.nodup_append.2 ⟨h1,by simp,λa ha b hb=>by simp at hb;subst hb;rintro rfl;exact hm ha⟩⟩,λall ⟨t,ht⟩=>?_⟩;simp only at ht;have aj:refs.length<all.length:=by rw[ht];simp
   refine⟨by simp only;omega,?_⟩;simp only[gcP,z7 (show ¬ n0+refs.length<n0 by omega),show n0+refs.length-n0=refs.length by omega];simp[ht,zj]
def Z6y (n0:Nat) (refs fg:List Nat) (v' v:Value):Prop:=RExt n0 refs fg/\∀ (all:List Nat),Sub fg all->Ren (n0+all.length) (gcP n0 all) v' v
def J2f (n0:Nat) (refs fg:List Nat) (v' v:List Value):Prop:=RExt n0 refs fg/\∀ (all:List Nat),Sub fg all->LRen (n0+all.length) (gcP n0 all) v' v
theorem Ks {n0:Nat}{g:List Nat->Value->Option (Value×List Nat)}(hg:∀ refs v p,g refs v=some p->Z6y n0 refs p.2 p.1 v):∀ (vs:List Value) (refs:List Nat) (p:List Value×List Nat),Q8z g vs refs=some p->J2f n0 refs p.2 p.1 vs
 |[],refs,p,h=>by obtain rfl:=osj h;exact⟨RExt.refl _ _,λall _=>⟨rfl,λi a b ha=>by simp at ha⟩⟩
 |v::vs,refs,p,h=>by
  simp only[Q8z] at h;split at h
  .cases h
  .rename_i p1 h1;split at h
   .cases h
   .rename_i p2 h2;obtain rfl:=osj h;obtain⟨a1,a2⟩:=hg _ _ _ h1;obtain⟨b1,b2⟩:=Ks hg vs _ _ h2;refine⟨a1.trans b1,λall hall=>?_⟩;have c1:=a2 all (b1.sub.trans hall);have c2:=b2 all hall;refine⟨by simp[c2.1],λi a b ha hb=>?_⟩;cases i with
    |zero=>simp at ha hb;subst ha;subst hb;exact c1
    |succ i=>exact c2.2 i a b (by simpa using ha) (by simpa using hb)
theorem LRen.agg {n:Nat}{π:Nat->Nat}{cG:List Value}{cs:Array Value}(h:LRen n π cG cs.toList):Ren n π (.agg cG.toArray) (.agg cs) :=
 .agg _ _ (by simpa using h.1) λi h1 h2=>h.2 i _ _ (by simp) (by simp)
theorem LRen.tuple {n:Nat}{π:Nat->Nat}{cG:List Value}{cs:Array Value}(h:LRen n π cG cs.toList):Ren n π (.tuple cG.toArray) (.tuple cs) :=
 .tuple _ _ (by simpa using h.1) λi h1 h2=>h.2 i _ _ (by simp) (by simp)
theorem P7 (n0:Nat):∀ (f:Nat) (refs:List Nat) (v:Value) (p:Value×List Nat),gcX n0 f refs v=some p->Z6y n0 refs p.2 p.1 v:=by
 intro f;induction f with
 |zero=>intro refs v p h;cases h
 |succ f ih =>
  intro refs v p h;unfold gcX at h;split at h
  .rename_i i o;obtain rfl:=osj h;obtain⟨h1,h2⟩:=Sr n0 refs i;refine⟨h1,λall hall=>?_⟩;obtain⟨k1,k2⟩:=h2 all hall;have:=Ren.ptr (n:=n0+all.length) (π:=gcP n0 all) (gcI n0 refs i).1 o k1
   rwa [k2] at this
  .rename_i i o l c;obtain rfl:=osj h;obtain⟨h1,h2⟩:=Sr n0 refs i;refine⟨h1,λall hall=>?_⟩;obtain⟨k1,k2⟩:=h2 all hall;have:=Ren.sl (n:=n0+all.length) (π:=gcP n0 all) (gcI n0 refs i).1 o l c k1
   rwa [k2] at this
  .rename_i i o l c;obtain rfl:=osj h;obtain⟨h1,h2⟩:=Sr n0 refs i;refine⟨h1,λall hall=>?_⟩;obtain⟨k1,k2⟩:=h2 all hall;have:=Ren.slx (n:=n0+all.length) (π:=gcP n0 all) (gcI n0 refs i).1 o l c k1
   rwa [k2] at this
  .rename_i i;obtain rfl:=osj h;obtain⟨h1,h2⟩:=Sr n0 refs i;refine⟨h1,λall hall=>?_⟩;obtain⟨k1,k2⟩:=h2 all hall;have:=Ren.map (n:=n0+all.length) (π:=gcP n0 all) (gcI n0 refs i).1 k1
   rwa [k2] at this
  .obtain rfl:=osj h;exact⟨RExt.refl _ _,λall _=>.poison _⟩
  .split at h
   .rename_i q hq;obtain rfl:=osj h;obtain⟨h1,h2⟩:=ih _ _ _ hq;exact⟨h1,λall hall=>.iface _ _ _ (h2 all hall)⟩
   .cases h
  .split at h
   .rename_i q hq;obtain rfl:=osj h;obtain⟨h1,h2⟩:=Ks ih _ _ _ hq;exact⟨h1,λall hall=>(h2 all hall).agg⟩
   .cases h
  .split at h
   .rename_i q hq;obtain rfl:=osj h;obtain⟨h1,h2⟩:=Ks ih _ _ _ hq;exact⟨h1,λall hall=>(h2 all hall).tuple⟩
   .cases h
  .split at h
   .rename_i q hq;split at h
    .rename_i q2 j7;obtain rfl:=osj h;obtain⟨h1,h2⟩:=Ks ih _ _ _ hq;obtain⟨h3,h4⟩:=Ks ih _ _ _ j7;refine⟨h1.trans h3,λall hall=>?_⟩;have c1:=h2 all (h3.sub.trans hall);have c2:=h4 all hall;exact .func _ _ _ _ _ (by simpa using c1.1) (by simpa using c2.1) (λi h1 h2=>c1.2 i _ _ (by simp) (by simp)) (λi h1 h2=>c2.2 i _ _ (by simp) (by simp))
    .cases h
   .cases h
  .rename_i i;split at h
   .rename_i hi;obtain rfl:=osj h;refine⟨RExt.refl _ _,λall _=>?_⟩;have:=Ren.yield (n:=n0+all.length) (π:=gcP n0 all) i (by omega)
    rwa [show gcP n0 all i=i by simp[gcP,hi]] at this
   .cases h
  .split at h
   .rename_i hp;obtain rfl:=osj h;exact⟨RExt.refl _ _,λall _=>.plain _ hp⟩
   .cases h
theorem IX (n0:Nat):∀ (es:List JO) (refs:List Nat) (p:List JO×List Nat),Z9h n0 es refs=some p->RExt n0 refs p.2/\∀ (all:List Nat),Sub p.2 all ->
  p.1.length=es.length/\∀ (k:Nat) (a b:JO),p.1[k]?=some a->es[k]?=some b->a.1=b.1/\a.2.2=b.2.2/\Ren (n0+all.length) (gcP n0 all) a.2.1 b.2.1
 |[],refs,p,h=>by
  obtain rfl:=osj h
  grind [RExt.refl]
 |e::es,refs,p,h=>by
  simp only[Z9h] at h;split at h
  .cases h
  .rename_i p1 h1;split at h
   .cases h
   .rename_i p2 h2;obtain rfl:=osj h;obtain⟨a1,a2⟩:=P7 n0 _ _ _ _ h1;obtain⟨b1,b2⟩:=IX n0 es _ _ h2;refine⟨a1.trans b1,λall hall=>?_⟩;have c1:=a2 all (b1.sub.trans hall)
    grind
theorem Q9m {n0:Nat}{refs:List Nat}{b:EB}{p:EB×List Nat}(h:gcB n0 refs b=some p):RExt n0 refs p.2/\∀ (all:List Nat),Sub p.2 all->∀ q q',BRen (n0+all.length) (gcP n0 all) (p.1.to q') (b.to q):=by
 unfold gcB at h;split at h
 .split at h
  .rename_i q hq;obtain rfl:=osj h;obtain⟨h1,h2⟩:=Ks (P7 n0 8) _ _ _ hq;exact⟨h1,λall hall _ _=>⟨rfl,rfl,rfl,h2 all hall⟩⟩
  .cases h
 .split at h
  .rename_i q hq;obtain rfl:=osj h;obtain⟨h1,h2⟩:=IX n0 _ _ _ hq;exact⟨h1,λall hall _ _=>⟨rfl,rfl,(h2 all hall).1,(h2 all hall).2⟩⟩
  .cases h
 .cases h
theorem Q3q {h':CH}{n0:Nat}:∀ (f k:Nat) (refs:List Nat) (acc:CH) (r:CH×List Nat),Q9y h' n0 f k refs acc=some r->acc.n=n0+k->acc.n<=1000000001 ->
  RExt n0 refs r.2/\r.1.n=n0+r.2.length/\r.1.n<=1000000001/\(∀ i,i<acc.n->r.1.get i=acc.get i) /\
  ∀ j,k<=j->j<r.2.length->∃ b b',h'.get (r.2.getD j 0)=some b/\r.1.get (n0+j)=some b'/\∀ q q',BRen (n0+r.2.length) (gcP n0 r.2) (b'.to q') (b.to q):=by
 intro f;induction f with
 |zero=>intro k refs acc r h;cases h
 |succ f ih =>
  intro k refs acc r h hn hs;simp only[Q9y] at h;split at h
  .grind [osj,RExt.refl]
  .rename_i hk;split at h
   .cases h
   .rename_i b hb;split at h
    .cases h
    .rename_i p hp;split at h
     .rename_i aK;have aK:acc.n<=1000000000:=zx aK;obtain⟨a1,a2⟩:=Q9m hp;have kZ:(acc.push p.1).n=acc.n+1:=rfl;obtain⟨b1,b2,b3,b4,b5⟩:=ih (k+1) p.2 (acc.push p.1) r h (by rw[kZ];omega) (by rw[kZ];omega);refine⟨a1.trans b1,b2,b3,λi hi=>?_,λj nC iX=>?_⟩
      .rw[b4 i (by rw[kZ];omega),CH.q1s hs,z7 (by omega)]
      .by_cases dq:j=k
       .subst dq;have cL:j<refs.length:=by omega
        obtain⟨t,ht⟩:=(a1.trans b1).sub;have hg:r.2.getD j 0=refs.getD j 0:=by simp_all
        refine⟨b,p.1,by rw[hg];exact hb,?_,a2 r.2 b1.sub⟩;rw[<-hn,b4 _ (by rw[kZ];omega),CH.q1s hs,z6 rfl]
       .exact b5 j (by omega) iX
     .cases h
theorem TO {rs bu:Gk}{h h':CH}{U U':Heap}(hs:CSim rs h U) (a_:CSim bu h' U') (hr:∀ i,i<h.n->bu i=rs i) {v:Value}{y x:Value×CH}(hg:OQ h h' v=some y) (h1:y.1=x.1) (h2:y.2.n=x.2.n) (h3:∀ i,y.2.get i=x.2.get i) :
  DropTo U v U' x.1 (x.2.toHeap rs):=by
 unfold OQ at hg;split at hg
 .cases hg
 .rename_i p hp;split at hg
  .cases hg
  .rename_i q hq;obtain rfl:=osj hg;simp only at h1 h2 h3;obtain⟨f1,f2⟩:=P7 h.n 8 [] v p hp;unfold Z2z at hq;split at hq
   .rename_i dD;simp only[CH.keepOk,z0,zf,xk] at dD;obtain⟨hle,dD⟩:=dD;have hle:h.n<=h'.n:=zx hle;have pa:=hs.sm;obtain⟨g0,g1,g2,g3,g4⟩:=Q3q _ 0 p.2 ⟨h'.t,h.n⟩ q hq rfl pa;have hall:=f1.trans g0;have ef:q.2.Nodup:=hall.2 List.nodup_nil;have bI:∀ x∈q.2,h.n<=x:=by
     obtain⟨⟨t,ht,hx⟩,_⟩:=hall;simpa [ht] using hx
    have hold:∀ i,i<h.n->q.1.get i=h'.get i:=(by grind [CH.q1a]);have k_:(x.2.toHeap rs).n=h.n+q.2.length:=by show x.2.n=_;rw[<-h2,g1]
    have sg:∀ i,(x.2.toHeap rs).get i=(q.1.get i).map (EB.to (rs i)):=λi=>by show (x.2.get i).map _=_;rw[<-h3 i]
    rw[<-h1];refine DropTo.rename (gcP h.n q.2) (by rw[k_,<-hs.n];omega) (λi hi=>?_) (λi j8 gA=>?_) (λi j j8 gA nC iX he=>?_) (by rw[k_];exact f2 q.2 g0.sub)
    .rw[<-hs.n] at hi;refine⟨by simp[gcP,hi],by rw[sg,hold i hi,a_.get,hr i hi],?_⟩;have:=dD i hi;rw[a_.get,hs.get];split at this
     .simp_all
     .rename_i a b e1 e2;rw[e1,e2];rw[zr] at this
      grind [Q6u,EB.beq_eq]
     .cases this
    .rw[<-hs.n] at j8;rw[k_] at gA;obtain⟨b,b',e1,e2,e3⟩:=g4 (i-h.n) (by omega) (by omega);have jY:gcP h.n q.2 i=q.2.getD (i-h.n) 0:=by simp[gcP,yd.2 j8]
     have aS:q.2.getD (i-h.n) 0∈q.2:=by
      grind
     rw[show h.n+(i-h.n)=i by omega] at e2;rw[jY];refine⟨by rw[<-hs.n];exact bI _ aS,b'.to (rs i),b.to (bu (q.2.getD (i-h.n) 0)),by rw[sg,e2];rfl,by rw[a_.get,e1];rfl,by rw[k_];exact e3 _ _⟩
    .rw[<-hs.n] at j8 nC;rw[k_] at gA iX;simp only[gcP,yd.2 j8,yd.2 nC,if_false] at he
     grind [List.getElem?_eq_getElem,List.getElem_inj]
   .cases hq
theorem SB {a m d:Nat}{g:Value->Option Value}(hg:∀ v u,g v=some u->Sh a m d v u):∀ (vs us:List Value),Z8a g vs=some us->vs.length=us.length/\∀ (i:Nat) (v u:Value),vs[i]?=some v->us[i]?=some u->Sh a m d v u
 |[],us,h=>by obtain rfl:=osj h;simp_all
 |v::vs,us,h=>by
  simp only[Z8a] at h;split at h
  .cases h
  .rename_i u hu;split at h
   .cases h
   .rename_i j9 dy;obtain rfl:=osj h;obtain⟨h1,h2⟩:=SB hg vs j9 dy
    grind
theorem Z1c (a m d:Nat):∀ (f:Nat) (v u:Value),shX a m d f v=some u->Sh a m d v u:=by
 intro f;induction f with
 |zero=>intro v u h;cases h
 |succ f ih =>
  intro v u h;unfold shX at h;split at h
  .split at h
   .rename_i hc;obtain rfl:=osj h;exact .ptr _ _ hc.1 hc.2
   .cases h
  .split at h
   .rename_i hc;obtain rfl:=osj h;exact .sl _ _ _ _ hc.1 hc.2
   .cases h
  .split at h
   .rename_i p hp;obtain rfl:=osj h;obtain⟨h1,h2⟩:=SB ih _ _ hp;exact .agg _ _ (by simpa using h1) λi k1 k2=>h2 i _ _ (by simp) (by simp)
   .cases h
  .split at h
   .rename_i p hp;obtain rfl:=osj h;obtain⟨h1,h2⟩:=SB ih _ _ hp;exact .tuple _ _ (by simpa using h1) λi k1 k2=>h2 i _ _ (by simp) (by simp)
   .cases h
  .split at h
   .rename_i hc;obtain rfl:=osj h;exact .plain _ hc
   .cases h
theorem Lj {rs:Gk}{h:CH}{U:Heap}(hs:CSim rs h U):∀ (m:List PB) (k:Nat) (refs r:List Nat),Ed h k refs m=some r ->
  Sub refs r/\r.length=k+m.length/\∀ i b,m[i]?=some b->∃ wr c',U.get (r.getD (k+i) 0)=some (.cells c' b.esz wr b.tight)/\LRen r.length (gcP 0 r) b.c c'
 |[],k,refs,r,hb=>by
  simp only[Ed] at hb;split at hb
  .rename_i hl;obtain rfl:=osj hb;exact⟨⟨[],by simp⟩,by simp[hl],λi b h=>by simp at h⟩
  .cases hb
 |b::m,k,refs,r,hb=>by
  simp only[Ed] at hb;split at hb
  .rename_i hk;split at hb
   .rename_i c e w t hg;split at hb
    .rename_i p hp;split at hb
     .rename_i hc;simp only[z0,zh,zX] at hc;obtain⟨rfl,rfl,h3⟩:=hc;have h3:=Gl (H6 20) _ _ h3;obtain⟨s1,s2⟩:=Ks (P7 0 8) _ _ _ hp;obtain⟨i1,i2,i3⟩:=Lj hs m (k+1) p.2 r hb;have jz:=s1.sub.trans i1;refine⟨jz,by rw[i2,zV];omega,λi b' cq=>?_⟩;cases i with
      |zero =>
       have cq:b=b':=by simpa using cq
       subst cq;obtain⟨u,hu⟩:=jz;have cW:r.getD (k+0) 0=refs.getD k 0:=by
        grind
       have hl:=s2 r i1;rw[h3,zU] at hl;exact⟨w,c,by rw[cW];exact hs.cells hg,hl⟩
      |succ i =>
       have:=i3 i b' (by simpa using cq)
       rwa [show k+1+i=k+(i+1) by omega] at this
     .cases hb
    .cases hb
   .cases hb
  .cases hb
theorem TS {rs:Gk}:∀ (fr:List PB) {h:CH}{U:Heap},CSim rs h U->h.n+fr.length<=1000000000->CSim rs (Bg fr h) (YS U fr)/\(Bg fr h).n=h.n+fr.length
 |[],h,U,hs,_=>by
  have:YS U []=U:=Heap.ext' (λj=>by
   show (if j<U.n then U.get j else _)=_;split
   .rfl
   .rename_i hj;rw[U.wf j (by omega)];simp) rfl
  rw[this];exact⟨hs,rfl⟩
 |b::l,h,U,hs,hr=>by
  have hr:h.n+(l.length+1)<=1000000000:=hr;have hn:=hs.n;have h1:CSim rs (h.push (.cells b.c b.esz true b.tight)) (U.push (b.blk true)):=hs.push (Nat.ble_eq_true_of_le (by omega)) rfl;obtain⟨h2,h3⟩:=TS l h1 (by show h.n+1+_<=_;omega);refine⟨?_,by rw[show Bg (b::l) h=Bg l (h.push (.cells b.c b.esz true b.tight)) from rfl,h3];show h.n+1+l.length=h.n+(l.length+1);omega⟩;have:YS U (b::l)=YS (U.push (b.blk true)) l:=Heap.ext' (λj=>by
   show (if j<U.n then U.get j else _)=(if j<U.n+1 then (U.push (b.blk true)).get j else _);rcases Nat.lt_trichotomy j U.n with hj|hj|hj
   .rw[z6 hj,z6 (by omega),Heap.q0i _ _ hj]
   .subst hj;rw[z7 (by omega),z6 (by omega),Heap.q0a];simp
   .rw[z7 (by omega),z7 (by omega)];rw[show j-U.n=(j-(U.push (b.blk true)).n)+1 by simp;omega];rfl) (by simp[YS];omega)
  rw[this];exact h2
theorem Ll {h:CH}{args:List Value}{refs:List Nat}:∀ (ms:List Memo) (m:Memo),Q28 h args refs ms=some m->m∈ms/\args=m.args/\(Ed h 0 refs m.bl).isSome=true
 |[],m,h=>by cases h
 |m0::ms,m,h=>by
  simp only[Q28] at h;split at h
  .rename_i hc;obtain rfl:=osj h;rw[z0] at hc
   grind [List.mem_cons_self,Gl,H6]
  .obtain⟨h1,h2⟩:=Ll ms m h;simp_all
theorem CW {f:FuncId}{args:List Value}{ms:List Memo}(hm:∀ m∈ms,Q70 P f m) {rs:Gk}{h:CH}{U:Heap}(hs:CSim rs h U) {p:Value×CH}(hp:I6 h args ms=some p)
  {K:Value->Heap->Prop}(hK:∀ U',h.n<=p.2.n->CSim rs p.2 U'->K p.1 U'):VCalled P f args U K:=by
 unfold I6 at hp;split at hp
 .cases hp
 .rename_i q hq;split at hp
  .cases hp
  .rename_i m kQ;obtain⟨h1,h2,h3⟩:=Ll ms m kQ;obtain⟨k1,k3⟩:=hm m h1;obtain⟨r,jN⟩:=Option.isSome_iff_exists.1 h3;obtain⟨l0,l1,l2⟩:=Lj hs _ _ _ _ jN;rw[zU] at l1;split at hp
   .cases hp
   .rename_i hr;have hr:=zx hr;split at hp
    .rename_i v hv;obtain rfl:=osj hp;obtain⟨s1,s2⟩:=TS m.fr hs hr;have hx:=(Ks (P7 0 8) _ _ _ hq).2 r l0;rw[h2,l1] at hx;refine VCalled.localize (π:=gcP 0 r) k1 k3 (λi b hb=>?_) (by simpa using hx) ?_ (hK _ (by rw[s2];omega) s1)
     .obtain⟨wr,c',g1,g2⟩:=l2 i b hb;rw[l1] at g2;exact⟨wr,c',by simpa [gcP] using g1,g2⟩
     .have:=Z1c _ _ _ _ _ _ hv
      rwa [hs.n] at this
    .cases hp
theorem Lo (hm:P.follows .mixedOrders=true) (hT:TabOk P T) (cK:Sd P ev) (hG:Good R G) {ys:Ys}{f:FuncId}{args:List Value}{h:CH}{k:Value->CH->A}{rs:Gk}{U:Heap}{K:Value->Heap->Prop}
  (hY:YOk P ys rs h.n) (hs:CSim rs h U) (he:G (Q0r T ev R ys f args h k)) (hk:Z5h G rs h k K):VCalled P f args U K:=by
 unfold Q0r at he;split at he
 .rename_i vc rl nt hf;have hF:=hT.code f vc rl nt hf;split at he
  .rename_i hb;exact hF.calls hm Rw (cK R G hG ys vc none _ _ h _ rs U _ hY hs (ET.q1p (zx hb)) he (B4 hG hk))
  .exact(hG.fail he).elim
 .rename_i vc rl nt hf;have hF:=hT.codeJ f vc rl nt hf;split at he
  .rename_i hb;split at he
   .rename_i x hx;split at he
    .rename_i hc;have aK:x.2.n<=1000000000:=zx hc.1;have hK:=hk x.1 x.2 rs _ (zx hc.2) (λ_ _=>rfl) (TA (by omega)) he;refine hF.calls hm Rw (cK joinOps (Q55 x) (I1 x) ys vc none _ _ h _ rs U _ hY hs (ET.q1p (zx hb)) (show Q55 x _ from ⟨x,hx,rfl,rfl,λ_=>rfl⟩) ?_);intro e dx h' bu U' ae hn hr a_ bZ _ hg;have fin:Q55 x (match Bf dx h' rl with|some v=>OQ h h' v|none=>none)->Zm (Jl ae U' rl) λv=>∃ v' aF,DropTo U v U' v' aF/\K v' aF:=by
      rintro⟨y,hy,h1,h2,h3⟩;split at hy
      .rename_i v hv;rw[BZ a_ bZ hv];exact⟨_,_,TO hs a_ hr hy h1 h2 h3,hK⟩
      .cases hy
     cases e with
     |normal=>exact fin hg
     |ret=>exact fin hg
     |_=>obtain⟨y,hy,_⟩:=hg;cases hy
    .exact(hG.fail he).elim
   .exact(hG.fail he).elim
  .exact(hG.fail he).elim
 .rename_i vc rl nt ms hf;obtain⟨hF,hM⟩:=hT.codeM f vc rl nt ms hf;split at he
  .rename_i p hp;exact CW hM hs hp λU' hn a_=>hk _ _ rs U' hn (λ_ _=>rfl) a_ he
  .split at he
   .rename_i hb;exact hF.calls hm Rw (cK R G hG ys vc none _ _ h _ rs U _ hY hs (ET.q1p (zx hb)) he (B4 hG hk))
   .exact(hG.fail he).elim
 .rename_i hf;split at he
  .rename_i v;exact hT.same f hf v U K (hk v h rs U (z9 _) (λ_ _=>rfl) hs he)
  .exact(hG.fail he).elim
 .exact(hG.fail he).elim
theorem I7 (hm:P.follows .mixedOrders=true) (cK:Sd P ev) (hG:Good R G) {ys:Ys}{f:FuncId}{vc:VCode}{rl:List VResult}{nt:Nat}(hf:T f=some (.code vc rl nt)) (hF:Fun P f vc rl nt) {args:List Value}{h:CH}{k:Value->CH->A}{rs:Gk}{U:Heap}{K:Value->Heap->Prop}
  (hY:YOk P ys rs h.n) (hs:CSim rs h U) (he:G (Q0r T ev R ys f args h k)) (hk:Z5h G rs h k K):VCallsTo P f args U K:=by
 unfold Q0r at he;rw[hf] at he;simp only at he;split at he
 .rename_i hb;exact hF.callsTo hm Rw (cK R G hG ys vc none _ _ h _ rs U _ hY hs (ET.q1p (zx hb)) he (B4 hG hk))
 .exact(hG.fail he).elim
theorem IN (cK:Sd P ev) (hG:Good R G) {ys:Ys}{i:Nat}{args:List Value}{h:CH}{k:Value->CH->A}{rs:Gk}{U:Heap}{K:Value->Heap->Prop}
  (hY:YOk P ys rs h.n) (hs:CSim rs h U) (he:G (Q5z ev R ys i args h k)) (hk:Z5h G rs h k K):SN P i args U K:=by
 unfold Q5z at he;split at he
 .rename_i c hc;obtain⟨aS,kX,ak⟩:=hY i c hc;split at he
  .rename_i hg;split at he
   .rename_i hlen;refine ak args U K ⟨hs.lp hg,hlen,?_⟩;refine cK R G hG ys c.a (some i) _ _ h _ rs U _ hY hs (Ey c.ps args kX) he ?_;intro e j_ h1 fA σ1 bq gh fL fh fv _ gT;cases e with
    |normal =>
     simp only[Z2w] at gT;split at gT
     .rename_i jc;have e1:fA i=rs i:=fL i aS;have nD:=fh.lp jc;rw[e1] at nD;refine⟨nD,?_⟩;have j8:=fh.lt jc;refine cK R G hG ys c.b (some i) j_ bq _ _ fA _ _ (hY.mono (n':=(h1.upd i (.lp .busy none)).n) gh fL) (fh.upd j8 (b:=.lp .busy none) (by rw[EB.to,e1])) fv gT ?_;intro e2 ka h2 gH σ2 bg fP gW dw ke _ eK;have lk:h1.n<=h2.n:=fP;have kf:gH i=rs i:=(gW i j8).trans e1;unfold Q7p at eK;split at eK
      .rename_i nE;have gA:=dw.lt nE;have nF:=dw.lp nE;rw[kf] at nF;refine⟨nF,?_⟩;have dE:∀ j,j<h.n->gH j=rs j:=λj hj=>(gW j (zH hj gh)).trans (fL j hj);cases e2 with
       |normal=>exact hk _ (h2.upd i (.lp .ready none)) gH _ (x6 gh lk) dE (dw.upd gA (b:=.lp .ready none) (by simp only[EB.to,kf])) eK
       |ret=>exact hk _ (h2.upd i (.lp .done (some .ret))) gH _ (x6 gh lk) dE (dw.upd gA (b:=.lp .done (some .ret)) (by simp only[EB.to,kf])) eK
       |exit id=>exact hk _ (h2.upd i (.lp .done (some (.exit id)))) gH _ (x6 gh lk) dE (dw.upd gA (b:=.lp .done (some (.exit id))) (by simp only[EB.to,kf])) eK
       |_=>exact(hG.fail eK).elim
      .exact(hG.fail eK).elim
     .exact(hG.fail gT).elim
    |_=>exact(hG.fail gT).elim
   .exact(hG.fail he).elim
  .exact(hG.fail he).elim
 .exact(hG.fail he).elim
theorem TQ (hG:Good R G) {i m since clock:Nat}{seen:List Nat}{h:CH}{k:Value->CH->A}:∀ (es:List JO),
  (∀ e∈es,seen.contains e.2.2=true)/\BX R i m since clock seen h k es=none \/
  ∃ a,BX R i m since clock seen h k es=some a/\(G a->∀ e∈es,seen.contains e.2.2=false->G (k (.tuple #[.bool true,e.1,e.2.1]) (h.upd i (.iter m since (seen++[e.2.2]) clock))))
 |[]=>.inl ⟨λ_ h=>(by cases h),rfl⟩
 |e::es=>by
  have ih:=TQ hG (i:=i) (m:=m) (since:=since) (clock:=clock) (seen:=seen) (h:=h) (k:=k) es;by_cases hc:seen.contains e.2.2=true
  .have he:BX R i m since clock seen h k (e::es)=BX R i m since clock seen h k es:=by rw[BX,z6 hc]
   simp_all
  .rcases ih with⟨h1,h2⟩|⟨a,h1,h2⟩
   .refine .inr ⟨k (.tuple #[.bool true,e.1,e.2.1]) (h.upd i (.iter m since (seen++[e.2.2]) clock)),by rw[BX,z7 hc,h2],λpb x hx bH=>?_⟩
    grind
   .refine .inr ⟨R.both (k (.tuple #[.bool true,e.1,e.2.1]) (h.upd i (.iter m since (seen++[e.2.2]) clock))) a,by rw[BX,z7 hc,h1],λpb x hx bH=>?_⟩;obtain⟨g1,g2⟩:=hG.both _ _ pb
    grind
theorem Q0w (hG:Good R G) {x:Value}{h:CH}{k:Value->CH->A}{rs:Gk}{U:Heap}{K:Value->Heap->Prop}(hs:CSim rs h U) (he:G (Z42 R x h k)) (hk:Z5h G rs h k K):Q0h x U K:=by
 unfold Z42 at he;unfold Q0h;split at he
 .rename_i i;split at he
  .rename_i m since seen last hg;have hi:=hs.lt hg;simp only[hs.iter hg];split at he
   .rename_i es clock wr fS;obtain⟨k1,_⟩:=hs.mapAt fS;simp only[k1];split at he
    .rename_i hc;refine⟨hc.1,hc.2,?_⟩;rcases TQ hG (i:=i) (m:=m) (since:=since) (clock:=clock) (seen:=seen) (h:=h) (k:=k) es with⟨h1,h2⟩|⟨a,h1,h2⟩
     .rw[h2] at he;simp only at he;split at he
      .exact⟨λ_=>hk _ _ rs U (z9 _) (λ_ _=>rfl) hs he,(by grind)⟩
      .exact(hG.fail he).elim
     .rw[h1] at he;simp only at he;have key:G a->∀ e∈es,seen.contains e.2.2=false->K (.tuple #[.bool true,e.1,e.2.1]) (U.upd i (.obj (.iter m since (seen++[e.2.2]) clock) true)):=λpb e jC sh =>
       hk _ (h.upd i (.iter m since (seen++[e.2.2]) clock)) rs _ (z9 _) (λ_ _=>rfl) (hs.upd hi rfl) (h2 pb e jC sh)
      split at he
      .obtain⟨g1,g2⟩:=hG.both _ _ he;exact⟨λ_=>hk _ _ rs U (z9 _) (λ_ _=>rfl) hs g1,key g2⟩
      grind
    .exact(hG.fail he).elim
   .exact(hG.fail he).elim
  .exact(hG.fail he).elim
 .exact(hG.fail he).elim
theorem Ek (hm:P.follows .mixedOrders=true) (hT:TabOk P T) (cK:Sd P ev) (hG:Good R G) {ys:Ys}{o:VOp}{et:ET}{env:Env}(hE:FRel et env) {h:CH}{k:Value->CH->A}{rs:Gk}{U:Heap}{K:Value->Heap->Prop}
  (hY:YOk P ys rs h.n) (hs:CSim rs h U) (he:G (Z53 T ev R ys o et h k)) (hk:Z5h G rs h k K):vop (Q4 P) o env U K:=by
 have al:=S3 hE;have other:∀ o':VOp,G (Q73 R (Q1h o' (HA et) h) k)->Zm (Q8 o' (Q5 env) U) λp=>K p.1 p.2:=by
  intro o' hg;rw[al] at hg;unfold Q73 at hg;split at hg
  .rename_i p hp;obtain⟨h1,U',h2,h3⟩:=Vw hs hp;rw[h2];exact hk _ _ rs U' h1 (λ_ _=>rfl) h3 hg
  .exact(hG.fail hg).elim
 cases o
 case callF f args =>
  simp only[Z53,al] at he;exact Lo hm hT cK hG hY hs he hk
 case callV f args =>
  simp only[Z53,al] at he;simp only[vop];unfold Z3e at he;split at he
  .rename_i g first cap hg
   simp only[hg];exact Lo hm hT cK hG hY hs he hk
  .rename_i i first cap hg
   simp only[hg];exact IN cK hG hY hs he hk
  .exact(hG.fail he).elim
 case ext x =>
  cases x
  case nextMap x =>
   simp only[Z53,al] at he;exact Q0w hG hs he hk
  case delete a b c=>exact other (.ext (.delete a b c)) he
  case mapEntry a z b c=>exact other (.ext (.mapEntry a z b c)) he
  case entryStore a b c=>exact other (.ext (.entryStore a b c)) he
  all_goals exact other _ he
 case move a=>exact other (.move a) he
 case makeFunc a b c=>exact other (.makeFunc a b c) he
 case bad=>exact other .bad he
 all_goals exact other _ he
theorem L_ (hm:P.follows .mixedOrders=true) (hT:TabOk P T) (cK:Sd P ev) (hG:Good R G) {ys:Ys}{k:ET->CH->A}{K:Env->Heap->Prop}:∀ (ops:List VOper) (et:ET) (env:Env) (h:CH) (rs:Gk) (U:Heap),
  YOk P ys rs h.n->CSim rs h U->FRel et env->G (Q62 T ev R ys ops et h k)->Q9n G rs h (List.length env) k K->A0 (Q4 P) ops env U K:=by
 intro ops;induction ops with
 |nil=>intro et env h rs U hY hs hE he hk;exact hk et h rs U env (z9 _) (λ_ _=>rfl) hs hE rfl he
 |cons o rest ih =>
  intro et env h rs U hY hs hE he hk
  have he:G (match Q6w et o.guard with
   |none=>R.fail
   |some true=>Z53 T ev R ys o.op et h λv h'=>Q62 T ev R ys rest (et.put o.dst v) h' k
   |some false=>Q62 T ev R ys rest (et.put o.dst undef) h k):=he
  rw[Q2n hE] at he;simp only[A0];split at he
  .exact(hG.fail he).elim
  .rename_i hw;rw[hw];refine⟨λ_=>?_,λhh=>by cases hh⟩;refine Ek hm hT cK hG hE hY hs he ?_;intro v h' bu U' hn hr a_ hg;refine ih _ _ h' bu U' (hY.mono hn hr) a_ (hE.put _ _) hg ?_;intro ka h2 gH σ2 bg fP gW dw ke hl eK;exact hk ka h2 gH σ2 bg (x6 hn fP) (by grind) dw ke (by rw[hl,J0]) eK
  .rename_i hw;rw[hw];refine⟨λhh=>(by cases hh),λ_=>?_⟩;refine ih _ _ h rs U hY hs (hE.put _ _) he ?_
   grind [J0]
def CSims (rs:Gk) (n:Nat):List CH->List Heap->Prop
 |[],[]=>True
 |h::hs,U::σs=>(CSim rs h U/\h.n<=n)/\CSims rs n hs σs
 |_,_=>False
theorem CSims.mono {rs bu:Gk}{n n':Nat}(hn:n<=n') (hr:∀ i,i<n->bu i=rs i):∀ {hs:List CH}{σs:List Heap},CSims rs n hs σs->CSims bu n' hs σs
 |[],[],_=>trivial
 |h::hs,U::σs,⟨⟨h1,h2⟩,h3⟩=>⟨⟨h1.rs λi hi=>hr i (by omega),by omega⟩,CSims.mono hn hr h3⟩
 |[],_::_,h=>h.elim
 |_::_,[],h=>h.elim
theorem CSims.snoc {rs:Gk}{n:Nat}{h:CH}{U:Heap}(hs:CSim rs h U) (hn:h.n<=n):∀ {hl:List CH}{σl:List Heap},CSims rs n hl σl->CSims rs n (hl++[h]) (σl++[U])
 |[],[],_=>⟨⟨hs,hn⟩,trivial⟩
 |_::_,_::_,⟨h1,h2⟩=>⟨h1,CSims.snoc hs hn h2⟩
 |[],_::_,h=>h.elim
 |_::_,[],h=>h.elim
theorem TP {rs:Gk}{h:CH}{U:Heap}(hs:CSim rs h U) {op:VOp}{ev:Operand->Value}{v:Value}(hr:Q2w op ev v h=true):XD op ev v U:=by
 unfold Q2w at hr;split at hr
 .rename_i q hq;obtain⟨_,U',h2,_⟩:=Vw hs hq;unfold XD;rw[h2];exact H6 _ _ _ hr
 .cases hr
def Q9z:List (Nat×(CH->Bool))->List (Nat×(Heap->Prop))->Prop
 |[],[]=>True
 |c::l,d::m=>(c.1=d.1/\∀ rs h U,CSim rs h U->c.2 h=true->d.2 U)/\Q9z l m
 |_,_=>False
theorem Hg {rs:Gk}{h:CH}{U:Heap}(hs:CSim rs h U) {r:Nat}:∀ {l:List (Nat×(CH->Bool))}{m:List (Nat×(Heap->Prop))},Q9z l m->Q76 r h l=true->XK r U m
 |[],[],_,_=>trivial
 |c::l,d::m,⟨⟨h1,h2⟩,h3⟩,he=>by
  simp only[Q76,z0,zr,Bool.not_eq_true'] at he;refine⟨λhr=>h2 rs h U hs ?_,Hg hs h3 he.2⟩
  grind [Nat.ble_eq_true_of_le]
 |[],_::_,h,_=>h.elim
 |_::_,[],h,_=>h.elim
theorem CSims.mem {rs:Gk}{n:Nat}:∀ {hl:List CH}{σl:List Heap},CSims rs n hl σl->∀ (f:CH->Bool) (Q:Heap->Prop),(∀ rs h U,CSim rs h U->f h=true->Q U)->∀ j,(hl.drop j).all f=true->∀ Z∈σl.drop j,Q Z
 |[],[],_,_,_,_,_,_,Z,hτ=>by simp at hτ
 |h::hl,U::σl,⟨h1,h2⟩,f,Q,hQ,0,ha,Z,hτ=>by
  simp only[xB,zP,z0,zN] at ha hτ;rcases hτ with rfl|hτ
  .exact hQ rs h Z h1.1 ha.1
  .exact CSims.mem h2 f Q hQ 0 (by simpa using ha.2) Z (by simpa using hτ)
 |h::hl,U::σl,⟨h1,h2⟩,f,Q,hQ,j+1,ha,Z,hτ=>CSims.mem h2 f Q hQ j (by simpa using ha) Z (by simpa using hτ)
 |[],_::_,h,_,_,_,_,_,_,_=>h.elim
 |_::_,[],h,_,_,_,_,_,_,_=>h.elim
theorem CSims.length {rs:Gk}{n:Nat}:∀ {hl:List CH}{σl:List Heap},CSims rs n hl σl->hl.length=σl.length
 |[],[],_=>rfl
 |_::_,_::_,⟨_,h⟩=>by simp[CSims.length h]
 |[],_::_,h=>h.elim
 |_::_,[],h=>h.elim
theorem TM (hm:P.follows .mixedOrders=true) (hT:TabOk P T) (cK:Sd P ev) (hG:Good R G) {ys:Ys}{k:ET->CH->A}{K:Env->Heap->Prop}:∀ (ops:List DOper) (et:ET) (env:Env) (hl:List CH) (h:CH) (pe:List (Nat×(CH->Bool))) (rs:Gk) (σl:List Heap) (U:Heap) (pv:List (Nat×(Heap->Prop))),
  YOk P ys rs h.n->CSim rs h U->FRel et env->CSims rs h.n hl σl->Q9z pe pv->G (By T ev R ys ops et hl h pe k)->Q9n G rs h (List.length env) k K->Z_ (Q4 P) ops env σl U pv K:=by
 intro ops;induction ops with
 |nil=>intro et env hl h pe rs σl U pv hY hs hE ll hp he hk;exact hk et h rs U env (z9 _) (λ_ _=>rfl) hs hE rfl he
 |cons o rest ih =>
  intro et env hl h pe rs σl U pv hY hs hE ll dV he hk;have al:=S3 hE;simp only[By,Q2n hE,al] at he;simp only[Z_];have hlen:=ll.length;split at he
  .exact(hG.fail he).elim
  .rename_i hw;rw[hw];refine⟨λ_=>?_,λhh=>by cases hh⟩;split at he
   .rename_i aw;rw[z6 aw];split at he
    .rename_i p hp;split at he
     .rename_i ln;obtain⟨dS,um⟩:=ln;simp only[CH.newOk,z0,zf] at dS;obtain⟨n1,n2,n3⟩:=dS;have n1:h.n<=p.2.n:=zx n1;have n2:p.2.n<=1000000000:=zx n2;have nG:CSim rs p.2 (p.2.toHeap rs):=TA (by omega);refine .inl ⟨p.1,p.2.toHeap rs,?_,?_,?_⟩
      .refine Ek hm hT cK (Z4t p) hE hY hs hp ?_;intro v h' bu U' hn hr a_ hg;have hg:(v,h')=p:=osj hg;subst hg;refine⟨rfl,?_⟩;have:CSim rs h' U':=by
        refine⟨a_.n,a_.sm,λi=>?_⟩;rw[a_.get];cases jc:h'.get i with
        |none=>rfl
        |some b =>
         rcases zo i h.n with hi|hi
         .rw[hr i hi]
         .have aS:=a_.lt jc;have:=n3 i (List.mem_range'_1.2 ⟨hi,by simp at n1 |-;omega⟩);simp only[jc] at this;cases b<;>first|rfl|cases this
       exact this.eq
      .grind [Hg]
      .refine ih _ _ _ p.2 pe rs _ _ pv (hY.mono n1 (λ_ _=>rfl)) nG (hE.put _ _) ((ll.mono n1 (λ_ _=>rfl)).snoc nG (z9 _)) dV he ?_;intro ka h2 gH σ2 bg fP gW dw ke cN eK;exact hk ka h2 gH σ2 bg (x6 n1 fP) (λi hi=>gW i (by omega)) dw ke (by rw[cN,J0]) eK
     .exact(hG.fail he).elim
    .exact(hG.fail he).elim
   .rename_i aw;rw[z7 aw];have done:∀ (u:Value) (pc:List (Nat×(CH->Bool))) (pg:List (Nat×(Heap->Prop))),Q9z pc pg->G (By T ev R ys rest (et.put o.dst u) hl h pc k)->Z_ (Q4 P) rest (XH env o.dst u) σl U pg K:=by
     intro u pc pg bE hg;refine ih _ _ hl h pc rs σl U pg hY hs (hE.put _ _) ll bE hg ?_
     grind [J0]
    split at he
    .rename_i bp;rw[z6 bp];split at he
     .rename_i p hp;split at he
      .rename_i hall;obtain⟨_,U',h2,_⟩:=Vw hs hp;rw[h2];refine⟨ll.mem _ _ (by grind [TP]) _ hall,?_⟩;refine done _ _ _ ?_ he;rw[<-hlen];split
       .exact⟨⟨rfl,λrs h U hc hf=>TP hc hf⟩,dV⟩
       .exact dV
      .exact(hG.fail he).elim
     .exact(hG.fail he).elim
    .rename_i bp;rw[z7 bp];split at he
     .rename_i p hp;obtain⟨_,U',h2,_⟩:=Vw hs hp;rw[h2];exact done _ _ _ dV he
     .exact(hG.fail he).elim
  .rename_i hw;rw[hw];refine⟨λhh=>(by cases hh),λ_=>?_⟩;split at he
   .rename_i aw;rw[z6 aw];split at he
    .rename_i um;refine⟨by grind [Hg],?_⟩;refine ih _ _ _ h pe rs _ U pv hY hs (hE.put _ _) (ll.snoc hs (z9 _)) dV he ?_
     grind [J0]
    .exact(hG.fail he).elim
   .rename_i aw;rw[z7 aw];refine ih _ _ _ h pe rs _ U pv hY hs (hE.put _ _) ll dV he ?_
    grind [J0]
theorem ET.q2g {e:ET}{env:Env}(h:FRel e env):e.list=env:=by
 apply zT;intro i;unfold ET.list;rw[xx];rcases zo i e.m with hi|hi
 .rw[List.getElem?_range hi];have:=h.get i;rw[h.m] at hi;simp_all
 .rw[x7 (by simpa using hi),x7 (by rw[<-h.m];exact hi)];rfl
theorem Ih {ρ:Plc}{n:Nat}{vs:Array Value}{cs:List Value}(h:VRel ρ n (.tuple vs) (.tuple cs.toArray)):LRel ρ n vs.toList cs:=by
 obtain⟨ds,he,hl⟩:=h.q1m
 grind
theorem O0 (hm:P.follows .mixedOrders=true) (hT:TabOk P T) (cK:Sd P ev) {ys:Ys}{x:Value×CH}{vs:Array Value}(jV:x.1=.tuple vs) {K:Env->Heap->Prop}{et:ET}{env:Env}{h:CH}{rs:Gk}{U:Heap}(hY:YOk P ys rs h.n) (hs:CSim rs h U) (hE:FRel et env)
  (hk:K vs.toList (x.2.toHeap rs)):∀ (alts:List (List DOper)),Q55 x (Q23 T ev ys et h alts)->∀ ops∈alts,Z_ (Q4 P) ops env [U] U [] λbq σ1=>∃ bg σ2,DropE U bq σ1 bg σ2/\K bg σ2:=by
 have one:∀ a:List DOper,Q55 x (Z4o T ev ys et h a)->Z_ (Q4 P) a env [U] U [] λbq σ1=>∃ bg σ2,DropE U bq σ1 bg σ2/\K bg σ2:=by intro a ha;refine TM hm hT cK (I1 x) a et env [h] h [] rs [U] U [] hY hs hE ⟨⟨hs,z9 _⟩,trivial⟩ trivial ha ?_;intro dx h' bu U' ae hn hr a_ bZ hl hg;obtain⟨y,hy,h1,h2,h3⟩:=hg;unfold Z88 at hy;have hd:=TO hs a_ hr hy h1 h2 h3;rw[ET.q2g bZ,jV] at hd;refine⟨vs.toList,x.2.toHeap rs,?_,hk⟩;intro ρ0 w0 ρ w cs fM qb hH hL;obtain⟨ρ',d1,d2,d3⟩:=hd ρ0 w0 ρ w (.tuple cs.toArray) fM qb hH (VRel.q0j hL);exact⟨ρ',Ih d1,d2,d3⟩
 intro alts;induction alts with
 |nil=>rintro⟨y,hy,_⟩;cases hy
 |cons a l ih =>
  intro he ops ho;cases l with
  |nil =>obtain rfl:=zK.1 ho;exact one _ he
  |cons b r =>
   obtain⟨g1,g2⟩:=(I1 x).both _ _ he;rcases zN.1 ho with rfl|ho
   .exact one _ g1
   .exact ih g2 ops ho
theorem OH (hm:P.follows .mixedOrders=true) (hT:TabOk P T) (cK:Sd P ev) (hG:Good R G) {ys:Ys}{k:ET->CH->A}{K:Env->Heap->Prop}:∀ (aT:List DSeg) (et:ET) (env:Env) (h:CH) (rs:Gk) (U:Heap),
  YOk P ys rs h.n->CSim rs h U->FRel et env->G (Ck T ev R ys aT et h k)->Q9n G rs h (List.length env) k K->Bj (Q4 P) aT env U K:=by
 intro aT;induction aT with
 |nil=>intro et env h rs U hY hs hE he hk;exact hk et h rs U env (z9 _) (λ_ _=>rfl) hs hE rfl he
 |cons x rest ih =>
  intro et env h rs U hY hs hE he hk;have next:Q9n G rs h (List.length env) (λet h=>Ck T ev R ys rest et h k) (λenv U=>Bj (Q4 P) rest env U K):=by intro j_ h1 fA σ1 bq gh fL fh fv dz gT;refine ih j_ bq h1 fA σ1 (hY.mono gh fL) fh fv gT ?_;intro ka h2 gH σ2 bg fP gW dw ke cN eK;exact hk ka h2 gH σ2 bg (x6 gh fP) (by grind) dw ke (cN.trans dz) eK
  cases x with
  |one o=>exact L_ hm hT cK hG [o] et env h rs U hY hs hE he next
  |alts l =>
   have many:G (match Q23 T ev ys et h l with
     |some x=>(match x.1 with
      |.tuple vs=>if x.2.room=true/\Nat.ble h.n x.2.n=true/\vs.toList.length=et.m then Ck T ev R ys rest (ET.of vs.toList 0) x.2 k else R.fail
      |_=>R.fail)
     |none=>R.fail)->Bj (Q4 P) (.alts l::rest) env U K:=by
    intro he;split at he
    .rename_i x hx;split at he
     .rename_i vs jV;split at he
      .rename_i hc;obtain⟨c1,c2,c3⟩:=hc;have aK:x.2.n<=1000000000:=zx c1;have uo:FRel (ET.of vs.toList 0) vs.toList:=by
        have:=ET.q1p (args:=vs.toList) (nt:=0) (by show vs.toList.length+(0-vs.toList.length)<=_;have:=hE.sm;omega);simpa using this
       exact O0 hm hT cK jV hY hs hE (next _ x.2 rs _ _ (zx c2) (λ_ _=>rfl) (TA (by omega)) uo (by rw[c3,hE.m]) he) l ⟨x,hx,rfl,rfl,λ_=>rfl⟩
      .exact(hG.fail he).elim
     .exact(hG.fail he).elim
    .exact(hG.fail he).elim
   match l,he with
   |[],he=>exact many he
   |[a],he =>intro ops ho;obtain rfl:=zK.1 ho;refine TM hm hT cK hG ops et env [h] h [] rs [U] U [] hY hs hE ⟨⟨hs,z9 _⟩,trivial⟩ trivial he ?_;intro dx h' bu U' ae hn hr a_ bZ hl hg;exact⟨ae,U',.refl _ _ _,next dx h' bu U' ae hn hr a_ bZ hl hg⟩
   |a::b::r,he=>exact many he
def OW (P:Program) (T:Tab) (ev:Z5k) (c:VCode):Prop:=∀ {A:Type}(R:AnsOps A) (G:A->Prop),Good R G->∀ (ys:Ys) (ro:Option Nat) (et:ET) (env:Env) (h:CH) (k:Exit->ET->CH->A) (rs:Gk) (U:Heap) (Q:Exit->Env->Heap->Prop),
 YOk P ys rs h.n->CSim rs h U->FRel et env->G (IP T ev R ys c ro et h k)->Z13 G rs h (List.length env) k Q->vwp (Q4 P) c ro Q env U
theorem IF (hm:P.follows .mixedOrders=true) (hT:TabOk P T) (cK:Sd P ev) (hG:Good R G) {ys:Ys}{g:Operand}{ps:List Nat}{a b:VCode}{ro:Option Nat}{et:ET}{env:Env}{h:CH}{k:Exit->ET->CH->A}{rs:Gk}{U:Heap}{Q:Exit->Env->Heap->Prop}
  (hY:YOk P ys rs h.n) (hs:CSim rs h U) (hE:FRel et env) (he:G (Q8d T ev R ys (HA et g) ps a b ro et h k)) (hk:Z13 G rs h (List.length env) k Q):vwp (Q4 P) (.rangeF g ps a b) ro Q env U:=by
 rw[S3 hE] at he;unfold Q8d at he;simp only[vwp,OJ];split at he
 .rename_i f first cap hg
  simp only[hg];split at he
  .rename_i vc rl nt hf;have hF:=hT.code f vc rl nt hf;split at he
   .rename_i ln;obtain⟨aS,aK⟩:=ln;have mZ:(Q4 P).it f=some λi Y args U K=>UR P i Y->VCallsTo P f args U K:=by
     simp only[Q4];rw[z6 hF.enterable]
    rw[mZ];refine⟨?_,λr uq=>?_⟩
    .cases ro with
     |none=>trivial
     |some i =>
      simp only[Z2d] at aS;split at aS
      .rename_i st pend jc;exact⟨_,_,_,_,hs.lp jc⟩
      .cases aS
    .let fA:Gk:=λi=>if i=h.n then (env,r) else rs i
     have eI:∀ i,i<h.n->fA i=rs i:=(by grind);have fh:CSim fA (h.push (.lp .ready none)) (U.push (.obj (.lp env r .ready none) true)) :=
      (hs.rs eI).push aK (by simp[EB.to,fA])
     have ur:YOk P ((h.n,⟨ps,a,b,et⟩)::ys) fA (h.push (.lp .ready none)).n:=by
      intro i c hc;simp only[Ys.find] at hc;split at hc
      .rename_i eQ;have eQ:=zL eQ;subst eQ;obtain rfl:=osj hc;refine⟨Nat.lt_succ_self _,by simp only[fA,zt];exact hE,?_⟩;rw[hs.n] at *
       simpa [fA,hs.n] using uq
      .obtain⟨h1,h2,h3⟩:=hY i c hc;rw[eI i h1];exact⟨Nat.lt_succ_of_lt h1,h2,h3⟩
     rw[<-hs.n];refine I7 hm cK hG hf hF ur fh he ?_;intro v h' bu U' hn hr a_ de;have sd:h.n+1<=h'.n:=hn;unfold Z65 at de;unfold Z17;split at de
     .rename_i st pend jc;have hi:=a_.lt jc;simp only[a_.lp jc];split at de
      .rename_i cU;refine⟨(by rintro rfl;cases cU),?_⟩;have dE:∀ j,j<h.n->bu j=rs j:=λj hj=>(hr j (Nat.lt_succ_of_lt hj)).trans (eI j hj);have cL:=a_.kill hi;split at de
       .exact hk _ _ _ bu _ _ (by show h.n<=h'.n;omega) dE cL hE rfl de
       .exact hk _ _ _ bu _ _ (by show h.n<=h'.n;omega) dE cL hE rfl de
       .exact hk _ _ _ bu _ _ (by show h.n<=h'.n;omega) dE cL hE rfl de
       .exact(hG.fail de).elim
      .exact(hG.fail de).elim
     .exact(hG.fail de).elim
   .exact(hG.fail he).elim
  .exact(hG.fail he).elim
 .exact(hG.fail he).elim
theorem ID (hm:P.follows .mixedOrders=true) (hT:TabOk P T) (cK:Sd P ev)
  (nH:∀ b,OW P T ev b->OW P T ev (.loop b)):∀ (c:VCode),OW P T ev c:=by
 intro c;induction c with
 |skip=>intro A R G hG ys ro et env h k rs U Q hY hs hE he hk;exact hk _ _ _ rs U _ (z9 _) (λ_ _=>rfl) hs hE rfl he
 |region ops =>intro A R G hG ys ro et env h k rs U Q hY hs hE he hk;exact L_ hm hT cK hG ops et env h rs U hY hs hE he λdx h' bu U' ae h1 h2 h3 h4 h5 h6=>hk _ _ _ _ _ _ h1 h2 h3 h4 h5 h6
 |regionD aT =>intro A R G hG ys ro et env h k rs U Q hY hs hE he hk;exact OH hm hT cK hG aT et env h rs U hY hs hE he λdx h' bu U' ae h1 h2 h3 h4 h5 h6=>hk _ _ _ _ _ _ h1 h2 h3 h4 h5 h6
 |rangeF g ps a b fz ff =>intro A R G hG ys ro et env h k rs U Q hY hs hE he hk;exact IF hm hT cK hG hY hs hE he hk
 |seq a b fz ff =>
  intro A R G hG ys ro et env h k rs U Q hY hs hE he hk;simp only[vwp];refine fz R G hG ys ro et env h _ rs U _ hY hs hE he ?_;intro e dx h' bu U' ae hn hr a_ bZ hl hg;cases e with
  |normal =>refine ff R G hG ys ro dx ae h' k bu U' Q (hY.mono hn hr) a_ bZ hg ?_;intro e2 ka h2 gH σ2 bg fP gW dw ke cN eK;exact hk e2 ka h2 gH σ2 bg (x6 hn fP) (by grind) dw ke (cN.trans hl) eK
  |_=>exact hk _ dx h' bu U' ae hn hr a_ bZ hl hg
 |cond c a b fz ff =>
  intro A R G hG ys ro et env h k rs U Q hY hs hE he hk;have he:G (Z3r R (HA et c) (IP T ev R ys a ro et h k) (IP T ev R ys b ro et h k)):=he;rw[S3 hE] at he;unfold Z3r at he;simp only[vwp];split at he
  .rename_i hc;rw[hc];exact⟨λ_=>fz R G hG ys ro et env h k rs U Q hY hs hE he hk,λhh=>by cases hh⟩
  .rename_i hc;rw[hc];exact⟨λhh=>(by cases hh),λ_=>ff R G hG ys ro et env h k rs U Q hY hs hE he hk⟩
  .exact(hG.fail he).elim
 |block id b ih =>
  intro A R G hG ys ro et env h k rs U Q hY hs hE he hk;simp only[vwp];refine ih R G hG ys ro et env h _ rs U _ hY hs hE he ?_;intro e dx h' bu U' ae hn hr a_ bZ hl hg;cases e with
  |exit ia =>
   simp only[Q81] at hg;simp only[Q1s];split at hg
   .rename_i a8;rw[z6 a8];exact hk _ dx h' bu U' ae hn hr a_ bZ hl hg
   .rename_i a8;rw[z7 a8];exact hk _ dx h' bu U' ae hn hr a_ bZ hl hg
  |_=>exact hk _ dx h' bu U' ae hn hr a_ bZ hl hg
 |loop b ih =>intro A R G hG ys ro et env h k rs U Q hY hs hE he hk;exact nH b ih R G hG ys ro et env h k rs U Q hY hs hE he hk
 |exit id=>intro A R G hG ys ro et env h k rs U Q hY hs hE he hk;exact hk _ _ _ rs U _ (z9 _) (λ_ _=>rfl) hs hE rfl he
 |ret=>intro A R G hG ys ro et env h k rs U Q hY hs hE he hk;exact hk _ _ _ rs U _ (z9 _) (λ_ _=>rfl) hs hE rfl he
 |bad=>intro A R G hG ys ro et env h k rs U Q hY hs hE he hk;exact(hG.fail he).elim
theorem E7 {v:Value}(h:Q42 v=true):Zl v=true\/∃ vs,v=.tuple vs/\vs.toList.all Zl=true:=by unfold Q42 at h;split at h<;>first|exact .inl rfl|exact .inr ⟨_,rfl,h⟩|cases h
theorem Z0a {ρ:Plc}{n:Nat}{v c:Value}(h:Q42 v=true) (hv:VRel ρ n v c):c=v:=by
 rcases E7 h with hp|⟨vs,rfl,hall⟩
 .exact V7 hp hv
 .obtain⟨ds,rfl,hl⟩:=hv.q1m;have hall:∀ x∈vs.toList,Zl x=true:=zf.1 hall;have:ds.toList=vs.toList:=by
   apply zT;intro i;rcases zo i vs.toList.length with hi|hi
   .have cf:i<ds.toList.length:=by rw[<-hl.1];exact hi
    rw[z8 hi,z8 cf];rw[V7 (hall _ (zl hi)) (hl.2 i _ _ (z8 hi) (z8 cf))]
   .rw[x7 hi,x7 (by rw[<-hl.1];exact hi)]
  rw[Es this]
theorem Q8g {ρ:Plc}{n:Nat}{v:Value}(h:Q42 v=true):VRel ρ n v v:=by
 rcases E7 h with hp|⟨vs,rfl,hall⟩
 .exact Yu hp
 .exact .tuple _ _ rfl (by grind [Yu,List.all_eq_true])
theorem Tf (m:Nat) (env:Env) (h:List.length env=m):RE (List.range m) env=env:=by
 apply zT;intro i;simp only[RE,xx]
 grind
theorem E4:∀ (l:List Nat) (vs base:List Value) (i:Nat),l.Nodup->vs.length=l.length->(∀ x∈l,x<base.length)->(Wx l vs base)[i]?=if i∈l then vs[l.idxOf i]? else base[i]?
 |[],[],base,i,_,_,_=>by simp[Wx]
 |[],_::_,_,_,_,h,_=>by simp at h
 |_::_,[],_,_,_,h,_=>by simp at h
 |x::l,v::vs,base,i,hn,h,hb=>by
  obtain⟨h1,h2⟩:=x8.1 hn;simp only[Wx];rw[E4 l vs _ i h2 (by simpa using h) (by simp_all)]
  grind
theorem OD (m:Nat) (vs:List Value) (h:vs.length=m):Wx (List.range m) vs (List.replicate m poison)=vs:=by
 apply zT;intro i;rw[E4 _ _ _ _ List.nodup_range (by simpa using h) (λx hx=>by simpa using hx)];split
 .rename_i hi;have hi:=xk.1 hi;have:(List.range m).idxOf i=i:=by
   have h1:(List.range m).idxOf i<(List.range m).length:=(by grind);have h2:=List.getElem_idxOf h1
   grind
  rw[this]
 simp_all
theorem Q5e (hm:P.follows .mixedOrders=true) (hT:TabOk P T):∀ (n:Nat) (c:VCode),OW P T (IH T n) c:=by
 intro n;induction n using Nat.strongRecOn with
 |ind n qg =>
  have cK:Sd P (IH T n):=by
   cases n with
   |zero=>intro A R G hG ys c ro et env h k rs U Q hY hs hE he hk;exact(hG.fail he).elim
   |succ n=>intro A R G hG ys c ro et env h k rs U Q hY hs hE he hk;exact qg n (Nat.lt_succ_self _) c R G hG ys ro et env h k rs U Q hY hs hE he hk
  refine ID hm hT cK λb ff=>?_;intro A R G hG ys ro et env h k rs U Q hY hs hE he hk;have nJ:∀ j,j<=n->OW P T (IH T j) b:=(by grind);simp only[vwp];refine⟨List.range (List.length env),λj vs σ1=>j<=n/\∃ j_ h1 fA,h.n<=h1.n/\(∀ i,i<h.n->fA i=rs i)/\CSim fA h1 σ1/\FRel j_ vs/\List.length vs=List.length env/\G (IP T (IH T j) R ys (.loop b) ro j_ h1 k),n,?_,?_⟩
  .rw[Tf _ _ rfl];exact⟨z9 _,et,h,rs,z9 _,λ_ _=>rfl,hs,hE,rfl,he⟩
  .rintro j vs σ1 ⟨hj,j_,h1,fA,g1,g2,g3,gE,g4,g5⟩;rw[OD _ _ g4];refine nJ j hj R G hG ys ro j_ vs h1 _ fA σ1 _ (hY.mono g1 g2) g3 gE g5 ?_;intro e dx h' bu U' ae hn hr a_ bZ hl hg;cases e with
   |normal =>
    cases j with
    |zero=>exact(hG.fail hg).elim
    |succ j =>
     refine⟨j,Nat.lt_succ_self _,by omega,dx,h',bu,x6 g1 hn,(by grind),a_,?_,?_,?_⟩
     .grind [Tf]
     .grind [Tf]
     .exact hg
   |_=>exact hk _ dx h' bu U' ae (x6 g1 hn) (by grind) a_ bZ (hl.trans g4) hg
theorem Q0y (hm:P.follows .mixedOrders=true) (hT:TabOk P T) (n:Nat):Sd P (IH T n):=by
 cases n with
 |zero=>intro A R G hG ys c ro et env h k rs U Q hY hs hE he hk;exact(hG.fail he).elim
 |succ n=>intro A R G hG ys c ro et env h k rs U Q hY hs hE he hk;exact Q5e hm hT n c R G hG ys ro et env h k rs U Q hY hs hE he hk
theorem HRel.forget {ρ:Plc}{U:Heap}{w:World}(hH:HRel ρ U w):HRel (λ_=>none) Heap.empty w :=
 ⟨⟨λi b h=>(by cases h),λ_ _=>rfl,λi p h=>(by cases h),λi j p q b _ h=>(by cases h)⟩,λg cs hg=>⟨(hH.tab g cs hg).1,λ⟨_,_,_,h,_⟩=>by cases h⟩⟩
theorem O2 {f:FuncId}{args:List Value}(ha:args.all Zl=true) {v:Value}(hv:Q42 v=true) (he:Wf P f) (h0:VCallsTo P f args Heap.empty (λu _=>u=v)) {U:Heap}{K:Value->Heap->Prop}(hK:K v U):VCalled P f args U K:=by
 refine VCallsTo.called he ?_;intro ρ w au hH hL;refine (h0 (λ_=>none) w au hH.forget ?_).mono ?_
 .refine⟨hL.1,λi a c jK hc=>?_⟩;have hp:=zf.1 ha a (xe jK);have:=V7 hp (hL.2 i a c jK hc);subst this;exact Yu hp
 .rintro e w' ⟨c,rfl,u,ρ',U',rfl,eu,gj,hE⟩;refine⟨c,rfl,u,ρ,U,hK,?_,?_,?_⟩
  .grind [Z0a,Q8g]
  .exact hH.world hE.size (λi p hp=>hE.keep _ (hH.lt i p hp) (λ⟨_,_,_,h,_⟩=>by cases h)) λg cs hg=>hE.keep _ (hH.tab.lt hg) (λ⟨_,_,_,h,_⟩=>by cases h)
  .exact⟨hE.os,hE.tape,hE.output,hE.size,λB hB _=>hE.keep B hB (λ⟨_,_,_,h,_⟩=>by cases h),λ_ _ h=>h,z9 _,λ_ _ _ h=>h⟩
theorem Z01 (hm:P.follows .mixedOrders=true) (hT:TabOk P T) (n:Nat) {f:FuncId}{vc:VCode}{rl:List VResult}{nt:Nat}(hF:Fun P f vc rl nt) (args:List Value) (ha:args.all Zl=true) (v:Value) (hv:Q42 v=true) (p:Value->Bool) (hp:∀ u,p u=true->u=v)
  (ek:Nat.ble (ET.of args nt).m 1000000=true) (he:IH T n D9 [] vc none (ET.of args nt) CH.empty (Z49 false rl λv _=>p v)=true) {U:Heap}{K:Value->Heap->Prop}(hK:K v U):VCalled P f args U K:=by
 refine O2 ha hv hF.enterable ?_ hK;refine hF.callsTo hm Rw ?_
 exact Q0y hm hT n D9 (·=true) Q1y [] vc none _ _ CH.empty _ (λ_=>([],default)) Heap.empty _ (λi c h=>by cases h) ⟨rfl,by decide,λi=>rfl⟩ (ET.q1p (zx ek)) he
  (B4 (R:=D9) Q1y λv' h' bu U' _ _ _ hg=>hp v' hg)
end
end Go.V
namespace Go.V
open Go
def Z0l (P:Program) (f:FuncId):Option FEnt->Prop
 |none=>True
 |some (.code vc rs nt)=>Fun P f vc rs nt
 |some (.codeJ vc rs nt)=>Fun P f vc rs nt
 |some (.codeM vc rs nt ms)=>Fun P f vc rs nt/\∀ m∈ms,Q70 P f m
 |some .same=>∀ (v:Value) (U:Heap) (K:Value->Heap->Prop),K v U->VCalled P f [v] U K
def EntsOk (P:Program):Nat->List (Option FEnt)->Prop
 |_,[]=>True
 |i,e::l=>Z0l P i e/\EntsOk P (i+1) l
theorem EntsOk.get {P:Program}:∀ {l:List (Option FEnt)}{i j:Nat}{e:FEnt},EntsOk P i l->l[j]?=some (some e)->Z0l P (i+j) (some e)
 |[],_,_,_,_,h=>by simp at h
 |x::l,i,0,e,h,hj=>by simp at hj;subst hj;exact h.1
 |x::l,i,j+1,e,h,hj=>by have:=EntsOk.get (l:=l) (i:=i+1) (j:=j) h.2 (by simpa using hj);rw[zw,w5 1 j] at this;exact this
theorem Z0t {P:Program}{l:List (Option FEnt)}(h:EntsOk P 0 l):TabOk P (λf=>(l[f]?).join):=by
 have key:∀ f e,(l[f]?).join=some e->Z0l P f (some e):=λf e he=>by
  have:=EntsOk.get (j:=f) (e:=e) h (by
   cases hl:l[f]? with
   |none=>rw[hl] at he;cases he
   |some x=>rw[hl] at he;simp at he;rw[he])
  simpa using this
 exact⟨λf vc rs nt he=>key f _ he,λf vc rs nt he=>key f _ he,λf vc rs nt ms he=>key f _ he,λf he=>key f _ he⟩
theorem Z0g {P:Program}{f:FuncId}{fn:Func}{e:Array Value->Sem Value}(hf:P.funcs[f]?=some fn) (h1:(fn.name=="runtime.NumGoroutine")=false) (h2:fn.body.isNone=true) (h3:Extern.findNext fn=none) (h4:Extern.find fn=some e) (h5:∀ (c:Value) w,(e #[c]).run P w=.ok c w)
  (v:Value) (U:Heap) (K:Value->Heap->Prop) (hK:K v U):VCalled P f [v] U K:=by
 intro ρ w au hH hL;obtain⟨c,hc⟩:∃ c,au=#[c]:=by
  have hl:=hL.1
  match au,hl with
  |⟨[c]⟩,_=>exact⟨c,rfl⟩
 subst hc;refine .inr ⟨c,⟨v,ρ,U,hK,hL.2 0 v c rfl rfl,hH,Ext.refl _ _ _⟩,λw' _=>?_⟩;have o_:fn.body=none:=by simpa using h2
 have lg:¬ fn.name="runtime.NumGoroutine":=by simpa using h1
 simp[callFunc,hf,lg,o_,h3,h4,h5]
def isTrue:Value->Bool
 |.bool true=>true
 |_=>false
theorem Q84 {v:Value}(h:isTrue v=true):v=.bool true:=by
 unfold isTrue at h;split at h
 .rfl
 .cases h
theorem Z08 {P:Program}(hm:P.follows .mixedOrders=true) {T:Tab}(hT:TabOk P T) (n:Nat) {f:FuncId}{vc:VCode}{rl:List VResult}{nt:Nat}(hF:Fun P f vc rl nt) (ek:Nat.ble (ET.of [] nt).m 1000000=true)
  (he:IH T n D9 [] vc none (ET.of [] nt) CH.empty (Z49 false rl λv _=>isTrue v)=true) {U:Heap}{K:Value->Heap->Prop}(hK:K (.bool true) U):VCalled P f [] U K :=
 Z01 hm hT n hF [] rfl (.bool true) rfl isTrue (λ_ h=>Q84 h) ek he hK
end Go.V