/- A framework for walks, contracts of functions, and their proofs: part 2. -/
import Derived.RangeFuncLeaves
import Derived.RangeFuncCalls
import Derived.OrdersIn
import Derived.TacticsIn
import Derived.Sort.LoopGhostIn
import Derived.Deep.LoopGhost
import Derived.Test.YtannmfpiibodeaaGreatDoorF1
noncomputable section
namespace Go.V
open Go
section
variable {P:Program}{S:VSpecs}{B:Nat}
def FF:Option Nat->Fence
 |none=>Fence.wide
 |some l=>Fence.wide.inRound l
theorem OK (ro:Option Nat) (f:FuncId):(FF ro).fn f:=by cases ro<;>trivial
theorem CM (ro:Option Nat):(FF ro).depth=none:=by cases ro<;>rfl
theorem Q52 (ro:Option Nat):(FF ro).round=ro:=by cases ro<;>rfl
theorem O0 {ro:Option Nat}{n:Nat}{f:FuncId}{args:Array Value}{w:World}{R:Ending->World->Prop}(h:Calls P f args w R):CallsIn (FF ro) n P f args w R:=by
 cases ro with
 |none=>exact callsIn_wide.2 h
 |some l=>exact CallsIn.inRound l (callsIn_wide.2 h)
theorem Im {ro:Option Nat}{n m:Nat}{l:Nat}{f:FuncId}{tmps:Array Value}{dY body:Code}{w:World}{R:Ending->World->Prop}(h:RoundIn Fence.wide m P l f tmps dY body w R):RoundIn (FF ro) n P l f tmps dY body w R:=by refine⟨OK _ _,λc cs _=>?_⟩;obtain⟨e,w',r,s⟩:=h.2 c cs (room_wide _);refine⟨e,w',r,?_⟩;cases ro<;>exact s
def Got (ρ:Plc) (U:Heap) (w:World) (R:Value->Heap->Prop) (c:Value) (w':World):Prop :=
 ∃ v ρ' U',R v U'/\VRel ρ' U'.n v c/\HRel ρ' U' w'/\Ext ρ U w ρ' U' w'
def VCallsTo (P:Program) (f:FuncId) (args:List Value) (U:Heap) (R:Value->Heap->Prop):Prop :=
 ∀ ρ w (aw:Array Value),HRel ρ U w->LRel ρ U.n args aw.toList->Calls P f aw w λe w'=>∃ c,e=.returned c/\Got ρ U w R c w'
def VCalled (P:Program) (f:FuncId) (args:List Value) (U:Heap) (R:Value->Heap->Prop):Prop :=
 ∀ ρ w (aw:Array Value),HRel ρ U w->LRel ρ U.n args aw.toList ->
  ((∀ w,(callFunc f aw).run P w=.ok (.enter f aw) w)/\Calls P f aw w λe w'=>∃ c,e=.returned c/\Got ρ U w R c w') \/
  (∃ c,Got ρ U w R c w/\∀ w',Like ρ w w'->(callFunc f aw).run P w'=.ok (.value c) w')
def VYields (P:Program) (i:Nat) (args:List Value) (U:Heap) (R:Value->Heap->Prop):Prop :=
 ∀ ρ w (aw:Array Value),HRel ρ U w->LRel ρ U.n args aw.toList ->
  ∃ p,ρ i=some p/\∃ fn tmps dY body,(Instr.yield p.blk aw).run P w=.ok (.round p.blk fn tmps dY body) w /\
   RoundIn Fence.wide 0 P p.blk fn tmps dY body w λe w'=>∃ c,e=.returned c/\Got ρ U w R c w'
def Xz (P:Program) (f:FuncId):Prop:=∃ fn,P.funcs[f]?=some fn/\fn.body.isSome=true/\(fn.name=="runtime.NumGoroutine")=false
def Z2x (P:Program) (f:FuncId) (s:RP):Prop:=∀ args U K,s args U K->VCalled P f args U K
def VD (P:Program) (i:Nat) (s:RP):Prop:=∀ args U K,s args U K->VYields P i args U K
def Q9q (P:Program) (f:FuncId) (T:Nat->RP->RP):Prop:=Xz P f/\∀ i Y,VD P i Y->∀ args U K,T i Y args U K->VCallsTo P f args U K
structure OkSpecs (P:Program) (S:VSpecs):Prop where
 fn:∀ f s,S.fn f=some s->Z2x P f s
 yl:∀ i s,S.yl i=some s->VD P i s
 it:∀ f T,S.it f=some T->Q9q P f T
theorem UC {f:FuncId}(h:Xz P f) (args:Array Value) (w:World):(callFunc f args).run P w=.ok (.enter f args) w:=by
 obtain⟨fn,h1,h2,h3⟩:=h;have h4:¬ fn.body=none:=λe=>by rw[e] at h2;cases h2
 have h5:¬ fn.name="runtime.NumGoroutine":=λe=>by rw[e] at h3;simp at h3
 simp[callFunc,h1,h4,h5]
theorem VCallsTo.called {f:FuncId}{args:List Value}{U:Heap}{R:Value->Heap->Prop}(he:Xz P f) (h:VCallsTo P f args U R):VCalled P f args U R :=
 fun ρ w aw hH hL=>.inl ⟨λw=>UC he aw w,h ρ w aw hH hL⟩
theorem Got.mono {ρ:Plc}{U:Heap}{w:World}{R R':Value->Heap->Prop}{c:Value}{w':World}(h:Got ρ U w R c w') (hr:∀ v U',R v U'->R' v U'):Got ρ U w R' c w' :=
 let ⟨v,ρ',U',h1,h2⟩:=h;⟨v,ρ',U',hr _ _ h1,h2⟩
theorem VCallsTo.mono {f:FuncId}{args:List Value}{U:Heap}{R R':Value->Heap->Prop}(h:VCallsTo P f args U R) (hr:∀ v U',R v U'->R' v U'):VCallsTo P f args U R' :=
 fun ρ w aw hH hL=>(h ρ w aw hH hL).mono λ_ _ ⟨c,he,hg⟩=>⟨c,he,hg.mono hr⟩
theorem Vs {ρ:Plc}{n:Nat}{env:Env}{a:Act}(h:LRel ρ n env a.tmps.toList) {v c:Value}(hv:VRel ρ n v c) (d:Option Nat):LRel ρ n (XV env d v) (a.put d c).tmps.toList:=by
 cases d with
 |none=>exact h
 |some d=>simp only[XV,Act.put,Array.toList_setIfInBounds];exact h.set d hv
theorem Jn (env:Env) (d:Option Nat) (v:Value):List.length (XV env d v)=List.length env:=by cases d<;>simp[XV]
theorem Wo (a:Act) (d:Option Nat) (c:Value):(a.put d c).defers=a.defers:=by cases d<;>rfl
theorem HA {ρ:Plc}{n:Nat}{env:Env}{a:Act}{ops:Array Oper}{o:Oper}{vo:VOper}(hc:Xe P ops o=some vo) (hL:LRel ρ n env a.tmps.toList) {b:Bool}(h:Xb env vo.guard=some b) :
  Region.wanted o (yielded ops a.tmps)=b/\vo.dst=o.dst/\VL P o.op=vo.op:=by
 unfold Xe at hc;simp only[zA] at hc;cases hg:o.guard with
 |none =>simp[hg] at hc;subst hc;simp[Xb] at h;subst h;simp[Region.wanted,hg]
 |some jw =>
  obtain⟨j,want⟩:=jw;simp[hg] at hc;cases hj:ops[j]? with
  |none=>simp[hj] at hc
  |some oj =>
   cases hd:oj.dst with
   |none=>simp[hj,hd] at hc
   |some d =>
    simp[hj,hd] at hc;subst hc;refine⟨?_,rfl,rfl⟩;simp only[Xb] at h;simp only[Region.wanted,hg,yielded,hj,x3,hd];have hlen:List.length env=a.tmps.size:=by have:=hL.1;omega
    rcases zl d (List.length env) with al|bI
    .have cG:d<a.tmps.size:=by rw[<-hlen];exact al
     have hr:=hL.2 d env[d] a.tmps[d] (z8 al) (by simp[cG]);have he:env.getD d undef=env[d]:=by simp[List.getD,al]
     rw[he] at h;simp only[xx cG];split at h
     .rename_i b' heq;rw[heq] at hr;rw[hr.q1c];simp at h;simp[<-h]
     .rename_i vs heq;rw[heq] at hr;obtain⟨ds,hds,_⟩:=hr.q1k;simp_all
     .cases h
    .have he:env.getD d undef=undef:=by simp_all
     rw[he] at h;have:a.tmps[d]?=none:=(by simp_all);simp only[this];simp[undef] at h;subst h;simp
theorem Q65 {o:Oper}{vo:VOp}(hc:Nl P o.op=some vo) {ρ:Plc}{U:Heap}{env:Env}{a:Act}(hL:LRel ρ U.n env a.tmps.toList) {K:Value->Heap->Prop}
  (aC:(∃ f bK,vo=.callF f bK)\/(∃ f bK,vo=.callV f bK)) {σ0:Heap}(h:vop S vo env σ0 K) :
  (∃ f args aw,vcall S f args σ0 K/\LRel ρ U.n args aw.toList/\∀ w,(execOp a.eval o).run P w=(callFunc f aw).run P w) \/
  (∃ i r args aw,O1 S i args σ0 K/\VRel ρ U.n (.func (.yield i) #[] #[]) (.func (.yield r) #[] #[])/\LRel ρ U.n args aw.toList/\∀ w,(execOp a.eval o).run P w=(Instr.yield r aw).run P w):=by
 have bm:=hc;cases eJ:Nl P o.op with
 |none=>rw[eJ] at hc;cases hc
 |some s9 =>
  clear eJ hc s9;obtain⟨dst,op,ty,pos,after,guard⟩:=o;simp only at bm;unfold Nl at bm;split at bm
  .cases bm
  rename_i aq;simp only[xJ,xl] at aq;cases op
  case call c =>
   simp only[Op.operands] at aq bm;split at bm
   .rename_i f aH;simp at bm;subst bm;simp only[vop] at h;have av:(c.args.toList).all Wk=true:=by
     simp only[Call.operands,aH,Array.toList_append,List.all_append,z1] at aq;exact aq.2
    refine .inl ⟨f,_,c.args.map a.eval,h,by have:=CK (λx hx=>Yi hL hx) av;simpa using this,λw=>?_⟩;simp[execOp,resolve,aH,Act.eval,Deferred.ofValue,invoke]
   .rename_i fo aK aH;simp at bm;subst bm;simp only[vop] at h;simp only[Call.operands,aH,Array.toList_append,List.all_append,z1] at aq;have hf:=Yi hL (x:=fo) (by simpa using aq.1);have has:=CK (λx hx=>Yi hL hx) aq.2;split at h
    .rename_i g first cap heq
     rw[heq] at hf;cases jk:a.eval fo with
     |func fn gs ds =>
      rw[jk] at hf;cases hf with
      |func _ _ _ _ _ h1 h2 h3 h4 =>
       refine .inl ⟨g,_,gs++c.args.map a.eval++ds,h,?_,λw=>?_⟩
       .have dU:=LRel.of_array h1 h3;have b9:=LRel.of_array h2 h4;have:=(dU.append has).append b9;simpa using this
       .simp[execOp,resolve,aH,jk,Deferred.ofValue,invoke]
     |_=>rw[jk] at hf;cases hf
    .rename_i i first cap heq
     rw[heq] at hf;have hinv:∀ c,VRel ρ U.n (.func (.yield i) first cap) c->∃ r,c=.func (.yield r) #[] #[]/\VRel ρ U.n (.func (.yield i) #[] #[]) (.func (.yield r) #[] #[]):=by
      intro c h;cases h with
      |yield _ r hi hr=>exact⟨r,rfl,.yield i r hi hr⟩
     obtain⟨r,jk,hv⟩:=hinv _ hf;refine .inr ⟨i,r,_,c.args.map a.eval,h,hv,by simpa using has,λw=>?_⟩;simp[execOp,resolve,aH,jk,Deferred.ofValue,invoke]
    .cases h
   all_goals
    repeat' first
     |(cases bm;done)
     |(simp at bm;subst bm;rcases aC with⟨f,bK,h⟩|⟨f,bK,h⟩<;>cases h;done)
     |split at bm
   grind [Option.bind_eq_bind,Option.bind_eq_some_iff]
  all_goals simp only[Op.operands] at aq bm
  all_goals
   repeat' first
    |(cases bm;done)
    |(simp at bm;subst bm;rcases aC with⟨f,bK,h⟩|⟨f,bK,h⟩<;>cases h;done)
    |split at bm
  all_goals simp only[zA,zP,reduceCtorEq,and_false,exists_false] at bm
  all_goals first
   |(obtain⟨_,_,bm⟩:=bm;simp at bm;subst bm;rcases aC with⟨f,bK,h⟩|⟨f,bK,h⟩<;>cases h;done)
   |(obtain⟨_,_,_,_,bm⟩:=bm;simp at bm;subst bm;rcases aC with⟨f,bK,h⟩|⟨f,bK,h⟩<;>cases h;done)
   |(obtain⟨_,_,_,_,_,_,bm⟩:=bm;simp at bm;subst bm;rcases aC with⟨f,bK,h⟩|⟨f,bK,h⟩<;>cases h;done)
   |(obtain⟨d,_,bm⟩:=bm;cases d<;>simp at bm<;>subst bm<;>rcases aC with⟨f,bK,h⟩|⟨f,bK,h⟩<;>cases h;done)
   |(obtain⟨_,_,_,_,bm⟩:=bm;split at bm<;>simp at bm;subst bm;rcases aC with⟨f,bK,h⟩|⟨f,bK,h⟩<;>cases h;done)
   |(obtain⟨_,_,bm⟩:=bm;split at bm<;>simp at bm;subst bm;rcases aC with⟨f,bK,h⟩|⟨f,bK,h⟩<;>cases h;done)
theorem D5 {o:Op}{vo:VOp}(h:VL P o=vo) (hv:vo≠.bad):Nl P o=some vo\/∃ x,Lg P o=some x/\vo=.ext x:=by
 unfold VL at h
 grind
theorem Q0l {o:Op}{x:XOp}(h:Nl P o=some (.ext x)):False:=by
 unfold Nl at h
 repeat' first
  |contradiction
  |(cases h;done)
  |(simp at h;done)
  |(rw[zA,zP] at h;obtain⟨_,_,h⟩:=h)
  |split at h
theorem CS {o:Op}{vo:VOp}(h:VL P o=vo) (hv:vo≠.bad) (c:Call):o≠.defer c:=by
 rintro rfl;rcases D5 h hv with h|⟨x,h,_⟩
 .unfold Nl at h;split at h<;>simp at h
 .unfold Lg at h;split at h<;>simp at h
theorem Q0q {o:Oper}{x:Operand}(hc:Lg P o.op=some (.nextMap x)) {ρ:Plc}{U:Heap}{w:World}{env:Env}{ev:Operand->Value}(hH:HRel ρ U w) (hE:∀ x,Wk x=true->VRel ρ U.n (Q4 env x) (ev x))
  {K:Value->Heap->Prop}(h:FN (Q4 env x) U K):∃ c w',(execOp ev o).run P w=.ok (.value c) w'/\Got ρ U w K c w':=by
 obtain⟨dst,op,ty,pos,after,guard⟩:=o;simp only at hc;unfold Lg at hc;split at hc
 .cases hc
 rename_i aq;simp only[xJ,xl] at aq;have bw:op=.next x false:=by
  cases op
  case next y b=>cases b<;>simp at hc;subst hc;rfl
  all_goals
   simp only at hc
   repeat' first
    |contradiction
    |(obtain⟨_,h⟩:=O_ hc;cases h;done)
    |(cases hc;done)
    |(simp at hc;done)
    |(rw[zA,zP] at hc;obtain⟨_,_,hc⟩:=hc)
    |split at hc
 subst bw;clear hc;simp[Op.operands] at aq;have hx:=hE x aq;unfold FN at h;split at h
 .rename_i i a8;rw[a8] at hx;split at h
  .rename_i m since seen last hb;split at h
   .rename_i es clock wr aG;obtain⟨h1,hall,h2,h3⟩:=h;obtain⟨p,hp,⟨_,cS⟩,O,hO,rm,rfl,oc⟩:=hH.live i _ hb;obtain⟨q,entries,gB,dm,aD,aF⟩:=WD hH aG oc;simp at gB;subst gB;obtain⟨_,_,bO⟩:=hx.q0u hp;rw[cS,zS] at bO;have hg1:(getObj p.blk).run P w=.ok (.mapIter (some q.blk) since seen.toArray last) w:=(by grind [QG]);have cL:(getObj q.blk).run P w=.ok (.map entries clock) w:=(by grind [QG]);let left:=entries.filter λe=>!seen.toArray.contains e.born;let bA:=left.filter (·.born<since);let new:=left.filter (·.born>=since);let bS:Array (Option MapEntry):=(if bA.isEmpty then #[none] else #[])++(bA++new).map some;have di:0<bS.size:=by
     by_cases ho:bA.isEmpty=true
     .grind
     .have:bA.size≠0:=(by simp_all)
      grind
    obtain⟨k,w1,hk,eB,iq⟩:∃ k w1,k<bS.size/\(choose (.mapNext bS.size)).run P w=.ok k w1/\(w1=w\/w1=w.drew):=by
     rw[run_choose_drew];by_cases hf:(Question.mapNext bS.size).forced=true
     .exact⟨0,w,di,by rw[z7 hf],.inl rfl⟩
     .refine⟨_,w.drew,?_,by rw[z6 hf],.inr rfl⟩;exact xG _ di
    have ij:HRel ρ U w1:=by rcases iq with rfl|rfl;exact hH;exact hH.drew
    have fg:Ext ρ U w ρ U w1:=by grind [Ext.refl,Ext.drew]
    have s_:w1.heap[p.blk]?=some (.mapIter (some q.blk) since seen.toArray last):=by rcases iq with rfl|rfl<;>exact hO
    have aj:¬ ((!seen.toArray.isEmpty&&!entries.isEmpty&&entries.all (λe=>decide (e.born>=last)))=true):=by
     intro hh;simp only[z1] at hh;obtain⟨⟨h4,h5⟩,h6⟩:=hh;simp only[zo] at h1;rcases h1 with (h1|h1)|h1
     .simp_all
     .rw[List.isEmpty_iff] at h1;subst h1;have:entries=#[]:=by have:=aF.1;simpa using this
      subst this;simp at h5
     .obtain⟨kv,dJ,al⟩:=xN.1 h1;obtain⟨j,hj⟩:=zW.1 dJ;have cI:j<entries.toList.length:=by rw[aF.1];grind
      have he:=aF.2 j entries.toList[j] kv (z8 cI) hj;have:=Array.all_eq_true'.1 h6 entries.toList[j] (by rw[<-Array.mem_toList_iff];exact zk cI);have h7:=he.2.1
      grind
    have aR:∀ r,(match bS[k]? with
      |some (some e)=>(do setObj p.blk (.mapIter (some q.blk) since (seen.toArray.push e.born) clock);pure (Value.tuple #[.bool true,e.key,e.val]):Sem Value)
      |some none=>pure (.tuple #[.bool false])
      |none=>stuck "Next: no such candidate").run P w1=r->(Instr.next (ev x) false ty).run P w=r:=by
     intro r hr;rw[<-hr];simp only[Instr.next,bO,zp,hg1,cL,zi];rw[z6 aj];simp only[zp];change ((choose (Question.mapNext bS.size)).run P w).andThen _=_;rw[eB];rfl
    have hval:∀ c w',(Instr.next (ev x) false ty).run P w=.ok c w'->(execOp ev ⟨dst,.next x false,ty,pos,after,guard⟩).run P w=.ok (.value c) w':=λc w' h=>by simp[execOp,h]
    have eM:bS[k]?=some bS[k]:=xx hk;cases hx:bS[k] with
    |none =>
     rw[hx] at eM;have aY:none∈bS:=hx▸Array.getElem_mem hk;have hold:bA.isEmpty=true:=by
      grind
     refine⟨_,w1,hval _ _ (aR _ (by rw[eM];rfl)),_,ρ,U,h2 ?_,VRel.q0i (LRel.cons (.bool _) (LRel.nil _ _)),ij,fg⟩;refine zh.2 λkv dJ=>?_;obtain⟨j,hj⟩:=zW.1 dJ;have cI:j<entries.toList.length:=by rw[aF.1];grind
     have he:=aF.2 j entries.toList[j] kv (z8 cI) hj;cases ta:seen.contains kv.2.2 with
     |true=>rfl
     |false =>
      simp only[Bool.false_or,zf];rcases zl kv.2.2 since with al|bI
      .exfalso;have:entries.toList[j]∈bA:=by
        simp only[bA,left,Array.mem_filter,zf];refine⟨⟨by simp_all,?_⟩,by rw[he.2.1];exact al⟩;rw[he.2.1];simpa using ta
       simp_all
      .exact bI
    |some e =>
     rw[hx] at eM;have aY:some e∈bS:=hx▸Array.getElem_mem hk;have me:e∈left:=by
      have h4:e∈bA++new:=by simp only[bS,Array.mem_append,Array.mem_map] at aY;simp_all
      grind
     obtain⟨hel,lk⟩:=Array.mem_filter.1 me;rw[<-Array.mem_toList_iff] at hel;obtain⟨j,hj⟩:=zW.1 hel;have cI:j<es.length:=by rw[<-aF.1];grind
     have he:=aF.2 j e es[j] hj (z8 cI);have iC:=h3 es[j] (zk cI) (by rw[<-he.2.1];simpa using lk);obtain⟨k1,k2⟩:=ij.setObj (o':=.iter m since (seen++[es[j].2.2]) clock) (O':=.mapIter (some q.blk) since (seen.toArray.push e.born) clock) hp hb ⟨q.blk,by rw[he.2.1];simp,oc⟩;have aU:VRel ρ U.n es[j].1 e.key:=by rw[he.1];exact Ni (by grind)
     refine⟨_,_,hval _ _ (aR _ (by
      rw[eM];simp only[zp,Z2 s_ (λ_ _ _ e=>by cases e),zi,x7])),_,ρ,_,iC,VRel.q0i (LRel.cons (.bool _) (LRel.cons aU (LRel.cons he.2.2 (LRel.nil _ _)))),k1,fg.trans k2⟩
   .exact h.elim
  .exact h.elim
 .exact h.elim
theorem Q2u (hS:OkSpecs P S) {f:FuncId}{args:List Value}{U:Heap}{K:Value->Heap->Prop}(h:vcall S f args U K):VCalled P f args U K:=by
 unfold vcall at h;split at h
 .rename_i s hs;exact hS.fn f s hs _ _ _ h
 .exact h.elim
theorem Q0w (hS:OkSpecs P S) {i:Nat}{args:List Value}{U:Heap}{K:Value->Heap->Prop}(h:O1 S i args U K):VYields P i args U K:=by
 unfold O1 at h;split at h
 .rename_i s hs;exact hS.yl i s hs _ _ _ h
 .exact h.elim
theorem Q3f {o:Oper}{vo:VOp}(hc:VL P o.op=vo) {ρ:Plc}{U:Heap}{w:World}{env:Env}{a:Act}(hH:HRel ρ U w) (hL:LRel ρ U.n env a.tmps.toList) {v:Value}{U':Heap}
  (h:Q6 vo (Q4 env) U=some (v,U')):Af P ρ U w v U' (execOp a.eval o):=by
 cases hq:vo.quiet with
 |false=>exact(by grind [Q4p,Yi])
 |true =>obtain⟨rfl,c,dR,hr⟩:=Q3l hc hq hH (λx hx=>Yi hL hx) h;exact⟨c,w,ρ,.inl (hr w (Like.refl ρ w)),dR,hH,Ext.refl _ _ _⟩
theorem Np (hS:OkSpecs P S) {ro:Option Nat}{n:Nat}{o:Oper}{vo:VOp}(bw:VL P o.op=vo) {ρ:Plc}{U:Heap}{w:World}{env:Env}{a:Act}(hH:HRel ρ U w) (hL:LRel ρ U.n env a.tmps.toList)
  {K:Value->Heap->Prop}(h:vop S vo env U K) {next:Act->World->Prop}{Q':Exit->Act->World->Prop}(hn:∀ c w',Got ρ U w K c w'->next (a.put o.dst c) w'):o.wpIn (FF ro) n P a w next Q':=by
 refine⟨λf _=>OK _ _,?_⟩;have cF:vo≠.bad:=by rintro rfl;exact h.elim
 rw[Oper.semAt_eq _ _ _ (CS bw cF)];by_cases aC:(∃ f bK,vo=.callF f bK)\/(∃ f bK,vo=.callV f bK)
 .have hc:Nl P o.op=some vo:=by
   grind [D5]
  rcases Q65 (S:=S) hc hL aC h with⟨f,args,aw,hv,l6,hr⟩|⟨i,r,args,aw,hv,dq,l6,hr⟩
  .rcases Q2u hS hv ρ w aw hH l6 with⟨h1,h2⟩|⟨c,hg,h2⟩
   .rw[hr,h1];exact⟨(by grind [CM]),(O0 h2).mono (by simp_all)⟩
   .rw[hr,h2 w (Like.refl ρ w)];exact hn c w hg
  .obtain⟨p,hp,fn,tmps,dY,body,h1,h2⟩:=Q0w hS hv ρ w aw hH l6;have qT:r=p.blk:=by
    cases dq with
    |yield _ _ _ hh=>exact hh p hp
   rw[hr,qT,h1];exact⟨(by grind [CM]),(Im h2).mono (by simp_all)⟩
 .by_cases gH:∃ x,vo=.ext (.nextMap x)
  .obtain⟨x,rfl⟩:=gH;have hc:Lg P o.op=some (.nextMap x):=by
    rcases D5 bw cF with hc|⟨y,hy,hx⟩
    .have:=Q0l hc;exact this.elim
    .cases hx;exact hy
   obtain⟨c,w',hr,hg⟩:=Q0q hc hH (λx hx=>Yi hL hx) h;rw[hr];exact hn c w' hg
  .have ka:∃ v U',Q6 vo (Q4 env) U=some (v,U')/\K v U':=by
    unfold vop at h;split at h
    .simp_all
    .simp_all
    .exact absurd ⟨_,rfl⟩ gH
    .cases dt:Q6 vo (Q4 env) U with
     |none=>rw[dt] at h;exact h.elim
     |some p=>rw[dt] at h;exact⟨p.1,p.2,rfl,h⟩
   obtain⟨v,U',dt,hK⟩:=ka;obtain⟨c,w',ρ',aR,dR,fO,hE⟩:=Q3f bw hH hL dt;have hg:Got ρ U w K c w':=⟨v,ρ',U',hK,dR,fO,hE⟩;rcases aR with aR|⟨aR,rfl⟩
   .rw[aR];exact hn c w' hg
   .rw[aR];exact hn undef w' hg
def Mks (B:Nat) (ds:List Deferred) (w:World):Prop:=B<=w.heap.size/\∃ Ds:List Nat,ds=Ds.map (λD=>⟨.collected D,#[]⟩)/\Ds.Nodup/\∀ D∈Ds,B<=D/\w.heap[D]?=some (.deferred (some []))
theorem Mks.nil {w:World}(h:B<=w.heap.size):Mks B [] w:=⟨h,[],rfl,List.nodup_nil,λ_ h=>by cases h⟩
theorem Mks.ext {ds:List Deferred}{ρ ρ':Plc}{U U':Heap}{w w':World}(h:Mks B ds w) (hH:HRel ρ U w) (hE:Ext ρ U w ρ' U' w'):Mks B ds w':=by
 obtain⟨h0,Ds,h1,h2,h3⟩:=h;refine⟨zN h0 hE.size,Ds,h1,h2,λD hD=>⟨(h3 D hD).1,?_⟩⟩;have hb:=(h3 D hD).2;have al:D<w.heap.size:=by
  grind
 rw[hE.keep D al (λ⟨i,p,b,hp,_,_,tc⟩=>hH.q0m hb i p hp tc)];exact hb
def Tu (B m:Nat) (ρ:Plc) (U:Heap) (w:World) (K:Env->Heap->Prop) (a':Act) (w':World):Prop :=
 ∃ ai ρ' U',K ai U'/\List.length ai=m/\HRel ρ' U' w'/\LRel ρ' U'.n ai a'.tmps.toList/\Mks B a'.defers w'/\Ext ρ U w ρ' U' w'
theorem OM (hS:OkSpecs P S) {ro:Option Nat}{n:Nat}(ops:Array Oper) (Q:Exit->Act->World->Prop):∀ (l:List Oper) (lv:List VOper),l.mapM (Xe P ops)=some lv ->
  ∀ (env:Env) (U:Heap) (K:Env->Heap->Prop) (ρ:Plc) (w:World) (a:Act),HS S lv env U K->HRel ρ U w->LRel ρ U.n env a.tmps.toList->Mks B a.defers w ->
  (∀ a' w',Tu B (List.length env) ρ U w K a' w'->Q .normal a' w')->wpListIn (FF ro) n P ops Q l a w:=by
 intro l;induction l with
 |nil =>intro lv bW env U K ρ w a h hH hL hd hQ;simp at bW;subst bW;exact hQ a w ⟨env,ρ,U,h,rfl,hH,hL,hd,Ext.refl _ _ _⟩
 |cons o l ih =>
  intro lv bW env U K ρ w a h hH hL hd hQ;rw[zX] at bW;cases bm:Xe P ops o with
  |none=>simp[bm] at bW
  |some vo =>
   cases eX:l.mapM (Xe P ops) with
   |none=>simp[bm,eX] at bW
   |some qU =>
    simp[bm,eX] at bW;subst bW;simp only[HS] at h;cases hw:Xb env vo.guard with
    |none=>rw[hw] at h;exact h.elim
    |some b =>
     rw[hw] at h;obtain⟨cN,bF,bw⟩:=HA bm hL hw;obtain⟨ht,hf⟩:=h;simp only[wpListIn];rw[cN];cases b with
     |false =>rw[z6 (by simp)];exact⟨λf _=>OK _ _,ih qU eX (XV env vo.dst undef) U K ρ w _ (hf rfl) hH (by rw[bF];exact Vs hL Xy o.dst) (by rw[Wo];exact hd) (by grind [Jn])⟩
     |true =>
      rw[z7 rfl];refine Np hS bw hH hL (ht rfl) λc w' ⟨v,ρ',U',hK,dR,fO,hE⟩=>?_
      exact ih qU eX (XV env vo.dst v) U' K ρ' w' _ hK fO (by rw[bF];exact Vs (hE.lrel hL) dR o.dst) (by rw[Wo];exact hd.ext hH hE)
       (λa' nV ⟨mf,en,aJ,k1,k0,k2,k3,k4,k5⟩=>hQ a' nV ⟨mf,en,aJ,k1,by rw[k0,Jn],k2,k3,k4,hE.trans k5⟩)
theorem AF:∀ (l:List Nat) (vs:List Value) (env:Env),(Wy l vs env).length=env.length:=by
 intro l;induction l with
 |nil=>intro vs env;cases vs<;>rfl
 |cons i l ih =>
  intro vs env;cases vs with
  |nil=>rfl
  |cons v vs=>simp only[Wy];rw[ih];simp
theorem Q0e {ρ:Plc}{n:Nat}:∀ (l:List Nat) (env base:Env) (cs:List Value),LRel ρ n env cs->LRel ρ n base cs->LRel ρ n (Wy l (HU l env) base) cs:=by
 intro l;induction l with
 |nil=>intro env base cs _ hb;exact hb
 |cons i l ih =>
  intro env base cs he hb;simp only[HU,xe,Wy];refine ih env _ cs he ?_;refine⟨by simp[hb.1],λj v c hv hc=>?_⟩;by_cases cq:i=j
  .subst cq;rcases zl i (List.length base) with al|bI
   .rw[List.getElem?_set_self al] at hv;obtain rfl:=osj hv;have cG:i<List.length env:=by rw[he.1,<-hb.1];exact al
    have:env.getD i poison=env[i]:=by simp[List.getD,cG]
    rw[this];exact he.2 i _ c (z8 cG) hc
   simp_all
  .rw[List.getElem?_set_ne cq] at hv;exact hb.2 j v c hv hc
theorem Q06 {ρ:Plc}{n:Nat}(cs:List Value) {m:Nat}(h:m=cs.length):LRel ρ n (List.replicate m poison) cs :=
 ⟨by simp[h],λi v c hv _=>by
  have:=x4 hv;rw[List.mem_replicate] at this;rw[this.2];exact .poison c⟩
def RoRel (cA ro:Option Nat) (ρ:Plc) (n:Nat):Prop:=(cA=none/\ro=none)\/∃ i l,cA=some i/\ro=some l/\i<n/\∀ p,ρ i=some p->p.blk=l
theorem RoRel.ext {cA ro:Option Nat}{ρ ρ':Plc}{U U':Heap}{w w':World}(h:RoRel cA ro ρ U.n) (hE:Ext ρ U w ρ' U' w'):RoRel cA ro ρ' U'.n:=by
 rcases h with h|⟨i,l,h1,h2,h3,h4⟩
 .exact .inl h
 .exact .inr ⟨i,l,h1,h2,zV h3 hE.n,λp hp=>h4 p (hE.pl i h3 p hp)⟩
def Sound (P:Program) (S:VSpecs) (c:Code) (vc:VCode):Prop :=
 ∀ ⦃B:Nat⦄ (cA ro:Option Nat) (n:Nat) (Q:Exit->Env->Heap->Prop) (env:Env) (U:Heap) (ρ:Plc) (w:World) (a:Act),vwp S vc cA Q env U->HRel ρ U w->LRel ρ U.n env a.tmps.toList->Mks B a.defers w->RoRel cA ro ρ U.n ->
  ∀ (Q':Exit->Act->World->Prop),(∀ e a' w',Tu B (List.length env) ρ U w (Q e) a' w'->Q' e a' w')->c.wpIn (FF ro) n P Q' a w
theorem Q3q {ρ:Plc}{n:Nat}:∀ (ps:List Nat) (vs cs:List Value) (env:Env) (tmps:Array Value),LRel ρ n env tmps.toList->LRel ρ n vs cs ->
  LRel ρ n (TX env ps vs) ((ps.zip cs).foldl (λ(tmps:Array Value) (q:Nat×Value)=>tmps.setIfInBounds q.1 q.2) tmps).toList:=by
 intro ps;induction ps with
 |nil=>intro vs cs env tmps h _;cases vs<;>exact h
 |cons p ps ih =>
  intro vs cs env tmps h hv;cases vs with
  |nil =>
   cases cs with
   |nil=>exact h
   |cons _ _=>have:=hv.1;simp at this
  |cons v vs =>
   cases cs with
   |nil=>have:=hv.1;simp at this
   |cons c cs =>simp only[TX,List.zip_cons_cons,xS];refine ih vs cs _ _ ?_ ⟨by have:=hv.1;simpa using this,λi a b ha hb=>hv.2 (i+1) a b (by simpa using ha) (by simpa using hb)⟩;rw[Array.toList_setIfInBounds];exact h.set p (hv.2 0 v c rfl rfl)
theorem Y0 {w:World}{l:Nat}{r:Loop}(h:w.heap[l]?=some (.loop r)):(Instr.getLoop l).run P w=.ok r w:=by simp[Instr.getLoop,QG h (λ_ _ _ e=>by cases e)]
theorem Di {ρ:Plc}{U:Heap}{w:World}(hH:HRel ρ U w) {i:Nat}{env:Env}{r:Loop}{st:LoopState}{pend:Option Code}{wr:Bool}(h:U.get i=some (.obj (.lp env r st pend) wr)) :
  ∃ p,ρ i=some p/\w.heap[p.blk]?=some (.loop {r with state:=st,pending:=pend})/\LRel ρ U.n env r.tmps.toList:=by
 obtain⟨p,hp,_,O,h1,rfl,h2⟩:=hH.live i _ h;exact⟨p,hp,h1,h2⟩
theorem Eg {ρ:Plc}{U:Heap}{w:World}(hH:HRel ρ U w) {i:Nat}{env:Env}{r:Loop}{st:LoopState}{pend:Option Code}{p:Pl}(hp:ρ i=some p) (h:U.get i=some (.obj (.lp env r st pend) true)) (jl:LoopState) (bH:Option Code) :
  HRel ρ (U.upd i (.obj (.lp env r jl bH) true)) (TG w p.blk (.loop {r with state:=jl,pending:=bH})) /\
  Ext ρ U w ρ (U.upd i (.obj (.lp env r jl bH) true)) (TG w p.blk (.loop {r with state:=jl,pending:=bH})):=by
 obtain⟨p',br,h1,h2⟩:=Di hH h;exact hH.setObj hp h ⟨rfl,h2⟩
theorem FC {dY body:Code}{va vb:VCode}(ha:Sound P S dY va) (hb:Sound P S body vb) (ps:List Nat) (env:Env) (r:Loop) (fa:r.assign=dY) (dC:r.body=body) (ke:r.params.toList=ps) (i:Nat) :
  VD P i (IL (vwp S va (some i)) (vwp S vb (some i)) ps env r i):=by
 intro args U K h ρ w aw hH hL;obtain⟨h1,h2,h3⟩:=h;obtain⟨p,hp,aD,kf⟩:=Di hH h1;refine⟨p,hp,r.fn,(r.params.zip aw).foldl (λtmps (t,a)=>tmps.setIfInBounds t a) r.tmps,r.assign,r.body,?_,?_⟩
 .have aE:aw.size=r.params.size:=by
   have h4:=hL.1
   grind
  simp[Instr.yield,Y0 aD,aE]
 .refine roundIn_of_wpIn (F:=Fence.wide) trivial ?_;rw[fa,dC];refine ha (some i) (some p.blk) 0 _ _ U ρ w _ h3 hH ?_ (Mks.nil (zd _)) (.inr ⟨i,p.blk,rfl,rfl,U.lt h1,(by simp_all)⟩) _ ?_
  .have:=Q3q ps args aw.toList env r.tmps kf hL;rw[<-ke,<-Array.toList_zip,Array.foldl_toList] at this;rw[ke] at this;exact this
  .intro e a1 w1 ⟨bh,ρ1,σ1,k1,k0,k2,k3,k4,k5⟩;cases e with
   |normal =>
    obtain⟨k6,k7⟩:=k1;obtain⟨p1,oh,jm,qV⟩:=Di k2 k6;have pj:p1=p:=by have:=k5.pl i (U.lt h1) p1 oh;simp_all
    subst pj;obtain⟨j1,j2⟩:=Eg k2 oh k6 .busy none;refine⟨_,by simp[Instr.beginRound,Y0 jm,Z2 jm (λ_ _ _ e=>by cases e)];rfl,?_⟩;refine hb (some i) (some p1.blk) 0 _ _ _ ρ1 _ a1 k7 j1 k3 (k4.ext k2 j2) (.inr ⟨i,p1.blk,rfl,rfl,σ1.lt k6,(by simp_all)⟩) _ ?_;intro e2 a2 w2 ⟨aO,ρ2,σ2,m1,m0,m2,m3,m4,m5⟩;obtain⟨m6,m7⟩:=m1;obtain⟨p2,dX,dZ,qW⟩:=Di m2 m6;have pj:p2=p1:=by have h8:=m5.pl i (by rw[Heap.q2k];exact σ1.lt k6) p2 dX;simp_all
    subst pj;cases e2 with
    |normal =>obtain⟨q1,q2⟩:=Eg m2 dX m6 .ready none;refine⟨.bool true,_,?_,_,rfl,.bool true,ρ2,_,m7,.bool _,q1,k5.trans (j2.trans (m5.trans q2))⟩;simp[Instr.endRound,Y0 dZ,Z2 dZ (λ_ _ _ e=>by cases e)]
    |ret =>obtain⟨q1,q2⟩:=Eg m2 dX m6 .done (some .ret);refine⟨.bool false,_,?_,_,rfl,.bool false,ρ2,_,m7,.bool _,q1,k5.trans (j2.trans (m5.trans q2))⟩;simp[Instr.endRound,Y0 dZ,Z2 dZ (λ_ _ _ e=>by cases e)]
    |exit id =>obtain⟨q1,q2⟩:=Eg m2 dX m6 .done (some (.exit id));refine⟨.bool false,_,?_,_,rfl,.bool false,ρ2,_,m7,.bool _,q1,k5.trans (j2.trans (m5.trans q2))⟩;simp[Instr.endRound,Y0 dZ,Z2 dZ (λ_ _ _ e=>by cases e)]
    |goto l=>exact m7.elim
    |panic ch=>exact m7.elim
    |outgrown=>exact m7.elim
   |exit id=>exact k1.elim
   |goto l=>exact k1.elim
   |ret=>exact k1.elim
   |panic ch=>exact k1.elim
   |outgrown=>exact k1.elim
theorem Heap.ext' {U U':Heap}(h:∀ j,U.get j=U'.get j) (hn:U.n=U'.n):U=U':=by obtain⟨g,n,wf⟩:=U;obtain⟨g',n',vd⟩:=U';have hg:g=g':=funext h;simp_all
theorem Mks.push {ds:List Deferred}{w:World}(h:Mks B ds w):Mks B ({target:=.collected w.heap.size,args:=#[]}::ds) (w.alloc (.deferred (some []))):=by
 obtain⟨h0,Ds,h1,h2,h3⟩:=h;have al:∀ D∈Ds,D<w.heap.size:=(by grind);refine⟨by rw[World.size_alloc];omega,w.heap.size::Ds,by rw[h1];rfl,(by grind),λD hD=>?_⟩;rcases zG.1 hD with rfl|hD
 .refine⟨h0,?_⟩;show (w.heap.push _)[w.heap.size]?=_;simp
 .refine⟨(h3 D hD).1,?_⟩;show (w.heap.push _)[D]?=_
  grind
theorem Ext.q1f {ρ:Plc}{U:Heap}(w:World) (O:Obj):Ext ρ U w ρ U (w.alloc O) :=
 ⟨rfl,rfl,rfl,by have:=World.size_alloc w O;omega,λB hB _=>by show (w.heap.push _)[B]?=_;grind,λ_ _ h=>h,zd _,λ_ _ _ h=>h⟩
theorem HRel.q1f {ρ:Plc}{U:Heap}{w:World}(h:HRel ρ U w) (O:Obj):HRel ρ U (w.alloc O) :=
 h.world (by have:=World.size_alloc w O;omega) (λi p hp=>by show (w.heap.push _)[p.blk]?=_;rw[Array.getElem?_push,z6 (by have:=h.lt i p hp;omega)]) λg cs hg=>by show (w.heap.push _)[g]?=_;rw[Array.getElem?_push,z6 (by have:=h.tab.lt hg;omega)]
theorem I6 {cA ro:Option Nat}{ρ:Plc}{U:Heap}{w:World}{a:Act}{env:Env}(hH:HRel ρ U w) (hL:LRel ρ U.n env a.tmps.toList) (hd:Mks B a.defers w) (hR:RoRel cA ro ρ U.n) (aP:Z58 U cA) (fn:FuncId) (ps:Array Nat) (dY body:Code) :
  ∃ (r:Loop) (mark:List Deferred) (w1:World) (ρ1:Plc),(Instr.enterLoop fn a.tmps ps dY body ro).run P w=.ok (w1.heap.size-1,mark) w1/\r.assign=dY/\r.body=body/\r.params=ps /\
   HRel ρ1 (U.push (.obj (.lp env r .ready none) true)) w1/\Ext ρ U w ρ1 (U.push (.obj (.lp env r .ready none) true)) w1/\Mks B (mark++a.defers) w1 /\
   (∀ p,ρ1 U.n=some p->p.blk=w1.heap.size-1):=by
 rcases hR with⟨rfl,rfl⟩|⟨i,l,rfl,rfl,hi,gI⟩
 .let w0:=w.alloc (.deferred (some []));have fA:HRel ρ U w0:=hH.q1f _;have pk:Ext ρ U w ρ U w0:=Ext.q1f _ _;let r:Loop:={state:=.ready,pending:=none,fn,tmps:=a.tmps,params:=ps,assign:=dY,body:=body,defers:=w.heap.size};obtain⟨ρ1,h1,h2,h3⟩:=fA.newObj (.lp env r .ready none) (.loop r) ⟨rfl,hL⟩;have aE:(w0.alloc (.loop r)).heap.size-1=w0.heap.size:=by simp_all
  refine⟨r,[{target:=.collected w.heap.size,args:=#[]}],w0.alloc (.loop r),ρ1,?_,rfl,rfl,rfl,h2,pk.trans h3,?_,λp hp=>?_⟩
  .rw[aE];simp[Instr.enterLoop];exact⟨(World.size_alloc w _).symm,rfl⟩
  .exact(hd.push).ext fA h3
  simp_all
 .obtain⟨td,r0,st,pend,hb⟩:=aP;obtain⟨p,hp,aD,_⟩:=Di hH hb;have aS:=gI p hp;subst aS;let r:Loop:={state:=.ready,pending:=none,fn,tmps:=a.tmps,params:=ps,assign:=dY,body:=body,defers:=r0.defers};obtain⟨ρ1,h1,h2,h3⟩:=hH.newObj (.lp env r .ready none) (.loop r) ⟨rfl,hL⟩;have aE:(w.alloc (.loop r)).heap.size-1=w.heap.size:=by simp_all
  refine⟨r,[],w.alloc (.loop r),ρ1,?_,rfl,rfl,rfl,h2,h3,?_,λp hp=>?_⟩
  .rw[aE];simp[Instr.enterLoop,Y0 aD];rfl
  .exact hd.ext hH h3
  simp_all
theorem Io (hS:OkSpecs P S) {dY body:Code}{va vb:VCode}(ha:Sound P S dY va) (hb:Sound P S body vb) (g:Operand) (hg:Wk g=true) (ps:Array Nat):Sound P S (.rangeFunc g ps dY body) (.rangeF g ps.toList va vb):=by
 intro B cA ro n Q env U ρ w a h hH hL hd hR Q' hQ;simp only[vwp,AY] at h;have gf:=Yi hL hg;split at h
 .rename_i f first cap bI
  rw[bI] at gf;split at h
  .rename_i T hT;obtain⟨aP,h⟩:=h;refine wpIn_rangeFunc λfn _=>?_;obtain⟨r,mark,w1,ρ1,he,fa,dC,ke,ij,fg,hd1,dU⟩:=I6 (P:=P) hH hL hd hR aP fn ps dY body;obtain⟨gJ,hit⟩:=hS.it f T hT;obtain⟨gs,ds,oi,ld,ja⟩:∃ gs ds,a.eval g=.func (.func f) gs ds/\LRel ρ U.n first.toList gs.toList/\LRel ρ U.n cap.toList ds.toList:=by
    cases oi:a.eval g with
    |func ve gs ds =>
     rw[oi] at gf;cases gf with
     |func _ _ _ _ _ k1 k2 k3 k4=>exact⟨gs,ds,rfl,LRel.of_array k1 k3,LRel.of_array k2 k4⟩
    |_=>rw[oi] at gf;cases gf
   have hY:VD P U.n (IL (vwp S va (some U.n)) (vwp S vb (some U.n)) ps.toList env r U.n):=(by grind [FC]);have kg:=hit U.n _ hY _ _ _ (h r) ρ1 w1 (gs++#[.func (.yield (w1.heap.size-1)) #[] #[]]++ds) ij (by
    have k1:=fg.lrel ld;have k2:=fg.lrel ja;have k3:LRel ρ1 (U.push (.obj (.lp env r .ready none) true)).n [.func (.yield U.n) #[] #[]] [.func (.yield (w1.heap.size-1)) #[] #[]] :=
     LRel.cons (.yield _ _ (by simp) (λp hp=>(dU p hp).symm)) (LRel.nil _ _)
    have:=(k1.append k3).append k2;simpa using this)
   refine⟨w1.heap.size-1,mark,w1,{target:=.fn (.func f) ds,args:=gs++#[.func (.yield (w1.heap.size-1)) #[] #[]]},w1,f,gs++#[.func (.yield (w1.heap.size-1)) #[] #[]]++ds,w1,?_,?_,λ_ _=>OK _ _,?_,(by grind [CM]),?_⟩
   .rw[Q52];exact he
   .simp[resolve,oi,Deferred.ofValue];rfl
   .simp only[invoke];exact UC gJ _ _
   .refine (O0 kg).mono λe w3 ⟨c,tf,v,ρ3,σ3,k1,k2,k3,k4⟩=>?_;subst tf;unfold Q54 at k1;split at k1
    .rename_i ai r' st pend lY;obtain⟨bk,k1⟩:=k1;obtain⟨p3,qX,gK,qY⟩:=Di k3 lY;have aS:p3.blk=w1.heap.size-1:=dU p3 (k4.pl U.n (by simp) p3 qX);obtain⟨q1,q2⟩:=Eg k3 qX lY .exhausted pend;rw[aS] at gK q1 q2;obtain⟨q3,q4⟩:=q1.kill U.n;have fy:(σ3.upd U.n (.obj (.lp ai r' .exhausted pend) true)).kill U.n=σ3.kill U.n:=by
      apply Heap.ext'
      .grind [Heap.q0g,Heap.q0c,Heap.q0b]
      .rfl
     rw[fy] at q3 q4;have jo:=fg.trans (k4.trans (q2.trans q4));have cU:=hd1.ext ij (k4.trans (q2.trans q4));refine⟨pend,_,by simp[Instr.endLoop,Y0 gK,Z2 gK (λ_ _ _ e=>by cases e),bk];rfl,?_⟩;have gH:∀ K:Env->Heap->Prop,K env (σ3.kill U.n)->Tu B (List.length env) ρ U w K {a with defers:=mark++a.defers} (TG w3 (w1.heap.size-1) (.loop {r' with state:=.exhausted,pending:=pend})):=λK hK =>
      ⟨env,_,_,hK,rfl,q3,jo.lrel hL,cU,jo⟩
     grind [wpIn_ret,wpIn_exit]
    .exact k1.elim
  .exact h.elim
 .exact h.elim
end
end Go.V
namespace Go.V
open Go
theorem KK {ev fj:Operand->Value}(x:Option Operand) (d:Nat) (h:∀ y∈x.toList,ev y=fj y):X7 ev x d=X7 fj x d:=by
 cases x with
 |none=>rfl
 |some y=>simp only[X7];rw[h y (by simp)]
theorem OI {o:XOp}{ev fj:Operand->Value}{U:Heap}(h:∀ x∈o.opds,ev x=fj x):ZA o ev U=ZA o fj U:=by cases o<;>simp only[XOp.opds,zG,List.not_mem_nil,or_false,forall_eq_or_imp,forall_eq] at h<;>simp only[ZA]<;>(try simp only[h])
theorem Pu {o:VOp}{ev fj:Operand->Value}{U:Heap}(h:∀ x∈o.opds,ev x=fj x):Q6 o ev U=Q6 o fj U:=by
 cases o
 case build z ps =>
  have:(ps.map λp=>(p.1,p.2.1,ev p.2.2))=ps.map λp=>(p.1,p.2.1,fj p.2.2):=zZ λp hp=>by rw[h p.2.2 (zL.2 ⟨p,hp,rfl⟩)]
  simp only[Q6,this]
 case buildSlice e z n ps =>
  have:(ps.map λp=>(p.1*e.sz,e.sz,ev p.2))=ps.map λp=>(p.1*e.sz,e.sz,fj p.2):=zZ λp hp=>by rw[h p.2 (zL.2 ⟨p,hp,rfl⟩)]
  simp only[Q6,this]
 case makeFunc fn a b =>
  have h1:a.map ev=a.map fj:=zZ λx hx=>h x (List.mem_append_left _ hx);have h2:b.map ev=b.map fj:=zZ λx hx=>h x (wb _ hx);simp only[Q6,h1,h2]
 case slice size x lo hi mx =>
  have h1:=KK lo 0 (λy hy=>h y (by simp[VOp.opds] at *;exact .inr (.inl hy)));have h2:∀ n,X7 ev hi n=X7 fj hi n:=λn=>KK hi n (λy hy=>h y (by simp[VOp.opds] at *;exact .inr (.inr (.inl hy))));have h3:=KK mx 0 (λy hy=>h y (by simp[VOp.opds] at *;exact .inr (.inr (.inr hy))));have h4:=h x (by simp[VOp.opds]);simp only[Q6,h4];cases fj x<;>simp only[h1,h2,h3]
 case sliceStr x lo hi =>
  have h1:=KK lo 0 (λy hy=>h y (by simp[VOp.opds] at *;exact .inr (.inl hy)));have h2:∀ n,X7 ev hi n=X7 fj hi n:=λn=>KK hi n (λy hy=>h y (by simp[VOp.opds] at *;exact .inr (.inr hy)));have h4:=h x (by simp[VOp.opds]);simp only[Q6,h4];cases fj x<;>simp only[h1,h2]
 case ext o=>exact OI h
 all_goals
  simp only[VOp.opds,zG,List.not_mem_nil,or_false,forall_eq_or_imp,forall_eq] at h;simp only[Q6];try simp only[h]
theorem E0 {S:VSpecs}{o:VOp}{env ai:Env}{U:Heap}{K:Value->Heap->Prop}(h:∀ x∈o.opds,Q4 env x=Q4 ai x):vop S o env U K=vop S o ai U K:=by
 cases o
 case callF f bK =>
  have:bK.map (Q4 env)=bK.map (Q4 ai):=zZ h;simp only[vop,this]
 case callV f bK =>
  have h1:Q4 env f=Q4 ai f:=h f (by simp[VOp.opds]);have h2:bK.map (Q4 env)=bK.map (Q4 ai):=zZ λx hx=>h x (by simp[VOp.opds,hx]);simp only[vop,h1,h2]
 case ext o =>
  by_cases hx:∃ x,o=.nextMap x
  .obtain⟨x,rfl⟩:=hx;have h1:Q4 env x=Q4 ai x:=h x (by simp[VOp.opds,XOp.opds]);simp only[vop,h1]
  .have e1:=Pu (U:=U) h;cases o<;>first|exact absurd ⟨_,rfl⟩ hx|(simp only[vop];rw[e1])
 all_goals
  have e1:=Pu (U:=U) h;simp only[vop];rw[e1]
theorem Heap.Le.refl (U:Heap):U.Le U:=⟨zd _,λ_ _ h=>h⟩
theorem Heap.Le.trans {U U' aJ:Heap}(h:U.Le U') (k:U'.Le aJ):U.Le aJ:=⟨zN h.1 k.1,λi b hb=>k.2 i b (h.2 i b hb)⟩
theorem Z3u {U U':Heap}(h:U.Le U') {esz:Nat}{v:Value}{xs:List Value}(hx:U.sl esz v=some xs):U'.sl esz v=some xs:=by
 unfold Heap.sl at hx |-;split at hx
 .exact hx
 .rename_i i o n c;split at hx
  .rename_i cs e wr t hb;simp only[h.2 i _ hb];exact hx
  .cases hx
 .cases hx
theorem CU {U U':Heap}(h:U.Le U') {m:Nat}{x:List XJ×Nat×Bool}(hx:U.mapAt m=some x):U'.mapAt m=some x:=by
 unfold Heap.mapAt at hx |-;split at hx
 .rename_i es clock wr hb;simp only[h.2 m _ hb];exact hx
 .cases hx
theorem Q07 {U U':Heap}(h:U.Le U') {kd:Nat}{a b:Value}{r:Bool}(hx:Xg kd a b U=some r):Xg kd a b U'=some r:=by
 unfold Xg at hx |-
 split at hx<;>first
  |exact hx
  |(cases hx;done)
  |skip
 rename_i i o j q;split at hx
 .rename_i hc;obtain⟨h1,h2,h3⟩:=hc;obtain⟨b,hb⟩:=Option.isSome_iff_exists.1 h3;rw[z7 ⟨h1,h2,by rw[h.2 _ _ hb];rfl⟩];exact hx
 .cases hx
theorem F4 {neg:Bool}{s:List MK}{x y:Operand}{ev:Operand->Value}{U U' σ1:Heap}{v:Value}(h:ZA (.eqAgg neg s x y) ev U=some (v,σ1)):ZA (.eqAgg neg s x y) ev U'=some (v,U'):=by
 simp only[ZA] at h |-;split at h
 .simp_all
 .cases h
theorem Q3j {o:XOp}{ev:Operand->Value}{U U' σ1:Heap}{v:Value}(hk:(VOp.ext o).kind≠2) (h:ZA o ev U=some (v,σ1)) (hl:U.Le U'):ZA o ev U'=some (v,U'):=by
 cases o<;>simp only[VOp.kind,VOp.quiet,XOp.quiet] at hk<;>try (exact absurd rfl hk)
 case eqAgg neg s x y=>exact F4 h
 case eqNil kd neg x y =>
  simp only[ZA] at h |-
  grind [Q07]
 case lookup mk z ok x i =>
  simp only[ZA] at h |-;split at h
  .rename_i bB;rw[z7 bB];split at h
   .simp_all
   .rename_i m vf;split at h
    .rename_i es clock wr hm;simp only[CU hl hm]
     grind
    .cases h
   .cases h
  .cases h
 case lenMap x =>
  simp only[ZA] at h |-
  grind [CU]
 case entry x =>
  simp only[ZA] at h |-;split at h
  .rename_i i hx;split at h
   .rename_i m since seen last wr hb;simp only[hl.2 i _ hb];split at h
    .rename_i es clock jh b hm dj;simp only[CU hl hm,dj]
     grind
    .cases h
   .cases h
  .cases h
 case toUnsafe x =>
  simp only[ZA] at h |-;split at h
  .simp_all
  .rename_i i o hx;split at h
   .rename_i c e wr t hb;simp only[hl.2 i _ hb];simp_all
   .cases h
  .cases h
 case fromUnsafe u sz x =>
  simp only[ZA] at h |-;split at h
  .simp_all
  .rename_i i o hx;split at h
   .rename_i c e hb;simp only[hl.2 i _ hb];simp_all
   .cases h
  .cases h
 case sliceData x =>
  simp only[ZA] at h |-;split at h
  .simp_all
  .rename_i i o n cap hx;split at h
   .rename_i hc;obtain⟨h1,h2⟩:=hc;obtain⟨b,hb⟩:=Option.isSome_iff_exists.1 h2;rw[z7 ⟨h1,by rw[hl.2 _ _ hb];rfl⟩];simp_all
   .cases h
  .cases h
 case bytesStr x =>
  simp only[ZA] at h |-;split at h
  .grind [Z3u]
  .cases h
theorem Sq {o:VOp}{ev:Operand -> Value}{U U' σ1:Heap}{v:Value}(hk:o.kind = 0) (h:Q6 o ev U = some (v, σ1)):Q6 o ev U' = some (v, U'):=by
  cases o
  case ext o =>
    cases o <;> first | (simp [VOp.kind, VOp.quiet, XOp.quiet] at hk; done) | skip
    case eqAgg neg s x y => exact F4 h
  case slice size x lo hi mx => cases mx <;> simp [VOp.kind, VOp.quiet] at hk
  case build z ps =>
    simp only [Q6] at h |-;split at h
    . simp_all
    . cases h
  all_goals first
    | (simp [VOp.kind, VOp.quiet] at hk; done)
    | skip
  all_goals
    simp only [Q6] at h |-
    (repeat' split at h) <;> first
      | (cases h; done)
      | (rename_i pn; obtain ⟨rfl, rfl, rfl⟩:=pn; simp_all; done)
      | (simp_all; done)
      | (simp_all
         obtain ⟨rfl, _⟩:=h
         first
          | rw [z6 (by omega)]
          | rw [z7 (by omega)])
theorem R6 {o:VOp}{ev:Operand->Value}{U U' σ1:Heap}{v:Value}(hk:o.kind≠2) (h:Q6 o ev U=some (v,σ1)) (hl:U.Le U'):Q6 o ev U'=some (v,U'):=by
 cases o
 case ext o=>exact Q3j hk h hl
 case load agg size a =>
  simp only[Q6] at h |-;split at h
  .split at h
   .split at h
    .rename_i hall;rw[z7 hall];split at h
     .simp_all
     .cases h
    .cases h
   .cases h
  .rename_i i o hx;split at h
   .rename_i c e wr t hb;simp only[hl.2 i _ hb];split at h
    .simp_all
    .cases h
   .cases h
  .cases h
 case slice size x lo hi mx =>
  cases mx with
  |some m=>simp[VOp.kind,VOp.quiet] at hk
  |none =>
   simp only[Q6] at h |-;split at h
   .rename_i a n cap hx;split at h
    .rename_i l k dU b9;unfold YY at h |-;split at h
     .simp_all
     .rename_i i o n' au heq;split at h
      .rename_i c e wr t hb;simp only[hl.2 i _ hb];simp_all
      .cases h
     .cases h
    .rename_i hm;cases hm
    .cases h
   .cases h
 all_goals first
  |(exact absurd rfl hk)
  |(exact Sq rfl h)
section
variable {P:Program}{S:VSpecs}{B:Nat}
def EL (lv:List VOper) (env:Env) (tr:Nat->Value) (A:Nat->Bool):Nat->Env
 |0=>env
 |i+1=>if A i then XV (EL lv env tr A i) ((lv[i]?).bind (·.dst)) (tr i) else EL lv env tr A i
theorem Ub (lv:List VOper) (env:Env) (tr:Nat->Value) (A:Nat->Bool):∀ i,List.length (EL lv env tr A i)=List.length env
 |0=>rfl
 |i+1=>by
  simp only[EL];split
  .rw[Jn];exact Ub lv env tr A i
  .exact Ub lv env tr A i
theorem Uw (lv:List VOper) (env:Env) {tr tr':Nat->Value}{A B:Nat->Bool}:∀ i,(∀ l,l<i->tr l=tr' l)->(∀ l,l<i->A l=B l)->EL lv env tr A i=EL lv env tr' B i
 |0,_,_=>rfl
 |i+1,h,h'=>by simp only[EL];rw[Uw lv env i (λl hl=>h l (by omega)) (λl hl=>h' l (by omega)),h i (by omega),h' i (by omega)]
theorem Bp (env:Env) (d:Option Nat) (v:Value) {x:Nat}(h:d≠some x):(XV env d v)[x]?=env[x]?:=by
 cases d with
 |none=>rfl
 |some d=>simp only[XV];rw[List.getElem?_set_ne (by rintro rfl;exact h rfl)]
theorem Z2m (lv:List VOper) (env:Env) {tr tr':Nat->Value}{A:Nat->Bool}:∀ i,(∀ l,l<i->A l=true->tr l=tr' l)->EL lv env tr A i=EL lv env tr' A i
 |0,_=>rfl
 |i+1,h=>by simp only[EL];rw[Z2m lv env i λl hl hA=>h l (by omega) hA];simp_all
theorem Br (lv:List VOper) (env:Env) (tr:Nat->Value) {A B:Nat->Bool}(x:Nat):∀ i,(∀ l,l<i->(lv[l]?).bind (·.dst)=some x->A l=B l)->(EL lv env tr A i)[x]?=(EL lv env tr B i)[x]?
 |0,_=>rfl
 |i+1,h=>by
  have ih:=Br lv env tr x i (λl hl hd=>h l (by omega) hd);by_cases hd:(lv[i]?).bind (·.dst)=some x
  .have ln:=h i (by omega) hd;simp only[EL];rw[ln];split
   .rw[hd];simp only[XV,xu];rw[Ub,Ub];rfl
   .exact ih
  .simp only[EL]
   grind [Bp]
theorem HO (lv:List VOper) (env:Env) (tr:Nat->Value) (j:Nat):∀ i,j<=i->EL lv env tr (λl=>decide (l<j)) i=EL lv env tr (λ_=>true) j
 |0,h=>by
  obtain rfl:j=0:=by omega
  rfl
 |i+1,h=>by
  by_cases hj:j=i+1
  .subst hj;exact Uw lv env _ (λ_ _=>rfl) (λl hl=>by simp[hl])
  .simp only[EL];rw[z6 (by simp;omega)];exact HO lv env tr j i (by omega)
def DFact (S:VSpecs) (d:DInfo) (lv:List VOper) (env:Env) (tr:Nat->Value) (hp:Nat->Heap) (u:Nat) (i:Nat):Prop :=
 ∀ v,lv[i]?=some v->∃ b,Xb (EL lv env tr (λ_=>true) i) v.guard=some b /\
  (b=true->v.op.kind=2->vop S v.op (EL lv env tr (λ_=>true) i) (hp (d.rank i)) (λv' U'=>v'=tr i/\U'=hp (d.rank i+1))) /\
  (b=true->v.op.kind=1->∀ r,d.kmin i<=r->r<=d.kmax i->r<=u->∃ U',Q6 v.op (Q4 (EL lv env tr (λ_=>true) i)) (hp r)=some (tr i,U')) /\
  (b=true->v.op.kind≠1->v.op.kind≠2->∃ U',Q6 v.op (Q4 (EL lv env tr (λ_=>true) i)) (hp (d.rank i))=some (tr i,U')) /\
  (b=false->tr i=undef/\(v.op.kind=2->hp (d.rank i+1)=hp (d.rank i)))
def Z1e (d:DInfo) (lv:List VOper) (env:Env) (tr:Nat->Value) (i:Nat) (pend:List (Nat×(Heap->Prop))):Prop :=
 ∀ l,l<i->∀ v,lv[l]?=some v->Xb (EL lv env tr (λ_=>true) l) v.guard=some true->v.op.kind=1->d.rank i+1<=d.kmax l->(d.kmax l,We v.op (Q4 (EL lv env tr (λ_=>true) l)) (tr l))∈pend
inductive Know (S:VSpecs) (d:DInfo) (lv:List VOper) (env:Env) (K:Env->Heap->Prop):List Nat->Nat->(Nat->Value)->(Nat->Heap)->Prop
 |full {nd:List Nat}{tr:Nat->Value}{hp:Nat->Heap}(hF:∀ l,l<lv.length->l∉nd->DFact S d lv env tr hp (d.rank lv.length) l) (hK:K (EL lv env tr (λ_=>true) lv.length) (hp (d.rank lv.length))):Know S d lv env K nd lv.length tr hp
 |part {nd:List Nat}{i:Nat}{tr:Nat->Value}{hp:Nat->Heap}{v:VOper}(hv:lv[i]?=some v) (hk:v.op.kind=2) (hw:Xb (EL lv env tr (λ_=>true) i) v.guard=some true)
   (hF:∀ l,l<i->l∉nd->DFact S d lv env tr hp (d.rank i) l) (jq:∀ j,i<j->j<lv.length->∃ e u,i<=e/\e<j/\lv[e]?=some u/\((∃ x,u.dst=some x/\∀ v,lv[j]?=some v->x∈Uv v)\/(u.op.kind=2/\∀ v,lv[j]?=some v->v.op.kind=2)))
   (R:Value->Heap->Prop) (fB:vop S v.op (EL lv env tr (λ_=>true) i) (hp (d.rank i)) R)
   (I:∀ u U',R u U'->Nat) (T:∀ u U',R u U'->Nat->Value) (H:∀ u U',R u U'->Nat->Heap)
   (hT:∀ u U' h,i<I u U' h/\(∀ l,l<i->T u U' h l=tr l)/\T u U' h i=u/\(∀ r,r<=d.rank i->H u U' h r=hp r)/\H u U' h (d.rank i+1)=U')
   (next:∀ u U' h,Know S d lv env K (i::nd) (I u U' h) (T u U' h) (H u U' h)):Know S d lv env K nd i tr hp
theorem Fq {r:Nat}{U:Heap}:∀ {l:List (Nat×(Heap->Prop))},W7 r U l->∀ c∈l,r<=c.1->c.2 U
 |[],_,_,h=>by cases h
 |x::l,h,c,hc=>by
  rcases zG.1 hc with rfl|hc
  .exact h.1
  .exact Fq h.2 c hc
theorem TY {op:VOp}{ev:Operand->Value}{v:Value}{Z:Heap}(h:We op ev v Z):∃ U',Q6 op ev Z=some (v,U'):=by
 unfold We at h;cases hv:Q6 op ev Z with
 |none=>rw[hv] at h;exact h.elim
 |some q =>rw[hv] at h;have h:q.1=v:=h;exact⟨q.2,by rw[<-h]⟩
theorem DFact.congr {d:DInfo}{lv:List VOper}{env:Env}{tr tr':Nat->Value}{hp br:Nat->Heap}{u u' l:Nat}(h:DFact S d lv env tr hp u l) (ht:∀ k,k<=l->tr' k=tr k) (hh:∀ r,r<=u->br r=hp r) (hr:d.rank l<=u) (h2:∀ v,lv[l]?=some v->v.op.kind=2->d.rank l+1<=u)
  (hu:∀ v,lv[l]?=some v->Xb (EL lv env tr (λ_=>true) l) v.guard=some true->v.op.kind=1->∀ r,u<r->r<=u'->r<=d.kmax l->∃ U',Q6 v.op (Q4 (EL lv env tr (λ_=>true) l)) (br r)=some (tr l,U')):DFact S d lv env tr' br u' l:=by
 intro v hv;obtain⟨b,f1,f2,f3,f4,f5⟩:=h v hv;have e:=Uw lv env (tr:=tr') (tr':=tr) (A:=λ_=>true) (B:=λ_=>true) l (λk hk=>ht k (by omega)) (λ_ _=>rfl);rw[e,ht l (zd _),hh _ hr]
 grind
theorem Cr:∀ (d:DInfo) (rest:List VOper) (i:Nat) (xs:List Nat),waits xs (d.opers rest i)=true->∀ (k:Nat) (v:VOper),rest[k]?=some v->v.op.kind=2\/(∃ x∈xs,x∈Uv v)\/∃ (e:Nat) (u:VOper) (x:Nat),e<k/\rest[e]?=some u/\u.dst=some x/\x∈Uv v
 |d,[],i,xs,_,k,v,hv=>by simp at hv
 |d,o::rest,i,xs,h,k,v,hv=>by
  simp only[DInfo.opers,waits,z1,zo,xN,zF] at h;obtain⟨h1,h2⟩:=h;cases k with
  |zero =>
   obtain rfl:o=v:=by simpa using hv
   rcases h1 with h1|⟨x,hx,bc⟩
   .exact .inl h1
   refine .inr (.inl ⟨x,by simpa using bc,?_⟩);simp only[Uv,xw] at hx |-;rcases hx with hx|hx
   .exact .inl (.inr hx)
   .exact .inr hx
  |succ k =>
   rcases Cr d rest (i+1) _ h2 k v (by simpa using hv) with h3|⟨y,hy,qZ⟩|⟨e,u,y,he,hu,hd,hn⟩
   .exact .inl h3
   .rcases xw.1 hy with hy|hy
    .exact .inr (.inr ⟨0,o,y,by omega,rfl,by simpa using hy,qZ⟩)
    .exact .inr (.inl ⟨y,hy,qZ⟩)
   .exact .inr (.inr ⟨e+1,u,y,by omega,by simpa using hu,hd,hn⟩)
theorem Fg (d:DInfo) {i j:Nat}(h:i<=j):d.rank i<=d.rank j:=by
 induction j with
 |zero =>
  obtain rfl:i=0:=by omega
  exact zd _
 |succ j ih =>
  by_cases cq:i=j+1
  .subst cq;exact zd _
  .have:=ih (by omega);simp only[DInfo.rank];split<;>omega
theorem Z16 (d:DInfo) (lv:List VOper) (lq:∀ i v,lv[i]?=some v->d.k i=v.op.kind) (env:Env) (K:Env->Heap->Prop):∀ (rest:List VOper) (i:Nat),i<=lv.length->lv.drop i=rest->∀ (nd:List Nat) (tp:Nat->Value) (hq:Nat->Heap) (pend:List (Nat×(Heap->Prop))),
  (∀ l,l<i->l∉nd->DFact S d lv env tp hq (d.rank i) l)->Z1e d lv env tp i pend ->
  Jx S (d.opers rest i) (EL lv env tp (λ_=>true) i) ((List.range (d.rank i+1)).map hq) (hq (d.rank i)) pend K ->
  ∃ k tr hp,i<=k/\(∀ l,l<i->tr l=tp l)/\(∀ r,r<=d.rank i->hp r=hq r)/\Know S d lv env K nd k tr hp:=by
 intro rest;induction rest with
 |nil =>
  intro i gI hi nd tp hq pend hF hP h;have hl:lv.length<=i:=by simpa using hi
  obtain rfl:i=lv.length:=by omega
  simp only[DInfo.opers,Jx] at h;exact⟨_,tp,hq,zd _,λ_ _=>rfl,λ_ _=>rfl,.full hF h⟩
 |cons v rest ih =>
  intro i gI hi nd tp hq pend hF hP h;have al:i<lv.length:=by
   grind
  have hv:lv[i]?=some v:=by
   have:=congrArg List.head? hi
   grind [List.head?_drop]
  have fP:lv.drop (i+1)=rest:=by have:=congrArg List.tail hi;simpa using this
  have hk:=lq i v hv;have fa:v.op.kind=2->d.rank (i+1)=d.rank i+1:=λe=>by simp only[DInfo.rank,hk,e,zr]
  have je:v.op.kind≠2->d.rank (i+1)=d.rank i:=λe=>by simp only[DInfo.rank,hk,e,if_false]
  have fh:∀ l,l<i->d.rank l<=d.rank i/\∀ w,lv[l]?=some w->w.op.kind=2->d.rank l+1<=d.rank i:=λl hl=>by have h1:=Fg d (show l+1<=i by omega);refine⟨by simp only[DInfo.rank] at h1;split at h1<;>omega,λw hw h2=>?_⟩;simp only[DInfo.rank,lq l w hw,h2,zr] at h1;exact h1
  simp only[DInfo.opers,Jx] at h;have hlen:((List.range (d.rank i+1)).map hq).length=d.rank i+1:=by simp
  cases hw:Xb (EL lv env tp (λ_=>true) i) v.guard with
  |none=>rw[hw] at h;exact h.elim
  |some b =>
   rw[hw] at h;obtain⟨ht,hf⟩:=h
   have go:∀ (iO:List Nat) (u:Value) (U':Heap) (bH:List (Nat×(Heap->Prop))),(∀ l,l∈nd->l∈iO) ->
     Jx S (d.opers rest (i+1)) (XV (EL lv env tp (λ_=>true) i) v.dst u) (if v.op.kind=2 then (List.range (d.rank i+1)).map hq++[U'] else (List.range (d.rank i+1)).map hq) (if v.op.kind=2 then U' else hq (d.rank i)) bH K ->
     (v.op.kind=2->W7 (d.rank i+1) U' pend)->(∀ c∈pend,c∈bH) ->
     (b=true->v.op.kind=1->d.rank i+1<=d.kmax i->(d.kmax i,We v.op (Q4 (EL lv env tp (λ_=>true) i)) u)∈bH) ->
     (i∉iO->∀ tr hp,(∀ l,l<i->tr l=tp l)->tr i=u->(∀ r,r<=d.rank i->hp r=hq r)->(v.op.kind=2->hp (d.rank i+1)=U')->DFact S d lv env tr hp (d.rank (i+1)) i) ->
     ∃ k tr hp,i<k/\(∀ l,l<i->tr l=tp l)/\tr i=u/\(∀ r,r<=d.rank i->hp r=hq r)/\(v.op.kind=2->hp (d.rank i+1)=U')/\Know S d lv env K iO k tr hp:=by
    intro iO u U' bH iP h jr iQ ki mg;let gL:Nat->Value:=λl=>if l=i then u else tp l
    let dm:Nat->Heap:=λr=>if v.op.kind=2/\r=d.rank i+1 then U' else hq r
    have et:∀ l,l<i->gL l=tp l:=(by grind);have ei:gL i=u:=by simp[gL]
    have eh:∀ r,r<=d.rank i->dm r=hq r:=(by grind);have q_:v.op.kind=2->dm (d.rank i+1)=U':=λaB=>by simp[dm,aB]
    have e1:EL lv env gL (λ_=>true) (i+1)=XV (EL lv env tp (λ_=>true) i) v.dst u:=by simp only[EL,zr];rw[Uw lv env (tr:=gL) (tr':=tp) i et (λ_ _=>rfl),hv,ei];rfl
    have e2:(List.range (d.rank (i+1)+1)).map dm=if v.op.kind=2 then (List.range (d.rank i+1)).map hq++[U'] else (List.range (d.rank i+1)).map hq:=by
     grind [List.range_succ,List.map_congr_left]
    have e3:dm (d.rank (i+1))=if v.op.kind=2 then U' else hq (d.rank i):=by simp only[DInfo.rank,hk];split<;>rename_i aB<;>simp[dm,aB]
    have tg:∀ l,l<i+1->l∉iO->DFact S d lv env gL dm (d.rank (i+1)) l:=λl hl gM=>by
     by_cases gN:l=i
     .subst gN;exact mg gM gL dm et ei eh q_
     .have gN:l<i:=by omega
      refine (hF l gN λh=>gM (iP l h)).congr (λk hk=>et k (by omega)) eh (fh l gN).1 (fh l gN).2 λw fQ om bD r r1 r2 r3=>?_;by_cases aB:v.op.kind=2
      .rw[fa aB] at r2;obtain rfl:r=d.rank i+1:=by omega
       rw[q_ aB];exact TY (Fq (jr aB) _ (hP l gN w fQ om bD (by omega)) (by simpa using r3))
      .rw[je aB] at r2;omega
    have th:Z1e d lv env gL (i+1) bH:=λl hl w fQ om bD ph=>by
     by_cases gN:l=i
     .subst gN;rw[hv] at fQ;obtain rfl:=osj fQ;have e:=Uw lv env (tr:=gL) (tr':=tp) (A:=λ_=>true) (B:=λ_=>true) l et (λ_ _=>rfl);simp_all
     .have gN:l<i:=by omega
      have e:=Uw lv env (tr:=gL) (tr':=tp) (A:=λ_=>true) (B:=λ_=>true) l (λk hk=>et k (by omega)) (λ_ _=>rfl);rw[e] at om |-;rw[et l gN];have hle:d.rank i<=d.rank (i+1):=by simp only[DInfo.rank];split<;>omega
      exact iQ _ (hP l gN w fQ om bD (by omega))
    obtain⟨k,tr,hp,k0,k1,k2,k3⟩:=ih (i+1) (by omega) fP iO gL dm bH tg th (by rw[e1,e2,e3];exact h)
    grind
   have weak:∀ {iO:List Nat}{u:Value}{U':Heap},(∃ k tr hp,i<k/\(∀ l,l<i->tr l=tp l)/\tr i=u/\(∀ r,r<=d.rank i->hp r=hq r)/\(v.op.kind=2->hp (d.rank i+1)=U')/\Know S d lv env K iO k tr hp)->∃ k tr hp,i<=k/\(∀ l,l<i->tr l=tp l)/\(∀ r,r<=d.rank i->hp r=hq r)/\Know S d lv env K iO k tr hp:=by
    grind
   have fact:∀ {u:Value}{U':Heap},(b=true->v.op.kind=1->∀ r,d.kmin i<=r->r<=d.rank i->We v.op (Q4 (EL lv env tp (λ_=>true) i)) u (hq r))->(b=true->v.op.kind≠1->v.op.kind≠2->∃ aJ,Q6 v.op (Q4 (EL lv env tp (λ_=>true) i)) (hq (d.rank i))=some (u,aJ))->(b=false->u=undef/\(v.op.kind=2->U'=hq (d.rank i)))->(b=true->v.op.kind=2->vop S v.op (EL lv env tp (λ_=>true) i) (hq (d.rank i)) (λv' aJ=>v'=u/\aJ=U')) ->
     ∀ tr hp,(∀ l,l<i->tr l=tp l)->tr i=u->(∀ r,r<=d.rank i->hp r=hq r)->(v.op.kind=2->hp (d.rank i+1)=U')->DFact S d lv env tr hp (d.rank (i+1)) i:=by
    intro u U' g1 g2 g3 k5 tr hp k1 k2 k3 k4 v' jt;rw[hv] at jt;obtain rfl:=osj jt;have e:=Uw lv env (tr:=tr) (tr':=tp) (A:=λ_=>true) (B:=λ_=>true) i k1 (λ_ _=>rfl);rw[e,k2,k3 _ (zd _)]
    grind [TY]
   cases b with
   |false =>
    have hf:=hf rfl;by_cases aB:v.op.kind=2
    .rw[z7 aB] at hf;obtain⟨oh,hf⟩:=hf;exact weak (go nd undef (hq (d.rank i)) pend (λ_ h=>h) (by rw[z7 aB,ite_self];exact hf) (by grind) (λ_ h=>h) (λh=>by cases h) (λ_=>fact (λh=>by cases h) (λh=>by cases h) (λ_=>⟨rfl,λ_=>rfl⟩) (λh=>by cases h)))
    .rw[z6 aB] at hf;exact weak (go nd undef (hq (d.rank i)) pend (λ_ h=>h) (by rw[z6 aB,ite_self];exact hf) (λh=>absurd h aB) (λ_ h=>h) (λh=>by cases h) (λ_=>fact (λh=>by cases h) (λh=>by cases h) (λ_=>⟨rfl,λ_=>rfl⟩) (λh=>by cases h)))
   |true =>
    have ht:=ht rfl;by_cases aB:v.op.kind=2
    .rw[z7 aB] at ht;rw[hlen] at ht;rcases ht with⟨u,U',h1,h2,h3⟩|⟨gk,fB⟩
     .exact weak (go nd u U' pend (λ_ h=>h) (by rw[z7 aB,z7 aB];exact h3) (λ_=>h2) (λ_ h=>h) (λ_ hk=>by omega) (λ_=>fact (λ_ hk=>by omega) (λ_ _ hk=>absurd aB hk) (λh=>by cases h) (λ_ _=>h1)))
     .have nx:∀ u U',(W7 (d.rank i+1) U' pend/\Jx S (d.opers rest (i+1)) (XV (EL lv env tp (λ_=>true) i) v.dst u) ((List.range (d.rank i+1)).map hq++[U']) U' pend K) ->
        ∃ k tr hp,i<k/\(∀ l,l<i->tr l=tp l)/\tr i=u/\(∀ r,r<=d.rank i->hp r=hq r)/\(v.op.kind=2->hp (d.rank i+1)=U')/\Know S d lv env K (i::nd) k tr hp:=λu U' ⟨h2,h3⟩ =>
       go (i::nd) u U' pend (λ_ h=>xF _ h) (by rw[z7 aB,z7 aB];exact h3) (λ_=>h2) (λ_ h=>h) (λ_ hk=>by omega) (λh=>absurd xj h)
      refine⟨i,tp,hq,zd _,λ_ _=>rfl,λ_ _=>rfl,.part hv aB hw hF (λj hj aM=>?_) _ fB (λu U' h=>(nx u U' h).choose) (λu U' h=>(nx u U' h).choose_spec.choose) (λu U' h=>(nx u U' h).choose_spec.choose_spec.choose) (λu U' h=>?_) (λu U' h=>?_)⟩
      .obtain⟨n,hn⟩:∃ n,j=i+1+n:=⟨j-(i+1),by omega⟩;subst hn;have tj:∀ k w,lv[i+1+k]?=some w->rest[k]?=some w:=(by grind);have po:∀ k w,rest[k]?=some w->lv[i+1+k]?=some w:=(by grind);have tk:=z8 aM;rcases Cr d rest (i+1) _ gk n _ (tj n _ tk) with pq|⟨x,hx,iR⟩|⟨e,u,x,he,hu,hd,iR⟩
       .exact⟨i,v,zd _,by omega,hv,(by grind)⟩
       .exact⟨i,v,zd _,by omega,hv,(by grind)⟩
       .exact⟨i+1+e,u,by omega,by omega,po e u hu,(by grind)⟩
      .grind
      grind
    .rw[z6 aB] at ht;by_cases bD:v.op.kind=1
     .rw[z7 bD] at ht;cases dt:Q6 v.op (Q4 (EL lv env tp (λ_=>true) i)) (hq (d.rank i)) with
      |none=>rw[dt] at ht;exact ht.elim
      |some p =>
       rw[dt] at ht;obtain⟨g1,g2⟩:=ht;refine weak (go nd p.1 (hq (d.rank i)) _ (λ_ h=>h) (by rw[z6 aB,ite_self];exact g2) (λh=>absurd h aB) (λc hc=>?_) (λ_ _ hr=>?_) (λ_=>fact (λ_ _ r tl tm=>?_) (λ_ hk=>absurd bD hk) (λh=>by cases h) (λ_ hk=>absurd hk aB)))
       .grind
       .grind
       .refine g1 _ ?_;rw[zW];refine⟨r-d.kmin i,?_⟩
        grind
     .rw[z6 bD] at ht;cases dt:Q6 v.op (Q4 (EL lv env tp (λ_=>true) i)) (hq (d.rank i)) with
      |none=>rw[dt] at ht;exact ht.elim
      |some p =>rw[dt] at ht;exact weak (go nd p.1 (hq (d.rank i)) pend (λ_ h=>h) (by rw[z6 aB,ite_self];exact ht) (λh=>absurd h aB) (λ_ h=>h) (λ_ hk=>absurd hk bD) (λ_=>fact (λ_ hk=>absurd hk bD) (λ_ _ _=>⟨p.2,dt⟩) (λh=>by cases h) (λ_ hk=>absurd hk aB)))
structure DOk (d:DInfo) (n:Nat):Prop where
 edge:∀ j,j<n->∀ e∈d.ed.getD j [],e<j
 path:∀ j,j<n->∀ i,i<j->d.lt i j=true->∃ e∈d.ed.getD j [],e=i\/(i<e/\d.lt i e=true)
 free:∀ j,j<n->∀ i,i<j->d.lt i j=false->d.touch i j=false/\¬(d.k i=2/\d.k j=2)
 kmin:∀ j,j<n->d.k j=1->(d.kmin j<=d.rank j/\d.rank j<=d.kmax j)/\d.kmax j<=d.rank n/\∀ l,l<n->d.k l=2->((d.lt l j=true<->d.rank l<d.kmin j)/\(d.lt j l=true<->d.kmax j<=d.rank l))
theorem DOk.of {d:DInfo}(h:d.ok=true):DOk d d.ks.length:=by
 have h0:∀ j,j<d.ks.length->d.okE j=true/\d.okP j=true/\d.okK j=true:=λj hj=>by have:=zh.1 h j (x8.2 hj);simpa [z1] using this
 refine⟨λj hj e he=>?_,λj hj i hi al=>?_,λj hj i hi al=>?_,λj hj hk=>?_⟩
 .have:=zh.1 (h0 j hj).1 e he;simpa using this
 .have:=zh.1 (h0 j hj).2.1 i (x8.2 hi);simp_all
 .have:=zh.1 (h0 j hj).2.1 i (x8.2 hi)
  grind
 .have:=(h0 j hj).2.2;simp only[DInfo.okK,hk,BEq.rfl,xW,Bool.false_or,z1,zf] at this
  grind
theorem TQ (d:DInfo) {i j:Nat}(h:i<j) (hk:d.k i=2):d.rank i<d.rank j:=by have:=Fg d (show i+1<=j from h);simp only[DInfo.rank,hk,zr] at this;omega
theorem NY (d:DInfo):∀ j r,r<d.rank j->∃ l,l<j/\d.k l=2/\d.rank l=r
 |0,r,h=>by simp[DInfo.rank] at h
 |j+1,r,h=>by
  simp only[DInfo.rank] at h;split at h
  .rename_i hk;rcases zl r (d.rank j) with h'|h'
   .obtain⟨l,h1,h2⟩:=NY d j r h';exact⟨l,by omega,h2⟩
   grind
  .obtain⟨l,h1,h2⟩:=NY d j r h;exact⟨l,by omega,h2⟩
theorem HT {d:DInfo}{n:Nat}(hd:DOk d n) {A:Nat->Bool}(hc:∀ j,j<n->A j=true->∀ e∈d.ed.getD j [],A e=true):∀ j,j<n->A j=true->∀ i,i<j->d.lt i j=true->A i=true:=by
 intro j;induction j using Nat.strongRecOn with
 |ind j ih =>
  intro hj hA i hi al;obtain⟨e,he,h⟩:=hd.path j hj i hi al;have mh:=hd.edge j hj e he;have gm:=hc j hj hA e he;rcases h with rfl|⟨h1,h2⟩
  .exact gm
  .exact ih e mh (by omega) gm i h1 h2
def cnt (A:Nat->Bool):Nat->Nat
 |0=>0
 |i+1=>cnt A i+if A i then 0 else 1
theorem IV {A:Nat->Bool}:∀ {n},cnt A n=0->∀ i,i<n->A i=true
 |0,_,i,h=>by omega
 |n+1,hc,i,h=>by
  simp only[cnt] at hc;by_cases hi:i=n
  .simp_all
  .exact IV (n:=n) (by omega) i (by omega)
theorem Q2h {A B:Nat->Bool}{j:Nat}(hA:A j=false) (hB:B j=true) (h:∀ i,i≠j->A i=B i):∀ n,j<n->cnt A n=cnt B n+1
 |0,hj=>by omega
 |n+1,hj=>by
  simp only[cnt];by_cases aM:j=n
  .subst aM;have:cnt A j=cnt B j:=by
    have key:∀ m,m<=j->cnt A m=cnt B m:=by
     intro m;induction m with
     |zero=>intro _;rfl
     |succ m ih=>intro hm;simp only[cnt];rw[ih (by omega),h m (by omega)]
    exact key j (zd _)
   simp[hA,hB,this]
  .have:=Q2h hA hB h n (by omega);rw[h n (by omega)];omega
theorem Q86 (o:VOp):o.kind<=2:=by
 unfold VOp.kind;split<;>try omega
 split<;>omega
theorem Q7v {o:VOp}{env:Env}{U:Heap}{p:Value×Heap}{K:Value->Heap->Prop}(hk:o.kind≠2) (h:Q6 o (Q4 env) U=some p) (hK:K p.1 p.2):vop S o env U K:=by
 cases o
 case callF=>exact absurd rfl hk
 case callV=>exact absurd rfl hk
 case ext x =>
  cases x
  case nextMap=>exact absurd rfl hk
  all_goals (simp only[vop];rw[h];exact hK)
 all_goals (simp only[vop];rw[h];exact hK)
theorem H6 {o:VOp}{ev:Operand->Value}{U U':Heap}{v:Value}(hk:o.kind≠2) (h:Q6 o ev U=some (v,U')):U'=U:=by have:=R6 hk h (Heap.Le.refl U);simp_all
theorem Cc {env ai:Env}{g:Option (Nat×Bool)}(h:∀ x b,g=some (x,b)->env[x]?=ai[x]?):Xb env g=Xb ai g:=by
 cases g with
 |none=>rfl
 |some p =>obtain⟨x,b⟩:=p;simp only[Xb,ze];rw[h x b rfl]
theorem CB {env ai:Env}{x:Operand}(h:∀ t,x=.tmp t->env[t]?=ai[t]?):Q4 env x=Q4 ai x:=by
 cases x<;>try rfl
 rename_i t;simp only[Q4,ze];rw[h t rfl]
structure DInv (B:Nat) (d:DInfo) (lv:List VOper) (env:Env) (tr:Nat->Value) (hp:Nat->Heap) (ρ0:Plc) (σ0:Heap) (w0:World) (A:Nat->Bool) (a:Act) (w:World):Prop where
 closed:∀ j,j<lv.length->A j=true->∀ e∈d.ed.getD j [],A e=true
 run:∃ m ρ,(∀ l,l<lv.length->d.k l=2->(A l=true<->d.rank l<m))/\m<=d.rank lv.length/\HRel ρ (hp m) w/\LRel ρ (hp m).n (EL lv env tr A lv.length) a.tmps.toList/\Mks B a.defers w/\Ext ρ0 σ0 w0 ρ (hp m) w
structure DLink (P:Program) (ops:Array Oper) (pm:List Nat) (d:DInfo) (lv:List VOper):Prop where
 comp:∀ (p:Nat) (v:VOper),lv[p]?=some v->∃ o,ops[pm.getD p 0]?=some o/\Xe P ops o=some v/\d.k p=v.op.kind
 touch:∀ (i j:Nat) (u v:VOper),lv[i]?=some u->lv[j]?=some v->d.touch i j=false->(∀ x,u.dst=some x->x∉Uv v)/\(∀ x,v.dst=some x->x∉Uv u)
 size:pm.length=lv.length
theorem DLink.of {ops:Array Oper}{vs:List VOper}(h:ops.toList.mapM (Xe P ops)=some vs) {d0:DInfo}{pm:List Nat}(i_:∀ i∈pm,i<vs.length):DLink P ops pm (Ic d0 vs pm) (N2 vs pm):=by
 obtain⟨h1,h2⟩:=Yz _ _ _ h;refine⟨λp v hv=>?_,λi j u v hu hv ht=>?_,by simp[N2]⟩
 .simp only[N2,xh,zn] at hv;obtain⟨i,hi,rfl⟩:=hv;have aP:=i_ i (x4 hi);have mi:i<ops.toList.length:=by omega
  obtain⟨v,hv,hc⟩:=h2 i _ (z8 mi);have hg:vs.getD i default=v:=by simp[ze,hv]
  have hp:pm.getD p 0=i:=by simp[ze,hi]
  refine⟨ops.toList[i],?_,by rw[hg];exact hc,?_⟩
  .rw[hp];simp
  .simp[DInfo.k,Ic,N2,ze,hi]
 .simp only[DInfo.touch,Ic,Q74,ze,xh,hu,hv,xR,Option.getD_some,Bool.or_eq_false_iff] at ht
  grind
theorem Ix {v:VOper}{x:Nat}(h:v.dst=some x):x∈Uv v:=by simp[Uv,h]
theorem O6 {v:VOper}{x:Nat}(h:Operand.tmp x∈v.op.opds):x∈Uv v:=by refine List.mem_append_left _ (wb _ ?_);exact List.mem_filterMap.2 ⟨_,h,rfl⟩
theorem LU {v:VOper}{x:Nat}{b:Bool}(h:v.guard=some (x,b)):x∈Uv v:=by refine wb _ ?_;simp[h]
theorem RH (hS:OkSpecs P S) {ro:Option Nat}{n:Nat}{ops:Array Oper}{pm:List Nat}{d:DInfo}{lv:List VOper}(hl:DLink P ops pm d lv) (hd:DOk d lv.length) {env:Env}{tr:Nat->Value}{hp:Nat->Heap}
  {bd j:Nat}(hF:DFact S d lv env tr hp bd j)
  {Q:Exit->Act->World->Prop}{ρ0:Plc}{σ0:Heap}{w0:World}{A:Nat->Bool}{a:Act}{w:World}(tn:∀ m,(∀ l,l<lv.length->d.k l=2->(A l=true<->d.rank l<m))->m<=d.rank lv.length->m<=bd) (hI:DInv B d lv env tr hp ρ0 σ0 w0 A a w)
  (aM:j<lv.length) (kj:A j=false) (fC:∀ e∈d.ed.getD j [],A e=true) {A':Nat->Bool}(aW:∀ i,A' i=if i=j then true else A i) {K:Act->World->Prop}(hK:∀ a' w',DInv B d lv env tr hp ρ0 σ0 w0 A' a' w'->K a' w'):wpOpIn (FF ro) n P ops Q (pm.getD j 0) K a w:=by
 obtain⟨v,hv⟩:∃ v,lv[j]?=some v:=⟨_,z8 aM⟩;obtain⟨o,ho,hc,hk⟩:=hl.comp j v hv;obtain⟨cB,m,ρ,hm,oo,hH,hL,dL,hE⟩:=hI;have mj:∀ i,i<j->d.lt i j=true->A i=true:=by
  intro i hi al;obtain⟨e,he,h⟩:=hd.path j aM i hi al;have mh:=hd.edge j aM e he;have gm:A e=true:=fC e he;rcases h with rfl|⟨h1,h2⟩
  .exact gm
  .exact HT hd cB e (by omega) gm i h1 h2
 have ml:∀ i,i<lv.length->j<i->d.lt j i=true->A i=false:=by
  intro i hi aL al;cases hA:A i with
  |false=>rfl
  |true=>rw[HT hd cB i hi hA j aL al] at kj;cases kj
 have mn:∀ x,x∈Uv v->(EL lv env tr A lv.length)[x]?=(EL lv env tr (λ_=>true) j)[x]?:=by
  intro x hx;rw[<-HO lv env tr j lv.length (by omega)];refine Br lv env tr x lv.length λl bj bF=>?_;cases bW:lv[l]? with
  |none=>rw[bW] at bF;cases bF
  |some u =>
   rw[bW] at bF;rcases Nat.lt_trichotomy l j with h|h|h
   .have al:d.lt l j=true:=by
     cases al:d.lt l j with
     |true=>rfl
     |false=>exact absurd hx ((hl.touch l j u v bW hv (hd.free j aM l h al).1).1 x bF)
    simp_all
   .simp_all
   .have al:d.lt j l=true:=by
     cases al:d.lt j l with
     |true=>rfl
     |false=>exact absurd hx ((hl.touch j l v u hv bW (hd.free l bj j h al).1).2 x bF)
    grind
 obtain⟨b,f1,f2,f3,tq,f4⟩:=hF v hv;have hw:Xb (EL lv env tr A lv.length) v.guard=some b:=by
  grind [Cc,LU]
 have iS:∀ x∈v.op.opds,Q4 (EL lv env tr A lv.length) x=Q4 (EL lv env tr (λ_=>true) j) x:=(by grind [CB,O6]);obtain⟨cN,bF,bw⟩:=HA hc hL hw;have eC:EL lv env tr A' lv.length=XV (EL lv env tr A lv.length) v.dst (tr j):=by
  apply zI;intro x;by_cases hx:v.dst=some x
  .have h1:(EL lv env tr A' lv.length)[x]?=(EL lv env tr (λl=>decide (l<j+1)) lv.length)[x]?:=by
    refine Br lv env tr x lv.length λl bj ck=>?_;rw[aW];by_cases iT:l=j
    .subst iT;simp
    .rw[z6 iT];cases bW:lv[l]? with
     |none=>rw[bW] at ck;cases ck
     |some u =>
      rw[bW] at ck;have ju:=Ix hx;rcases zl l j with h|h
      .have al:d.lt l j=true:=by
        cases al:d.lt l j with
        |true=>rfl
        |false=>exact absurd ju ((hl.touch l j u v bW hv (hd.free j aM l h al).1).1 x ck)
       grind
      .have h':j<l:=by omega
       have al:d.lt j l=true:=by
        cases al:d.lt j l with
        |true=>rfl
        |false=>exact absurd ju ((hl.touch j l v u hv bW (hd.free l bj j h' al).1).2 x ck)
       grind
   rw[h1,HO lv env tr (j+1) lv.length (by omega)];simp only[EL,zr,hv,x3,hx,XV];rw[xu,xu];simp only[zr,Ub]
  grind [Bp,Br]
 have bX:∀ i,i<lv.length->A' i=true->∀ e∈d.ed.getD i [],A' e=true:=by
  grind
 have pr:d.k j=2->d.rank j=m:=by
  intro aB;have h1:¬ d.rank j<m:=(by grind);by_cases h2:d.rank j=m
  .exact h2
  .obtain⟨l,iT,cD,fh⟩:=NY d j m (by omega);have al:d.lt l j=true:=by
    cases al:d.lt l j with
    |true=>rfl
    |false=>exact absurd ⟨cD,aB⟩ (hd.free j aM l iT al).2
   grind
 have gO:d.k j=2->∀ l,l<lv.length->d.k l=2->(A' l=true<->d.rank l<m+1):=by
  grind [Nat.lt_or_ge,TQ]
 have lr:d.k j≠2->∀ l,l<lv.length->d.k l=2->(A' l=true<->d.rank l<m):=by
  grind
 have kn:d.k j=2->m+1<=d.rank lv.length:=(by grind [TQ]);unfold wpOpIn;simp only[ho];cases b with
 |false =>
  rw[cN,z6 (by simp)];obtain⟨g1,g2⟩:=f4 rfl;refine⟨λf _=>OK _ _,hK _ _ ⟨bX,?_⟩⟩;by_cases aB:d.k j=2
  .grind [Wo,Vs,Xy]
  .grind [Wo,Vs,Xy]
 |true =>
  rw[cN,z7 rfl];by_cases aB:d.k j=2
  .have fR:=pr aB;have g1:=f2 rfl (hk▸aB);rw[fR] at g1;rw[<-E0 iS] at g1;refine Np hS bw hH hL g1 λc w' ⟨u,ρ',U',⟨hu,hσ⟩,dR,fO,bM⟩=>hK _ _ ⟨bX,?_⟩;subst hu;subst hσ;refine⟨m+1,ρ',gO aB,kn aB,fO,?_,by rw[Wo];exact dL.ext hH bM,hE.trans bM⟩;rw[eC,bF];exact Vs (bM.lrel hL) dR o.dst
  .have g2:∃ σ1,Q6 v.op (Q4 (EL lv env tr A lv.length)) (hp m)=some (tr j,σ1):=by
    rw[Pu iS];by_cases bD:d.k j=1
    .obtain⟨⟨k1,k4⟩,k3,k2⟩:=hd.kmin j aM bD;refine f3 rfl (hk▸bD) m ?_ ?_ (tn m hm oo)
     .rcases zl m (d.kmin j) with h|h
      .obtain⟨l,bj,cD,fh⟩:=NY d j m (by omega)
       grind
      .exact h
     .rcases zl (d.kmax j) m with h|h
      .obtain⟨l,bj,cD,fh⟩:=NY d lv.length (d.kmax j) (by omega);have al:=(k2 l bj cD).2.2 (by omega);have ra:=(hm l bj cD).2 (by omega);rcases Nat.lt_trichotomy j l with h'|h'|h'
       .simp_all
       .subst h';omega
       .exfalso;have fa:d.rank l<d.rank j:=TQ d h' cD;omega
      .exact h
    .have gG:v.op.kind=0:=by
      grind [Q86]
     obtain⟨σ1,g1⟩:=tq rfl (by omega) (by omega);exact⟨hp m,Sq gG g1⟩
   obtain⟨σ1,g2⟩:=g2;have hq:=H6 (hk▸aB) g2;subst hq;refine Np hS (K:=λv' U'=>v'=tr j/\U'=hp m) bw hH hL (by grind [Q7v]) λc w' ⟨u,ρ',U',⟨hu,hσ⟩,dR,fO,bM⟩=>hK _ _ ⟨bX,?_⟩;subst hu;subst hσ;refine⟨m,ρ',lr aB,oo,fO,?_,by rw[Wo];exact dL.ext hH bM,hE.trans bM⟩;rw[eC,bF];exact Vs (bM.lrel hL) dR o.dst
theorem I8 (hS:OkSpecs P S) {ro:Option Nat}{n:Nat}{ops:Array Oper}{pm:List Nat}{d:DInfo}{lv:List VOper}(hl:DLink P ops pm d lv) (hd:DOk d lv.length) {env:Env}{tr:Nat->Value}{hp:Nat->Heap}
  {j:Nat}{v:VOper}(hv:lv[j]?=some v) (pw:v.op.kind=2) (vg:Xb (EL lv env tr (λ_=>true) j) v.guard=some true) {R:Value->Heap->Prop}(fB:vop S v.op (EL lv env tr (λ_=>true) j) (hp (d.rank j)) R)
  {Q:Exit->Act->World->Prop}{ρ0:Plc}{σ0:Heap}{w0:World}{A:Nat->Bool}{a:Act}{w:World}(hI:DInv B d lv env tr hp ρ0 σ0 w0 A a w) (rf:∀ l,j<=l->l<lv.length->A l=false)
  (aM:j<lv.length) (kj:A j=false) (fC:∀ e∈d.ed.getD j [],A e=true) {A':Nat->Bool}(aW:∀ i,A' i=if i=j then true else A i) {K:Act->World->Prop}
  (hK:∀ u U' a' w',R u U'->(∀ tr' br,(∀ l,l<j->tr' l=tr l)->tr' j=u->(∀ r,r<=d.rank j->br r=hp r)->br (d.rank j+1)=U'->DInv B d lv env tr' br ρ0 σ0 w0 A' a' w')->K a' w'):wpOpIn (FF ro) n P ops Q (pm.getD j 0) K a w:=by
 obtain⟨o,ho,hc,hk⟩:=hl.comp j v hv;obtain⟨cB,m,ρ,hm,oo,hH,hL,dL,hE⟩:=hI;have mj:∀ i,i<j->d.lt i j=true->A i=true:=by
  intro i hi al;obtain⟨e,he,h⟩:=hd.path j aM i hi al;have mh:=hd.edge j aM e he;have gm:A e=true:=fC e he;rcases h with rfl|⟨h1,h2⟩
  .exact gm
  .exact HT hd cB e (by omega) gm i h1 h2
 have ml:∀ i,i<lv.length->j<i->d.lt j i=true->A i=false:=by
  grind
 have mn:∀ x,x∈Uv v->(EL lv env tr A lv.length)[x]?=(EL lv env tr (λ_=>true) j)[x]?:=by
  intro x hx;rw[<-HO lv env tr j lv.length (by omega)];refine Br lv env tr x lv.length λl bj bF=>?_;cases bW:lv[l]? with
  |none=>rw[bW] at bF;cases bF
  |some u =>
   rw[bW] at bF;rcases Nat.lt_trichotomy l j with h|h|h
   .have al:d.lt l j=true:=by
     cases al:d.lt l j with
     |true=>rfl
     |false=>exact absurd hx ((hl.touch l j u v bW hv (hd.free j aM l h al).1).1 x bF)
    simp_all
   .simp_all
   .grind
 have hw:Xb (EL lv env tr A lv.length) v.guard=some true:=by
  grind [Cc,LU]
 have iS:∀ x∈v.op.opds,Q4 (EL lv env tr A lv.length) x=Q4 (EL lv env tr (λ_=>true) j) x:=(by grind [CB,O6]);obtain⟨cN,bF,bw⟩:=HA hc hL hw;have eC:∀ tr:Nat->Value,EL lv env tr A' lv.length=XV (EL lv env tr A lv.length) v.dst (tr j):=λtr=>by
  apply zI;intro x;by_cases hx:v.dst=some x
  .have h1:(EL lv env tr A' lv.length)[x]?=(EL lv env tr (λl=>decide (l<j+1)) lv.length)[x]?:=by
    refine Br lv env tr x lv.length λl bj ck=>?_;rw[aW];by_cases iT:l=j
    .subst iT;simp
    .rw[z6 iT];cases bW:lv[l]? with
     |none=>rw[bW] at ck;cases ck
     |some u =>
      rw[bW] at ck;have ju:=Ix hx;rcases zl l j with h|h
      .have al:d.lt l j=true:=by
        cases al:d.lt l j with
        |true=>rfl
        |false=>exact absurd ju ((hl.touch l j u v bW hv (hd.free j aM l h al).1).1 x ck)
       grind
      .grind
   rw[h1,HO lv env tr (j+1) lv.length (by omega)];simp only[EL,zr,hv,x3,hx,XV];rw[xu,xu];simp only[zr,Ub]
  grind [Bp,Br]
 have bX:∀ i,i<lv.length->A' i=true->∀ e∈d.ed.getD i [],A' e=true:=by
  grind
 have pr:d.k j=2->d.rank j=m:=by
  intro aB;have h1:¬ d.rank j<m:=(by grind);by_cases h2:d.rank j=m
  .exact h2
  .obtain⟨l,iT,cD,fh⟩:=NY d j m (by omega);have al:d.lt l j=true:=by
    cases al:d.lt l j with
    |true=>rfl
    |false=>exact absurd ⟨cD,aB⟩ (hd.free j aM l iT al).2
   grind
 have gO:d.k j=2->∀ l,l<lv.length->d.k l=2->(A' l=true<->d.rank l<m+1):=by
  grind [Nat.lt_or_ge,TQ]
 have lr:d.k j≠2->∀ l,l<lv.length->d.k l=2->(A' l=true<->d.rank l<m):=by omega
 have kn:d.k j=2->m+1<=d.rank lv.length:=(by grind [TQ]);unfold wpOpIn;simp only[ho];rw[cN,z7 rfl];have aB:d.k j=2:=hk.trans pw;have fR:=pr aB;rw[fR,<-E0 iS] at fB;refine Np hS bw hH hL fB λc w' ⟨u,ρ',U',hR,dR,fO,bM⟩=>hK u U' _ _ hR λtr' br t1 t2 t3 t4=>⟨bX,m+1,ρ',gO aB,kn aB,?_,?_,?_,?_⟩
 .rw[<-fR,t4];exact fO
 .have e0:EL lv env tr' A lv.length=EL lv env tr A lv.length:=(by grind [Z2m,Nat.lt_or_ge]);rw[<-fR,t4,eC tr',e0,bF,t2];exact Vs (bM.lrel hL) dR o.dst
 .rw[Wo];exact dL.ext hH bM
 .rw[<-fR,t4];exact hE.trans bM
theorem Z6h {ops:Array Oper}{pm:List Nat}{d:DInfo}{lv:List VOper}(_hl:DLink P ops pm d lv) {env:Env}{tr:Nat->Value}{hp:Nat->Heap}{ρ0:Plc}{σ0:Heap}{w0:World}{A:Nat->Bool}{a:Act}{w:World}
  (hI:DInv B d lv env tr hp ρ0 σ0 w0 A a w) (hall:∀ j,j<lv.length->A j=true):Tu B (List.length env) ρ0 σ0 w0 (λai U'=>ai=EL lv env tr (λ_=>true) lv.length/\U'=hp (d.rank lv.length)) a w:=by
 obtain⟨cB,m,ρ,hm,oo,hH,hL,dL,hE⟩:=hI;have fD:m=d.rank lv.length:=by
  rcases zl m (d.rank lv.length) with h|h
  .grind [NY]
  .omega
 subst fD;have e:=Uw lv env (tr:=tr) (tr':=tr) (A:=A) (B:=λ_=>true) lv.length (λ_ _=>rfl) (λl hl=>hall l hl);exact⟨_,ρ,_,⟨rfl,rfl⟩,Ub _ _ _ _ _,hH,by rw[<-e];exact hL,dL,hE⟩
def Q2c (pm:List Nat) (d:DInfo) (n:Nat):(Nat->Bool)->List Nat->Prop
 |A,[]=>∀ p,p<n->A p=true
 |A,j::rest=>∃ p,p<n/\pm.getD p 0=j/\A p=false/\(∀ e∈d.ed.getD p [],A e=true)/\Q2c pm d n (λq=>if q=p then true else A q) rest
theorem Q04 (hS:OkSpecs P S) {ro:Option Nat}{n:Nat}{ops:Array Oper}{pm:List Nat}{d:DInfo}{lv:List VOper}(hl:DLink P ops pm d lv) (hd:DOk d lv.length) {env:Env}{K:Env->Heap->Prop}
  {Q:Exit->Act->World->Prop}{ρ0:Plc}{σ0:Heap}{w0:World}{l2:List Nat}(hQ:∀ a w,Tu B (List.length env) ρ0 σ0 w0 K a w->wpOpsIn (FF ro) n P ops Q l2 a w) {nd:List Nat}{i:Nat}{tr:Nat->Value}{hp:Nat->Heap}(tu:Know S d lv env K nd i tr hp) :
  ∀ (l:List Nat) (A:Nat->Bool) (a:Act) (w:World),Q2c pm d lv.length A l->DInv B d lv env tr hp ρ0 σ0 w0 A a w->(∀ j,i<=j->j<lv.length->A j=false)->(∀ j,j∈nd->j<lv.length->A j=true)->wpOpsIn (FF ro) n P ops Q (l++l2) a w:=by
 induction tu with
 |full hF hK =>
  intro l;induction l with
  |nil =>intro A a w hs hI _ _;obtain⟨ai,ρ',U',⟨e1,e2⟩,n1⟩:=Z6h hl hI hs;exact hQ a w ⟨ai,ρ',U',by rw[e1,e2];exact hK,n1⟩
  |cons j rest ih =>
   intro A a w hs hI hA hN;obtain⟨p,br,rfl,jv,he,a_⟩:=hs;rw[xr,wpOpsIn_cons];refine RH hS hl hd (hF p br λh=>?_) (λm _ h=>h) hI br jv he (λ_=>rfl) λa' w' mq=>ih _ a' w' a_ mq (λj h1 h2=>by omega) (λj hj f_=>?_)
   .rw[hN p h br] at jv;cases jv
   .simp_all
 |part hv hk hw hF jq R fB I T H hT next oq =>
  rename_i nd i tr hp v;have aP:i<lv.length:=by
   grind
  intro l;induction l with
  |nil =>intro A a w hs hI hA _;have:=hs i aP;rw[hA i (zd _) aP] at this;cases this
  |cons j rest ih =>
   intro A a w hs hI hA hN;obtain⟨p,br,rfl,jv,he,a_⟩:=hs;rw[xr,wpOpsIn_cons];have jV:d.k i=2:=by obtain⟨_,_,_,h⟩:=hl.comp i v hv;exact h.trans hk
   rcases Nat.lt_trichotomy p i with jx|rfl|jx
   .refine RH hS hl hd (hF p jx λh=>?_) (λm hm _=>?_) hI br jv he (λ_=>rfl) λa' w' mq=>ih _ a' w' a_ mq (λj h1 h2=>?_) (λj hj f_=>?_)
    .rw[hN p h br] at jv;cases jv
    .grind
    .grind
    simp_all
   .refine I8 hS hl hd hv hk hw fB hI hA br jv he (λ_=>rfl) λu U' a' w' hR mq=>?_;obtain⟨q1,q2,q3,q4,q5⟩:=hT u U' hR;refine oq u U' hR _ _ a' w' a_ (mq _ _ q2 q3 q4 q5) (λj h1 h2=>?_) (λj hj f_=>?_)
    .grind
    grind
   .exfalso;obtain⟨e,u,h1,h2,hu,hn⟩:=jq p jx br;have jr:=z8 br;have al:d.lt e p=true:=by
     cases h:d.lt e p with
     |true=>rfl
     |false =>
      rcases hn with⟨x,hx,hn⟩|⟨eT,dD⟩
      .exact absurd (hn _ jr) ((hl.touch e p u _ hu jr (hd.free p br e h2 h).1).1 x hx)
      .obtain⟨_,_,_,q1⟩:=hl.comp e u hu;obtain⟨_,_,_,q2⟩:=hl.comp p _ jr;exact absurd ⟨q1.trans eT,q2.trans (dD _ jr)⟩ (hd.free p br e h2 h).2
    have gm:A e=true:=by
     obtain⟨e',rh,h3⟩:=hd.path p br e h2 al;have mr:=he e' rh;rcases h3 with rfl|⟨h3,h4⟩
     .exact mr
     .exact HT hd hI.closed e' (by have:=hd.edge p br e' rh;omega) mr e h3 h4
    grind
def Us (ops:Array Oper):Array Bool->List Nat->Prop
 |L,[]=>∀ j,j<ops.size->L.getD j false=true
 |L,j::rest=>j∈Region.ready .any ops L/\Us ops (L.setIfInBounds j true) rest
theorem M8 (L:Array Bool) (j i:Nat) (hj:j<L.size):(L.setIfInBounds j true).getD i false=if i=j then true else L.getD i false:=by
 by_cases h:i=j
 .subst h;simp[hj]
 .simp[h,Array.getElem?_setIfInBounds_ne (Ne.symm h)]
theorem Q2a {ops:Array Oper}(gP:∀ (j:Nat) (o:Oper),ops[j]?=some o->∀ e∈T6 o,e<j) {L:Array Bool}(hs:L.size=ops.size) (h:Region.ready .any ops L=[]):∀ j,j<ops.size->L.getD j false=true:=by
 intro j;induction j using Nat.strongRecOn with
 |ind j ih =>
  intro hj;cases hA:L.getD j false with
  |true=>rfl
  |false =>
   exfalso;have:j∈Region.ready .any ops L:=by
    refine mem_ready.2 ⟨?_,ops[j],xx hj,λe he hb=>?_⟩
    .simp_all
    .have:=gP j ops[j] (xx hj) e.on (zL.2 (by grind));exact ih _ this (by omega)
   rw[h] at this;cases this
theorem TN {ops:Array Oper}{L:Array Bool}(hs:L.size=ops.size) {j:Nat}(h:j∈Region.ready .any ops L):j<ops.size/\L.getD j false=false/\∃ o,ops[j]?=some o/\∀ e∈T6 o,L.getD e false=true:=by obtain⟨h1,o,ho,h2⟩:=mem_ready.1 h;have aM:j<ops.size:=(xC.1 ho).1;refine⟨aM,by simp[hs,aM] at h1 |-;exact h1,o,ho,λe he=>?_⟩;obtain⟨x,hx,rfl⟩:=zL.1 he;simp_all
theorem Q75 {ops:Array Oper}(gP:∀ (j:Nat) (o:Oper),ops[j]?=some o->∀ e∈T6 o,e<j):∀ (fuel t:Nat) (L:Array Bool),L.size=ops.size->cnt (λi=>L.getD i false) ops.size<=fuel ->
  Us ops L (Region.linearise.go .any ops fuel t L []):=by
 intro fuel;induction fuel with
 |zero =>intro t L hs hc;simp only[Region.linearise.go,List.reverse_nil,Us];exact IV (by omega)
 |succ fuel ih =>
  intro t L hs hc;simp only[Region.linearise.go]
  change Us ops L (match (Region.ready .any ops L)[t % (Region.ready .any ops L).length]? with
   |some i=>Region.linearise.go .any ops fuel (t / (Region.ready .any ops L).length) (L.setIfInBounds i true) [i]
   |none=>[].reverse)
  cases hi:(Region.ready .any ops L)[t % (Region.ready .any ops L).length]? with
  |none =>
   have iU:Region.ready .any ops L=[]:=by
    cases hr:Region.ready .any ops L with
    |nil=>rfl
    |cons x xs =>rw[hr] at hi;have al:t % (x::xs).length<(x::xs).length:=xG _ (by simp);simp at hi;simp at al;omega
   simp only[List.reverse_nil,Us];exact Q2a gP hs iU
  |some i =>
   simp only[];rw[linearise_go_acc,List.reverse_singleton,List.singleton_append];have jy:=x4 hi;obtain⟨aP,ot,_⟩:=TN hs jy;refine⟨jy,ih _ _ (by simp[hs]) ?_⟩;have jz:i<L.size:=by rw[hs];exact aP
   have:=Q2h (A:=λi=>L.getD i false) (B:=λk=>(L.setIfInBounds i true).getD k false) (j:=i) ot (by simp only[M8 L i i jz,zr]) (λk hk=>by simp only[M8 L i k jz,z6 hk]) ops.size aP;omega
theorem Fz {ops:Array Oper}:∀ (l:List Nat) (L:Array Bool),L.size=ops.size->Us ops L l->l.Nodup/\∀ j,j∈l<->(j<ops.size/\L.getD j false=false):=by
 intro l;induction l with
 |nil=>intro L hs h;exact⟨List.nodup_nil,λj=>⟨λh=>(by cases h),λ⟨h1,h2⟩=>by rw[h j h1] at h2;cases h2⟩⟩
 |cons i l ih =>
  intro L hs h;obtain⟨jy,h'⟩:=h;obtain⟨aP,ot,_⟩:=TN hs jy;have jz:i<L.size:=by rw[hs];exact aP
  obtain⟨k1,k2⟩:=ih _ (by simp[hs]) h';refine⟨wc.2 ⟨λhm=>?_,k1⟩,λj=>?_⟩
  .simp_all
  .grind [M8]
structure DBase (ops:Array Oper) (d:DInfo):Prop where
 ed:∀ (j:Nat) (o:Oper),ops[j]?=some o->d.ed.getD j []=T6 o
 edge:∀ j,j<ops.size->∀ e∈d.ed.getD j [],e<j
 path:∀ j,j<ops.size->∀ i,i<j->d.lt i j=true->∃ e∈d.ed.getD j [],e=i\/(i<e/\d.lt i e=true)
 up:∀ i j,d.lt i j=true->i<j
 size:d.ks.length=ops.size
theorem I1 {ops:Array Oper}{d:DInfo}(hb:DBase ops d) {A:Nat->Bool}(hc:∀ j,j<ops.size->A j=true->∀ e∈d.ed.getD j [],A e=true):∀ j,j<ops.size->A j=true->∀ i,i<j->d.lt i j=true->A i=true:=by
 intro j;induction j using Nat.strongRecOn with
 |ind j ih =>
  intro hj hA i hi al;obtain⟨e,he,h⟩:=hb.path j hj i hi al;have mh:=hb.edge j hj e he;have gm:=hc j hj hA e he;rcases h with rfl|⟨h1,h2⟩
  .exact gm
  .exact ih e mh (by omega) gm i h1 h2
theorem Z05 {ops:Array Oper}{d:DInfo}(hb:DBase ops d):∀ (l:List Nat) (L:Array Bool),L.size=ops.size->(∀ j,j<ops.size->L.getD j false=true->∀ e∈d.ed.getD j [],L.getD e false=true)->Us ops L l ->
  l.Pairwise λj i=>d.lt i j=false:=by
 intro l;induction l with
 |nil=>intro L _ _ _;exact List.Pairwise.nil
 |cons j l ih =>
  intro L hs hc h;obtain⟨jy,h'⟩:=h;obtain⟨aP,ot,o,ho,gP⟩:=TN hs jy;have jz:j<L.size:=by rw[hs];exact aP
  have cQ:∀ k,k<ops.size->(L.setIfInBounds j true).getD k false=true->∀ e∈d.ed.getD k [],(L.setIfInBounds j true).getD e false=true:=by
   intro k hk hA e he;rw[M8 L j e jz];split
   .rfl
   .rw[M8 L j k jz] at hA;split at hA
    .rename_i tv;subst tv;rw[hb.ed _ o ho] at he;exact gP e he
    .exact hc k hk hA e he
  obtain⟨k1,k2⟩:=Fz l _ (by simp[hs]) h';refine List.Pairwise.cons (λi hi=>?_) (ih _ (by simp[hs]) cQ h');cases al:d.lt i j with
  |false=>rfl
  |true =>
   exfalso;have cq:=hb.up i j al;have hA:(L.setIfInBounds j true).getD j false=true:=by rw[M8 L j j jz,z7 rfl]
   have:=I1 hb cQ j aP hA i cq al;rw[((k2 i).1 hi).2] at this;cases this
theorem CR (lt:Nat->Nat->Bool):∀ (s l:List Nat) (n:Nat),s.Perm l->l.length<=n->s.Pairwise (λj i=>lt i j=false)->s∈exts lt n l:=by
 intro s;induction s with
 |nil =>intro l n hp hn _;have:l=[]:=hp.symm.eq_nil;subst this;cases n<;>simp[exts]
 |cons k s ih =>
  intro l n hp hn hs;have hk:k∈l:=hp.mem_iff.1 (by simp);cases l with
  |nil=>cases hk
  |cons x xs =>
   cases n with
   |zero=>simp at hn
   |succ n =>
    simp only[exts];refine List.mem_flatMap.2 ⟨k,hk,?_⟩;obtain⟨h1,h2⟩:=List.pairwise_cons.1 hs;have hall:((x::xs).all λi=>i==k||!lt i k)=true:=by
     grind
    rw[z7 hall];refine zL.2 ⟨s,ih _ n ?_ ?_ h2,rfl⟩
    .grind
    .simp_all
theorem Q5r {j:Nat}:∀ (a a' b b':List Nat),j∉a->j∉a'->a++j::b=a'++j::b'->a=a':=by
 intro a;induction a with
 |nil =>
  intro a' b b' _ h' h;cases a' with
  |nil=>rfl
  |cons x a'=>simp at h;exact(by simp_all)
 |cons x a ih =>
  intro a' b b' h1 h2 h;cases a' with
  |nil=>simp at h;exact(by simp_all)
  |cons y a' =>simp at h;obtain⟨rfl,h⟩:=h;rw[ih a' b b' (λhm=>h1 (by simp[hm])) (λhm=>h2 (by simp[hm])) h]
theorem Od {ops:Array Oper}{d:DInfo}(hb:DBase ops d):∀ (l:List Nat) (L:Array Bool),L.size=ops.size->Us ops L l->∀ pre j post,l=pre++j::post->∀ e∈d.ed.getD j [],L.getD e false=true\/e∈pre:=by
 intro l;induction l with
 |nil=>intro L _ _ pre j post h;simp at h
 |cons i l ih =>
  intro L hs h pre j post he e gQ;obtain⟨jy,h'⟩:=h;obtain⟨aP,ot,o,ho,gP⟩:=TN hs jy;have jz:i<L.size:=by rw[hs];exact aP
  cases pre with
  |nil =>simp at he;obtain⟨rfl,_⟩:=he;rw[hb.ed _ o ho] at gQ;exact .inl (gP e gQ)
  |cons x pre =>
   simp at he;obtain⟨rfl,he⟩:=he;rcases ih _ (by simp[hs]) h' pre j post he e gQ with h1|h1
   .grind [M8]
   .exact .inr (by simp[h1])
theorem Ev {d0 d:DInfo}{pm l:List Nat}(N:Nat) (hN:∀ i∈l,i<N) (ki:pm.Nodup) (gM:l.Nodup) (aY:∀ i,i∈pm<->i∈l) (cC:∀ pre j post,l=pre++j::post->∀ e∈d0.ed.getD j [],e∈l->e∈pre)
  (gP:∀ p,p<pm.length->d.ed.getD p []=Q7l d0 pm p) (hf:pm.filter (λi=>d0.k i==2)=l.filter (λi=>d0.k i==2)) :
  ∀ (post pre:List Nat),l=pre++post->Q2c pm d pm.length (λq=>pre.contains (pm.getD q N)) post:=by
 intro post;induction post with
 |nil =>
  intro pre hl p hp;have hm:pm.getD p N∈pm:=by simp[ze,hp]
  have:=(aY _).1 hm;rw[hl,xk] at this;simpa using this
 |cons j post ih =>
  intro pre hl;have cI:j∈l:=by rw[hl];simp
  have fR:=(aY j).2 cI;have hp:pm.idxOf j<pm.length:=List.idxOf_lt_length_of_mem fR;have vh:pm[pm.idxOf j]'hp=j:=List.getElem_idxOf hp;have hg:∀ z,pm.getD (pm.idxOf j) z=j:=(by simp_all);have mu:j∉pre:=(by grind);refine⟨pm.idxOf j,hp,hg 0,by simp only[hg];simpa using mu,λe he=>?_,?_⟩
  .rw[gP _ hp] at he;rcases xw.1 he with he|he
   .obtain⟨e0,qR,rfl⟩:=zL.1 he
    grind
   .split at he
    .rename_i aB;rw[hg] at aB;obtain⟨hq,hk⟩:=xY.1 (List.mem_of_getLast? (Option.mem_toList.1 he));have dm:e<pm.idxOf j:=x8.1 hq;have hel:e<pm.length:=by omega
     have heq:pm.getD e N=pm[e]'hel:=by simp[ze,hel]
     have px:pm.getD e 0=pm[e]'hel:=by simp[ze,hel]
     rw[px] at hk;simp only[heq];have fE:pm=pm.take (pm.idxOf j)++j::pm.drop (pm.idxOf j+1):=by
      grind [List.take_append_drop,List.drop_eq_getElem_cons]
     have ri:j∉pm.take (pm.idxOf j):=by
      grind
     have tw:(pm.take (pm.idxOf j)).filter (λi=>d0.k i==2)++j::(pm.drop (pm.idxOf j+1)).filter (λi=>d0.k i==2)=pre.filter (λi=>d0.k i==2)++j::post.filter (λi=>d0.k i==2):=by
      grind
     have:=Q5r _ _ _ _ (by grind) (by grind) tw;have aP:pm[e]∈(pm.take (pm.idxOf j)).filter (λi=>d0.k i==2):=(by grind)
     grind
    .cases he
  .have py:(λq=>if q=pm.idxOf j then true else pre.contains (pm.getD q N))=λq=>(pre++[j]).contains (pm.getD q N):=by
    grind
   rw[py];exact ih (pre++[j]) (by rw[hl];simp)
theorem Q18 {ops:Array Oper}{vs:List VOper}(h:ops.toList.mapM (Xe P ops)=some vs) (aq:(UQ ops.toList vs).okB=true):DBase ops (UQ ops.toList vs):=by
 have hlen:vs.length=ops.size:=by have:=(Yz _ _ _ h).1;simpa using this
 have lq:(UQ ops.toList vs).ks.length=ops.size:=by simp[UQ,hlen]
 have cz:=aq;unfold DInfo.okB at cz;rw[z1,zf] at cz;obtain⟨vi,l5⟩:=cz;have h0:∀ j,j<ops.size->(UQ ops.toList vs).okE j=true/\(UQ ops.toList vs).an.getD j 0<2 ^ j/\((List.range j).all λi=>!((UQ ops.toList vs).lt i j)||((UQ ops.toList vs).ed.getD j []).any (λe=>e==i||decide (i<e)&&(UQ ops.toList vs).lt i e))=true:=(by simp_all);have mv:∀ j,j<ops.size->∀ e∈(UQ ops.toList vs).ed.getD j [],e<j:=λj hj e he=>by have:=zh.1 (h0 j hj).1 e he;simpa using this
 refine⟨λj o ho=>by simp[UQ,ze,ho],mv,λj hj i hi al=>?_,λi j al=>?_,lq⟩
 .grind
 .rcases zl i j with h|h
  .exact h
  .exfalso;unfold DInfo.lt at al
   grind [Nat.lt_or_ge,Nat.lt_of_lt_of_le,Nat.pow_le_pow_right,Nat.testBit_lt_two_pow,List.getElem?_eq_none]
theorem Iz {t:Nat}:∀ (l:List Nat),l.Pairwise (λj i=>¬ (i<t/\t<=j))->l=l.filter (λi=>decide (i<t))++l.filter (λi=>decide (t<=i))
 |[],_=>rfl
 |x::l,h=>by
  obtain⟨h1,h2⟩:=List.pairwise_cons.1 h;have ih:=Iz l h2;by_cases hx:x<t
  .grind
  .have nX:t<=x:=by omega
   have iU:l.filter (λi=>decide (i<t))=[]:=(by grind [List.filter_eq_nil_iff])
   grind
theorem Rc (hS:OkSpecs P S) {ro:Option Nat}{n:Nat}{ops:Array Oper}{vs:List VOper}(b_:ops.toList.mapM (Xe P ops)=some vs) {d0:DInfo}(_hb:DBase ops d0) {l l2 idx pm:List Nat}(gM:l.Nodup) (al:∀ i∈l,i<ops.size) (tx:∀ i,i∈l<->i∈idx)
  (cC:∀ pre j post,l=pre++j::post->∀ e∈d0.ed.getD j [],e∈l->e∈pre) (fD:Z33 d0 vs idx (l.filter λi=>d0.k i==2) pm=true)
  {env:Env}{U:Heap}{K:Env->Heap->Prop}{ρ:Plc}{w:World}{a:Act}(pz:Jx S ((Ic d0 vs pm).opers (N2 vs pm) 0) env [U] U [] K) (hH:HRel ρ U w) (hL:LRel ρ U.n env a.tmps.toList) (dL:Mks B a.defers w)
  {Q:Exit->Act->World->Prop}(hQ:∀ a' w',Tu B (List.length env) ρ U w K a' w'->wpOpsIn (FF ro) n P ops Q l2 a' w'):wpOpsIn (FF ro) n P ops Q (l++l2) a w:=by
 have lW:vs.length=ops.size:=by have:=(Yz _ _ _ b_).1;simpa using this
 simp only[Z33,z1,zf,zh,List.contains_iff_mem] at fD;obtain⟨m1,m2,m3,m4,m5⟩:=fD;have mw:∀ i,i∈pm<->i∈l:=(by grind);have jx:∀ i∈pm,i<vs.length:=(by simp_all);have hl:DLink P ops pm (Ic d0 vs pm) (N2 vs pm):=DLink.of b_ jx;have pA:(N2 vs pm).length=pm.length:=by simp[N2]
 have lq:(Ic d0 vs pm).ks.length=(N2 vs pm).length:=by simp[Ic]
 have hd:=DOk.of m5;rw[lq] at hd;have gP:∀ p,p<pm.length->(Ic d0 vs pm).ed.getD p []=Q7l d0 pm p:=λp hp=>by simp[Ic,ze,hp]
 have gR:=Ev (d:=Ic d0 vs pm) ops.size al m3 gM mw cC gP m4 l [] (by simp);have fy:∀ i v,(N2 vs pm)[i]?=some v->(Ic d0 vs pm).k i=v.op.kind:=λi v hv=>(hl.comp i v hv).choose_spec.2.2;obtain⟨k,tr,hp,_,_,k2,k3⟩:=Z16 (Ic d0 vs pm) (N2 vs pm) fy env K (N2 vs pm) 0 (by omega) rfl [] (λ_=>undef) (λ_=>U) [] (λl hl=>by omega) (λl hl=>by omega) (by simpa [DInfo.rank,EL] using pz);have pB:hp 0=U:=k2 0 (by omega);have my:(λq=>([]:List Nat).contains (pm.getD q ops.size))=λ_=>false:=by funext q;rfl
 rw[my] at gR;refine Q04 (B:=B) (pm:=pm) hS hl hd hQ k3 l (λ_=>false) a w (by rw[pA];exact gR) ?_ (λ_ _ _=>rfl) (λj hj=>by cases hj) (ρ0:=ρ) (σ0:=U) (w0:=w)
 .refine⟨λj hj hA=>(by cases hA),0,ρ,λl bj hk=>by simp,by omega,by rw[pB];exact hH,?_,dL,by rw[pB];exact Ext.refl _ _ _⟩;have e:EL (N2 vs pm) env tr (λ_=>false) (N2 vs pm).length=env:=by
   have:∀ m,EL (N2 vs pm) env tr (λ_=>false) m=env:=by
    intro m;induction m with
    |zero=>rfl
    |succ m ih=>simp only[EL,zt,if_false];exact ih
   exact this _
  rw[e,pB];exact hL
theorem Ad (d:DInfo):∀ (lv:List VOper) (i:Nat),(∀ v∈lv,v.op.kind≠2)->∀ (env:Env) (U:Heap) (pend:List (Nat×(Heap->Prop))) (K:Env->Heap->Prop),HS S lv env U K->Jx S (d.opers lv i) env [U] U pend K:=by
 intro lv;induction lv with
 |nil=>intro i _ env U pend K h;exact h
 |cons v rest ih =>
  intro i hk env U pend K h;have aB:v.op.kind≠2:=hk v (by simp);have fP:∀ u∈rest,u.op.kind≠2:=λu hu=>hk u (by simp[hu]);simp only[HS] at h;simp only[DInfo.opers,Jx];cases hw:Xb env v.guard with
  |none=>rw[hw] at h;exact h.elim
  |some b =>
   rw[hw] at h;obtain⟨ht,hf⟩:=h;refine⟨λe=>?_,λe=>?_⟩
   .have ht:=ht e;have ka:∃ p,Q6 v.op (Q4 env) U=some p/\HS S rest (XV env v.dst p.1) p.2 K:=by
     have cF:∀ x:XOp,v.op=.ext x->(∀ y,x≠.nextMap y):=λx hx y hy=>by rw[hx,hy] at aB;exact aB rfl
     have:=ht;unfold vop at this;split at this
     .rename_i f bK heq;rw[heq] at aB;exact absurd rfl aB
     .rename_i f bK heq;rw[heq] at aB;exact absurd rfl aB
     .simp_all
     .cases dt:Q6 v.op (Q4 env) U with
      |none=>rw[dt] at this;exact this.elim
      |some p=>rw[dt] at this;exact⟨p,rfl,this⟩
    obtain⟨p,hp,hr⟩:=ka;have hq:p.2=U:=(by grind [H6]);rw[hq] at hr;rw[z6 aB];split
    .rw[hp];refine⟨λZ hτ=>?_,ih (i+1) fP _ _ _ _ hr⟩;have:Z=U:=by
      grind
     subst this;show Z8 (Q6 v.op (Q4 env) Z) _;rw[hp];rfl
    .rw[hp];exact ih (i+1) fP _ _ _ _ hr
   .simp_all
theorem Q32 (hS:OkSpecs P S) {ro:Option Nat}{n:Nat}{ops:Array Oper}{vs:List VOper}(b_:ops.toList.mapM (Xe P ops)=some vs) {d0:DInfo}(hb:DBase ops d0) (_hk0:∀ i v,vs[i]?=some v->d0.k i=v.op.kind) {s len:Nat}(hlen:0<len) (ez:s+len<=ops.size) {x:DSeg}(hx:Z4i d0 vs s len=some x)
  {l l2:List Nat}(gM:l.Nodup) (aY:∀ i,i∈l<->(s<=i/\i<s+len)) (cC:∀ pre j post,l=pre++j::post->∀ e∈d0.ed.getD j [],e∈l->e∈pre) (gS:l.Pairwise λj i=>d0.lt i j=false)
  {rest:List DSeg}{env:Env}{U:Heap}{K:Env->Heap->Prop}{ρ:Plc}{w:World}{a:Act}(h:Du S (x::rest) env U K) (hH:HRel ρ U w) (hL:LRel ρ U.n env a.tmps.toList) (dL:Mks B a.defers w)
  {Q:Exit->Act->World->Prop}(hQ:∀ a' w',Tu B (List.length env) ρ U w (λenv U=>Du S rest env U K) a' w'->wpOpsIn (FF ro) n P ops Q l2 a' w'):wpOpsIn (FF ro) n P ops Q (l++l2) a w:=by
 have lW:vs.length=ops.size:=by have:=(Yz _ _ _ b_).1;simpa using this
 unfold Z4i at hx;split at hx
 .rename_i h1;subst h1;obtain rfl:=osj hx;have hs:s<ops.size:=by omega
  have dU:l=[s]:=by
   have hm:∀ i,i∈l<->i=s:=λi=>by rw[aY i];omega
   have hp:l.Perm [s]:=(by grind);exact List.perm_singleton.1 hp
  subst dU;obtain⟨v,hv,hc⟩:=(Yz _ _ _ b_).2 s ops[s] (by simp[hs]);have hg:vs.getD s default=v:=by simp[ze,hv]
  simp only[Du,hg] at h;simp only[HS] at h;rw[List.singleton_append,wpOpsIn_cons];unfold wpOpIn;rw[xx hs];simp only;cases hw:Xb env v.guard with
  |none=>rw[hw] at h;exact h.elim
  |some b =>
   rw[hw] at h;obtain⟨ht,hf⟩:=h;obtain⟨cN,bF,bw⟩:=HA hc hL hw;rw[cN];cases b with
   |false =>rw[z6 (by simp)];refine⟨λf _=>OK _ _,hQ _ _ ⟨_,ρ,U,hf rfl,Jn _ _ _,hH,by rw[bF];exact Vs hL Xy _,by rw[Wo];exact dL,Ext.refl _ _ _⟩⟩
   |true =>rw[z7 rfl];refine Np hS bw hH hL (ht rfl) λc w' ⟨u,ρ',U',hK,dR,fO,hE⟩=>?_;exact hQ _ _ ⟨_,ρ',U',hK,Jn _ _ _,fO,by rw[bF];exact Vs (hE.lrel hL) dR _,by rw[Wo];exact dL.ext hH hE,hE⟩
 .rename_i eT;simp only at hx;split at hx
  .rename_i hP;obtain rfl:=osj hx;simp only[Du] at h;have mz:(l.filter λi=>d0.k i==2).Perm ((List.range' s len).filter λi=>d0.k i==2):=by
    grind [List.Perm.filter,List.perm_ext_iff_of_nodup,List.nodup_range']
   have hs:=CR d0.lt _ _ len mz (by
    refine zN (List.length_filter_le _ _) (by simp)) (gS.filter _)
   have fD:=zh.1 hP _ (zL.2 ⟨_,hs,rfl⟩);have pz:=h _ (zL.2 ⟨_,zL.2 ⟨_,hs,rfl⟩,rfl⟩);exact Rc hS b_ hb gM (by grind) (by simp_all) cC fD pz hH hL dL (λa' w' hn=>by
    obtain⟨ai,ρ',U',⟨aO,σ2,hD,hR⟩,n1,n2,n3,n4,n5⟩:=hn;obtain⟨ρ2,d1,d2,d3⟩:=hD ρ w ρ' w' a'.tmps.toList hH n5 n2 n3;exact hQ a' w' ⟨aO,ρ2,σ2,hR,(d1.1.trans n3.1.symm).trans n1,d2,d1,n4,d3⟩)
  .cases hx
theorem Q11 (hS:OkSpecs P S) {ro:Option Nat}{n:Nat}{ops:Array Oper}{vs:List VOper}(b_:ops.toList.mapM (Xe P ops)=some vs) {d0:DInfo}(hb:DBase ops d0) (gG:∀ i v,vs[i]?=some v->d0.k i=v.op.kind)
  {Q:Exit->Act->World->Prop}{K:Env->Heap->Prop}:∀ (f s:Nat) (aQ:List DSeg),Q3k d0 vs f s=some aQ->s<=ops.size->∀ (l:List Nat),l.Nodup->(∀ i,i∈l<->(s<=i/\i<ops.size)) ->
   (∀ pre j post,l=pre++j::post->∀ e∈d0.ed.getD j [],e∈l->e∈pre)->(l.Pairwise λj i=>d0.lt i j=false) ->
   ∀ (env:Env) (U:Heap) (ρ:Plc) (w:World) (a:Act),Du S aQ env U K->HRel ρ U w->LRel ρ U.n env a.tmps.toList->Mks B a.defers w->(∀ a' w',Tu B (List.length env) ρ U w K a' w'->Q .normal a' w') ->
   wpOpsIn (FF ro) n P ops Q l a w:=by
 intro f
 have fin:∀ (s:Nat) (aQ:List DSeg),s=d0.ks.length->[]=aQ->∀ (l:List Nat),(∀ i,i∈l<->(s<=i/\i<ops.size))->∀ (env:Env) (U:Heap) (ρ:Plc) (w:World) (a:Act),Du S aQ env U K->HRel ρ U w->LRel ρ U.n env a.tmps.toList->Mks B a.defers w->(∀ a' w',Tu B (List.length env) ρ U w K a' w'->Q .normal a' w') ->
   wpOpsIn (FF ro) n P ops Q l a w:=by
  intro s aQ hs fk l aY env U ρ w a h hH hL dL hQ;subst fk;have:l=[]:=by
   cases l with
   |nil=>rfl
   |cons x l =>have:=(aY x).1 (by simp);rw[hs,hb.size] at this;omega
  subst this;exact hQ a w ⟨env,ρ,U,h,rfl,hH,hL,dL,Ext.refl _ _ _⟩
 induction f with
 |zero =>
  intro s aQ fk hs l gM aY cC gS env U ρ w a h hH hL dL hQ;simp only[Q3k] at fk;split at fk
  .grind
  .cases fk
 |succ f ih =>
  intro s aQ fk hs l gM aY cC gS env U ρ w a h hH hL dL hQ;simp only[Q3k] at fk;split at fk
  .grind
  .rename_i aK;split at fk
   .cases fk
   .rename_i t ht;have pC:=List.find?_some ht;have mA:=List.mem_range'_1.1 (List.mem_of_find?_eq_some ht);rw[hb.size] at mA;split at fk
    .rename_i x r hx hr;obtain rfl:=osj fk;have al:∀ i p,i<t->t<=p->p<ops.size->d0.lt i p=true:=λi p hi hp ki=>by
      have h1:=zh.1 pC p (List.mem_range'_1.2 ⟨hp,by rw[hb.size];omega⟩);simp_all
     have pD:l.Pairwise (λj i=>¬ (i<t/\t<=j)):=by
      grind [List.pairwise_iff_forall_sublist]
     have fE:=Iz l pD;have lr:∀ i,i∈l.filter (λi=>decide (i<t))<->(s<=i/\i<s+(t-s)):=λi=>by rw[xY,aY i,zf];omega
     have gO:∀ i,i∈l.filter (λi=>decide (t<=i))<->(t<=i/\i<ops.size):=λi=>by rw[xY,aY i,zf];omega
     rw[fE];refine Q32 hS b_ hb gG (by omega) (by omega) hx (gM.filter _) lr ?_ (gS.filter _) h hH hL dL ?_
     .grind
     .intro a' w' ⟨ai,ρ',U',k1,k0,k2,k3,k4,k5⟩;refine ih t r hr (by omega) _ (gM.filter _) gO ?_ (gS.filter _) ai U' ρ' w' a' k1 k2 k3 k4 ?_
      .intro pre j post he e gQ hel;have:=cC (l.filter (λi=>decide (i<t))++pre) j post (fE.trans (by rw[he,zU])) e gQ (xY.1 hel).1
       grind
      .intro a2 w2 ⟨aO,ρ2,σ2,m1,m0,m2,m3,m4,m5⟩;exact hQ a2 w2 ⟨aO,ρ2,σ2,m1,m0.trans k0,m2,m3,m4,k5.trans m5⟩
    .cases fk
theorem OZ (hm:P.follows .mixedOrders=true) (hS:OkSpecs P S) {ro:Option Nat}{n:Nat}{id:Nat}{ops:Array Oper}{vs:List VOper}(b_:ops.toList.mapM (Xe P ops)=some vs) {aQ:List DSeg}(aq:Q8s (UQ ops.toList vs) vs=some aQ)
  {env:Env}{U:Heap}{K:Env->Heap->Prop}{ρ:Plc}{w:World}{a:Act}(h:Du S aQ env U K) (hH:HRel ρ U w) (hL:LRel ρ U.n env a.tmps.toList) (dL:Mks B a.defers w)
  {Q:Exit->Act->World->Prop}(hQ:∀ a' w',Tu B (List.length env) ρ U w K a' w'->Q .normal a' w'):(Code.region id ops true).wpIn (FF ro) n P Q a w:=by
 unfold Q8s at aq;split at aq
 .rename_i hB;have hb:=Q18 b_ hB;have fy:∀ i v,vs[i]?=some v->(UQ ops.toList vs).k i=v.op.kind:=λi v hv=>by
   simp[DInfo.k,UQ,ze,hv]
  generalize ll:UQ ops.toList vs=d0 at *
  refine wpIn_region_draw λt=>?_;simp only[Region.schedule,hm,Bool.true_or,zr];have fF:∀ (j:Nat) (o:Oper),ops[j]?=some o->∀ e∈T6 o,e<j:=λj o ho e he=>hb.edge j (xC.1 ho).1 e (by rw[hb.ed j o ho];exact he);have hall:∀ i,(Array.replicate ops.size false).getD i false=false:=λi=>by rw[Array.getD_eq_getD_getElem?,Array.getElem?_replicate];split<;>rfl
  have gg:=Q75 fF ops.size t (Array.replicate ops.size false) (by simp) (by
   have:∀ m,cnt (λi=>(Array.replicate ops.size false).getD i false) m<=m:=by
    intro m;induction m with
    |zero=>exact zd _
    |succ m ih=>simp only[cnt];split<;>omega
   exact this _)
  change wpOpsIn _ _ _ _ _ (Region.linearise.go .any ops ops.size t (Array.replicate ops.size false) []) _ _;generalize Region.linearise.go .any ops ops.size t (Array.replicate ops.size false) []=l at *
  obtain⟨iP,aY⟩:=Fz l _ (by simp) gg;have gS:=Z05 hb l _ (by simp) (λj _ hA=>by rw[hall] at hA;cases hA) gg;have cC:=Od hb l _ (by simp) gg;refine Q11 hS b_ hb fy _ 0 aQ aq (by omega) l iP (λi=>by rw[aY i,hall];simp) (λpre j post he e gQ _=>?_) gS env U ρ _ a h hH.drew hL (dL.ext hH (Ext.drew _ _ _)) (λa' w' hn=>?_)
  .grind
  .obtain⟨ai,ρ',U',n0,n1,n2,n3,n4,n5⟩:=hn;exact hQ a' w' ⟨ai,ρ',U',n0,n1,n2,n3,n4,(Ext.drew _ _ _).trans n5⟩
 .cases aq
theorem EA (hm:P.follows .mixedOrders=true) (hS:OkSpecs P S) {ro:Option Nat}{n:Nat}{id:Nat}{ops:Array Oper}{vs:List VOper}(b_:ops.toList.mapM (Xe P ops)=some vs) (aq:BU (UQ ops.toList vs) vs=true)
  {env:Env}{U:Heap}{K:Env->Heap->Prop}{ρ:Plc}{w:World}{a:Act}(h:HS S vs env U K) (hH:HRel ρ U w) (hL:LRel ρ U.n env a.tmps.toList) (dL:Mks B a.defers w)
  {Q:Exit->Act->World->Prop}(hQ:∀ a' w',Tu B (List.length env) ρ U w K a' w'->Q .normal a' w'):(Code.region id ops true).wpIn (FF ro) n P Q a w:=by
 simp only[BU,z1] at aq;obtain⟨hB,pE,i_⟩:=aq;have hb:=Q18 b_ hB;have lW:vs.length=ops.size:=by have:=(Yz _ _ _ b_).1;simpa using this
 have aB:∀ v∈vs,v.op.kind≠2:=(by simp_all);have fy:∀ i v,vs[i]?=some v->(UQ ops.toList vs).k i=v.op.kind:=λi v hv=>by simp[DInfo.k,UQ,ze,hv]
 generalize ll:UQ ops.toList vs=d0 at *
 refine wpIn_region_draw λt=>?_;simp only[Region.schedule,hm,Bool.true_or,zr];have fF:∀ (j:Nat) (o:Oper),ops[j]?=some o->∀ e∈T6 o,e<j:=λj o ho e he=>hb.edge j (xC.1 ho).1 e (by rw[hb.ed j o ho];exact he);have hall:∀ i,(Array.replicate ops.size false).getD i false=false:=λi=>by rw[Array.getD_eq_getD_getElem?,Array.getElem?_replicate];split<;>rfl
 have gg:=Q75 fF ops.size t (Array.replicate ops.size false) (by simp) (by
  have:∀ m,cnt (λi=>(Array.replicate ops.size false).getD i false) m<=m:=by
   intro m;induction m with
   |zero=>exact zd _
   |succ m ih=>simp only[cnt];split<;>omega
  exact this _)
 change wpOpsIn _ _ _ _ _ (Region.linearise.go .any ops ops.size t (Array.replicate ops.size false) []) _ _;generalize Region.linearise.go .any ops ops.size t (Array.replicate ops.size false) []=l at *
 obtain⟨iP,aY⟩:=Fz l _ (by simp) gg;have cC:=Od hb l _ (by simp) gg;have al:∀ i∈l,i<ops.size:=λi hi=>((aY i).1 hi).1;have iU:l.filter (λi=>d0.k i==2)=[]:=(by simp_all);have tz:N2 vs (List.range' 0 d0.ks.length)=vs:=by
  apply zI;intro i;unfold N2;rw[xh];rcases zl i vs.length with hi|hi
  .rw[List.getElem?_range' (by rw[hb.size];omega),z8 hi];simp[ze,hi]
  .rw[zz (by simp[hb.size];omega),zz hi];rfl
 have hd:=Ad (S:=S) (Ic d0 vs (List.range' 0 d0.ks.length)) vs 0 aB env U [] K h;rw[<-xk l];refine Rc hS b_ hb iP al (λi=>by rw[aY i,hall,List.mem_range'_1,hb.size];simp) (λpre j post he e gQ _=>?_) (idx:=List.range' 0 d0.ks.length) (pm:=List.range' 0 d0.ks.length) (by rw[iU];exact i_) (by rw[tz];exact hd) hH.drew hL (dL.ext hH (Ext.drew _ _ _)) (λa' w' hn=>?_)
 .grind
 .obtain⟨ai,ρ',U',n0,n1,n2,n3,n4,n5⟩:=hn;exact hQ a' w' ⟨ai,ρ',U',n0,n1,n2,n3,n4,(Ext.drew _ _ _).trans n5⟩
theorem Ex (hS:OkSpecs P S) {id:Nat}{ops:Array Oper}{lv:List VOper}(bW:ops.toList.mapM (Xe P ops)=some lv):Sound P S (.region id ops false) (.region lv):=by
 intro B cA ro n Q env U ρ w a h hH hL hd hR Q' hQ;simp only[vwp] at h;refine wpIn_region ?_;rw[List.range_eq_range',<-Array.length_toList,wpOpsIn_eq_wpListIn ops.toList 0 (by simp)]
 grind [OM]
theorem cond_true {v:Value}{A B:Prop}(h:EW v A B):∃ t,v=.bool t/\(t=true->A)/\(t=false->B):=by
 unfold EW at h;split at h
 .exact⟨_,rfl,h⟩
 .exact h.elim
theorem Q0a {c:Code}{vc:VCode}(ih:Sound P S c vc):Sound P S (.loop c) (.loop vc):=by
 intro B cA ro n Q env U ρ w a h hH hL hd hR Q' hQ;simp only[vwp] at h;obtain⟨live,I,n0,h0,eD⟩:=h;refine wpIn_loop_ghost (λk a' w'=>Tu B (List.length env) ρ U w (λai U'=>I k (HU live ai) U') a' w') n0 ⟨env,ρ,U,h0,rfl,hH,hL,hd,Ext.refl _ _ _⟩ ?_;rintro k a1 w1 ⟨bh,ρ1,σ1,k1,k0,k2,k3,k4,k5⟩;have hlen:List.length (Wy live (HU live bh) (List.replicate env.length poison))=List.length env:=by rw[AF];simp
 refine ih cA ro n _ _ σ1 ρ1 w1 a1 (eD k (HU live bh) σ1 k1) k2 (Q0e live bh _ _ k3 (Q06 _ (by rw[<-k3.1,k0]))) k4 (hR.ext k5) _ ?_;rintro e a2 w2 ⟨aO,ρ2,σ2,m1,m0,m2,m3,m4,m5⟩;rw[hlen] at m0;cases e with
 |normal =>obtain⟨n',ou,hI⟩:=m1;exact⟨n',ou,aO,ρ2,σ2,hI,m0,m2,m3,m4,k5.trans m5⟩
 |_=>exact hQ _ a2 w2 ⟨aO,ρ2,σ2,m1,m0,m2,m3,m4,k5.trans m5⟩
theorem Hl (c:Code):Sound P S c .bad:=by intro B cA ro n Q env U ρ w a h;exact h.elim
theorem OU (hm:P.follows .mixedOrders=true) (hS:OkSpecs P S):∀ (c:Code) (vc:VCode),comp P c=some vc->Sound P S c vc:=by
 intro c;induction c with
 |skip =>intro vc hc;simp[comp] at hc;subst hc;intro B cA ro n Q env U ρ w a h hH hL hd hR Q' hQ;exact wpIn_skip (hQ _ _ _ ⟨env,ρ,U,h,rfl,hH,hL,hd,Ext.refl _ _ _⟩)
 |region id ops dr =>
  intro vc hc;cases dr with
  |false =>simp only[comp,zA,zP] at hc;obtain⟨lv,bW,hc⟩:=hc;simp at hc;subst hc;exact Ex hS bW
  |true =>
   simp only[comp,zA,zP] at hc;obtain⟨lv,bW,hc⟩:=hc;split at hc
   .rename_i aq;simp at hc;subst hc;intro B cA ro n Q env U ρ w a h hH hL hd hR Q' hQ;exact EA hm hS bW aq h hH hL hd (λa' w' hn=>hQ .normal a' w' hn)
   split at hc
   .rename_i aQ aq;simp at hc;subst hc;intro B cA ro n Q env U ρ w a h hH hL hd hR Q' hQ;exact OZ hm hS bW aq h hH hL hd (λa' w' hn=>hQ .normal a' w' hn)
   .simp at hc;subst hc;exact Hl _
 |seq x y jA ov =>
  intro vc hc;simp only[comp,zA,zP] at hc;obtain⟨vx,hx,vy,hy,hc⟩:=hc;simp at hc;subst hc;intro B cA ro n Q env U ρ w a h hH hL hd hR Q' hQ;simp only[vwp] at h;refine wpIn_seq (jA vx hx cA ro n _ env U ρ w a h hH hL hd hR _ ?_);rintro e a1 w1 ⟨bh,ρ1,σ1,k1,k0,k2,k3,k4,k5⟩;cases e with
  |normal =>refine ov vy hy cA ro n _ bh σ1 ρ1 w1 a1 k1 k2 k3 k4 (hR.ext k5) _ ?_;rintro e2 a2 w2 ⟨aO,ρ2,σ2,m1,m0,m2,m3,m4,m5⟩;exact hQ e2 a2 w2 ⟨aO,ρ2,σ2,m1,m0.trans k0,m2,m3,m4,k5.trans m5⟩
  |_=>exact hQ _ a1 w1 ⟨bh,ρ1,σ1,k1,k0,k2,k3,k4,k5⟩
 |cond c x y jA ov =>
  intro vc hc;simp only[comp] at hc;split at hc
  .rename_i aq;simp only[zA,zP] at hc;obtain⟨vx,hx,vy,hy,hc⟩:=hc;simp at hc;subst hc;intro B cA ro n Q env U ρ w a h hH hL hd hR Q' hQ;simp only[vwp] at h;obtain⟨t,ht,h1,h2⟩:=cond_true h;have hv:=Yi hL aq;rw[ht] at hv;refine wpIn_cond_split hv.q1c (λe=>?_) (λe=>?_)
   .exact jA vx hx cA ro n Q env U ρ w a (h1 e) hH hL hd hR Q' hQ
   .exact ov vy hy cA ro n Q env U ρ w a (h2 e) hH hL hd hR Q' hQ
  .simp at hc;subst hc;exact Hl _
 |block id x jA =>
  intro vc hc;simp only[comp,zA,zP] at hc;obtain⟨vx,hx,hc⟩:=hc;simp at hc;subst hc;intro B cA ro n Q env U ρ w a h hH hL hd hR Q' hQ;simp only[vwp] at h;refine wpIn_block (jA vx hx cA ro n _ env U ρ w a h hH hL hd hR _ ?_);rintro e a1 w1 ⟨bh,ρ1,σ1,k1,k0,k2,k3,k4,k5⟩;cases e with
  |exit gv =>
   simp only[EM] at k1;simp only[Exit.inBlock];split at k1
   .rename_i he;rw[z7 he];exact hQ _ a1 w1 ⟨bh,ρ1,σ1,k1,k0,k2,k3,k4,k5⟩
   .rename_i he;rw[z6 he];exact hQ _ a1 w1 ⟨bh,ρ1,σ1,k1,k0,k2,k3,k4,k5⟩
  |_=>exact hQ _ a1 w1 ⟨bh,ρ1,σ1,k1,k0,k2,k3,k4,k5⟩
 |loop x jA =>intro vc hc;simp only[comp,zA,zP] at hc;obtain⟨vx,hx,hc⟩:=hc;simp at hc;subst hc;exact Q0a (jA vx hx)
 |rangeFunc g ps x y jA ov =>
  intro vc hc;simp only[comp] at hc;split at hc
  .rename_i aq;simp only[zA,zP] at hc
   grind [Io]
  .simp at hc;subst hc;exact Hl _
 |exit id =>intro vc hc;simp[comp] at hc;subst hc;intro B cA ro n Q env U ρ w a h hH hL hd hR Q' hQ;exact wpIn_exit (hQ _ _ _ ⟨env,ρ,U,h,rfl,hH,hL,hd,Ext.refl _ _ _⟩)
 |ret =>intro vc hc;simp[comp] at hc;subst hc;intro B cA ro n Q env U ρ w a h hH hL hd hR Q' hQ;exact wpIn_ret (hQ _ _ _ ⟨env,ρ,U,h,rfl,hH,hL,hd,Ext.refl _ _ _⟩)
 |_ =>intro vc hc;simp[comp] at hc;subst hc;exact Hl _
end
end Go.V
namespace Go.V
open Go
inductive Ren (n:Nat) (π:Nat->Nat):Value->Value->Prop
 |plain (v:Value) (h:Zd v=true):Ren n π v v
 |poison (c:Value):Ren n π poison c
 |glob (g o s:Nat):Ren n π (.pointer (some ⟨g,o,some s⟩)) (.pointer (some ⟨g,o,some s⟩))
 |ptr (i o:Nat) (hi:i<n):Ren n π (.pointer (some ⟨i,o,none⟩)) (.pointer (some ⟨π i,o,none⟩))
 |sl (i o len cap:Nat) (hi:i<n):Ren n π (.slice (some ⟨i,o,none⟩) len cap) (.slice (some ⟨π i,o,none⟩) len cap)
 |slx (i o len cap:Nat) (hi:i<n):Ren n π (.slice (some ⟨i,o,some 0⟩) len cap) (.slice (some ⟨π i,o,some 0⟩) len cap)
 |map (i:Nat) (hi:i<n):Ren n π (.map (some i)) (.map (some (π i)))
 |iface (t:TypeId) (v c:Value) (h:Ren n π v c):Ren n π (.iface t v) (.iface t c)
 |yield (i:Nat) (hi:i<n):Ren n π (.func (.yield i) #[] #[]) (.func (.yield (π i)) #[] #[])
 |func (fn:FuncId) (fs gs cs ds:Array Value) (hf:fs.size=gs.size) (hc:cs.size=ds.size)
   (h1:∀ i (h1:i<fs.size) (h2:i<gs.size),Ren n π fs[i] gs[i]) (h2:∀ i (h1:i<cs.size) (h2:i<ds.size),Ren n π cs[i] ds[i]):Ren n π (.func (.func fn) fs cs) (.func (.func fn) gs ds)
 |agg (cs ds:Array Value) (hc:cs.size=ds.size) (h:∀ i (h1:i<cs.size) (h2:i<ds.size),Ren n π cs[i] ds[i]):Ren n π (.agg cs) (.agg ds)
 |tuple (cs ds:Array Value) (hc:cs.size=ds.size) (h:∀ i (h1:i<cs.size) (h2:i<ds.size),Ren n π cs[i] ds[i]):Ren n π (.tuple cs) (.tuple ds)
def LRen (n:Nat) (π:Nat->Nat) (vs cs:List Value):Prop:=vs.length=cs.length/\∀ (i:Nat) (v c:Value),vs[i]?=some v->cs[i]?=some c->Ren n π v c
theorem Ren.rel {ρ:Plc}{nf n':Nat}{π:Nat->Nat}{v' v:Value}(h:Ren n' π v' v):∀ {c:Value},VRel ρ nf v c->VRel (λi=>if i<n' then ρ (π i) else none) n' v' c:=by
 induction h with
 |plain v h =>intro c hv;have:c=v:=Ki h hv;subst this;exact WN h
 |poison c=>intro c _;exact .poison _
 |glob g o s=>intro c hv;cases hv;exact .glob _ _ _
 |ptr i o hi =>intro c hv;obtain⟨a,rfl,_,h⟩:=hv.q1g;exact .ptr _ _ _ hi (by simp_all)
 |sl i o len cap hi =>intro c hv;obtain⟨a,au,rfl,_,h⟩:=hv.q1b;exact .sl _ _ _ _ _ _ hi (by simp_all)
 |slx i o len cap hi =>
  intro c hv;cases hv with
  |slx _ _ _ _ a _ h=>exact .slx _ _ _ _ _ hi (by simp_all)
 |map i hi =>
  intro c hv;cases hv with
  |map _ r _ h=>exact .map _ _ hi (by simp_all)
 |yield i hi =>
  intro c hv;cases hv with
  |yield _ r _ h=>exact .yield _ _ hi (by simp_all)
 |iface t v c h ih =>
  intro c hv;cases hv with
  |iface _ _ _ h=>exact .iface _ _ _ (ih h)
 |func fn fs gs cs ds hf hc h1 h2 la lb =>
  intro c hv;cases hv with
  |func _ _ vj _ ds' pF cQ iV fG =>exact .func _ _ _ _ _ (hf.trans pF) (hc.trans cQ) (by simp_all) (by simp_all)
 |agg cs ds hc h ih =>
  intro c hv;cases hv with
  |agg _ ds' cQ h'=>exact .agg _ _ (hc.trans cQ) (by simp_all)
 |tuple cs ds hc h ih =>
  intro c hv;cases hv with
  |tuple _ ds' cQ h'=>exact .tuple _ _ (hc.trans cQ) (by simp_all)
theorem VRel.ren {ρ:Plc}{n n':Nat}{π:Nat->Nat}(hn:n<=n') (hπ:∀ i,i<n->π i=i) {v c:Value}(h:VRel ρ n v c):Ren n' π v v:=by
 induction h with
 |poison c=>exact .poison _
 |bool b=>exact .plain _ rfl
 |int k x=>exact .plain _ rfl
 |string s=>exact .plain _ rfl
 |nilPtr=>exact .plain _ rfl
 |nilSl=>exact .plain _ rfl
 |nilMap=>exact .plain _ rfl
 |nilFunc=>exact .plain _ rfl
 |nilIface=>exact .plain _ rfl
 |glob g o s=>exact .glob _ _ _
 |ptr i o a hi h=>have:=Ren.ptr (n:=n') (π:=π) i o (by omega);rwa [hπ i hi] at this
 |sl i o len cap a au hi h=>have:=Ren.sl (n:=n') (π:=π) i o len cap (by omega);rwa [hπ i hi] at this
 |slx i o len cap a hi h=>have:=Ren.slx (n:=n') (π:=π) i o len cap (by omega);rwa [hπ i hi] at this
 |map i r hi h=>have:=Ren.map (n:=n') (π:=π) i (by omega);rwa [hπ i hi] at this
 |yield i r hi h=>have:=Ren.yield (n:=n') (π:=π) i (by omega);rwa [hπ i hi] at this
 |iface t v c _ ih=>exact .iface _ _ _ ih
 |func fn fs gs cs ds hf hc _ _ la lb=>exact .func _ _ _ _ _ rfl rfl (λi k1 _=>la i k1 (by omega)) (λi k1 _=>lb i k1 (by omega))
 |agg cs ds hc _ ih=>exact .agg _ _ rfl λi k1 _=>ih i k1 (by omega)
 |tuple cs ds hc _ ih=>exact .tuple _ _ rfl λi k1 _=>ih i k1 (by omega)
theorem LRen.rel {ρ:Plc}{nf n':Nat}{π:Nat->Nat}{cy vs:List Value}(h:LRen n' π cy vs) {cs:List Value}(hL:LRel ρ nf vs cs):LRel (λi=>if i<n' then ρ (π i) else none) n' cy cs:=by
 refine⟨h.1.trans hL.1,λi v c hv hc=>?_⟩;have al:i<vs.length:=by rw[<-h.1];grind
 exact(h.2 i v _ hv (z8 al)).rel (hL.2 i _ c (z8 al) hc)
theorem LRel.ren {ρ:Plc}{n n':Nat}{π:Nat->Nat}(hn:n<=n') (hπ:∀ i,i<n->π i=i) {vs cs:List Value}(h:LRel ρ n vs cs):LRen n' π vs vs :=
 ⟨rfl,λi v u hv hu=>by
  obtain rfl:v=u:=osj (hv.symm.trans hu);obtain⟨c,_,hc⟩:=h.get hv;exact hc.ren hn hπ⟩
def ORen (n:Nat) (π:Nat->Nat):VObj->VObj->Prop
 |.map es clock,.map fs kp=>clock=kp/\es.length=fs.length/\∀ (k:Nat) (a b:XJ),es[k]?=some a->fs[k]?=some b->a.1=b.1/\a.2.2=b.2.2/\Ren n π a.2.1 b.2.1
 |.iter m since seen last,.iter m' ku mB mC=>m'=π m/\m<n/\since=ku/\seen=mB/\last=mC
 |.lp env r st pend,.lp ai r' jl bH=>LRen n π env ai/\r=r'/\st=jl/\pend=bH
 |.siter s pos,.siter s' pos'=>s=s'/\pos=pos'
 |_,_=>False
theorem ORen.rel {ρ:Plc}{nf n':Nat}{π:Nat->Nat}{o' o:VObj}(h:ORen n' π o' o) {O:Obj}(hO:ORel ρ nf o O):ORel (λi=>if i<n' then ρ (π i) else none) n' o' O:=by
 cases o'<;>cases o<;>try exact h.elim
 .obtain⟨rfl,hl,hk⟩:=h;obtain⟨entries,h1,h2,h3⟩:=hO;refine⟨entries,h1,by rw[hl];exact h2,λk a ha=>?_⟩;have cD:=(zm.1 ha).1;rw[hl] at cD;obtain⟨e,he,h4,h5,h6⟩:=h3 k _ (z8 cD);obtain⟨k1,k2,k3⟩:=hk k a _ ha (z8 cD);exact⟨e,he,h4.trans k1.symm,h5.trans k2.symm,k3.rel h6⟩
 .obtain⟨rfl,hm,rfl,rfl,rfl⟩:=h;obtain⟨rm,h1,h2⟩:=hO;exact⟨rm,h1,(Ren.map _ hm).rel h2⟩
 .obtain⟨hl,rfl,rfl,rfl⟩:=h;exact⟨hO.1,hl.rel hO.2⟩
 .obtain⟨rfl,rfl⟩:=h;exact hO
theorem ORel.ren {ρ:Plc}{n n':Nat}{π:Nat->Nat}(hn:n<=n') (hπ:∀ i,i<n->π i=i) {o:VObj}{O:Obj}(h:ORel ρ n o O):ORen n' π o o:=by
 cases o with
 |map es clock =>obtain⟨entries,h1,h2,h3⟩:=h;refine⟨rfl,rfl,λk a b ha hb=>?_⟩;obtain rfl:a=b:=osj (ha.symm.trans hb);obtain⟨e,_,_,_,hv⟩:=h3 k a ha;exact⟨rfl,rfl,hv.ren hn hπ⟩
 |iter m since seen last =>
  obtain⟨rm,h1,h2⟩:=h;cases h2 with
  |map _ _ hi _=>exact⟨(hπ m hi).symm,by omega,rfl,rfl,rfl⟩
 |siter s pos=>exact⟨rfl,rfl⟩
 |lp env r st pend=>exact⟨h.2.ren hn hπ,rfl,rfl,rfl⟩
def BRen (n:Nat) (π:Nat->Nat):Blk->Blk->Prop
 |.cells c esz wr tight,.cells d mD jh gT=>esz=mD/\wr=jh/\tight=gT/\LRen n π c d
 |.obj o wr,.obj o' jh=>wr=jh/\ORen n π o o'
 |_,_=>False
theorem BRen.wr {n:Nat}{π:Nat->Nat}{b c:Blk}(h:BRen n π b c):b.wr=c.wr:=by cases b<;>cases c<;>first|(exact h.elim)|exact h.2.1|exact h.1
theorem BRen.rel {ρ:Plc}{nf n':Nat}{π:Nat->Nat}{p:Pl}{w:World}{b' b:Blk}(h:BRen n' π b' b) (hB:BRel ρ nf p w b):BRel (λi=>if i<n' then ρ (π i) else none) n' p w b':=by
 cases b' with
 |cells c esz wr tight =>
  cases b with
  |cells d mD jh gT =>
   obtain⟨rfl,rfl,rfl,hl⟩:=h;obtain⟨h1,h2,h3,h4,h5,h6⟩:=hB;refine⟨h1,h2,by rw[hl.1];exact h3,h4,λk v hk=>?_,h6⟩;have cD:k<d.length:=by rw[<-hl.1];grind
   obtain⟨u,hu,hv⟩:=h5 k _ (z8 cD);exact⟨u,hu,(hl.2 k v _ hk (z8 cD)).rel hv⟩
  |obj _ _=>exact h.elim
 |obj o wr =>
  cases b with
  |cells _ _ _ _=>exact h.elim
  |obj o' jh =>obtain⟨rfl,ho⟩:=h;obtain⟨h0,O,h1,h2⟩:=hB;exact⟨h0,O,h1,ho.rel h2⟩
def VObj.plain:VObj->Bool
 |.map es _=>es.all λkv=>Zd kv.2.1
 |_=>false
def Blk.plain:Blk->Bool
 |.cells c _ _ _=>c.all Zd
 |.obj o _=>o.plain
theorem LRen.plain {n:Nat}{π:Nat->Nat}{c:List Value}(h:c.all Zd=true):LRen n π c c :=
 ⟨rfl,λi v u hv hu=>by
  obtain rfl:v=u:=osj (hv.symm.trans hu);exact .plain _ (by grind)⟩
theorem BRen.plain {n:Nat}{π:Nat->Nat}{b:Blk}(h:b.plain=true):BRen n π b b:=by
 cases b with
 |cells c esz wr tight=>exact⟨rfl,rfl,rfl,LRen.plain h⟩
 |obj o wr =>
  cases o with
  |map es clock =>refine⟨rfl,rfl,rfl,λk a b ha hb=>?_⟩;obtain rfl:a=b:=osj (ha.symm.trans hb);exact⟨rfl,rfl,.plain _ (zh.1 h a (x4 ha))⟩
  |_=>cases h
theorem BRel.ren {ρ:Plc}{n n':Nat}{π:Nat->Nat}(hn:n<=n') (hπ:∀ i,i<n->π i=i) {p:Pl}{w:World}{b:Blk}(h:BRel ρ n p w b):BRen n' π b b:=by
 cases b with
 |cells c esz wr tight =>refine⟨rfl,rfl,rfl,rfl,λi v u hv hu=>?_⟩;obtain rfl:v=u:=osj (hv.symm.trans hu);obtain⟨_,_,tA⟩:=h.2.2.2.2.1 i v hv;exact tA.ren hn hπ
 |obj o wr =>obtain⟨_,O,_,ho⟩:=h;exact⟨rfl,ho.ren hn hπ⟩
def DropTo (σ0:Heap) (v:Value) (σf:Heap) (v':Value) (U':Heap):Prop :=
 ∀ ρ0 w0 ρ w c,HRel ρ0 σ0 w0->Ext ρ0 σ0 w0 ρ σf w->HRel ρ σf w->VRel ρ σf.n v c->∃ ρ',VRel ρ' U'.n v' c/\HRel ρ' U' w/\Ext ρ0 σ0 w0 ρ' U' w
theorem DropTo.refl (σ0:Heap) (v:Value) (σf:Heap):DropTo σ0 v σf v σf:=λ_ _ ρ _ _ _ hE hH hv=>⟨ρ,hv,hH,hE⟩
theorem DropTo.rename {σ0 σf U':Heap}{v v':Value}(π:Nat->Nat) (h1:σ0.n<=U'.n)
  (h2:∀ i,i<σ0.n->π i=i/\U'.get i=σf.get i/\(σf.get i=σ0.get i\/(∃ b,σf.get i=some b/\b.plain=true)\/σf.get i=none))
  (h3:∀ i,σ0.n<=i->i<U'.n->σ0.n<=π i/\∃ b' b,U'.get i=some b'/\σf.get (π i)=some b/\BRen U'.n π b' b)
  (h4:∀ i j,σ0.n<=i->i<U'.n->σ0.n<=j->j<U'.n->π i=π j->i=j) (h5:Ren U'.n π v' v):DropTo σ0 v σf v' U':=by
 intro ρ0 w0 ρ w c fA hE hH hv;have hπ:∀ i,i<σ0.n->π i=i:=λi hi=>(h2 i hi).1;have aD:∀ i b',U'.get i=some b'->∃ b,σf.get (π i)=some b/\BRen U'.n π b' b:=λi b' hb=>by
  have hi:=U'.lt hb;rcases zl i σ0.n with al|bI
  .obtain⟨k1,k2,k3⟩:=h2 i al;rw[k1];rw[k2] at hb;refine⟨b',hb,?_⟩;rcases k3 with k3|⟨b,k3,k4⟩|k3
   .rw[k3] at hb;obtain⟨p,_,hB⟩:=fA.live i b' hb;exact hB.ren h1 hπ
   .grind [osj,BRen.plain]
   .rw[k3] at hb;cases hb
  grind
 have eE:∀ i j,i<U'.n->j<U'.n->π i=π j->i=j:=(by grind);have hX:Ext ρ0 σ0 w0 (λi=>if i<U'.n then ρ (π i) else none) U' w:=by
  refine⟨hE.os,hE.tape,hE.output,hE.size,hE.keep,?_,h1,λi hi p hp=>?_⟩
  .rintro B hB ⟨i,p,b,hp,hb,hw,rfl⟩;change (if i<U'.n then ρ (π i) else none)=some p at hp;split at hp
   .obtain⟨b0,bJ,b7⟩:=aD i b hb;exact hE.wr _ hB ⟨π i,p,b0,hp,bJ,by rw[<-b7.wr];exact hw,rfl⟩
   .cases hp
  .change (if i<U'.n then ρ (π i) else none)=some p at hp;split at hp
   .rw[hπ i hi] at hp;exact hE.pl i hi p hp
   .cases hp
 refine⟨λi=>if i<U'.n then ρ (π i) else none,h5.rel hv,fA.ext ⟨λi b' hb=>?_,λi hi=>?_,λi p hp=>?_,λi j p q b cq hp hq hb hw hx=>?_⟩ hX,hX⟩
 .obtain⟨b,bJ,b7⟩:=aD i b' hb;obtain⟨p,hp,hB⟩:=hH.live _ b bJ;exact⟨p,by simp[U'.lt hb,hp],b7.rel hB⟩
 .show (if i<U'.n then ρ (π i) else none)=none;split
  .rename_i al;rcases zl i σ0.n with cG|bI
   .obtain⟨k1,k2,_⟩:=h2 i cG;rw[k1];exact hH.dead i (by rw[<-k2];exact hi)
   grind
  .rfl
 .change (if i<U'.n then ρ (π i) else none)=some p at hp;split at hp
  .exact hH.lt _ p hp
  .cases hp
 .change (if i<U'.n then ρ (π i) else none)=some p at hp;change (if j<U'.n then ρ (π j) else none)=some q at hq;split at hp
  .rename_i hi;split at hq
   .rename_i hj;obtain⟨b0,bJ,b7⟩:=aD i b hb;exact hH.sep (π i) (π j) p q b0 (λe=>cq (eE i j hi hj e)) hp hq bJ (by rw[<-b7.wr];exact hw) hx
   .cases hq
  .cases hp
def Agree (σ0 σf:Heap):Prop:=∀ i,i<σ0.n->σf.get i=σ0.get i
theorem Agree.refl (U:Heap):Agree U U:=λ_ _=>rfl
theorem Agree.push {σ0 U:Heap}(h:Agree σ0 U) (hn:σ0.n<=U.n) (b:Blk):Agree σ0 (U.push b):=λi hi=>(Heap.q0j U b (by omega)).trans (h i hi)
theorem Agree.trans {σ0 σ1 σ2:Heap}(h:Agree σ0 σ1) (k:Agree σ1 σ2) (hn:σ0.n<=σ1.n):Agree σ0 σ2:=λi hi=>(k i (by omega)).trans (h i hi)
section
variable {P:Program}{S:VSpecs}
def Nh (tmps:Array Value):ResultVar->Sem Value
 |.tmp t=>pure (tmps.getD t undef)
 |.cell a t=>do loadVar t (<-asAddr (tmps.getD a undef))
theorem Cd (fn:Func) (tmps:Array Value):results fn tmps=(do
  let vs <-fn.results.mapM (Nh tmps)
  pure (if h:vs.size=1 then vs[0] else .tuple vs)):=by
 unfold results;congr 1
theorem CZ {ρ:Plc}{U:Heap}{w:World}{env:Env}{tmps:Array Value}(hH:HRel ρ U w) (hL:LRel ρ U.n env tmps.toList) {r:ResultVar}{vr:VResult}
  (hc:XD P r=some vr) {v:Value}(h:Xs env U vr=some v):∃ c,VRel ρ U.n v c/\(Nh tmps r).run P w=.ok c w:=by
 have ak:∀ t,VRel ρ U.n (env.getD t undef) (tmps.getD t undef):=λt=>Yi (a:=⟨tmps,[]⟩) hL (x:=.tmp t) rfl;cases r with
 |tmp t =>simp[XD] at hc;subst hc;simp only[Xs,zY] at h;subst h;exact⟨_,ak t,rfl⟩
 |cell a t =>
  simp only[XD] at hc;split at hc
  .rename_i i d hi hu;simp at hc;subst hc;simp only[Xs,zn] at h;obtain⟨p,hp,rfl⟩:=h;simp only[Q6,Q4] at hp;have ha:=ak a;split at hp
   .rename_i g o s h1;rw[h1] at ha;split at hp
    .rename_i c hb;split at hp
     .rename_i hall;split at hp
      .rename_i v0 hv;simp at hp;subst hp;obtain⟨u,cr,hr⟩:=E4 hH hi hu hb hall hv ha;refine⟨u,cr,?_⟩;have:=hr w (Like.refl ρ w);have mE:tmps.getD a undef=.pointer (some ⟨g,o,none⟩):=by
        generalize tmps.getD a undef=c at ha;cases ha;rfl
       rw[mE] at this;simp only[Instr.loadAt,Instr.sureAddr,zp,x7,zi] at this;simp only[Nh,mE,asAddr,zp,x7,zi];exact this
      .cases hp
     .cases hp
    .cases hp
   .rename_i i' o h1;rw[h1] at ha;split at hp
    .rename_i c esz wr tight hb;split at hp
     .rename_i v0 hv;simp at hp;subst hp;obtain⟨u,cr,hr⟩:=Oi hH hi hu hb hv ha;refine⟨u,cr,?_⟩;have:=hr w (Like.refl ρ w);obtain⟨ad,mE,_⟩:=ha.q1g;rw[mE] at this;simp only[Instr.loadAt,Instr.sureAddr,zp,x7,zi] at this;simp only[Nh,mE,asAddr,zp,x7,zi];exact this
     .cases hp
    .cases hp
   .cases hp
  .cases hc
theorem F_ {α:Type}{ρ:Plc}{n:Nat}(g:α->Sem Value) (w:World) (f:α->Option Value):∀ (l:List α) (vs:List Value),l.mapM f=some vs ->
  (∀ a∈l,∀ v,f a=some v->∃ c,VRel ρ n v c/\(g a).run P w=.ok c w)->∃ cs,LRel ρ n vs cs/\(l.mapM g).run P w=.ok cs w:=by
 intro l;induction l with
 |nil=>intro vs h _;simp at h;subst h;exact⟨[],LRel.nil _ _,rfl⟩
 |cons a l ih =>
  intro vs h hg;rw[zX] at h;cases hf:f a with
  |none=>simp[hf] at h
  |some v =>
   cases hm:l.mapM f with
   |none=>simp[hf,hm] at h
   |some cy =>simp[hf,hm] at h;subst h;obtain⟨c,iu,iv⟩:=hg a (by simp) v hf;obtain⟨cs,pG,iW⟩:=ih cy hm (λb hb=>hg b (by simp[hb]));refine⟨c::cs,LRel.cons iu pG,?_⟩;rw[zX];simp[iv,iW]
theorem Lp {ρ:Plc}{U:Heap}{w:World}{env:Env}{tmps:Array Value}(hH:HRel ρ U w) (hL:LRel ρ U.n env tmps.toList) {fn:Func}{rs:List VResult}
  (hc:NR P fn.results.toList=some rs) {v:Value}(h:XR env U rs=some v):∃ c,VRel ρ U.n v c/\(results fn tmps).run P w=.ok c w:=by
 unfold NR at hc;have hall:∀ vs,rs.mapM (Xs env U)=some vs->∃ cs,LRel ρ U.n vs cs/\(fn.results.mapM (Nh tmps)).run P w=.ok cs.toArray w:=by
  intro vs b_;have mF:fn.results.toList.mapM (λr=>(XD P r).bind (Xs env U))=some vs:=by
   have:∀ (l:List ResultVar) (rs:List VResult) (vs:List Value),l.mapM (XD P)=some rs->rs.mapM (Xs env U)=some vs->l.mapM (λr=>(XD P r).bind (Xs env U))=some vs:=by
    intro l;induction l with
    |nil=>intro rs vs h1 h2;simp at h1;subst h1;simpa using h2
    |cons r l ih =>
     intro rs vs h1 h2;rw[zX] at h1;cases hg:XD P r with
     |none=>simp[hg] at h1
     |some x =>
      cases hm:l.mapM (XD P) with
      |none=>simp[hg,hm] at h1
      |some bn =>
       simp[hg,hm] at h1;subst h1;rw[zX] at h2;cases hx:Xs env U x with
       |none=>simp[hx] at h2
       |some y =>
        cases gO:bn.mapM (Xs env U) with
        |none=>simp[hx,gO] at h2
        |some cy =>simp[hx,gO] at h2;subst h2;rw[zX];simp[hg,hx,ih bn cy hm gO]
   exact this _ _ _ hc b_
  obtain⟨cs,k1,k2⟩:=F_ (P:=P) (ρ:=ρ) (n:=U.n) (Nh tmps) w _ _ _ mF (λr _ v hv=>by
   cases hr:XD P r with
   |none=>rw[hr] at hv;cases hv
   |some vr=>rw[hr] at hv;exact CZ hH hL hr hv)
  refine⟨cs,k1,?_⟩;rw[Array.mapM_eq_mapM_toList];simp[k2]
 unfold XR at h;split at h
 .rename_i r;obtain⟨cs,k1,k2⟩:=hall [v] (by simp[h]);have b8:cs.length=1:=by rw[<-k1.1];rfl
  obtain⟨c,rfl⟩:=zK.1 b8;refine⟨c,k1.2 0 v c rfl rfl,?_⟩;rw[Cd];simp_all
 .rename_i aK;simp only[zn] at h;obtain⟨vs,b_,rfl⟩:=h;obtain⟨cs,k1,k2⟩:=hall vs b_;refine⟨.tuple cs.toArray,VRel.q0i k1,?_⟩;have hl:cs.length≠1:=by
   rw[<-k1.1,(Yz _ _ _ b_).1]
   grind [List.length_eq_one_iff]
  rw[Cd];simp_all
theorem E7 {ρ:Plc}{n:Nat}(k:Nat):LRel ρ n (List.replicate k undef) (List.replicate k undef) :=
 ⟨rfl,(by grind [osj,List.mem_of_getElem?,Xy])⟩
theorem Td {w:World}{D:Nat}{ds:List Deferred}(h:w.heap[D]?=some (.deferred (some ds))):(Instr.takeDeferred D).run P w=.ok ds (TG w D (.deferred none)):=by simp[Instr.takeDeferred,QG h (λ_ _ _ e=>by cases e),Z2 h (λ_ _ _ e=>by cases e)]
theorem Ext.mark {ρ0 ρ:Plc}{σ0 U:Heap}{w0 w:World}(hE:Ext ρ0 σ0 w0 ρ U w) {D:Nat}(hD:w0.heap.size<=D) (O:Obj):Ext ρ0 σ0 w0 ρ U (TG w D O) :=
 ⟨hE.os,hE.tape,hE.output,by rw[HG];exact hE.size,λB hB hW=>(Vz w D O B (by omega)).trans (hE.keep B hB hW),hE.wr,hE.n,hE.pl⟩
theorem HRel.mark {ρ:Plc}{U:Heap}{w:World}(hH:HRel ρ U w) {D:Nat}{d:Option (List Deferred)}(hD:w.heap[D]?=some (.deferred d)) (O:Obj):HRel ρ U (TG w D O) :=
 hH.world (by rw[HG];exact zd _) (λi p hp=>Vz w D O p.blk (hH.q0m hD i p hp)) λg cs hg=>Vz w D O g λe=>by obtain⟨⟨e',f,h1⟩,_⟩:=hH.tab g cs hg;rw[e,hD] at h1;cases h1
theorem Ee {fn:Func}{tmps:Array Value}{R:Ending->World->Prop}{ρ0:Plc}{σ0:Heap}{w0:World}{ρ:Plc}{U:Heap}
  (pH:∀ w,HRel ρ U w->Ext ρ0 σ0 w0 ρ U w->∃ v,(results fn tmps).run P w=.ok v w/\R (.returned v) w) :
  ∀ (Ds:List Nat) (w:World),Ds.Nodup->(∀ D∈Ds,w0.heap.size<=D/\w.heap[D]?=some (.deferred (some [])))->HRel ρ U w->Ext ρ0 σ0 w0 ρ U w ->
   LeavesInM Fence.wide 0 P fn tmps R (Ds.map λD=>⟨.collected D,#[]⟩) .returning w:=by
 intro Ds;induction Ds with
 |nil=>intro w _ _ hH hE;exact pH w hH hE
 |cons D Ds ih =>intro w iP hall hH hE;obtain⟨h1,h2⟩:=wc.1 iP;obtain⟨h3,h4⟩:=hall D (by simp);refine⟨by simp,.inl ⟨D,_,rfl,Td h4,ih _ h2 (λE bM=>?_) (hH.mark h4 _) (hE.mark h3 _)⟩⟩;obtain⟨k1,k2⟩:=hall E (by simp[bM]);exact⟨k1,by grind [Vz]⟩
theorem PJ (hm:P.follows .mixedOrders=true) (hS:OkSpecs P S) {f:FuncId}{fn:Func}{c:Code}{vc:VCode}{rs:List VResult}(hf:P.funcs[f]?=some fn) (hb:fn.body=some c) (hc:comp P c=some vc) (hr:NR P fn.results.toList=some rs)
  {args:List Value}{U:Heap}{R:Value->Heap->Prop}(h:vwp S vc none (Z2y rs λv σf=>∃ v' U',DropTo U v σf v' U'/\R v' U') (args++List.replicate (fn.ntmps-args.length) undef) U):VCallsTo P f args U R:=by
 intro ρ w aw hH hL;refine callsIn_wide.1 (callsIn_of_wp_marks (n:=0) hf hb trivial (OU hm hS c vc hc (B:=w.heap.size) none none 0 _ _ U ρ w _ h hH ?_ (Mks.nil (zd _)) (.inl ⟨rfl,rfl⟩) _ ?_) rfl)
 .have hl:args.length=aw.size:=by have:=hL.1;simpa using this
  have:=hL.append (E7 (ρ:=ρ) (n:=U.n) (fn.ntmps-args.length));simpa [hl] using this
 .intro e a' w' ⟨ai,ρ',U',k1,_,k2,k3,⟨_,Ds,k4,k6,k7⟩,k5⟩;have fin:(Z8 (XR ai U' rs) λv=>∃ v' aJ,DropTo U v U' v' aJ/\R v' aJ)->LeavesInM Fence.wide 0 P fn a'.tmps (λe w'=>∃ c,e=.returned c/\Got ρ U w R c w') a'.defers .returning w':=by
   intro hk;rw[k4];refine Ee (λw1 ij fg=>?_) Ds w' k6 k7 k2 k5;cases hv:XR ai U' rs with
   |none=>rw[hv] at hk;exact hk.elim
   |some v =>rw[hv] at hk;obtain⟨v',aJ,hd,hR⟩:=hk;obtain⟨c,iu,iv⟩:=Lp ij k3 hr hv;obtain⟨en,j1,j2,j3⟩:=hd ρ w ρ' w1 c hH fg ij iu;exact⟨c,iv,c,rfl,v',en,aJ,hR,j1,j2,j3⟩
  cases e with
  |normal=>exact fin k1
  |ret=>exact fin k1
  |_=>exact k1.elim
end
end Go.V
namespace Go.V
open Go
def Fun (P:Program) (f:FuncId) (vc:VCode) (rs:List VResult) (nt:Nat):Prop :=
 ∃ fn,P.funcs[f]?=some fn/\fn.body.bind (comp P)=some vc/\NR P fn.results.toList=some rs/\fn.ntmps=nt/\(fn.name=="runtime.NumGoroutine")=false
def Z35 (U:Heap) (rs:List VResult) (R:Value->Heap->Prop):Exit->Env->Heap->Prop:=Z2y rs λv σf=>∃ v' U',DropTo U v σf v' U'/\R v' U'
section
variable {P:Program}{S:VSpecs}{f:FuncId}{vc:VCode}{rs:List VResult}{nt:Nat}
theorem Fun.calls (h:Fun P f vc rs nt) (hm:P.follows .mixedOrders=true) (hS:OkSpecs P S) {args:List Value}{U:Heap}{R:Value->Heap->Prop}
  (hw:vwp S vc none (Z35 U rs R) (args++List.replicate (nt-args.length) undef) U):VCalled P f args U R:=by
 obtain⟨fn,h1,h2,h3,h4,h5⟩:=h;cases hb:fn.body with
 |none=>rw[hb] at h2;cases h2
 |some c =>rw[hb] at h2;exact VCallsTo.called ⟨fn,h1,by rw[hb];rfl,h5⟩ (PJ hm hS h1 hb h2 h3 (by rw[h4];exact hw))
theorem Fun.enterable (h:Fun P f vc rs nt):Xz P f:=by
 obtain⟨fn,h1,h2,h3,h4,h5⟩:=h;refine⟨fn,h1,?_,h5⟩;cases hb:fn.body with
 |none=>rw[hb] at h2;cases h2
 |some c=>rfl
theorem Fun.callsTo (h:Fun P f vc rs nt) (hm:P.follows .mixedOrders=true) (hS:OkSpecs P S) {args:List Value}{U:Heap}{R:Value->Heap->Prop}
  (hw:vwp S vc none (Z35 U rs R) (args++List.replicate (nt-args.length) undef) U):VCallsTo P f args U R:=by
 obtain⟨fn,h1,h2,h3,h4,h5⟩:=h;cases hb:fn.body with
 |none=>rw[hb] at h2;cases h2
 |some c =>rw[hb] at h2;exact PJ hm hS h1 hb h2 h3 (by rw[h4];exact hw)
def Q3 (P:Program):VSpecs where
 fn f:=some λargs U K=>VCalled P f args U K
 yl i:=some λargs U K=>VYields P i args U K
 it f:=@ite _ (Xz P f) (Classical.propDecidable _) (some λi Y args U K=>VD P i Y->VCallsTo P f args U K) none
theorem RR:OkSpecs P (Q3 P) :=
  ⟨λf s h => by obtain rfl:=osj h; exactλargs U K h => h,
   λf s h => by obtain rfl:=osj h; exactλargs U K h => h,
   λf T h => by
    simp only [Q3] at h;split at h
    . rename_i he; obtain rfl:=osj h; exact ⟨he, λi Y hY args U K h => h hY⟩
    . cases h⟩
end
theorem Fe {x:Int}(h:-9223372036854775808<=x/\x<=9223372036854775807):IntKind.i64.wrap x=x:=IntWalk.i64_in x (by omega)
end Go.V
namespace Go.V
open Go
inductive EB where
 |cells (c:List Value) (esz:El) (wr tight:Bool)
 |map (es:List XJ) (clock:Nat) (wr:Bool)
 |iter (m since:Nat) (seen:List Nat) (last:Nat)
 |lp (st:LoopState) (pend:Option Code)
 |siter (s:ByteArray) (pos:Nat)
inductive GT (α:Type) where
 |nil
 |node (v:α) (l r:GT α)
def GT.get {α:Type}(d:α) (t:GT α):Nat->α :=
 GT.rec (motive:=λ_=>Nat->α) (λ_=>d)
  (λv _ _ gl gr i=>Bool.rec (motive:=λ_=>α) (Bool.rec (motive:=λ_=>α) (gr (i / 2-1)) (gl (i / 2)) (Nat.beq (i % 2) 1)) v (Nat.beq i 0)) t
def GT.set {α:Type}(d:α) (f:Nat):GT α->Nat->α->GT α :=
 Nat.rec (motive:=λ_=>GT α->Nat->α->GT α) (λt _ _=>t)
  (λ_ ih t i b=>GT.rec (motive:=λ_=>GT α)
   (Bool.rec (motive:=λ_=>GT α) (Bool.rec (motive:=λ_=>GT α) (.node d .nil (ih .nil (i / 2-1) b)) (.node d (ih .nil (i / 2) b) .nil) (Nat.beq (i % 2) 1)) (.node b .nil .nil) (Nat.beq i 0))
   (λv l r _ _=>Bool.rec (motive:=λ_=>GT α) (Bool.rec (motive:=λ_=>GT α) (.node v l (ih r (i / 2-1) b)) (.node v (ih l (i / 2) b) r) (Nat.beq (i % 2) 1)) (.node b l r) (Nat.beq i 0)) t) f
theorem GT.q0y {α:Type}(d v:α) (l r:GT α) (k:Nat):(GT.node v l r).get d k=if k=0 then v else if k % 2=1 then l.get d (k / 2) else r.get d (k / 2-1):=by
 show (Bool.rec (motive:=λ_=>α) (Bool.rec (motive:=λ_=>α) (r.get d (k / 2-1)) (l.get d (k / 2)) (Nat.beq (k % 2) 1)) v (Nat.beq k 0))=_;by_cases h0:k=0
 .subst h0;rfl
 .have:Nat.beq k 0=false:=by
   cases h:Nat.beq k 0 with
   |false=>rfl
   |true=>exact absurd (zC h) h0
  rw[this,z6 h0];by_cases h1:k % 2=1
  .rw[z7 h1,h1];rfl
  .have:Nat.beq (k % 2) 1=false:=by
    cases h:Nat.beq (k % 2) 1 with
    |false=>rfl
    |true=>exact absurd (zC h) h1
   rw[this,z6 h1]
theorem GT.q2d {α:Type}(d v:α) (f:Nat) (l r:GT α) (i:Nat) (b:α):(GT.node v l r).set d (f+1) i b=if i=0 then .node b l r else if i % 2=1 then .node v (l.set d f (i / 2) b) r else .node v l (r.set d f (i / 2-1) b):=by
 show (Bool.rec (motive:=λ_=>GT α) (Bool.rec (motive:=λ_=>GT α) (.node v l (r.set d f (i / 2-1) b)) (.node v (l.set d f (i / 2) b) r) (Nat.beq (i % 2) 1)) (.node b l r) (Nat.beq i 0))=_;by_cases h0:i=0
 .subst h0;rfl
 .have:Nat.beq i 0=false:=by
   cases h:Nat.beq i 0 with
   |false=>rfl
   |true=>exact absurd (zC h) h0
  rw[this,z6 h0];by_cases h1:i % 2=1
  .rw[z7 h1,h1];rfl
  .have:Nat.beq (i % 2) 1=false:=by
    cases h:Nat.beq (i % 2) 1 with
    |false=>rfl
    |true=>exact absurd (zC h) h1
   rw[this,z6 h1]
theorem GT.set_nil {α:Type}(d:α) (f i:Nat) (b:α):(GT.nil:GT α).set d (f+1) i b=(GT.node d .nil .nil).set d (f+1) i b:=rfl
theorem GT.q1d {α:Type}(d:α):∀ (f:Nat) (t:GT α) (i:Nat) (b:α) (j:Nat),i+1<2 ^ f->(t.set d f i b).get d j=if j=i then b else t.get d j:=by
 intro f;induction f with
 |zero=>intro t i b j h;simp at h
 |succ f ih =>
  intro t i b j h;have hp:2 ^ (f+1)=2*2 ^ f:=by rw[Nat.pow_succ];omega
  have fS:∀ v l r,((GT.node v l r).set d (f+1) i b).get d j=if j=i then b else (GT.node v l r).get d j:=by
   intro v l r;rw[GT.q2d];by_cases hi:i=0
   .subst hi;rw[z7 rfl,GT.q0y,GT.q0y];split<;>rfl
   .rw[z6 hi];by_cases ho:i % 2=1
    .rw[z7 ho,GT.q0y,GT.q0y,ih _ _ _ _ (by omega)];by_cases ie:j=0
     .subst ie;rw[z7 rfl,z6 (Ne.symm hi),z7 rfl]
     .rw[z6 ie,z6 ie];by_cases gU:j % 2=1
      .rw[z7 gU,z7 gU];by_cases aL:j=i
       .subst aL;simp
       .rw[z6 aL,z6 (by omega)]
      .rw[z6 gU,z6 gU,z6 (by rintro rfl;exact gU ho)]
    .rw[z6 ho,GT.q0y,GT.q0y,ih _ _ _ _ (by omega)];by_cases ie:j=0
     .subst ie;rw[z7 rfl,z6 (Ne.symm hi),z7 rfl]
     .rw[z6 ie,z6 ie];by_cases gU:j % 2=1
      .rw[z7 gU,z7 gU,z6 (by rintro rfl;exact ho gU)]
      .rw[z6 gU,z6 gU];by_cases aL:j=i
       .subst aL;simp
       .rw[z6 aL,z6 (by omega)]
  cases t with
  |node v l r=>exact fS v l r
  |nil =>
   rw[GT.set_nil,fS d .nil .nil,GT.q0y];split
   .rfl
   .split
    .rfl
    .split<;>rfl
structure CH where
 t:GT (Option EB)
 n:Nat
def CH.get (h:CH) (i:Nat):Option EB:=Bool.rec (motive:=λ_=>Option EB) none (h.t.get none i) (Nat.blt i h.n)
def CH.upd (h:CH) (i:Nat) (b:EB):CH:=⟨h.t.set none 32 i (some b),h.n⟩
def CH.kill (h:CH) (i:Nat):CH:=⟨h.t.set none 32 i none,h.n⟩
def CH.push (h:CH) (b:EB):CH:=⟨h.t.set none 32 h.n (some b),h.n+1⟩
def CH.room (h:CH):Bool:=Nat.ble h.n 1000000000
def CH.empty:CH:=⟨.nil,0⟩
theorem CH.q0w {h:CH}{i:Nat}(hi:i<h.n):h.get i=h.t.get none i:=by unfold CH.get;rw[show Nat.blt i h.n=true from Nat.ble_eq_true_of_le hi]
theorem CH.q0r {h:CH}{i:Nat}(hi:h.n<=i):h.get i=none:=by
 unfold CH.get;cases hb:Nat.blt i h.n with
 |false=>rfl
 |true=>have:=zx hb;omega
theorem CH.q2h {h:CH}{i:Nat}{b:EB}(hi:i<h.n) (hs:h.n<=1000000001) (j:Nat):(h.upd i b).get j=if j=i then some b else h.get j:=by
 rcases zl j h.n with hj|hj
 .rw[CH.q0w (h:=h.upd i b) hj,CH.q0w hj];exact GT.q1d none 32 _ _ _ _ (by omega)
 .rw[CH.q0r (h:=h.upd i b) hj,CH.q0r hj,z6 (by omega)]
theorem CH.q2e {h:CH}{i:Nat}(hi:i<h.n) (hs:h.n<=1000000001) (j:Nat):(h.kill i).get j=if j=i then none else h.get j:=by
 rcases zl j h.n with hj|hj
 .rw[CH.q0w (h:=h.kill i) hj,CH.q0w hj];exact GT.q1d none 32 _ _ _ _ (by omega)
 .rw[CH.q0r (h:=h.kill i) hj,CH.q0r hj];simp
theorem CH.q1q {h:CH}{b:EB}(hs:h.n<=1000000001) (j:Nat):(h.push b).get j=if j=h.n then some b else h.get j:=by
 rcases zl j (h.n+1) with hj|hj
 .rw[CH.q0w (h:=h.push b) hj];show (h.t.set none 32 h.n (some b)).get none j=_;rw[GT.q1d none 32 _ _ _ _ (by omega)];split
  .rfl
  .rw[CH.q0w (by omega)]
 .rw[CH.q0r (h:=h.push b) hj,CH.q0r (by omega),z6 (by omega)]
def EB.to (q:Env×Loop):EB->Blk
 |.cells c e w t=>.cells c e w t
 |.map es cl w=>.obj (.map es cl) w
 |.iter m s sn l=>.obj (.iter m s sn l) true
 |.lp st pend=>.obj (.lp q.1 q.2 st pend) true
 |.siter s pos=>.obj (.siter s pos) true
structure CSim (rs:Nat->Env×Loop) (h:CH) (U:Heap):Prop where
 n:h.n=U.n
 sm:h.n<=1000000001
 get:∀ i,U.get i=(h.get i).map (EB.to (rs i))
theorem CSim.cells {rs:Nat->Env×Loop}{h:CH}{U:Heap}(hs:CSim rs h U) {i:Nat}{c:List Value}{e:El}{w t:Bool}(hg:h.get i=some (.cells c e w t)):U.get i=some (.cells c e w t):=by rw[hs.get,hg];rfl
theorem CSim.map {rs:Nat->Env×Loop}{h:CH}{U:Heap}(hs:CSim rs h U) {i:Nat}{es:List XJ}{cl:Nat}{w:Bool}(hg:h.get i=some (.map es cl w)):U.get i=some (.obj (.map es cl) w):=by rw[hs.get,hg];rfl
theorem CSim.iter {rs:Nat->Env×Loop}{h:CH}{U:Heap}(hs:CSim rs h U) {i m s:Nat}{sn:List Nat}{l:Nat}(hg:h.get i=some (.iter m s sn l)):U.get i=some (.obj (.iter m s sn l) true):=by rw[hs.get,hg];rfl
theorem CSim.lp {rs:Nat->Env×Loop}{h:CH}{U:Heap}(hs:CSim rs h U) {i:Nat}{st:LoopState}{pend:Option Code}(hg:h.get i=some (.lp st pend)):U.get i=some (.obj (.lp (rs i).1 (rs i).2 st pend) true):=by rw[hs.get,hg];rfl
theorem CSim.lt {rs:Nat->Env×Loop}{h:CH}{U:Heap}(hs:CSim rs h U) {i:Nat}{b:EB}(hg:h.get i=some b):i<h.n:=by
 have:U.get i=some (b.to (rs i)):=by rw[hs.get,hg];rfl
 rw[hs.n];exact U.lt this
theorem CSim.upd {rs:Nat->Env×Loop}{h:CH}{U:Heap}(hs:CSim rs h U) {i:Nat}(hi:i<h.n) {b:EB}{b':Blk}(hb:b.to (rs i)=b'):CSim rs (h.upd i b) (U.upd i b'):=by
 refine⟨hs.n,hs.sm,λj=>?_⟩;rw[CH.q2h hi hs.sm];show (if j=i/\i<U.n then some b' else U.get j)=_;by_cases hj:j=i
 .subst hj;rw[z7 ⟨rfl,by rw[<-hs.n];exact hi⟩,z7 rfl,<-hb];rfl
 .rw[z6 (λe=>hj e.1),z6 hj];exact hs.get j
theorem CSim.kill {rs:Nat->Env×Loop}{h:CH}{U:Heap}(hs:CSim rs h U) {i:Nat}(hi:i<h.n):CSim rs (h.kill i) (U.kill i):=by
 refine⟨hs.n,hs.sm,λj=>?_⟩;rw[CH.q2e hi hs.sm];show (if j=i then none else U.get j)=_;by_cases hj:j=i
 .rw[z7 hj,z7 hj];rfl
 .rw[z6 hj,z6 hj];exact hs.get j
theorem CSim.push {rs:Nat->Env×Loop}{h:CH}{U:Heap}(hs:CSim rs h U) (hr:h.room=true) {b:EB}{b':Blk}(hb:b.to (rs h.n)=b'):CSim rs (h.push b) (U.push b'):=by
 have hr:h.n<=1000000000:=zx hr;refine⟨by show h.n+1=U.n+1;rw[hs.n],by show h.n+1<=_;omega,λj=>?_⟩;rw[CH.q1q hs.sm];show (if j=U.n then some b' else U.get j)=_;rw[<-hs.n];by_cases hj:j=h.n
 .subst hj;rw[z7 rfl,z7 rfl,<-hb];rfl
 .rw[z6 hj,z6 hj];exact hs.get j
theorem CSim.rs {rs bn:Nat->Env×Loop}{h:CH}{U:Heap}(hs:CSim rs h U) (hr:∀ i,i<h.n->bn i=rs i):CSim bn h U :=
 ⟨hs.n,hs.sm,λi=>by
  rw[hs.get];cases hg:h.get i with
  |none=>rfl
  |some b=>rw[hr i (hs.lt hg)]⟩
def CH.sl (U:CH) (esz:Nat):Value->Option (List Value)
 |.slice none 0 0=>some []
 |.slice (some ⟨i,o,none⟩) n _ =>
  match U.get i with
  |some (.cells c e _ _)=>if e.sz=esz/\o+n*esz<=c.length then some ((c.drop o).take (n*esz)) else none
  |_=>none
 |_=>none
def CH.mapAt (U:CH) (m:Nat):Option (List XJ×Nat×Bool):=match U.get m with
 |some (.map es clock wr)=>some (es,clock,wr)
 |_=>none
def NX (U:CH) (b:EB) (v:Value):Option (Value×CH):=if U.room=true then some (v,U.push b) else none
def AM (esz:El) (bytes:Nat) (U:CH) (s:Value) (m:Nat) (xs:List Value):Option (Value×CH) :=
 match s with
 |.slice none 0 0 =>
  if m=0 then some (s,U) else
  if m*bytes<=2 ^ 46 then NX U (.cells xs esz true false) (.slice (some ⟨U.n,0,none⟩) m m) else none
 |.slice (some ⟨i,o,none⟩) n cap =>
  match U.get i with
  |some (.cells c e wr tight) =>
   if e=esz/\n<=cap/\o+n*esz.sz<=c.length then
    if m=0 then some (s,U) else
    if n+m<=cap then
     (if wr=true/\o+(n+m)*esz.sz<=c.length then some (.slice (some ⟨i,o,none⟩) (n+m) cap,U.upd i (.cells (Vv c (o+n*esz.sz) xs) e wr tight)) else none)
    else if (n+m)*bytes<=2 ^ 46 then
     (if tight then NX U (.cells ((c.drop o).take (n*esz.sz)++xs) esz true false) (.slice (some ⟨U.n,0,none⟩) (n+m) (n+m))
     else if wr then NX (U.kill i) (.cells ((c.drop o).take (n*esz.sz)++xs) esz true false) (.slice (some ⟨U.n,0,none⟩) (n+m) (n+m))
     else none)
    else none
   else none
  |_=>none
 |.slice (some ⟨i,o,some 0⟩) n cap =>
  match U.get i with
  |some (.cells c e _ _) =>
   if e=esz/\n=cap/\o+n*esz.sz<=c.length/\m≠0/\(n+m)*bytes<=2 ^ 46 then
    NX U (.cells ((c.drop o).take (n*esz.sz)++xs) esz true false) (.slice (some ⟨U.n,0,none⟩) (n+m) (n+m))
   else none
  |_=>none
 |_=>none
def Og (size:Nat) (U:CH) (s:Value) (l h:Nat) (m:Option Nat):Option (Value×CH) :=
 match s with
 |.slice none 0 0=>if l=0/\h=0/\(m.getD 0)=0 then some (.slice none 0 0,U) else none
 |.slice (some ⟨i,o,none⟩) _ cap =>
  match U.get i with
  |some (.cells _ e _ t) =>
   match m with
   |none=>if e.sz=size/\l<=h/\h<=cap then some (.slice (some ⟨i,o+l*size,none⟩) (h-l) (cap-l),U) else none
   |some m =>
    if e.sz=size/\l<=h/\h<=m/\m<=cap then
     if m=l then NX U (.cells [] e false true) (.slice (some ⟨U.n,0,none⟩) 0 0)
     else if t=false/\h=m then some (.slice (some ⟨i,o+l*size,some 0⟩) (h-l) (m-l),U)
     else some (.slice (some ⟨i,o+l*size,none⟩) (h-l) (m-l),U)
    else none
  |_=>none
 |_=>none
def Q8m:Nat->Value->Value->CH->Option Bool
 |0,.pointer none,.pointer none,_=>some true
 |0,.pointer none,.pointer (some _),_=>some false
 |0,.pointer (some _),.pointer none,_=>some false
 |0,.pointer (some ⟨i,o,none⟩),.pointer (some ⟨j,q,none⟩),U=>if i=j/\o=q/\(U.get i).isSome=true then some true else none
 |1,.slice none _ _,.slice none _ _,_=>some true
 |1,.slice none _ _,.slice (some _) _ _,_=>some false
 |1,.slice (some _) _ _,.slice none _ _,_=>some false
 |2,.map none,.map none,_=>some true
 |2,.map none,.map (some _),_=>some false
 |2,.map (some _),.map none,_=>some false
 |3,.nilFunc,.nilFunc,_=>some true
 |3,.nilFunc,.func _ _ _,_=>some false
 |3,.func _ _ _,.nilFunc,_=>some false
 |_,_,_,_=>none
def Wq (o:XOp) (ev:Operand->Value) (U:CH):Option (Value×CH) :=
 match o with
 |.eqAgg neg s x y=>match ev x,ev y with
  |.agg a,.agg b=>if fits s a.toList=true/\fits s b.toList=true then some (.bool (if neg then !(Qx a.toList b.toList) else Qx a.toList b.toList),U) else none
  |_,_=>none
 |.eqNil kd neg x y=>match Q8m kd (ev x) (ev y) U with|some b=>some (.bool (if neg then !b else b),U)|none=>none
 |.makeMap=>NX U (.map [] 0 true) (.map (some U.n))
 |.lookup mk z ok x i =>
  let k:=ev i
  if Jl mk k then
   match ev x with
   |.map none=>some (if ok then .tuple #[z,.bool false] else z,U)
   |.map (some m)=>match U.mapAt m with
    |some (es,_,_)=>if es.all (λe=>Jl mk e.1) then
      (match Z0 k es with
      |some e=>some (if ok then .tuple #[e.2.1,.bool true] else e.2.1,U)
      |none=>some (if ok then .tuple #[z,.bool false] else z,U)) else none
    |none=>none
   |_=>none
  else none
 |.mapUpdate mk m k v=>match ev m with
  |.map (some i)=>match U.mapAt i with
   |some (es,clock,true)=>if Jl mk (ev k)&&es.all (λe=>Jl mk e.1) then some (undef,U.upd i (.map (Zi (ev k) (ev v) clock es).1 (Zi (ev k) (ev v) clock es).2 true)) else none
   |_=>none
  |_=>none
 |.delete mk m k=>match ev m with
  |.map (some i)=>match U.mapAt i with
   |some (es,clock,true)=>if Jl mk (ev k)&&es.all (λe=>Jl mk e.1) then some (.tuple #[],U.upd i (.map (PN (ev k) es) clock true)) else none
   |_=>none
  |_=>none
 |.lenMap x=>match ev x with
  |.map none=>some (.int .i64 0,U)
  |.map (some m)=>match U.mapAt m with
   |some (es,_,_)=>some (.int .i64 es.length,U)
   |none=>none
  |_=>none
 |.rangeMap x=>match ev x with
  |.map (some m)=>match U.mapAt m with
   |some (_,clock,_)=>NX U (.iter m clock [] clock) (.pointer (some ⟨U.n,0,none⟩))
   |none=>none
  |_=>none
 |.rangeStr x=>match ev x with
  |.string s=>NX U (.siter s 0) (.pointer (some ⟨U.n,0,none⟩))
  |_=>none
 |.nextStr x=>match ev x with
  |.pointer (some ⟨i,0,none⟩)=>match U.get i with
   |some (.siter s pos)=>match s.data.toList[pos]? with
    |some b=>if b.toNat<128 then some (.tuple #[.bool true,.int .i64 pos,.int .i32 b.toNat],U.upd i (.siter s (pos+1))) else none
    |none=>some (.tuple #[.bool false],U)
   |_=>none
  |_=>none
 |.entry x=>match ev x with
  |.pointer (some ⟨i,0,none⟩)=>match U.get i with
   |some (.iter m _ seen last)=>match U.mapAt m,seen.getLast? with
    |some (es,clock,_),some b=>if clock=last then (match es.find? (λe=>e.2.2==b) with|some e=>if UR e.1 then some (.tuple #[e.1,e.2.1],U) else none|none=>none) else none
    |_,_=>none
   |_=>none
  |_=>none
 |.copy size d s=>match ev d,ev s with
  |.slice db dn _,.slice sb sn sc =>
   if min sn dn=0 then some (.int .i64 0,U) else
   match db,U.sl size (.slice sb (min sn dn) sc) with
   |some ⟨i,o,none⟩,some xs=>match U.get i with
    |some (.cells c e wr tight)=>if wr=true/\e.sz=size/\o+xs.length<=c.length/\xs.all cellOk=true then some (.int .i64 (min sn dn:Nat),U.upd i (.cells (Vv c o xs) e wr tight)) else none
    |_=>none
   |_,_=>none
  |_,_=>none
 |.clear z x=>match ev x with
  |.slice b n _ =>
   if n=0 then some (.tuple #[],U) else
   match b with
   |some ⟨i,o,none⟩=>match U.get i with
    |some (.cells c e wr tight)=>if wr=true/\o+n*z.length<=c.length/\z.all cellOk=true then some (.tuple #[],U.upd i (.cells (Vv c o (TK n z)) e wr tight)) else none
    |_=>none
   |_=>none
  |_=>none
 |.toUnsafe x=>match ev x with
  |.pointer none=>some (.pointer none,U)
  |.pointer (some ⟨i,o,none⟩)=>match U.get i with
   |some (.cells c _ _ _)=>if o<c.length then some (.pointer (some ⟨i,o,none⟩),U) else none
   |_=>none
  |_=>none
 |.fromUnsafe u size x=>match ev x with
  |.pointer none=>some (.pointer none,U)
  |.pointer (some ⟨i,o,none⟩)=>match U.get i with
   |some (.cells c e true true)=>if o=0/\e.ty=u/\size<=c.length then some (.pointer (some ⟨i,o,none⟩),U) else none
   |_=>none
  |_=>none
 |.sliceData x=>match ev x with
  |.slice none _ _=>some (.pointer none,U)
  |.slice (some ⟨i,o,none⟩) _ cap=>if cap≠0/\(U.get i).isSome=true then some (.pointer (some ⟨i,o,none⟩),U) else none
  |_=>none
 |.unsafeStr e x n=>match ev x,ev n with
  |.pointer p,.int .i64 k =>
   if k=0 then some (.string ⟨#[]⟩,U) else
   match p with
   |some ⟨i,o,none⟩=>match U.get i with
    |some (.cells c el true tight) =>
     if 0<k/\k<=2 ^ 62/\el.ty=e/\o+k.toNat<=c.length then
      (match T1 ((c.drop o).take k.toNat) with
      |some s=>some (.string s,U.upd i (.cells c el false tight))
      |none=>none) else none
    |_=>none
   |_=>none
  |_,_=>none
 |.bytesStr x=>match ev x with
  |.slice a n c=>match U.sl 1 (.slice a n c) with
   |some xs=>match T1 xs with|some s=>some (.string s,U)|none=>none
   |none=>none
  |_=>none
 |.strBytes e x=>match ev x with
  |.string s=>if s.size<=2 ^ 62 then NX U (.cells (s.data.toList.map λb=>.int .u8 b.toNat) ⟨1,e⟩ true false) (.slice (some ⟨U.n,0,none⟩) s.size s.size) else none
  |_=>none
 |_=>none
def Heap.empty:Heap:=⟨λ_=>none,0,λ_ _=>rfl⟩
def Q41 (o:VOp) (ev:Operand->Value) (U:CH):Option (Value×CH) :=
 match o with
 |.alloc t z=>NX U (.cells z ⟨z.length,t⟩ true true) (.pointer (some ⟨U.n,0,none⟩))
 |.box t x=>match VK (ev x) with
  |some vs=>NX U (.cells vs ⟨vs.length,t⟩ true true) (.pointer (some ⟨U.n,0,none⟩))
  |none=>none
 |.buildSlice esz z len parts=>match GJ (TK len z) (parts.map λp=>(p.1*esz.sz,esz.sz,ev p.2)) with
  |some cs=>NX U (.cells cs esz true true) (.slice (some ⟨U.n,0,none⟩) len len)
  |none=>none
 |.load agg size a=>match ev a with
  |.pointer (some ⟨g,o,some _⟩)=>(match Q3z g with
   |some c=>if c.all Zd then (match Wi agg size c o with|some v=>some (v,U)|none=>none) else none
   |none=>none)
  |.pointer (some ⟨i,o,none⟩)=>match U.get i with
   |some (.cells c _ _ _)=>match Wi agg size c o with|some v=>some (v,U)|none=>none
   |_=>none
  |_=>none
 |.store size a v=>match ev a,VK (ev v) with
  |.pointer (some ⟨i,o,none⟩),some vs=>match U.get i with
   |some (.cells c e wr tight)=>if wr=true/\vs.length=size/\o+size<=c.length/\vs.all cellOk=true then some (undef,U.upd i (.cells (Vv c o vs) e wr tight)) else none
   |_=>none
  |_,_=>none
 |.slice size x lo hi mx =>
  match ev x with
  |.slice a n cap =>
   match X7 ev lo 0,X7 ev hi n,mx with
   |some l,some h,none=>Og size U (.slice a n cap) l h none
   |some l,some h,some _=>match X7 ev mx 0,hi with
    |some m,some _=>Og size U (.slice a n cap) l h (some m)
    |_,_=>none
   |_,_,_=>none
  |_=>none
 |.makeSlice esz bytes z l c =>
  match ev l,ev c with
  |.int _ a,.int _ b=>if 0<=a/\a<=b/\b*bytes<=2 ^ 46/\b<=2 ^ 46 then NX U (.cells (TK b.toNat z) esz true true) (.slice (some ⟨U.n,0,none⟩) a.toNat b.toNat) else none
  |_,_=>none
 |.append esz bytes s x =>
  match U.sl esz.sz (ev x),ev x with
  |some xs,.slice _ m _=>if xs.all cellOk then AM esz bytes U (ev s) m xs else none
  |_,_=>none
 |.ext o=>Wq o ev U
 |o=>if o.kind=0 then (match Q6 o ev Heap.empty with|some p=>some (p.1,U)|none=>none) else none
def ESnd (rs:Nat->Env×Loop) (h:CH) (_σ:Heap) (r:Option (Value×Heap)) (p:Value×CH):Prop:=h.n<=p.2.n/\∃ U',r=some (p.1,U')/\CSim rs p.2 U'
theorem ESnd.same {rs:Nat->Env×Loop}{h:CH}{U:Heap}(hs:CSim rs h U) {r:Option (Value×Heap)}{v:Value}(hr:r=some (v,U)):ESnd rs h U r (v,h):=⟨zd _,U,hr,hs⟩
theorem ESnd.upd {rs:Nat->Env×Loop}{h:CH}{U:Heap}(hs:CSim rs h U) {r:Option (Value×Heap)}{v:Value}{i:Nat}{b:EB}{b0:EB}(hg:h.get i=some b0) {b':Blk}(hb:b.to (rs i)=b') (hr:r=some (v,U.upd i b')):ESnd rs h U r (v,h.upd i b):=by have hi:=hs.lt hg;have ox:=hs.sm;exact⟨zd _,_,hr,hs.upd hi hb⟩
theorem ESnd.push {rs:Nat->Env×Loop}{h:CH}{U:Heap}(hs:CSim rs h U) {r:Option (Value×Heap)}{v:Value}{p:Value×CH}{b:EB}(hp:NX h b v=some p) {b':Blk}(hb:b.to (rs h.n)=b') (hr:r=some (v,U.push b')):ESnd rs h U r p:=by
 unfold NX at hp;split at hp
 .rename_i aT;obtain rfl:=osj hp;have ox:=hs.sm;exact⟨Nat.le_succ _,_,hr,hs.push aT hb⟩
 .cases hp
theorem CSim.sl {rs:Nat->Env×Loop}{h:CH}{U:Heap}(hs:CSim rs h U) {esz:Nat}{v:Value}{xs:List Value}(hx:h.sl esz v=some xs):U.sl esz v=some xs:=by
 unfold CH.sl at hx;unfold Heap.sl;split at hx
 .exact hx
 .rename_i i o n c;split at hx
  .rename_i cs e wr t hb;simp only[hs.cells hb];exact hx
  .cases hx
 .cases hx
theorem CSim.mapAt {rs:Nat->Env×Loop}{h:CH}{U:Heap}(hs:CSim rs h U) {m:Nat}{x:List XJ×Nat×Bool}(hx:h.mapAt m=some x):U.mapAt m=some x/\h.get m=some (.map x.1 x.2.1 x.2.2):=by
 unfold CH.mapAt at hx;unfold Heap.mapAt;split at hx
 .rename_i es clock wr hb;obtain rfl:=osj hx;exact⟨by simp only[hs.map hb],hb⟩
 .cases hx
theorem FQ {rs:Nat->Env×Loop}{h:CH}{U:Heap}(hs:CSim rs h U) {kd:Nat}{a b:Value}{r:Bool}(hx:Q8m kd a b h=some r):Xg kd a b U=some r:=by
 unfold Q8m at hx;unfold Xg
 split at hx<;>first
  |exact hx
  |(cases hx;done)
  |skip
 rename_i i o j q;split at hx
 .rename_i hc;obtain⟨h1,h2,h3⟩:=hc;have cQ:i=j/\o=q/\(U.get i).isSome=true:=⟨h1,h2,by rw[hs.get];simpa using h3⟩;simp only[z7 cQ];exact hx
 .cases hx
theorem CD {rs:Nat->Env×Loop}{h:CH}{U:Heap}(hs:CSim rs h U) {esz:El}{bytes:Nat}{s:Value}{m:Nat}{xs:List Value}{p:Value×CH}(hx:AM esz bytes h s m xs=some p):ESnd rs h U (KN esz bytes U s m xs) p:=by
 unfold AM at hx;unfold KN;split at hx
 .split at hx
  .rename_i hm;simp only[z7 hm];obtain rfl:=osj hx;exact .same hs rfl
  .rename_i hm;simp only[z6 hm];split at hx
   .rename_i hb;simp only[z7 hb];rw[hs.n] at hx;exact .push hs hx rfl rfl
   .cases hx
 .rename_i i o n cap;split at hx
  .rename_i c e wr tight hg;have ox:=hs.sm;have hi:=hs.lt hg;simp only[hs.cells hg];split at hx
   .rename_i h1;simp only[z7 h1];split at hx
    .rename_i h2;simp only[z7 h2];obtain rfl:=osj hx;exact .same hs rfl
    .rename_i h2;simp only[z6 h2];split at hx
     .rename_i h3;simp only[z7 h3];split at hx
      .rename_i h4;simp only[z7 h4];obtain rfl:=osj hx;exact .upd hs hg rfl rfl
      .cases hx
     .rename_i h3;simp only[z6 h3];split at hx
      .rename_i h4;simp only[z7 h4];split at hx
       .rename_i h5;simp only[z7 h5];rw[hs.n] at hx;exact .push hs hx rfl rfl
       .rename_i h5;simp only[z6 h5];split at hx
        .rename_i h6;simp only[z7 h6];rw[hs.n] at hx;have hk:=hs.kill hi;obtain⟨k1,U',k2,k3⟩:=ESnd.push (r:=some (.slice (some ⟨U.n,0,none⟩) (n+m) (n+m),(U.kill i).push (.cells ((c.drop o).take (n*esz.sz)++xs) esz true false))) hk hx rfl rfl;exact⟨k1,U',k2,k3⟩
        .cases hx
      .cases hx
   .cases hx
  .cases hx
 .rename_i i o n cap;split at hx
  .rename_i c e wr tight hg;simp only[hs.cells hg];split at hx
   .rename_i h1;simp only[z7 h1];rw[hs.n] at hx;exact .push hs hx rfl rfl
   .cases hx
  .cases hx
 .cases hx
theorem T0 {rs:Nat->Env×Loop}{h:CH}{U:Heap}(hs:CSim rs h U) {size:Nat}{s:Value}{l k:Nat}{m:Option Nat}{p:Value×CH}(hx:Og size h s l k m=some p):ESnd rs h U (YY size U s l k m) p:=by
 unfold Og at hx;unfold YY;split at hx
 .split at hx
  .rename_i hm;simp only[z7 hm];obtain rfl:=osj hx;exact .same hs rfl
  .cases hx
 .rename_i i o n cap;split at hx
  .rename_i c e wr tight hg;simp only[hs.cells hg];split at hx
   .split at hx
    .rename_i h1;simp only[z7 h1];obtain rfl:=osj hx;exact .same hs rfl
    .cases hx
   .split at hx
    .rename_i h1;simp only[z7 h1];split at hx
     .rename_i h2;simp only[z7 h2];rw[hs.n] at hx;exact .push hs hx rfl rfl
     .rename_i h2;simp only[z6 h2];split at hx
      .rename_i h3;simp only[z7 h3];obtain rfl:=osj hx;exact .same hs rfl
      .rename_i h3;simp only[z6 h3];obtain rfl:=osj hx;exact .same hs rfl
    .cases hx
  .cases hx
 .cases hx
theorem TS {rs:Nat->Env×Loop}{h:CH}{U:Heap}(hs:CSim rs h U) {o:XOp}{ev:Operand->Value}{p:Value×CH}(hx:Wq o ev h=some p):ESnd rs h U (ZA o ev U) p:=by
 cases o
 case eqAgg neg s x y =>
  simp only[Wq] at hx;simp only[ZA];split at hx
  .rename_i a b ha hb;split at hx
   .rename_i hc;rw[ha,hb];simp only;rw[z7 hc];obtain rfl:=osj hx;exact .same hs rfl
   .cases hx
  .cases hx
 case eqNil kd neg x y =>
  simp only[Wq] at hx;simp only[ZA];split at hx
  .rename_i b hb;rw[FQ hs hb];obtain rfl:=osj hx;exact .same hs rfl
  .cases hx
 case makeMap =>
  simp only[Wq] at hx;simp only[ZA];rw[hs.n] at hx;exact .push hs hx rfl rfl
 case lookup mk z ok x i =>
  simp only[Wq] at hx;simp only[ZA];generalize ev x=q0 at hx |-;generalize ev i=q1 at hx |-;split at hx
  .rename_i hk;simp only[z7 hk];split at hx
   .obtain rfl:=osj hx;exact .same hs rfl
   .rename_i m hm;split at hx
    .rename_i es cl wr gh;obtain⟨k1,k2⟩:=hs.mapAt gh;simp only[k1];split at hx
     .rename_i hall;simp only[z7 hall];split at hx
      .rename_i e hf;simp only[hf];obtain rfl:=osj hx;exact .same hs rfl
      .rename_i hf;simp only[hf];obtain rfl:=osj hx;exact .same hs rfl
     .cases hx
    .cases hx
   .cases hx
  .cases hx
 case mapUpdate mk m k v =>
  simp only[Wq] at hx;simp only[ZA];generalize ev m=q0 at hx |-;split at hx
  .rename_i i hi;split at hx
   .rename_i es cl gh;obtain⟨k1,k2⟩:=hs.mapAt gh;simp only[k1];split at hx
    .rename_i hc;simp only[z7 hc];obtain rfl:=osj hx;exact .upd hs k2 rfl rfl
    .cases hx
   .cases hx
  .cases hx
 case delete mk m k =>
  simp only[Wq] at hx;simp only[ZA];generalize ev m=q0 at hx |-;split at hx
  .rename_i i hi;split at hx
   .rename_i es cl gh;obtain⟨k1,k2⟩:=hs.mapAt gh;simp only[k1];split at hx
    .rename_i hc;simp only[z7 hc];obtain rfl:=osj hx;exact .upd hs k2 rfl rfl
    .cases hx
   .cases hx
  .cases hx
 case mapEntry=>cases hx
 case entryStore=>cases hx
 case lenMap x =>
  simp only[Wq] at hx;simp only[ZA];generalize ev x=q0 at hx |-;split at hx
  .obtain rfl:=osj hx;exact .same hs rfl
  .split at hx
   .rename_i es cl wr gh;obtain⟨k1,k2⟩:=hs.mapAt gh;simp only[k1];obtain rfl:=osj hx;exact .same hs rfl
   .cases hx
  .cases hx
 case rangeMap x =>
  simp only[Wq] at hx;simp only[ZA];generalize ev x=q0 at hx |-;split at hx
  .split at hx
   .rename_i es cl wr gh;obtain⟨k1,k2⟩:=hs.mapAt gh;simp only[k1];rw[hs.n] at hx;exact .push hs hx rfl rfl
   .cases hx
  .cases hx
 case nextMap=>cases hx
 case rangeStr x =>
  simp only[Wq] at hx;simp only[ZA];generalize ev x=q0 at hx |-;split at hx
  .rw[hs.n] at hx;exact .push hs hx rfl rfl
  .cases hx
 case nextStr x =>
  simp only[Wq] at hx;simp only[ZA];generalize ev x=q0 at hx |-;split at hx
  .rename_i i;split at hx
   .rename_i s pos hg;have cO:U.get i=some (.obj (.siter s pos) true):=by rw[hs.get,hg];rfl
    simp only[cO];split at hx
    .rename_i b hb;split at hx
     .rename_i al;simp only[hb,z7 al];obtain rfl:=osj hx;exact .upd hs hg rfl rfl
     .cases hx
    .rename_i hb;simp only[hb];obtain rfl:=osj hx;exact .same hs rfl
   .cases hx
  .cases hx
 case entry x =>
  simp only[Wq] at hx;simp only[ZA];generalize ev x=q0 at hx |-;split at hx
  .split at hx
   .rename_i m since seen last hg;simp only[hs.iter hg];split at hx
    .rename_i es clock wr b gh dj;obtain⟨k1,_⟩:=hs.mapAt gh;simp only[k1,dj];split at hx
     .rename_i hc;rw[z7 hc];split at hx
      .rename_i e hf;split at hx
       .rename_i hp;rw[hf];simp only[hp,zr];obtain rfl:=osj hx;exact .same hs rfl
       .cases hx
      .cases hx
     .cases hx
    .cases hx
   .cases hx
  .cases hx
 case copy size d s =>
  simp only[Wq] at hx;simp only[ZA];generalize ev d=q0 at hx |-;generalize ev s=q1 at hx |-;split at hx
  .rename_i db dn dc sb sn sc h1 h2;split at hx
   .rename_i hm;simp only[z7 hm];obtain rfl:=osj hx;exact .same hs rfl
   .rename_i hm;simp only[z6 hm];split at hx
    .rename_i i o xs bc;simp only[hs.sl bc];split at hx
     .rename_i c e wr tight hg;simp only[hs.cells hg];split at hx
      .rename_i hc;simp only[z7 hc];obtain rfl:=osj hx;exact .upd hs hg rfl rfl
      .cases hx
     .cases hx
    .cases hx
  .cases hx
 case clear z x =>
  simp only[Wq] at hx;simp only[ZA];generalize ev x=q0 at hx |-;split at hx
  .rename_i b n cap;split at hx
   .rename_i hm;simp only[z7 hm];obtain rfl:=osj hx;exact .same hs rfl
   .rename_i hm;simp only[z6 hm];split at hx
    .rename_i i o;split at hx
     .rename_i c e wr tight hg;simp only[hs.cells hg];split at hx
      .rename_i hc;simp only[z7 hc];obtain rfl:=osj hx;exact .upd hs hg rfl rfl
      .cases hx
     .cases hx
    .cases hx
  .cases hx
 case toUnsafe x =>
  simp only[Wq] at hx;simp only[ZA];generalize ev x=q0 at hx |-;split at hx
  .obtain rfl:=osj hx;exact .same hs rfl
  .split at hx
   .rename_i c e wr tight hg;simp only[hs.cells hg];split at hx
    .rename_i hc;simp only[z7 hc];obtain rfl:=osj hx;exact .same hs rfl
    .cases hx
   .cases hx
  .cases hx
 case fromUnsafe u size x =>
  simp only[Wq] at hx;simp only[ZA];generalize ev x=q0 at hx |-;split at hx
  .obtain rfl:=osj hx;exact .same hs rfl
  .split at hx
   .rename_i c e hg;simp only[hs.cells hg];split at hx
    .rename_i hc;simp only[z7 hc];obtain rfl:=osj hx;exact .same hs rfl
    .cases hx
   .cases hx
  .cases hx
 case sliceData x =>
  simp only[Wq] at hx;simp only[ZA];generalize ev x=q0 at hx |-;split at hx
  .obtain rfl:=osj hx;exact .same hs rfl
  .rename_i i o n cap;split at hx
   .rename_i hc;simp only[z7 (show cap≠0/\(U.get i).isSome=true from ⟨hc.1,by rw[hs.get];simpa using hc.2⟩)];obtain rfl:=osj hx;exact .same hs rfl
   .cases hx
  .cases hx
 case unsafeStr e x n =>
  simp only[Wq] at hx;simp only[ZA];generalize ev x=q0 at hx |-;generalize ev n=q1 at hx |-;split at hx
  .rename_i q k h1 h2;split at hx
   .rename_i hk;simp only[z7 hk];obtain rfl:=osj hx;exact .same hs rfl
   .rename_i hk;simp only[z6 hk];split at hx
    .rename_i i o;split at hx
     .rename_i c el tight hg;simp only[hs.cells hg];split at hx
      .rename_i hc;simp only[z7 hc];split at hx
       .rename_i u hu;simp only[hu];obtain rfl:=osj hx;exact .upd hs hg rfl rfl
       .cases hx
      .cases hx
     .cases hx
    .cases hx
  .cases hx
 case bytesStr x =>
  simp only[Wq] at hx;simp only[ZA];generalize ev x=q0 at hx |-;split at hx
  .split at hx
   .rename_i xs bc;simp only[hs.sl bc];split at hx
    .rename_i u hu;simp only[hu];obtain rfl:=osj hx;exact .same hs rfl
    .cases hx
   .cases hx
  .cases hx
 case strBytes e x =>
  simp only[Wq] at hx;simp only[ZA];generalize ev x=q0 at hx |-;split at hx
  .split at hx
   .rename_i h1;simp only[z7 h1];rw[hs.n] at hx;exact .push hs hx rfl rfl
   .cases hx
  .cases hx
theorem Q1r {rs:Nat->Env×Loop}{h:CH}{U:Heap}(hs:CSim rs h U) {o:VOp}{ev:Operand->Value}{p:Value×CH}
  (hx:(if o.kind=0 then (match Q6 o ev Heap.empty with|some p=>some (p.1,h)|none=>none) else none)=some p):ESnd rs h U (Q6 o ev U) p:=by
 split at hx
 .rename_i hk;split at hx
  .rename_i q hq;obtain rfl:=osj hx;exact .same hs (Sq hk (v:=q.1) (σ1:=q.2) hq)
  .cases hx
 .cases hx
theorem K7 {rs:Nat->Env×Loop}{h:CH}{U:Heap}(hs:CSim rs h U) {o:VOp}{ev:Operand->Value}{p:Value×CH}(hx:Q41 o ev h=some p):ESnd rs h U (Q6 o ev U) p:=by
 cases o
 case alloc t z =>
  simp only[Q41] at hx;simp only[Q6];rw[hs.n] at hx;exact .push hs hx rfl rfl
 case box t x =>
  simp only[Q41] at hx;simp only[Q6];generalize VK (ev x)=q0 at hx |-;split at hx
  .rw[hs.n] at hx;exact .push hs hx rfl rfl
  .cases hx
 case buildSlice esz z len parts =>
  simp only[Q41] at hx;simp only[Q6];generalize GJ (TK len z) (parts.map λp=>(p.1*esz.sz,esz.sz,ev p.2))=q0 at hx |-;split at hx
  .rw[hs.n] at hx;exact .push hs hx rfl rfl
  .cases hx
 case load agg size a =>
  simp only[Q41] at hx;simp only[Q6];generalize ev a=q0 at hx |-;split at hx
  .split at hx
   .rename_i c hg;split at hx
    .rename_i hall;simp only[hg,z7 hall];split at hx
     .rename_i u hu;simp only[hu];obtain rfl:=osj hx;exact .same hs rfl
     .cases hx
    .cases hx
   .cases hx
  .split at hx
   .rename_i c e wr tight hg;simp only[hs.cells hg];split at hx
    .rename_i u hu;simp only[hu];obtain rfl:=osj hx;exact .same hs rfl
    .cases hx
   .cases hx
  .cases hx
 case store size a v =>
  simp only[Q41] at hx;simp only[Q6];generalize VK (ev v)=q0 at hx |-;generalize ev a=q1 at hx |-;split at hx
  .rename_i i o vs h1 h2;split at hx
   .rename_i c e wr tight hg;simp only[hs.cells hg];split at hx
    .rename_i hc;simp only[z7 hc];obtain rfl:=osj hx;exact .upd hs hg rfl rfl
    .cases hx
   .cases hx
  .cases hx
 case slice size x lo hi mx =>
  simp only[Q41] at hx;simp only[Q6];generalize ev x=q0 at hx |-;split at hx
  .rename_i a n cap;dsimp only;generalize X7 ev lo 0=q1 at hx |-;generalize X7 ev hi n=q2 at hx |-;split at hx
   .exact T0 hs hx
   .rename_i l k m;dsimp only;generalize X7 ev (some m) 0=q3 at hx |-;split at hx
    .exact T0 hs hx
    .cases hx
   .cases hx
  .cases hx
 case makeSlice esz bytes z l c =>
  simp only[Q41] at hx;simp only[Q6];generalize ev l=q0 at hx |-;generalize ev c=q1 at hx |-;split at hx
  .split at hx
   .rename_i hc;simp only[z7 hc];rw[hs.n] at hx;exact .push hs hx rfl rfl
   .cases hx
  .cases hx
 case append esz bytes s x =>
  simp only[Q41] at hx;simp only[Q6];generalize ev x=q0 at hx |-;split at hx
  .rename_i bc;simp only[hs.sl bc];split at hx
   .rename_i hc;simp only[z7 hc];exact CD hs hx
   .cases hx
  .cases hx
 case ext o=>exact TS hs hx
 all_goals exact Q1r hs hx
def Q02 (k:IntKind) (n:Int):Int:=match n with
 |.ofNat x=>match Nat.ble x 127 with
  |true=>.ofNat x
  |false=>k.wrap (.ofNat x)
 |.negSucc x=>k.wrap (.negSucc x)
theorem Oa (k:IntKind) (n:Int):Q02 k n=k.wrap n:=by
 cases n with
 |negSucc x=>rfl
 |ofNat x =>
  simp only[Q02];split
  .rename_i h;have hx:x<=127:=zx h;show (x:Int)=k.wrap (x:Int);cases k<;>simp[IntKind.wrap,IntKind.bits,IntKind.signed]<;>omega
  .rfl
def Z0t (c a b:Value):Option Value:=match c with|.bool t=>some (if t then a else b)|_=>none
def Q6g (op:BinOp) (x y:Value):Option Value:=match x,y with|.int k a,.int k' b=>if k=k' then some (.int k (match op with|.add=>Q02 k (a+b)|.sub=>Q02 k (a-b)|_=>Q02 k (a*b))) else none|_,_=>none
def Z5e (op:BinOp) (x y:Value):Option Value:=match x,y with|.int k a,.int k' b=>if k=k'/\b≠0 then some (.int k (Q9b op k a b)) else none|_,_=>none
def Z24 (op:BinOp) (x y:Value):Option Value:=match x,y with|.int k a,.int k' b=>if k=k' then some (.int k (Q1 op k a b)) else none|_,_=>none
def Q70 (op:BinOp) (x y:Value):Option Value:=match x,y with|.int k a,.int _ b=>if 0<=b then some (.int k (PX op k a b)) else none|_,_=>none
def Z5h (op:BinOp) (x y:Value):Option Value:=match x,y with|.int k a,.int k' b=>if k=k' then some (.bool (Q9l op a b)) else none|_,_=>none
def Z68 (op:BinOp) (x y:Value):Option Value:=match x,y with
  |.string a,.string b=>match op with
   |.add=>if a.size+b.size<=2 ^ 62 then some (.string (a++b)) else none
   |.eql=>some (.bool (a.data.toList==b.data.toList))
   |.neq=>some (.bool (!(a.data.toList==b.data.toList)))
   |.lss=>some (.bool (Op.bytesLess a.data.toList b.data.toList))
   |_=>none
  |_,_=>none
def Z4w (neg:Bool) (x y:Value):Option Value:=match x,y with|.bool a,.bool b=>some (.bool (if neg then !(a==b) else (a==b)))|_,_=>none
def pUn (op:UnOp) (x:Value):Option Value:=match op,x with
  |.not,.bool b=>some (.bool (!b))
  |.neg,.int k n=>some (.int k (k.wrap (0-n)))
  |.xor,.int k n=>some (.int k (Q1 .xor k (if k.signed then -1 else k.max) n))
  |_,_=>none
def Q6f (k:IntKind) (x:Value):Option Value:=match x with|.int _ n=>some (.int k (Q02 k n))|_=>none
def Q6d (x:Value):Option Value:=match x with|.string s=>some (.string s)|_=>none
def Q73 (z:List Value) (l:List (Nat×Nat×Value)):Option Value:=match GJ z l with|some cs=>some (.agg cs.toArray)|none=>none
def Cq (off:Nat) (a:Value):Option Value:=match a with
  |.pointer (some ⟨i,o,none⟩)=>some (.pointer (some ⟨i,o+off,none⟩))
  |_=>none
def Q69 (agg:Bool) (off size:Nat) (x:Value):Option Value:=match x with
  |.agg cs=>Wi agg size cs.toList off
  |_=>none
def Ca (size:Nat) (x i:Value):Option Value:=match x,i with
  |.slice (some ⟨b,o,none⟩) n _,.int _ k=>if 0<=k/\k<n then some (.pointer (some ⟨b,o+k.toNat*size,none⟩)) else none
  |_,_=>none
def HQ (len size:Nat) (x i:Value):Option Value:=match x,i with
  |.pointer (some ⟨g,o,some s⟩),.int _ k=>if 0<=k/\k<len then some (.pointer (some ⟨g,o+k.toNat*size,some s⟩)) else none
  |.pointer (some ⟨b,o,none⟩),.int _ k=>if 0<=k/\k<len then some (.pointer (some ⟨b,o+k.toNat*size,none⟩)) else none
  |_,_=>none
def EN (x i:Value):Option Value:=match x,i with
  |.string s,.int _ k=>if 0<=k then (match s.data.toList[k.toNat]? with|some b=>some (.int .u8 b.toNat)|none=>none) else none
  |_,_=>none
def EO (len:Nat) (agg:Bool) (size:Nat) (x i:Value):Option Value:=match x,i with
  |.agg cs,.int _ k=>if 0<=k/\k<len then Wi agg size cs.toList (k.toNat*size) else none
  |_,_=>none
def Ef (ev:Operand->Value) (x:Value) (lo hi:Option Operand):Option Value:=match x with
  |.string s =>
   match X7 ev lo 0,X7 ev hi s.size with
   |some l,some h=>if l<=h/\h<=s.size then some (.string (s.extract l h)) else none
   |_,_=>none
  |_=>none
def Z61 (x:Value):Option Value:=match x with|.slice _ n _=>some (.int .i64 n)|_=>none
def Q1v (x:Value):Option Value:=match x with|.string s=>some (.int .i64 s.size)|_=>none
def Q9o (x y z w:Value):Option Value:=match x,y,z,w with|.int k a,.int k2 b,.int k3 c,.int k4 d=>if k=k2/\k=k3/\k=k4 then some (.int k (Q15 (Q15 (Q15 a b) c) d)) else none|_,_,_,_=>none
def Z4x (x y:Value):Option Value:=match x,y with|.int k a,.int k' b=>if k=k' then some (.int k (if b > a then b else a)) else none|_,_=>none
def Z5b (x y:Value):Option Value:=match x,y with|.int k a,.int k' b=>if k=k' then some (.int k (if b<a then b else a)) else none|_,_=>none
def Q6c (t:TypeId) (x:Value):Option Value:=match x with|.chan _=>none|v=>some (.iface t v)
def Oj (i:Nat) (x:Value):Option Value:=match x with
  |.tuple vs=>vs.toList[i]?
  |_=>none
def Fj (x:Value):Option Value:=match x with
  |.pointer (some a)=>some (.pointer (some a))
  |.func (.func f) first cap=>some (.func (.func f) first cap)
  |_=>none
def ppp (r:Option Value) (U:CH):Option (Value×CH):=match r with|some v=>some (v,U)|none=>none
def Z6n (t:Nat) (x:Value) (U:CH):Option (Value×CH):=match VK x with
  |some vs=>NX U (.cells vs ⟨vs.length,t⟩ true true) (.pointer (some ⟨U.n,0,none⟩))
  |none=>none
def FM (esz:El) (z:List Value) (len:Nat) (l:List (Nat×Nat×Value)) (U:CH):Option (Value×CH):=match GJ (TK len z) l with
  |some cs=>NX U (.cells cs esz true true) (.slice (some ⟨U.n,0,none⟩) len len)
  |none=>none
def Z21 (agg:Bool) (size:Nat) (a:Value) (U:CH):Option (Value×CH):=match a with
  |.pointer (some ⟨g,o,some _⟩)=>(match Q3z g with
   |some c=>if c.all Zd then (match Wi agg size c o with|some v=>some (v,U)|none=>none) else none
   |none=>none)
  |.pointer (some ⟨i,o,none⟩)=>match U.get i with
   |some (.cells c _ _ _)=>match Wi agg size c o with|some v=>some (v,U)|none=>none
   |_=>none
  |_=>none
def stL (c:List Value) (o:Nat) (vs:List Value):List Value:=match vs with
 |[v]=>c.set o v
 |vs=>c.take o++(vs++c.drop (o+vs.length))
theorem IT:∀ (vs a b c:List Value),vs.length=b.length->Vv (a++(b++c)) a.length vs=a++(vs++c)
 |[],a,b,c,h=>by have:b=[]:=List.eq_nil_of_length_eq_zero (by simpa using h.symm);subst this;rfl
 |v::vs,a,[],c,h=>by simp at h
 |v::vs,a,x::b,c,h=>by
  simp only[Vv];have e:(a++(x::b++c)).set a.length v=(a++[v])++(b++c):=by simp
  rw[e];have:=IT vs (a++[v]) b c (by simpa using h);rw[zH,zT] at this;rw[this];simp
theorem Z1m {c:List Value}{o:Nat}{vs:List Value}(h:o+vs.length<=c.length):stL c o vs=Vv c o vs:=by
 unfold stL;split
 .rfl
 .have h1:c=c.take o++((c.drop o).take vs.length++c.drop (o+vs.length)):=by
   rw[<-List.drop_drop,xK,xK]
  have h2:(c.take o).length=o:=by simp;omega
  have:=IT vs (c.take o) ((c.drop o).take vs.length) (c.drop (o+vs.length)) (by simp;omega);rw[h2,<-h1] at this;exact this.symm
def Q6h (size:Nat) (a v:Value) (U:CH):Option (Value×CH):=match a,VK v with
  |.pointer (some ⟨i,o,none⟩),some vs=>match U.get i with
   |some (.cells c e wr tight)=>if wr=true/\vs.length=size/\o+size<=c.length/\vs.all cellOk=true then some (undef,U.upd i (.cells (stL c o vs) e wr tight)) else none
   |_=>none
  |_,_=>none
def Ot (esz:El) (bytes:Nat) (z:List Value) (l c:Value) (U:CH):Option (Value×CH) :=
  match l,c with
  |.int _ a,.int _ b=>if 0<=a/\a<=b/\b*bytes<=2 ^ 46/\b<=2 ^ 46 then NX U (.cells (TK b.toNat z) esz true true) (.slice (some ⟨U.n,0,none⟩) a.toNat b.toNat) else none
  |_,_=>none
def Z6g (esz:El) (bytes:Nat) (s x:Value) (U:CH):Option (Value×CH) :=
  match U.sl esz.sz x,x with
  |some xs,.slice _ m _=>if xs.all cellOk then AM esz bytes U s m xs else none
  |_,_=>none
def I7 (o:VOp) (ev:Operand->Value) (U:CH):Option (Value×CH) :=
 match o with
 |.move x=>some (ev x,U)
 |.pick c a b=>ppp (Z0t (ev c) (ev a) (ev b)) U
 |.arith op x y=>ppp (Q6g op (ev x) (ev y)) U
 |.div op x y=>ppp (Z5e op (ev x) (ev y)) U
 |.bits op x y=>ppp (Z24 op (ev x) (ev y)) U
 |.shift op x y=>ppp (Q70 op (ev x) (ev y)) U
 |.cmp op x y=>ppp (Z5h op (ev x) (ev y)) U
 |.str op x y=>ppp (Z68 op (ev x) (ev y)) U
 |.eqB n x y=>ppp (Z4w n (ev x) (ev y)) U
 |.un op x=>ppp (pUn op (ev x)) U
 |.convI k x=>ppp (Q6f k (ev x)) U
 |.convS x=>ppp (Q6d (ev x)) U
 |.build z parts=>ppp (Q73 z (parts.map λp=>(p.1,p.2.1,ev p.2.2))) U
 |.fieldAddr off a=>ppp (Cq off (ev a)) U
 |.field agg off size x=>ppp (Q69 agg off size (ev x)) U
 |.indexAddr size x i=>ppp (Ca size (ev x) (ev i)) U
 |.indexAddrArr len size x i=>ppp (HQ len size (ev x) (ev i)) U
 |.indexStr x i=>ppp (EN (ev x) (ev i)) U
 |.indexArr len agg size x i=>ppp (EO len agg size (ev x) (ev i)) U
 |.sliceStr x lo hi=>ppp (Ef ev (ev x) lo hi) U
 |.len x=>ppp (Z61 (ev x)) U
 |.lenStr x=>ppp (Q1v (ev x)) U
 |.max x y=>ppp (Z4x (ev x) (ev y)) U
 |.max4 x y z w=>ppp (Q9o (ev x) (ev y) (ev z) (ev w)) U
 |.min x y=>ppp (Z5b (ev x) (ev y)) U
 |.makeFunc fn first cap=>some (.func fn (first.map ev).toArray (cap.map ev).toArray,U)
 |.iface t x=>ppp (Q6c t (ev x)) U
 |.extract x i=>ppp (Oj i (ev x)) U
 |.nilCheck x=>ppp (Fj (ev x)) U
 |.alloc t z=>NX U (.cells z ⟨z.length,t⟩ true true) (.pointer (some ⟨U.n,0,none⟩))
 |.box t x=>Z6n t (ev x) U
 |.buildSlice esz z len parts=>FM esz z len (parts.map λp=>(p.1*esz.sz,esz.sz,ev p.2)) U
 |.load agg size a=>Z21 agg size (ev a) U
 |.store size a v=>Q6h size (ev a) (ev v) U
 |.slice size x lo hi mx=>Q41 (.slice size x lo hi mx) ev U
 |.makeSlice esz bytes z l c=>Ot esz bytes z (ev l) (ev c) U
 |.append esz bytes s x=>Z6g esz bytes (ev s) (ev x) U
 |.ext o=>Wq o ev U
 |_=>none
theorem Q2l {rs:Nat->Env×Loop}{h:CH}{U:Heap}(hs:CSim rs h U) {r:Option Value}{r':Option (Value×Heap)}{p:Value×CH}(hr:∀ v,r=some v->r'=some (v,U)) (hx:ppp r h=some p):ESnd rs h U r' p:=by
 unfold ppp at hx;split at hx
 .rename_i v;obtain rfl:=osj hx;exact .same hs (hr v rfl)
 .cases hx
theorem U9 {rs:Nat->Env×Loop}{h:CH}{U:Heap}(hs:CSim rs h U) {o:VOp}{ev:Operand->Value}{p:Value×CH}(hx:I7 o ev h=some p):ESnd rs h U (Q6 o ev U) p:=by
 cases o
 case move x=>exact .same hs (by obtain rfl:=osj hx;rfl) |> λ(h:ESnd rs _ U (Q6 (.move x) ev U) (ev x,_))=>by obtain rfl:=osj hx;exact h
 case makeFunc fn a b=>obtain rfl:=osj hx;exact .same hs rfl
 case alloc t z=>exact K7 (o:=.alloc t z) hs hx
 case box t x=>exact K7 (o:=.box t x) hs hx
 case buildSlice a b c d=>exact K7 (o:=.buildSlice a b c d) hs hx
 case load a b c=>exact K7 (o:=.load a b c) hs hx
 case store size a v =>
  simp only[I7] at hx;simp only[Q6];unfold Q6h at hx;generalize VK (ev v)=q0 at hx |-;generalize ev a=q1 at hx |-;split at hx
  .rename_i i o vs;split at hx
   .rename_i c e wr tight hg;simp only[hs.cells hg];split at hx
    .rename_i hc;simp only[z7 hc];rw[Z1m (by omega)] at hx;obtain rfl:=osj hx;exact .upd hs hg rfl rfl
    .cases hx
   .cases hx
  .cases hx
 case slice a b c d e=>exact K7 (o:=.slice a b c d e) hs hx
 case makeSlice a b c d e=>exact K7 (o:=.makeSlice a b c d e) hs hx
 case append a b c d=>exact K7 (o:=.append a b c d) hs hx
 case ext o=>exact TS hs hx
 case callF=>cases hx
 case callV=>cases hx
 case bad=>cases hx
 all_goals refine Q2l hs (λv hv=>?_) hx
 case arith op x y =>
  simp only[Q6];generalize ev x=a at hv |-;generalize ev y=b at hv |-;unfold Q6g at hv;split at hv
  .split at hv
   .rename_i hk;simp only[z7 hk];obtain rfl:=osj hv;cases op<;>simp only[PV,Oa]
   .cases hv
  .cases hv
 case convI k x =>
  simp only[Q6];generalize ev x=a at hv |-;unfold Q6f at hv;split at hv
  .obtain rfl:=osj hv;simp only[Oa]
  .cases hv
 case pick c a b =>
  simp only[Q6];generalize ev c=q0 at hv |-;generalize ev a=q1 at hv |-;generalize ev b=q2 at hv |-;unfold Z0t at hv
  (repeat' split at hv)<;>first|(cases hv;done)|(obtain rfl:=osj hv;first|rfl|(simp_all;done)|(simp_all;intros;omega))
 case div op x y =>
  simp only[Q6];generalize ev x=q0 at hv |-;generalize ev y=q1 at hv |-;unfold Z5e at hv
  (repeat' split at hv)<;>first|(cases hv;done)|(obtain rfl:=osj hv;first|rfl|(simp_all;done)|(simp_all;intros;omega))
 case bits op x y =>
  simp only[Q6];generalize ev x=q0 at hv |-;generalize ev y=q1 at hv |-;unfold Z24 at hv
  (repeat' split at hv)<;>first|(cases hv;done)|(obtain rfl:=osj hv;first|rfl|(simp_all;done)|(simp_all;intros;omega))
 case shift op x y =>
  simp only[Q6];generalize ev x=q0 at hv |-;generalize ev y=q1 at hv |-;unfold Q70 at hv
  (repeat' split at hv)<;>first|(cases hv;done)|(obtain rfl:=osj hv;first|rfl|(simp_all;done)|(simp_all;intros;omega))
 case cmp op x y =>
  simp only[Q6];generalize ev x=q0 at hv |-;generalize ev y=q1 at hv |-;unfold Z5h at hv
  (repeat' split at hv)<;>first|(cases hv;done)|(obtain rfl:=osj hv;first|rfl|(simp_all;done)|(simp_all;intros;omega))
 case eqB n x y =>
  simp only[Q6];generalize ev x=q0 at hv |-;generalize ev y=q1 at hv |-;unfold Z4w at hv
  (repeat' split at hv)<;>first|(cases hv;done)|(obtain rfl:=osj hv;first|rfl|(simp_all;done)|(simp_all;intros;omega))
 case un op x =>
  simp only[Q6];generalize ev x=q0 at hv |-;unfold pUn at hv
  (repeat' split at hv)<;>first|(cases hv;done)|(obtain rfl:=osj hv;first|rfl|(simp_all;done)|(simp_all;intros;omega))
 case convS x =>
  simp only[Q6];generalize ev x=q0 at hv |-;unfold Q6d at hv
  (repeat' split at hv)<;>first|(cases hv;done)|(obtain rfl:=osj hv;first|rfl|(simp_all;done)|(simp_all;intros;omega))
 case fieldAddr off a =>
  simp only[Q6];generalize ev a=q0 at hv |-;unfold Cq at hv
  (repeat' split at hv)<;>first|(cases hv;done)|(obtain rfl:=osj hv;first|rfl|(simp_all;done)|(simp_all;intros;omega))
 case indexAddr size x i =>
  simp only[Q6];generalize ev x=q0 at hv |-;generalize ev i=q1 at hv |-;unfold Ca at hv
  (repeat' split at hv)<;>first|(cases hv;done)|(obtain rfl:=osj hv;first|rfl|(simp_all;done)|(simp_all;intros;omega))
 case indexAddrArr len size x i =>
  simp only[Q6];generalize ev x=q0 at hv |-;generalize ev i=q1 at hv |-;unfold HQ at hv
  (repeat' split at hv)<;>first|(cases hv;done)|(obtain rfl:=osj hv;first|rfl|(simp_all;done)|(simp_all;intros;omega))
 case len x =>
  simp only[Q6];generalize ev x=q0 at hv |-;unfold Z61 at hv
  (repeat' split at hv)<;>first|(cases hv;done)|(obtain rfl:=osj hv;first|rfl|(simp_all;done)|(simp_all;intros;omega))
 case lenStr x =>
  simp only[Q6];generalize ev x=q0 at hv |-;unfold Q1v at hv
  (repeat' split at hv)<;>first|(cases hv;done)|(obtain rfl:=osj hv;first|rfl|(simp_all;done)|(simp_all;intros;omega))
 case max4 x y z w =>
  simp only[Q6];generalize ev x=q0 at hv |-;generalize ev y=q1 at hv |-;generalize ev z=q2 at hv |-;generalize ev w=q3 at hv |-;unfold Q9o at hv
  (repeat' split at hv)<;>first|(cases hv;done)|(rename_i pn;obtain⟨rfl,rfl,rfl⟩:=pn;obtain rfl:=osj hv;simp_all;done)
 case max x y =>
  simp only[Q6];generalize ev x=q0 at hv |-;generalize ev y=q1 at hv |-;unfold Z4x at hv
  (repeat' split at hv)<;>first|(cases hv;done)|(obtain rfl:=osj hv;first|rfl|(simp_all;done)|(simp_all;intros;omega))
 case min x y =>
  simp only[Q6];generalize ev x=q0 at hv |-;generalize ev y=q1 at hv |-;unfold Z5b at hv
  (repeat' split at hv)<;>first|(cases hv;done)|(obtain rfl:=osj hv;first|rfl|(simp_all;done)|(simp_all;intros;omega))
 case nilCheck x =>
  simp only[Q6];generalize ev x=q0 at hv |-;unfold Fj at hv
  (repeat' split at hv)<;>first|(cases hv;done)|(obtain rfl:=osj hv;first|rfl|(simp_all;done)|(simp_all;intros;omega))
 case str op x y =>
  simp only[Q6];generalize ev x=q0 at hv |-;generalize ev y=q1 at hv |-;unfold Z68 at hv
  (repeat' split at hv)<;>first|(cases hv;done)|(obtain rfl:=osj hv;first|rfl|(simp_all;done)|(simp_all;intros;omega))
 case build z parts =>
  simp only[Q6];unfold Q73 at hv;split at hv
  .rename_i cs hc;rw[hc];obtain rfl:=osj hv;rfl
  .cases hv
 case field agg off size x =>
  simp only[Q6];generalize ev x=q0 at hv |-;unfold Q69 at hv;split at hv
  .dsimp only;rw[hv]
  .cases hv
 case indexStr x i =>
  simp only[Q6];generalize ev x=q0 at hv |-;generalize ev i=q1 at hv |-;unfold EN at hv;split at hv
  .split at hv
   .rename_i hc;simp only[z7 hc];split at hv
    .rename_i b hb;simp only[hb];obtain rfl:=osj hv;rfl
    .cases hv
   .cases hv
  .cases hv
 case indexArr len agg size x i =>
  simp only[Q6];generalize ev x=q0 at hv |-;generalize ev i=q1 at hv |-;unfold EO at hv;split at hv
  .split at hv
   .rename_i hc;simp only[z7 hc,hv]
   .cases hv
  .cases hv
 case sliceStr x lo hi =>
  simp only[Q6];generalize ev x=q0 at hv |-;unfold Ef at hv;split at hv
  .rename_i s;split at hv
   .rename_i l h h1 h2;split at hv
    .rename_i hc;simp only[h1,h2,z7 hc];obtain rfl:=osj hv;rfl
    .cases hv
   .cases hv
  .cases hv
 case iface t x =>
  simp only[Q6];generalize ev x=q0 at hv |-;unfold Q6c at hv;split at hv
  .cases hv
  .rename_i aK;obtain rfl:=osj hv;split
   .exact absurd rfl (aK _)
   .rfl
 case extract x i =>
  simp only[Q6];generalize ev x=q0 at hv |-;unfold Oj at hv;split at hv
  .dsimp only;rw[hv]
  .cases hv
inductive Sh (a m d:Nat):Value->Value->Prop
 |plain (v:Value) (h:Zd v=true):Sh a m d v v
 |ptr (i o:Nat) (h:a<=i) (hi:i<m):Sh a m d (.pointer (some ⟨i,o,none⟩)) (.pointer (some ⟨d+(i-a),o,none⟩))
 |sl (i o len cap:Nat) (h:a<=i) (hi:i<m):Sh a m d (.slice (some ⟨i,o,none⟩) len cap) (.slice (some ⟨d+(i-a),o,none⟩) len cap)
 |agg (cs ds:Array Value) (hc:cs.size=ds.size) (h:∀ i (h1:i<cs.size) (h2:i<ds.size),Sh a m d cs[i] ds[i]):Sh a m d (.agg cs) (.agg ds)
 |tuple (cs ds:Array Value) (hc:cs.size=ds.size) (h:∀ i (h1:i<cs.size) (h2:i<ds.size),Sh a m d cs[i] ds[i]):Sh a m d (.tuple cs) (.tuple ds)
theorem Sh.rel {ρ ρ':Plc}{a m d n':Nat}(hn:d+(m-a)<=n') (hρ:∀ i,a<=i->i<m->ρ' (d+(i-a))=ρ i) {v v':Value}(h:Sh a m d v v') :
  ∀ {c:Value},VRel ρ m v c->VRel ρ' n' v' c:=by
 induction h with
 |plain v h =>intro c hv;have:c=v:=Ki h hv;subst this;exact WN h
 |ptr i o h hi =>intro c hv;obtain⟨a',rfl,_,br⟩:=hv.q1g;exact .ptr _ _ _ (by omega) λp hp=>br p (by rw[<-hρ i h hi];exact hp)
 |sl i o len cap h hi =>intro c hv;obtain⟨a',au,rfl,_,br⟩:=hv.q1b;exact .sl _ _ _ _ _ _ (by omega) λp hp=>br p (by rw[<-hρ i h hi];exact hp)
 |agg cs ds hc h ih =>
  intro c hv;cases hv with
  |agg _ ds' cQ h'=>exact .agg _ _ (hc.symm.trans cQ) λi k1 k2=>ih i (by omega) k1 (h' i (by omega) k2)
 |tuple cs ds hc h ih =>
  intro c hv;cases hv with
  |tuple _ ds' cQ h'=>exact .tuple _ _ (hc.symm.trans cQ) λi k1 k2=>ih i (by omega) k1 (h' i (by omega) k2)
theorem BRel.any {ρ ρ':Plc}{n n':Nat}{p:Pl}{w:World}{c:List Value}{esz:El}{wr tight:Bool}(hp:c.all Zd=true) (h:BRel ρ n p w (.cells c esz wr tight)) :
  BRel ρ' n' p w (.cells c esz wr tight):=by
 obtain⟨h1,h2,h3,h4,h5,h6⟩:=h;refine⟨h1,h2,h3,h4,λk v hk=>?_,h6⟩;obtain⟨u,hu,hv⟩:=h5 k v hk;have aS:Zd v=true:=zh.1 hp v (x4 hk);obtain rfl:u=v:=Ki aS hv;exact⟨u,hu,WN aS⟩
theorem BRel.renRo {ρ:Plc}{nf n':Nat}{π:Nat->Nat}{p:Pl}{w:World}{c c':List Value}{esz:El}{wr tight:Bool}(hr:LRen n' π c c') (h:BRel ρ nf p w (.cells c' esz wr tight)) :
  BRel (λi=>if i<n' then ρ (π i) else none) n' p w (.cells c esz false tight):=by
 obtain⟨h1,h2,h3,h4,h5,h6⟩:=h;refine⟨h1,h2,by rw[hr.1];exact h3,h4,λk v hk=>?_,λh=>by cases h⟩;have al:k<c'.length:=by rw[<-hr.1];exact(zm.1 hk).1
 obtain⟨u,hu,hv⟩:=h5 k _ (z8 al);exact⟨u,hu,(hr.2 k v _ hk (z8 al)).rel hv⟩
structure PB where
 c:List Value
 esz:El
 tight:Bool
def PB.blk (wr:Bool) (b:PB):Blk:=.cells b.c b.esz wr b.tight
def Yj (bl fr:List PB):Heap where
 get i:=if i<bl.length then (bl[i]?).map (PB.blk false) else (fr[i-bl.length]?).map (PB.blk true)
 n:=bl.length+fr.length
 wf i h:=by rw[z6 (by omega),zz (by omega)];rfl
def YK (U:Heap) (fr:List PB):Heap where
 get i:=if i<U.n then U.get i else (fr[i-U.n]?).map (PB.blk true)
 n:=U.n+fr.length
 wf i h:=by rw[z6 (by omega),zz (by omega)];rfl
theorem VCalled.localize {P:Program}{f:FuncId}{gV args:List Value}{bl fr:List PB}{vm v:Value}{U:Heap}{π:Nat->Nat}{K:Value->Heap->Prop}
  (hm:VCalled P f gV (Yj bl []) λu Z=>u=vm/\Z=Yj bl fr)
  (cP:∀ b∈fr,b.c.all Zd=true)
  (hπ:∀ i b,bl[i]?=some b->∃ wr c',U.get (π i)=some (.cells c' b.esz wr b.tight)/\LRen bl.length π b.c c')
  (av:LRen bl.length π gV args) (hv:Sh bl.length (bl.length+fr.length) U.n vm v) (hK:K v (YK U fr)):VCalled P f args U K:=by
 intro ρ w aw hH hL;have bP:∀ B,¬ Wr (λi=>if i<bl.length then ρ (π i) else none) (Yj bl []) B:=by
  rintro B ⟨i,p,b,_,hb,hw,_⟩;have hi:i<bl.length:=by have:=(Yj bl []).lt hb;simpa [Yj] using this
  simp only[Yj,z7 hi] at hb;cases eF:bl[i]? with
  |none=>rw[eF] at hb;cases hb
  |some b0=>rw[eF] at hb;obtain rfl:=osj hb;cases hw
 have tB:HRel (λi=>if i<bl.length then ρ (π i) else none) (Yj bl []) w:=by
  refine⟨⟨λi b hb=>?_,λi hi=>?_,λi p hp=>?_,λi j p q b _ hp _ hb hw _=>(bP _ ⟨i,p,b,hp,hb,hw,rfl⟩).elim⟩,λg cs hg=>⟨(hH.tab g cs hg).1,bP g⟩⟩
  .have hi:i<bl.length:=by have:=(Yj bl []).lt hb;simpa [Yj] using this
   simp only[Yj,z7 hi] at hb;cases eF:bl[i]? with
   |none=>rw[eF] at hb;cases hb
   |some b0 =>rw[eF] at hb;obtain rfl:=osj hb;obtain⟨wr,c',hg,pI⟩:=hπ i b0 eF;obtain⟨p,hp,hB⟩:=hH.live _ _ hg;exact⟨p,by simp[hi,hp],BRel.renRo pI hB⟩
  .by_cases h:i<bl.length
   .simp only[Yj,z7 h,z8 h] at hi;cases hi
   .simp[h]
  .skip
   split at hp
   .exact hH.lt _ p hp
   .cases hp
 have tC:LRel (λi=>if i<bl.length then ρ (π i) else none) (Yj bl []).n gV aw.toList:=by have:=av.rel hL;simpa [Yj] using this
 have lift:∀ c w',Got (λi=>if i<bl.length then ρ (π i) else none) (Yj bl []) w (λu Z=>u=vm/\Z=Yj bl fr) c w'->Got ρ U w K c w':=by
  rintro c w' ⟨_,ρm,_,⟨rfl,rfl⟩,dq,gW,hE⟩;have dx:∀ B,B<w.heap.size->w'.heap[B]?=w.heap[B]?:=λB hB=>hE.keep B hB (bP B);have fH:∀ i p,bl.length<=i->ρm i=some p->w.heap.size<=p.blk:=λi p hi hp=>by
   rcases zl p.blk w.heap.size with h|h
   .refine (bP _ (hE.wr p.blk h ?_)).elim;have gI:=gW.idlt hp;cases hb:(Yj bl fr).get i with
    |none=>rw[gW.dead i hb] at hp;cases hp
    |some b =>
     refine⟨i,p,b,hp,hb,?_,rfl⟩;simp only[Yj,z6 (wh.2 hi)] at hb;cases eF:fr[i-bl.length]? with
     |none=>rw[eF] at hb;cases hb
     |some b0=>rw[eF] at hb;obtain rfl:=osj hb;rfl
   .exact h
  have hρ:∀ i,U.n<=i->(if i<U.n then ρ i else if i<U.n+fr.length then ρm (bl.length+(i-U.n)) else none)=if i<U.n+fr.length then ρm (bl.length+(i-U.n)) else none:=λi hi=>z6 (by omega)
  have hX:Ext ρ U w (λi=>if i<U.n then ρ i else if i<U.n+fr.length then ρm (bl.length+(i-U.n)) else none) (YK U fr) w':=by
   refine⟨hE.os,hE.tape,hE.output,hE.size,λB hB _=>dx B hB,?_,by simp[YK],λi hi p hp=>?_⟩
   .rintro B hB ⟨i,p,b,hp,hb,hw,rfl⟩
    replace hp:(if i<U.n then ρ i else if i<U.n+fr.length then ρm (bl.length+(i-U.n)) else none)=some p:=hp
    by_cases hi:i<U.n
    .rw[z7 hi] at hp;simp only[YK,z7 hi] at hb;exact⟨i,p,b,hp,hb,hw,rfl⟩
    .rw[z6 hi] at hp;split at hp
     .have:=fH _ p (by omega) hp;omega
     .cases hp
   .skip
    rwa [z7 hi] at hp
  refine⟨v,λi=>if i<U.n then ρ i else if i<U.n+fr.length then ρm (bl.length+(i-U.n)) else none,YK U fr,hK,?_,hH.ext ⟨λi b hb=>?_,λi hi=>?_,λi p hp=>?_,λi j p q b cq hp hq hb hw hx=>?_⟩ hX,hX⟩
  .refine hv.rel (by simp[YK]) (λi h1 h2=>?_) dq;rw[z6 (by omega),z7 (by omega)];congr 1;omega
  .by_cases hi:i<U.n
   .simp only[YK,z7 hi] at hb;obtain⟨p,hp,hB⟩:=hH.live i b hb;exact⟨p,by simp[hi,hp],hB.mono (by simp[YK]) (λj hj q hq=>by simpa [hj] using hq) (dx _ (hH.lt i p hp))⟩
   .simp only[YK,z6 hi] at hb;cases eF:fr[i-U.n]? with
    |none=>rw[eF] at hb;cases hb
    |some b0 =>
     rw[eF] at hb;obtain rfl:=osj hb;have al:i-U.n<fr.length:=(zm.1 eF).1;obtain⟨p,hp,hB⟩:=gW.live (bl.length+(i-U.n)) (b0.blk true) (by
      show (if _ then _ else _)=_;rw[z6 (by omega),show bl.length+(i-U.n)-bl.length=i-U.n by omega,eF];rfl)
     exact⟨p,by rw[z6 hi,z7 (by omega)];exact hp,BRel.any (cP b0 (x4 eF)) hB⟩
  .by_cases h:i<U.n
   .simp only[YK,z7 h] at hi;rw[z7 h];exact hH.dead i hi
   .simp only[YK,z6 h] at hi;rw[z6 h];split
    .rename_i h2;have al:i-U.n<fr.length:=by omega
     rw[z8 al] at hi;cases hi
    .rfl
  .skip
   split at hp
   .exact zV (hH.lt i p hp) hE.size
   .split at hp
    .exact gW.lt _ p hp
    .cases hp
  .skip
   by_cases hi:i<U.n<;>by_cases hj:j<U.n
   .rw[z7 hi] at hp;rw[z7 hj] at hq;simp only[YK,z7 hi] at hb;exact hH.sep i j p q b cq hp hq hb hw hx
   .rw[z7 hi] at hp;rw[z6 hj] at hq;split at hq
    .have h1:=hH.lt i p hp;have h2:=fH _ q (by omega) hq;omega
    .cases hq
   .rw[z6 hi] at hp;rw[z7 hj] at hq;split at hp
    .have h1:=hH.lt j q hq;have h2:=fH _ p (by omega) hp;omega
    .cases hp
   .rw[z6 hi] at hp;rw[z6 hj] at hq;split at hp
    .split at hq
     .simp only[YK,z6 hi] at hb;refine gW.sep (bl.length+(i-U.n)) (bl.length+(j-U.n)) p q b (by omega) hp hq ?_ hw hx;show (if _ then _ else _)=_;rw[z6 (by omega),show bl.length+(i-U.n)-bl.length=i-U.n by omega];exact hb
     .cases hq
    .cases hp
 rcases hm _ w aw tB tC with⟨h1,h2⟩|⟨c,h1,h2⟩
 .refine .inl ⟨h1,?_⟩;exact h2.mono λe w' he=>by
   obtain⟨c,rfl,hc⟩:=he;exact⟨c,rfl,lift c w' hc⟩
 .refine .inr ⟨c,lift c w h1,λw' fQ=>h2 w' ⟨fQ.1,λi p hp=>?_,fQ.tab⟩⟩
  replace hp:(if i<bl.length then ρ (π i) else none)=some p:=hp
  split at hp
  .exact fQ.2 _ p hp
  .cases hp
def Q1y {α:Type}(p:α->α->Bool):List α->List α->Bool
 |[],[]=>true
 |a::l,b::m=>p a b&&Q1y p l m
 |_,_=>false
theorem M1 {α:Type}{p:α->α->Bool}(hp:∀ a b,p a b=true->a=b):∀ l m,Q1y p l m=true->l=m
 |[],[],_=>rfl
 |a::l,b::m,h=>by simp only[Q1y,z1] at h;rw[hp a b h.1,M1 hp l m h.2]
 |[],_::_,h=>by cases h
 |_::_,[],h=>by cases h
def Oe:Nat->Value->Value->Bool
 |0,_,_=>false
 |f+1,a,b=>match a,b with
  |.bool x,.bool y=>x==y
  |.int k x,.int k' y=>decide (k=k')&&decide (x=y)
  |.string s,.string t=>decide (s.data.toList=t.data.toList)
  |.pointer none,.pointer none=>true
  |.pointer (some ⟨i,o,none⟩),.pointer (some ⟨j,q,none⟩)=>Nat.beq i j&&Nat.beq o q
  |.slice none l c,.slice none l' c'=>Nat.beq l l'&&Nat.beq c c'
  |.slice (some ⟨i,o,none⟩) l c,.slice (some ⟨j,q,none⟩) l' c'=>Nat.beq i j&&(Nat.beq o q&&(Nat.beq l l'&&Nat.beq c c'))
  |.slice (some ⟨i,o,some 0⟩) l c,.slice (some ⟨j,q,some 0⟩) l' c'=>Nat.beq i j&&(Nat.beq o q&&(Nat.beq l l'&&Nat.beq c c'))
  |.map x,.map y=>decide (x=y)
  |.chan none,.chan none=>true
  |.nilFunc,.nilFunc=>true
  |.nilIface,.nilIface=>true
  |.func (.func g) fs cs,.func (.func g') rj cs'=>decide (g=g')&&(Q1y (Oe f) fs.toList rj.toList&&Q1y (Oe f) cs.toList cs'.toList)
  |.func (.yield i) ⟨[]⟩ ⟨[]⟩,.func (.yield j) ⟨[]⟩ ⟨[]⟩=>Nat.beq i j
  |.iface t v,.iface t' v'=>decide (t=t')&&Oe f v v'
  |.agg cs,.agg ds=>Q1y (Oe f) cs.toList ds.toList
  |.tuple cs,.tuple ds=>Q1y (Oe f) cs.toList ds.toList
  |_,_=>false
theorem RA {α:Type}{a b:Array α}(h:a.toList=b.toList):a=b:=by cases a;cases b;simp at h;rw[h]
theorem Bt:∀ (f:Nat) (a b:Value),Oe f a b=true->a=b:=by
 intro f;induction f with
 |zero=>intro a b h;cases h
 |succ f ih =>
  intro a b h;unfold Oe at h
  split at h<;>first
   |(cases h;done)
   |rfl
   |(simp at h;subst h;rfl)
   |(simp at h;obtain⟨rfl,rfl⟩:=h;rfl)
   |(simp at h;obtain⟨rfl,rfl,rfl,rfl⟩:=h;rfl)
   |skip
  .rename_i s t;have h:=x_ h;have:=RA h;cases s;cases t;simp at this;rw[this]
  .rename_i g fs cs g' rj cs';simp only[z1,zf] at h;obtain⟨rfl,h1,h2⟩:=h;rw[RA (M1 ih _ _ h1),RA (M1 ih _ _ h2)]
  .rename_i t v t' v';simp only[z1,zf] at h;obtain⟨rfl,h1⟩:=h;rw[ih _ _ h1]
  .rw[RA (M1 ih _ _ h)]
  .rw[RA (M1 ih _ _ h)]
def EB.beq:EB->EB->Bool
 |.cells c e w t,.cells c' e' w' t'=>decide (e=e')&&(w==w'&&(t==t'&&Q1y (Oe 20) c c'))
 |.map es cl w,.map bG tD w'=>Nat.beq cl tD&&(w==w'&&Q1y (λa b=>Oe 20 a.1 b.1&&(Oe 20 a.2.1 b.2.1&&Nat.beq a.2.2 b.2.2)) es bG)
 |.iter m s sn l,.iter m' s' tE l'=>Nat.beq m m'&&(Nat.beq s s'&&(Nat.beq l l'&&decide (sn=tE)))
 |.lp .ready none,.lp .ready none=>true
 |.lp .busy none,.lp .busy none=>true
 |.siter s p,.siter s' p'=>decide (s.data.toList=s'.data.toList)&&Nat.beq p p'
 |_,_=>false
theorem EB.beq_eq {a b:EB}(h:a.beq b=true):a=b:=by
 unfold EB.beq at h
 split at h<;>first
  |(cases h;done)
  |rfl
  |skip
 .simp only[z1,zf,zF] at h;obtain⟨rfl,rfl,rfl,h⟩:=h;rw[M1 (Bt 20) _ _ h]
 .simp only[z1,zF,Nat.beq_eq] at h;obtain⟨rfl,rfl,h⟩:=h;rw[M1 (λa b h=>by
   simp only[z1,Nat.beq_eq] at h;obtain⟨a1,a2,a3⟩:=a;obtain⟨b1,b2,b3⟩:=b;obtain⟨h1,h2,h3⟩:=h;simp at h1 h2 h3;rw[Bt _ _ _ h1,Bt _ _ _ h2,h3]) _ _ h]
 .simp only[z1,zf,Nat.beq_eq] at h;obtain⟨rfl,rfl,rfl,rfl⟩:=h;rfl
 .rename_i s _ s' _;simp only[z1,zf,Nat.beq_eq] at h;obtain⟨h1,rfl⟩:=h;have:=RA h1;cases s;cases s';simp at this;rw[this]
def CH.newOk (h h':CH):Bool:=Nat.ble h.n h'.n&&(h'.room&&(List.range' h.n (h'.n-h.n)).all λi=>match h'.get i with
 |some (.lp _ _)=>false
 |_=>true)
structure AnsOps (A:Type) where
 fail:A
 both:A->A->A
structure Good {A:Type}(R:AnsOps A) (G:A->Prop):Prop where
 fail:¬ G R.fail
 both:∀ a b,G (R.both a b)->G a/\G b
def UX:AnsOps Bool:=⟨false,and⟩
theorem IQ:Good UX (·=true):=⟨by simp[UX],λa b h=>by simpa [UX] using h⟩
def IX:AnsOps (Option (Value×CH)):=⟨none,λ_ _=>none⟩
theorem Q8j (x:Value×CH):Good IX (·=some x):=⟨by simp[IX],λa b h=>by simp[IX] at h⟩
def CH.same (h h':CH):Bool:=Nat.beq h.n h'.n&&(List.range h.n).all λi=>match h.get i,h'.get i with
 |none,none=>true
 |some a,some b=>a.beq b
 |_,_=>false
def EB.plainE:EB->Bool
 |.cells c _ _ _=>c.all Zd
 |.map es _ _=>es.all λkv=>Zd kv.2.1
 |_=>false
def CH.keepOk (h h':CH):Bool:=Nat.ble h.n h'.n&&(List.range h.n).all λi=>match h.get i,h'.get i with
 |_,none=>true
 |some a,some b=>b.plainE||a.beq b
 |_,_=>false
def gcI (n0:Nat) (refs:List Nat) (i:Nat):Nat×List Nat :=
 if i<n0 then (i,refs) else if refs.contains i=true then (n0+refs.idxOf i,refs) else (n0+refs.length,refs++[i])
def Q3x (g:List Nat->Value->Option (Value×List Nat)):List Value->List Nat->Option (List Value×List Nat)
 |[],refs=>some ([],refs)
 |v::vs,refs=>match g refs v with
  |none=>none
  |some p=>match Q3x g vs p.2 with
   |none=>none
   |some q=>some (p.1::q.1,q.2)
def gcX (n0:Nat):Nat->List Nat->Value->Option (Value×List Nat)
 |0,_,_=>none
 |f+1,refs,v=>match v with
  |.pointer (some ⟨i,o,none⟩)=>some (.pointer (some ⟨(gcI n0 refs i).1,o,none⟩),(gcI n0 refs i).2)
  |.slice (some ⟨i,o,none⟩) l c=>some (.slice (some ⟨(gcI n0 refs i).1,o,none⟩) l c,(gcI n0 refs i).2)
  |.slice (some ⟨i,o,some 0⟩) l c=>some (.slice (some ⟨(gcI n0 refs i).1,o,some 0⟩) l c,(gcI n0 refs i).2)
  |.map (some i)=>some (.map (some (gcI n0 refs i).1),(gcI n0 refs i).2)
  |.chan none=>some (.chan none,refs)
  |.iface t u=>match gcX n0 f refs u with
   |some p=>some (.iface t p.1,p.2)
   |none=>none
  |.agg cs=>match Q3x (gcX n0 f) cs.toList refs with
   |some p=>some (.agg p.1.toArray,p.2)
   |none=>none
  |.tuple cs=>match Q3x (gcX n0 f) cs.toList refs with
   |some p=>some (.tuple p.1.toArray,p.2)
   |none=>none
  |.func (.func g) fs cs=>match Q3x (gcX n0 f) fs.toList refs with
   |some p=>match Q3x (gcX n0 f) cs.toList p.2 with
    |some q=>some (.func (.func g) p.1.toArray q.1.toArray,q.2)
    |none=>none
   |none=>none
  |.func (.yield i) ⟨[]⟩ ⟨[]⟩=>if i<n0 then some (.func (.yield i) ⟨[]⟩ ⟨[]⟩,refs) else none
  |v=>if Zd v=true then some (v,refs) else none
def Z39 (n0:Nat):List XJ->List Nat->Option (List XJ×List Nat)
 |[],refs=>some ([],refs)
 |e::es,refs=>match gcX n0 8 refs e.2.1 with
  |none=>none
  |some p=>match Z39 n0 es p.2 with
   |none=>none
   |some q=>some ((e.1,p.1,e.2.2)::q.1,q.2)
def gcB (n0:Nat) (refs:List Nat):EB->Option (EB×List Nat)
 |.cells c e w t=>match Q3x (gcX n0 8) c refs with
  |some p=>some (.cells p.1 e w t,p.2)
  |none=>none
 |.map es cl w=>match Z39 n0 es refs with
  |some p=>some (.map p.1 cl w,p.2)
  |none=>none
 |_=>none
def Q4f (h':CH) (n0:Nat):Nat->Nat->List Nat->CH->Option (CH×List Nat)
 |0,_,_,_=>none
 |f+1,k,refs,acc=>if refs.length<=k then (if k=refs.length then some (acc,refs) else none) else match h'.get (refs.getD k 0) with
  |none=>none
  |some b=>match gcB n0 refs b with
   |none=>none
   |some p=>if acc.room=true then Q4f h' n0 f (k+1) p.2 (acc.push p.1) else none
def Q6i (h h':CH) (refs:List Nat):Option (CH×List Nat) :=
 if h.keepOk h'=true then Q4f h' h.n 100000 0 refs ⟨h'.t,h.n⟩ else none
def Ei (h h':CH) (v:Value):Option (Value×CH):=match gcX h.n 8 [] v with
 |none=>none
 |some p=>match Q6i h h' p.2 with
  |none=>none
  |some q=>some (p.1,q.1)
def joinOps:AnsOps (Option (Value×CH)):=⟨none,λa b=>match a with
 |some x=>match b with
  |some y=>if Oe 20 x.1 y.1=true/\x.2.same y.2=true then some x else none
  |none=>none
 |none=>none⟩
structure ET where
 t:GT Value
 m:Nat
def ET.get (e:ET) (i:Nat):Value:=Bool.rec (motive:=λ_=>Value) undef (e.t.get undef i) (Nat.blt i e.m)
def ET.set (e:ET) (i:Nat) (v:Value):ET:=Bool.rec (motive:=λ_=>ET) e ⟨e.t.set undef 32 i v,e.m⟩ (Nat.blt i e.m)
def ET.put (e:ET) (d:Option Nat) (v:Value):ET:=Option.rec (motive:=λ_=>ET) e (λd=>e.set d v) d
def etL (l:List Value):Nat->GT Value->GT Value:=List.rec (motive:=λ_=>Nat->GT Value->GT Value) (λ_ t=>t) (λv _ ih i t=>ih (i+1) (t.set undef 32 i v)) l
def ET.of (args:List Value) (nt:Nat):ET:=⟨etL args 0 .nil,args.length+(nt-args.length)⟩
def By (e:ET) (x:Operand):Value:=Operand.rec (motive:=λ_=>Value) (λt=>e.get t) (λv=>v) (λg=>.pointer (some ⟨g,0,some 0⟩)) (λf=>.func (.func f) #[] #[]) x
def Q6p (e:ET) (ps:List Nat):List Value->ET:=List.rec (motive:=λ_=>ET->List Value->ET) (λe _=>e) (λp _ ih e vs=>List.rec (motive:=λ_=>ET) e (λv vs _=>ih (e.set p v) vs) vs) ps e
def Q2g (e:ET) (g:Option (Nat×Bool)):Option Bool:=match g with
 |none=>some true
 |some (d,want)=>match e.get d with
  |.bool b=>some (b==want)
  |.tuple _=>some false
  |_=>none
def ET.list (e:ET):List Value:=(List.range e.m).map e.get
def Z1h (h h':CH) (e:ET):Option (Value×CH):=Ei h h' (.tuple e.list.toArray)
structure RCtx where
 ps:List Nat
 a:VCode
 b:VCode
 env:ET
abbrev Ys:=List (Nat×RCtx)
def Ys.find:Ys->Nat->Option RCtx
 |[],_=>none
 |(j,c)::l,i=>if Nat.beq i j=true then some c else Ys.find l i
structure Memo where
 args:List Value
 bl:List PB
 v:Value
 fr:List PB
def Z1c (g:Value->Option Value):List Value->Option (List Value)
 |[]=>some []
 |v::vs=>match g v with
  |none=>none
  |some u=>match Z1c g vs with
   |none=>none
   |some us=>some (u::us)
def shX (a m d:Nat):Nat->Value->Option Value
 |0,_=>none
 |f+1,v=>match v with
  |.pointer (some ⟨i,o,none⟩)=>if a<=i/\i<m then some (.pointer (some ⟨d+(i-a),o,none⟩)) else none
  |.slice (some ⟨i,o,none⟩) l c=>if a<=i/\i<m then some (.slice (some ⟨d+(i-a),o,none⟩) l c) else none
  |.agg cs=>match Z1c (shX a m d f) cs.toList with
   |some p=>some (.agg p.toArray)
   |none=>none
  |.tuple cs=>match Z1c (shX a m d f) cs.toList with
   |some p=>some (.tuple p.toArray)
   |none=>none
  |v=>if Zd v=true then some v else none
def Cu (h:CH):Nat->List Nat->List PB->Option (List Nat)
 |k,refs,[]=>if refs.length=k then some refs else none
 |k,refs,b::m=>if k<refs.length then
   match h.get (refs.getD k 0) with
   |some (.cells c e _ t)=>(match Q3x (gcX 0 8) c refs with
    |some p=>if (decide (e=b.esz)&&(t==b.tight&&Q1y (Oe 20) p.1 b.c))=true then Cu h (k+1) p.2 m else none
    |none=>none)
   |_=>none
  else none
def Dh:List PB->CH->CH
 |[],h=>h
 |b::l,h=>Dh l (h.push (.cells b.c b.esz true b.tight))
def IA (h:CH) (args:List Value) (refs:List Nat):List Memo->Option Memo
 |[]=>none
 |m::ms=>if (Q1y (Oe 20) args m.args&&(Cu h 0 refs m.bl).isSome)=true then some m else IA h args refs ms
def A4 (h:CH) (args:List Value) (ms:List Memo):Option (Value×CH) :=
 match Q3x (gcX 0 8) args [] with
 |none=>none
 |some p=>match IA h p.1 p.2 ms with
  |none=>none
  |some m=>match Nat.ble (h.n+m.fr.length) 1000000000 with
   |false=>none
   |true=>match shX m.bl.length (m.bl.length+m.fr.length) h.n 8 m.v with
    |some v=>some (v,Dh m.fr h)
    |none=>none
inductive FEnt where
 |code (vc:VCode) (rs:List VResult) (nt:Nat)
 |codeJ (vc:VCode) (rs:List VResult) (nt:Nat)
 |codeM (vc:VCode) (rs:List VResult) (nt:Nat) (ms:List Memo)
 |same
abbrev Tab:=FuncId->Option FEnt
abbrev Q9a:=∀ {A:Type},AnsOps A->Ys->VCode->Option Nat->ET->CH->(Exit->ET->CH->A)->A
def SM (env:ET) (U:CH):VResult->Option Value
 |.tmp t=>some (env.get t)
 |.cell a agg size=>match Z21 agg size (env.get a) U with|some p=>some p.1|none=>none
def Hn (env:ET) (U:CH):List VResult->Option (List Value)
 |[]=>some []
 |r::rs=>match SM env U r with
  |none=>none
  |some v=>match Hn env U rs with
   |none=>none
   |some vs=>some (v::vs)
def Dg (env:ET) (U:CH) (rs:List VResult):Option Value :=
 match rs with
 |[r]=>SM env U r
 |rs=>match Hn env U rs with|some vs=>some (.tuple vs.toArray)|none=>none
section
variable (T:Tab) (ev:Q9a) {A:Type}(R:AnsOps A) (ys:Ys)
def Q5x (fail:A) (rs:List VResult) (k:Value->CH->A):Exit->ET->CH->A:=λe env h'=>match e with
  |.normal=>(match Dg env h' rs with|some v=>k v h'|none=>fail)
  |.ret=>(match Dg env h' rs with|some v=>k v h'|none=>fail)
  |_=>fail
def I4 (f:FuncId) (args:List Value) (h:CH) (k:Value->CH->A):A :=
 match T f with
 |some (.code vc rs nt)=>match Nat.ble (ET.of args nt).m 1000000 with
  |true=>ev R ys vc none (ET.of args nt) h (Q5x R.fail rs k)
  |false=>R.fail
 |some (.codeJ vc rs nt)=>match Nat.ble (ET.of args nt).m 1000000 with
  |true=>(match ev joinOps ys vc none (ET.of args nt) h (Q5x none rs λv h'=>Ei h h' v) with
   |some x=>if x.2.room=true/\Nat.ble h.n x.2.n=true then k x.1 x.2 else R.fail
   |none=>R.fail)
  |false=>R.fail
 |some (.codeM vc rs nt ms)=>match A4 h args ms with
  |some p=>k p.1 p.2
  |none=>match Nat.ble (ET.of args nt).m 1000000 with
   |true=>ev R ys vc none (ET.of args nt) h (Q5x R.fail rs k)
   |false=>R.fail
 |some .same=>match args with
  |[v]=>k v h
  |_=>R.fail
 |none=>R.fail
def Q3p (i:Nat) (k:Value->CH->A):Exit->ET->CH->A:=λe _ h =>
 match h.get i with
 |some (.lp .busy none)=>match e with
  |.normal=>k (.bool true) (h.upd i (.lp .ready none))
  |.ret=>k (.bool false) (h.upd i (.lp .done (some .ret)))
  |.exit id=>k (.bool false) (h.upd i (.lp .done (some (.exit id))))
  |_=>R.fail
 |_=>R.fail
def Q6r (c:RCtx) (i:Nat) (k:Value->CH->A):Exit->ET->CH->A:=λe bh h1=>match e with
 |.normal=>(match h1.get i with
  |some (.lp .ready none)=>ev R ys c.b (some i) bh (h1.upd i (.lp .busy none)) (Q3p R i k)
  |_=>R.fail)
 |_=>R.fail
def Q1p (i:Nat) (args:List Value) (h:CH) (k:Value->CH->A):A :=
 match ys.find i with
 |some c=>match h.get i with
  |some (.lp .ready none)=>if args.length=c.ps.length then ev R ys c.a (some i) (Q6p c.env c.ps args) h (Q6r ev R ys c i k) else R.fail
  |_=>R.fail
 |none=>R.fail
def Bf (i m since clock:Nat) (seen:List Nat) (h:CH) (k:Value->CH->A):List XJ->Option A
 |[]=>none
 |e::es=>if seen.contains e.2.2=true then Bf i m since clock seen h k es
  else match Bf i m since clock seen h k es with
   |none=>some (k (.tuple #[.bool true,e.1,e.2.1]) (h.upd i (.iter m since (seen++[e.2.2]) clock)))
   |some a=>some (R.both (k (.tuple #[.bool true,e.1,e.2.1]) (h.upd i (.iter m since (seen++[e.2.2]) clock))) a)
def Q89 (x:Value) (h:CH) (k:Value->CH->A):A :=
 match x with
 |.pointer (some ⟨i,0,none⟩)=>match h.get i with
  |some (.iter m since seen last)=>match h.mapAt m with
   |some (es,clock,_) =>
    if (seen.isEmpty||es.isEmpty||es.any (λe=>decide (e.2.2<last)))=true/\es.all (λe=>UR e.1)=true then
     (match Bf R i m since clock seen h k es with
     |none=>if es.all (λe=>seen.contains e.2.2||decide (since<=e.2.2))=true then k (.tuple #[.bool false]) h else R.fail
     |some a=>if es.all (λe=>seen.contains e.2.2||decide (since<=e.2.2))=true then R.both (k (.tuple #[.bool false]) h) a else a)
    else R.fail
   |none=>R.fail
  |_=>R.fail
 |_=>R.fail
def Q6s (f:Value) (args:List Value) (h:CH) (k:Value->CH->A):A:=match f with
  |.func (.func g) first cap=>I4 T ev R ys g (first.toList++args++cap.toList) h k
  |.func (.yield i) _ _=>Q1p ev R ys i args h k
  |_=>R.fail
def Q27 (r:Option (Value×CH)) (k:Value->CH->A):A:=match r with
  |some p=>k p.1 p.2
  |none=>R.fail
def Q7z (o:VOp) (env:ET) (h:CH) (k:Value->CH->A):A :=
 match o with
 |.callF f args=>I4 T ev R ys f (args.map (By env)) h k
 |.callV f args=>Q6s T ev R ys (By env f) (args.map (By env)) h k
 |.ext (.nextMap x)=>Q89 R (By env x) h k
 |o=>Q27 R (I7 o (By env) h) k
def Q3g (l:List VOper):ET->CH->(ET->CH->A)->A :=
 List.rec (motive:=λ_=>ET->CH->(ET->CH->A)->A) (λenv h k=>k env h)
  (λo _ ih env h k=>match Q2g env o.guard with
   |none=>R.fail
   |some true=>Q7z T ev R ys o.op env h λv h'=>ih (env.put o.dst v) h' k
   |some false=>ih (env.put o.dst undef) h k) l
def IP (op:VOp) (ev:Operand->Value) (v:Value) (h:CH):Bool:=match I7 op ev h with
 |some q=>Oe 20 q.1 v
 |none=>false
def Q1s (r:Nat) (h:CH):List (Nat×(CH->Bool))->Bool
 |[]=>true
 |c::l=>(!(Nat.ble r c.1)||c.2 h)&&Q1s r h l
def B9:List DOper->ET->List CH->CH->List (Nat×(CH->Bool))->(ET->CH->A)->A
 |[],env,_,h,_,k=>k env h
 |o::rest,env,hs,h,pend,k=>match Q2g env o.guard with
  |none=>R.fail
  |some true=>if o.kind=2 then
    (match Q7z T ev IX ys o.op env h (λv h'=>some (v,h')) with
    |some p=>if h.newOk p.2=true/\Q1s hs.length p.2 pend=true then B9 rest (env.put o.dst p.1) (hs++[p.2]) p.2 pend k else R.fail
    |none=>R.fail)
   else if o.kind=1 then
    (match I7 o.op (By env) h with
    |some p=>if (hs.drop o.kmin).all (IP o.op (By env) p.1)=true then
      B9 rest (env.put o.dst p.1) hs h (if hs.length<=o.kmax then (o.kmax,IP o.op (By env) p.1)::pend else pend) k else R.fail
    |none=>R.fail)
   else match I7 o.op (By env) h with
    |some p=>B9 rest (env.put o.dst p.1) hs h pend k
    |none=>R.fail
  |some false=>if o.kind=2 then
    (if Q1s hs.length h pend=true then B9 rest (env.put o.dst undef) (hs++[h]) h pend k else R.fail)
   else B9 rest (env.put o.dst undef) hs h pend k
def Q7a (env:ET) (h:CH) (a:List DOper):Option (Value×CH):=B9 T ev joinOps ys a env [h] h [] λenv h'=>Z1h h h' env
def IW (env:ET) (h:CH):List (List DOper)->Option (Value×CH)
 |[]=>none
 |[a]=>Q7a T ev ys env h a
 |a::b::r=>joinOps.both (Q7a T ev ys env h a) (IW env h (b::r))
def SE:List DSeg->ET->CH->(ET->CH->A)->A
 |[],env,h,k=>k env h
 |.one o::rest,env,h,k=>Q3g T ev R ys [o] env h λenv h=>SE rest env h k
 |.alts [a]::rest,env,h,k=>B9 T ev R ys a env [h] h [] λenv h=>SE rest env h k
 |.alts l::rest,env,h,k=>match IW T ev ys env h l with
  |some x=>(match x.1 with
   |.tuple vs=>if x.2.room=true/\Nat.ble h.n x.2.n=true/\vs.toList.length=env.m then SE rest (ET.of vs.toList 0) x.2 k else R.fail
   |_=>R.fail)
  |none=>R.fail
def Q71 (h:CH):Option Nat->Bool
 |none=>true
 |some i=>match h.get i with
  |some (.lp _ _)=>true
  |_=>false
def Q8n:LoopState->Bool
 |.busy=>false
 |_=>true
def Z0a (env:ET) (i:Nat) (k:Exit->ET->CH->A):Value->CH->A:=λ_ h =>
 match h.get i with
 |some (.lp st pend)=>if Q8n st=true then (match pend with
   |none=>k .normal env (h.kill i)
   |some .ret=>k .ret env (h.kill i)
   |some (.exit id)=>k (.exit id) env (h.kill i)
   |some _=>R.fail) else R.fail
 |_=>R.fail
def Z1r (kb k:Exit->ET->CH->A):Exit->ET->CH->A:=λe env h=>match e with
 |.normal=>kb .normal env h
 |e=>k e env h
def Q3v (id:Nat) (k:Exit->ET->CH->A):Exit->ET->CH->A:=λe env h=>match e with
 |.exit gv=>if gv=id then k .normal env h else k (.exit gv) env h
 |e=>k e env h
def Q8p (v:Value) (a b:A):A:=match v with
 |.bool true=>a
 |.bool false=>b
 |_=>R.fail
def Q1w (g:Value) (ps:List Nat) (a b:VCode) (ro:Option Nat) (env:ET) (h:CH) (k:Exit->ET->CH->A):A:=match g with
 |.func (.func f) first cap=>match T f with
  |some (.code _ _ _)=>if Q71 h ro=true/\h.room=true then
    I4 T ev R ((h.n,⟨ps,a,b,env⟩)::ys) f (first.toList++[.func (.yield h.n) #[] #[]]++cap.toList) (h.push (.lp .ready none)) (Z0a R env h.n k)
   else R.fail
  |_=>R.fail
 |_=>R.fail
def Ed (c:VCode):Option Nat->ET->CH->(Exit->ET->CH->A)->A :=
 VCode.rec (motive:=λ_=>Option Nat->ET->CH->(Exit->ET->CH->A)->A)
  (λ_ env h k=>k .normal env h)
  (λops _ env h k=>Q3g T ev R ys ops env h (k .normal))
  (λaQ _ env h k=>SE T ev R ys aQ env h (k .normal))
  (λg ps a b _ _ ro env h k=>Q1w T ev R ys (By env g) ps a b ro env h k)
  (λ_ _ eN d_ ro env h k=>eN ro env h (Z1r (λ_ ai h'=>d_ ro ai h' k) k))
  (λc _ _ eN d_ ro env h k=>Q8p R (By env c) (eN ro env h k) (d_ ro env h k))
  (λid _ ih ro env h k=>ih ro env h (Q3v id k))
  (λb ih ro env h k=>ih ro env h (Z1r (λ_ ai h'=>ev R ys (.loop b) ro ai h' k) k))
  (λid _ env h k=>k (.exit id) env h)
  (λ_ env h k=>k .ret env h)
  (λ_ _ _ _=>R.fail) c
end
def Ll (T:Tab) (n:Nat):Q9a :=
 Nat.rec (motive:=λ_=>Q9a) (λR _ _ _ _ _ _=>R.fail) (λ_ ih {_} R ys c ro env h k=>Ed T ih R ys c ro env h k) n
end Go.V
namespace Go.V
open Go
structure FRel (e:ET) (env:Env):Prop where
 m:e.m=List.length env
 sm:e.m<=1000000
 get:∀ i,env.getD i undef=e.get i
theorem ET.q0w {e:ET}{i:Nat}(hi:i<e.m):e.get i=e.t.get undef i:=by unfold ET.get;rw[show Nat.blt i e.m=true from Nat.ble_eq_true_of_le hi]
theorem ET.q0r {e:ET}{i:Nat}(hi:e.m<=i):e.get i=undef:=by
 unfold ET.get;cases hb:Nat.blt i e.m with
 |false=>rfl
 |true=>have:=zx hb;omega
theorem ET.q2a {e:ET}{i:Nat}{v:Value}(hi:i<e.m):e.set i v=⟨e.t.set undef 32 i v,e.m⟩:=by unfold ET.set;rw[show Nat.blt i e.m=true from Nat.ble_eq_true_of_le hi]
theorem ET.q1z {e:ET}{i:Nat}{v:Value}(hi:e.m<=i):e.set i v=e:=by
 unfold ET.set;cases hb:Nat.blt i e.m with
 |false=>rfl
 |true=>have:=zx hb;omega
theorem ET.q2i (e:ET) (i:Nat) (v:Value):(e.set i v).m=e.m:=by
 rcases zl i e.m with h|h
 .rw[ET.q2a h]
 .rw[ET.q1z h]
theorem ET.q1d {e:ET}(hs:e.m<=1000000) (i:Nat) (v:Value) (j:Nat):(e.set i v).get j=if j=i/\i<e.m then v else e.get j:=by
 rcases zl i e.m with hi|hi
 .rw[ET.q2a hi];rcases zl j e.m with hj|hj
  .rw[ET.q0w (e:=⟨e.t.set undef 32 i v,e.m⟩) hj,ET.q0w hj];show (e.t.set undef 32 i v).get undef j=_;rw[GT.q1d undef 32 _ _ _ _ (by omega)];by_cases h:j=i
   .rw[z7 h,z7 ⟨h,hi⟩]
   .rw[z6 h,z6 (λe=>h e.1)]
  .rw[ET.q0r (e:=⟨e.t.set undef 32 i v,e.m⟩) hj,ET.q0r hj,z6 (by rintro⟨rfl,_⟩;omega)]
 .rw[ET.q1z hi,z6 (by rintro⟨_,h⟩;omega)]
theorem FRel.set {e:ET}{env:Env}(h:FRel e env) (i:Nat) (v:Value):FRel (e.set i v) (env.set i v):=by
 refine⟨by rw[ET.q2i,xL];exact h.m,by rw[ET.q2i];exact h.sm,λj=>?_⟩;rw[ET.q1d h.sm,<-h.get,ze,ze,xu,h.m];by_cases cq:i=j
 .subst cq;rcases zl i (List.length env) with hi|hi
  .rw[z7 rfl,z7 hi,z7 ⟨rfl,hi⟩];rfl
  .rw[z7 rfl,z6 (by omega),z6 (by rintro⟨_,h⟩;omega),zz hi]
 .rw[z6 cq,z6 (λe=>cq e.1.symm)]
theorem FRel.put {e:ET}{env:Env}(h:FRel e env) (d:Option Nat) (v:Value):FRel (e.put d v) (XV env d v):=by
 cases d with
 |none=>exact h
 |some d=>exact h.set d v
theorem TP {e:ET}{env:Env}(h:FRel e env):By e=Q4 env:=by
 funext x
 cases x with
 |tmp t=>exact(h.get t).symm
 |_=>rfl
theorem IZ {e:ET}{env:Env}(h:FRel e env) (g:Option (Nat×Bool)):Q2g e g=Xb env g:=by
 cases g with
 |none=>rfl
 |some p =>obtain⟨d,w⟩:=p;simp only[Q2g,Xb,h.get];cases e.get d<;>rfl
theorem Ch:∀ (ps:List Nat) (vs:List Value) {e:ET}{env:Env},FRel e env->FRel (Q6p e ps vs) (TX env ps vs)
 |[],vs,e,env,h=>by cases vs<;>exact h
 |p::ps,[],e,env,h=>h
 |p::ps,v::vs,e,env,h=>Ch ps vs (h.set p v)
theorem Q2o:∀ (l:List Value) (i:Nat) (t:GT Value) (j:Nat),i+l.length<=1000000->(etL l i t).get undef j=if i<=j/\j<i+l.length then l.getD (j-i) undef else t.get undef j
 |[],i,t,j,_=>by rw[z6 (by simp only[List.length_nil];omega)];rfl
 |v::l,i,t,j,h=>by
  have h:i+(l.length+1)<=1000000:=h;show (etL l (i+1) (t.set undef 32 i v)).get undef j=_;rw[Q2o l (i+1) _ j (by omega),GT.q1d undef 32 _ _ _ _ (by omega)];by_cases aL:j=i
  .subst aL;rw[z6 (by omega),z7 rfl,z7 (by simp)];simp
  .by_cases hc:i+1<=j/\j<i+1+l.length
   .rw[z7 hc,z7 (by simp;omega),show j-i=j-(i+1)+1 by omega];rfl
   .rw[z6 hc,z6 aL,z6 (by simp;omega)]
theorem ET.q1p {args:List Value}{nt:Nat}(h:(ET.of args nt).m<=1000000):FRel (ET.of args nt) (args++List.replicate (nt-args.length) undef):=by
 refine⟨by simp[ET.of],h,λi=>?_⟩;have hm:(ET.of args nt).m=args.length+(nt-args.length):=rfl;rw[hm] at h;rcases zl i (ET.of args nt).m with hi|hi
 .rw[ET.q0w hi];show _=(etL args 0 .nil).get undef i;rw[Q2o _ _ _ _ (by omega),ze,List.getElem?_append];rw[hm] at hi;by_cases hl:i<args.length
  .rw[z7 hl,z7 (by omega)];simp[ze]
  .rw[z6 hl,z6 (by omega),List.getElem?_replicate,z7 (by omega)];rfl
 .rw[ET.q0r hi];rw[hm] at hi;rw[ze,zz (by simp;omega)];rfl
def Q1n (P:Program) (f:FuncId) (m:Memo):Prop :=
 VCalled P f m.args (Yj m.bl []) (λu Z=>u=m.v/\Z=Yj m.bl m.fr)/\∀ b∈m.fr,b.c.all Zd=true
structure TabOk (P:Program) (T:Tab):Prop where
 code:∀ f vc rs nt,T f=some (.code vc rs nt)->Fun P f vc rs nt
 codeJ:∀ f vc rs nt,T f=some (.codeJ vc rs nt)->Fun P f vc rs nt
 codeM:∀ f vc rs nt ms,T f=some (.codeM vc rs nt ms)->Fun P f vc rs nt/\∀ m∈ms,Q1n P f m
 same:∀ f,T f=some .same->∀ (v:Value) (U:Heap) (K:Value->Heap->Prop),K v U->VCalled P f [v] U K
section
variable {P:Program}{T:Tab}{ev:Q9a}
abbrev MP:=Nat->Env×Loop
def YOk (P:Program) (ys:Ys) (rs:MP) (n:Nat):Prop :=
 ∀ i c,ys.find i=some c->i<n/\FRel c.env (rs i).1/\VD P i (IL (vwp (Q3 P) c.a (some i)) (vwp (Q3 P) c.b (some i)) c.ps (rs i).1 (rs i).2 i)
theorem YOk.mono {ys:Ys}{rs bn:MP}{n n':Nat}(h:YOk P ys rs n) (hn:n<=n') (hr:∀ i,i<n->bn i=rs i):YOk P ys bn n':=λi c hc=>by obtain⟨h1,h2,h3⟩:=h i c hc;rw[hr i h1];exact⟨by omega,h2,h3⟩
def Q95 {A:Type}(G:A->Prop) (rs:MP) (h:CH) (k:Value->CH->A) (K:Value->Heap->Prop):Prop :=
 ∀ v h' bn U',h.n<=h'.n->(∀ i,i<h.n->bn i=rs i)->CSim bn h' U'->G (k v h')->K v U'
def Q5n {A:Type}(G:A->Prop) (rs:MP) (h:CH) (m:Nat) (k:Exit->ET->CH->A) (Q:Exit->Env->Heap->Prop):Prop :=
 ∀ e df h' bn U' ai,h.n<=h'.n->(∀ i,i<h.n->bn i=rs i)->CSim bn h' U'->FRel df ai->List.length ai=m->G (k e df h')->Q e ai U'
def Q4h {A:Type}(G:A->Prop) (rs:MP) (h:CH) (m:Nat) (k:ET->CH->A) (K:Env->Heap->Prop):Prop :=
 ∀ df h' bn U' ai,h.n<=h'.n->(∀ i,i<h.n->bn i=rs i)->CSim bn h' U'->FRel df ai->List.length ai=m->G (k df h')->K ai U'
def Sd (P:Program) (ev:Q9a):Prop:=∀ {A:Type}(R:AnsOps A) (G:A->Prop),Good R G->∀ (ys:Ys) (c:VCode) (ro:Option Nat) (et:ET) (env:Env) (h:CH) (k:Exit->ET->CH->A) (rs:MP) (U:Heap) (Q:Exit->Env->Heap->Prop),
 YOk P ys rs h.n->CSim rs h U->FRel et env->G (ev R ys c ro et h k)->Q5n G rs h (List.length env) k Q->vwp (Q3 P) c ro Q env U
theorem HW {rs:MP}{h:CH}{U:Heap}(hs:CSim rs h U) {et:ET}{env:Env}(hE:FRel et env) {r:VResult}{v:Value}(hr:SM et h r=some v):Xs env U r=some v:=by
 cases r with
 |tmp t=>simp only[SM] at hr;simp only[Xs,hE.get];exact hr
 |cell a agg size =>
  simp only[SM] at hr;split at hr
  .rename_i p hp;rw[<-hE.get] at hp;obtain⟨_,U',h1,_⟩:=U9 (o:=.load agg size (.tmp a)) (ev:=Q4 env) hs hp;simp only[Xs,h1,xR];exact hr
  .cases hr
theorem B3 {rs:MP}{h:CH}{U:Heap}(hs:CSim rs h U) {et:ET}{env:Env}(hE:FRel et env):∀ (l:List VResult) (vs:List Value),Hn et h l=some vs->l.mapM (Xs env U)=some vs
 |[],vs,hr=>by simp[Hn] at hr;subst hr;rfl
 |r::l,vs,hr=>by
  simp only[Hn] at hr;split at hr
  .cases hr
  .rename_i v hv;split at hr
   .cases hr
   .rename_i ws hw;obtain rfl:=osj hr;rw[zX,HW hs hE hv];simp[B3 hs hE l ws hw]
theorem DB {rs:MP}{h:CH}{U:Heap}(hs:CSim rs h U) {et:ET}{env:Env}(hE:FRel et env) {l:List VResult}{v:Value}(hr:Dg et h l=some v):XR env U l=some v:=by
 unfold Dg at hr;split at hr
 .exact HW hs hE hr
 .rename_i aK;split at hr
  .rename_i vs b_;unfold XR;split
   .rename_i r;exact absurd rfl (aK r)
   .rw[B3 hs hE _ _ b_];exact hr
  .cases hr
variable {A:Type}{R:AnsOps A}{G:A->Prop}
theorem Da (hG:Good R G) {rl:List VResult}{k:Value->CH->A}{rs:MP}{h:CH}{U:Heap}{K:Value->Heap->Prop}{m:Nat}(hk:Q95 G rs h k K):Q5n G rs h m (Q5x R.fail rl k) (Z35 U rl K):=by
 intro e df h' bn U' ai hn hr a_ bM _ hg;have fin:G (match Dg df h' rl with|some v=>k v h'|none=>R.fail)->Z8 (XR ai U' rl) λv=>∃ v' aJ,DropTo U v U' v' aJ/\K v' aJ:=by
  intro hg;split at hg
  .rename_i v hv;rw[DB a_ bM hv];exact⟨v,U',.refl _ _ _,hk v h' bn U' hn hr a_ hg⟩
  .exact(hG.fail hg).elim
 cases e with
 |normal=>exact fin hg
 |ret=>exact fin hg
 |_=>exact(hG.fail hg).elim
def CH.toHeap (rs:MP) (h:CH):Heap:=⟨λi=>(h.get i).map (EB.to (rs i)),h.n,λi hi=>by rw[CH.q0r hi];rfl⟩
theorem Pp {rs:MP}{h:CH}(hr:h.n<=1000000001):CSim rs h (h.toHeap rs):=⟨rfl,hr,λ_=>rfl⟩
theorem CSim.eq {rs:MP}{h:CH}{U:Heap}(hs:CSim rs h U):U=h.toHeap rs:=Heap.ext' (λj=>hs.get j) hs.n.symm
def OG (x:Value×CH) (a:Option (Value×CH)):Prop:=∃ y,a=some y/\y.1=x.1/\y.2.n=x.2.n/\∀ i,y.2.get i=x.2.get i
theorem Q4r {h h':CH}(hs:h.same h'=true):h.n=h'.n/\∀ i,h.get i=h'.get i:=by
 simp only[CH.same,z1,zh,x8,Nat.beq_eq] at hs;refine⟨hs.1,λi=>?_⟩;rcases zl i h.n with hi|hi
 .have:=hs.2 i hi;split at this
  .rename_i h1 h2;rw[h1,h2]
  .rename_i a b h1 h2;rw[h1,h2,EB.beq_eq this]
  .cases this
 .rw[CH.q0r hi,CH.q0r (by rw[<-hs.1];exact hi)]
theorem As (x:Value×CH):Good joinOps (OG x):=by
 refine⟨λ⟨y,h,_⟩=>(by cases h),λa b h=>?_⟩;obtain⟨y,h1,h2,h3,h4⟩:=h;cases a with
 |none=>cases h1
 |some xa =>
  cases b with
  |none=>cases h1
  |some xb =>
   simp only[joinOps] at h1;split at h1
   .rename_i hc;obtain rfl:=osj h1;have e1:=Bt _ _ _ hc.1;obtain⟨e2,e3⟩:=Q4r hc.2;exact⟨⟨xa,rfl,h2,h3,h4⟩,xb,rfl,by rw[<-e1];exact h2,by rw[<-e2];exact h3,λi=>by rw[<-e3 i];exact h4 i⟩
   .cases h1
theorem Q22 {b:EB}{q:Env×Loop}(h:b.plainE=true):(b.to q).plain=true/\∀ q',b.to q'=b.to q:=by cases b<;>first|exact⟨h,λ_=>rfl⟩|cases h
def gcP (n0:Nat) (refs:List Nat) (i:Nat):Nat:=if i<n0 then i else refs.getD (i-n0) 0
def RExt (n0:Nat) (a b:List Nat):Prop:=(∃ t,b=a++t/\∀ x∈t,n0<=x)/\(a.Nodup->b.Nodup)
theorem RExt.refl (n0:Nat) (a:List Nat):RExt n0 a a:=⟨⟨[],by simp,λx hx=>by cases hx⟩,id⟩
theorem RExt.trans {n0:Nat}{a b c:List Nat}(h:RExt n0 a b) (k:RExt n0 b c):RExt n0 a c:=by obtain⟨⟨t,rfl,ht⟩,h2⟩:=h;obtain⟨⟨u,rfl,hu⟩,k2⟩:=k;exact⟨⟨t++u,by simp,λx hx=>(xw.1 hx).elim (ht x) (hu x)⟩,λh=>k2 (h2 h)⟩
def Sub (a b:List Nat):Prop:=∃ t,b=a++t
theorem Sub.trans {a b c:List Nat}(h:Sub a b) (k:Sub b c):Sub a c:=by obtain⟨t,rfl⟩:=h;obtain⟨u,rfl⟩:=k;exact⟨t++u,by simp⟩
theorem RExt.sub {n0:Nat}{a b:List Nat}(h:RExt n0 a b):Sub a b:=by obtain⟨⟨t,h,_⟩,_⟩:=h;exact⟨t,h⟩
theorem TL (n0:Nat) (refs:List Nat) (i:Nat):RExt n0 refs (gcI n0 refs i).2/\∀ (all:List Nat),Sub (gcI n0 refs i).2 all->(gcI n0 refs i).1<n0+all.length/\gcP n0 all (gcI n0 refs i).1=i:=by
 unfold gcI;split
 .rename_i hi;exact⟨RExt.refl _ _,λall _=>⟨by simp only;omega,by simp[gcP,hi]⟩⟩
 .rename_i hi;split
  .rename_i hc;have hm:i∈refs:=by simpa using hc
   have al:=List.idxOf_lt_length_of_mem hm;refine⟨RExt.refl _ _,λall ⟨t,ht⟩=>?_⟩;simp only at ht;have cG:refs.idxOf i<all.length:=by rw[ht,zH];omega
   refine⟨by simp only;omega,?_⟩;simp only[gcP,z6 (show ¬ n0+refs.idxOf i<n0 by omega),show n0+refs.idxOf i-n0=refs.idxOf i by omega,ze];rw[ht,xd al,z8 al];simp
  .rename_i hc;have hm:i∉refs:=by simpa using hc
   refine⟨⟨⟨[i],rfl,λx hx=>by simp at hx;omega⟩,λh1=>List.nodup_append.2 ⟨h1,by simp,λa ha b hb=>by simp at hb;subst hb;rintro rfl;exact hm ha⟩⟩,λall ⟨t,ht⟩=>?_⟩;simp only at ht;have al:refs.length<all.length:=by rw[ht];simp
   refine⟨by simp only;omega,?_⟩;simp only[gcP,z6 (show ¬ n0+refs.length<n0 by omega),show n0+refs.length-n0=refs.length by omega];simp[ht,ze]
def Z0h (n0:Nat) (refs fb:List Nat) (v' v:Value):Prop:=RExt n0 refs fb/\∀ (all:List Nat),Sub fb all->Ren (n0+all.length) (gcP n0 all) v' v
def Z40 (n0:Nat) (refs fb:List Nat) (v' v:List Value):Prop:=RExt n0 refs fb/\∀ (all:List Nat),Sub fb all->LRen (n0+all.length) (gcP n0 all) v' v
theorem Ko {n0:Nat}{g:List Nat->Value->Option (Value×List Nat)}(hg:∀ refs v p,g refs v=some p->Z0h n0 refs p.2 p.1 v):∀ (vs:List Value) (refs:List Nat) (p:List Value×List Nat),Q3x g vs refs=some p->Z40 n0 refs p.2 p.1 vs
 |[],refs,p,h=>by obtain rfl:=osj h;exact⟨RExt.refl _ _,λall _=>⟨rfl,λi a b ha=>by simp at ha⟩⟩
 |v::vs,refs,p,h=>by
  simp only[Q3x] at h;split at h
  .cases h
  .rename_i p1 h1;split at h
   .cases h
   .rename_i p2 h2;obtain rfl:=osj h;obtain⟨a1,a2⟩:=hg _ _ _ h1;obtain⟨b1,b2⟩:=Ko hg vs _ _ h2;refine⟨a1.trans b1,λall hall=>?_⟩;have c1:=a2 all (b1.sub.trans hall);have c2:=b2 all hall;refine⟨by simp[c2.1],λi a b ha hb=>?_⟩;cases i with
    |zero=>simp at ha hb;subst ha;subst hb;exact c1
    |succ i=>exact c2.2 i a b (by simpa using ha) (by simpa using hb)
theorem LRen.agg {n:Nat}{π:Nat->Nat}{cy:List Value}{cs:Array Value}(h:LRen n π cy cs.toList):Ren n π (.agg cy.toArray) (.agg cs) :=
 .agg _ _ (by simpa using h.1) λi h1 h2=>h.2 i _ _ (by simp) (by simp)
theorem LRen.tuple {n:Nat}{π:Nat->Nat}{cy:List Value}{cs:Array Value}(h:LRen n π cy cs.toList):Ren n π (.tuple cy.toArray) (.tuple cs) :=
 .tuple _ _ (by simpa using h.1) λi h1 h2=>h.2 i _ _ (by simp) (by simp)
theorem HB (n0:Nat):∀ (f:Nat) (refs:List Nat) (v:Value) (p:Value×List Nat),gcX n0 f refs v=some p->Z0h n0 refs p.2 p.1 v:=by
 intro f;induction f with
 |zero=>intro refs v p h;cases h
 |succ f ih =>
  intro refs v p h;unfold gcX at h;split at h
  .rename_i i o;obtain rfl:=osj h;obtain⟨h1,h2⟩:=TL n0 refs i;refine⟨h1,λall hall=>?_⟩;obtain⟨k1,k2⟩:=h2 all hall;have:=Ren.ptr (n:=n0+all.length) (π:=gcP n0 all) (gcI n0 refs i).1 o k1
   rwa [k2] at this
  .rename_i i o l c;obtain rfl:=osj h;obtain⟨h1,h2⟩:=TL n0 refs i;refine⟨h1,λall hall=>?_⟩;obtain⟨k1,k2⟩:=h2 all hall;have:=Ren.sl (n:=n0+all.length) (π:=gcP n0 all) (gcI n0 refs i).1 o l c k1
   rwa [k2] at this
  .rename_i i o l c;obtain rfl:=osj h;obtain⟨h1,h2⟩:=TL n0 refs i;refine⟨h1,λall hall=>?_⟩;obtain⟨k1,k2⟩:=h2 all hall;have:=Ren.slx (n:=n0+all.length) (π:=gcP n0 all) (gcI n0 refs i).1 o l c k1
   rwa [k2] at this
  .rename_i i;obtain rfl:=osj h;obtain⟨h1,h2⟩:=TL n0 refs i;refine⟨h1,λall hall=>?_⟩;obtain⟨k1,k2⟩:=h2 all hall;have:=Ren.map (n:=n0+all.length) (π:=gcP n0 all) (gcI n0 refs i).1 k1
   rwa [k2] at this
  .obtain rfl:=osj h;exact⟨RExt.refl _ _,λall _=>.poison _⟩
  .split at h
   .rename_i q hq;obtain rfl:=osj h;obtain⟨h1,h2⟩:=ih _ _ _ hq;exact⟨h1,λall hall=>.iface _ _ _ (h2 all hall)⟩
   .cases h
  .split at h
   .rename_i q hq;obtain rfl:=osj h;obtain⟨h1,h2⟩:=Ko ih _ _ _ hq;exact⟨h1,λall hall=>(h2 all hall).agg⟩
   .cases h
  .split at h
   .rename_i q hq;obtain rfl:=osj h;obtain⟨h1,h2⟩:=Ko ih _ _ _ hq;exact⟨h1,λall hall=>(h2 all hall).tuple⟩
   .cases h
  .split at h
   .rename_i q hq;split at h
    .rename_i q2 ky;obtain rfl:=osj h;obtain⟨h1,h2⟩:=Ko ih _ _ _ hq;obtain⟨h3,h4⟩:=Ko ih _ _ _ ky;refine⟨h1.trans h3,λall hall=>?_⟩;have c1:=h2 all (h3.sub.trans hall);have c2:=h4 all hall;exact .func _ _ _ _ _ (by simpa using c1.1) (by simpa using c2.1) (λi h1 h2=>c1.2 i _ _ (by simp) (by simp)) (λi h1 h2=>c2.2 i _ _ (by simp) (by simp))
    .cases h
   .cases h
  .rename_i i;split at h
   .rename_i hi;obtain rfl:=osj h;refine⟨RExt.refl _ _,λall _=>?_⟩;have:=Ren.yield (n:=n0+all.length) (π:=gcP n0 all) i (by omega)
    rwa [show gcP n0 all i=i by simp[gcP,hi]] at this
   .cases h
  .split at h
   .rename_i hp;obtain rfl:=osj h;exact⟨RExt.refl _ _,λall _=>.plain _ hp⟩
   .cases h
theorem E1 (n0:Nat):∀ (es:List XJ) (refs:List Nat) (p:List XJ×List Nat),Z39 n0 es refs=some p->RExt n0 refs p.2/\∀ (all:List Nat),Sub p.2 all ->
  p.1.length=es.length/\∀ (k:Nat) (a b:XJ),p.1[k]?=some a->es[k]?=some b->a.1=b.1/\a.2.2=b.2.2/\Ren (n0+all.length) (gcP n0 all) a.2.1 b.2.1
 |[],refs,p,h=>by obtain rfl:=osj h;exact⟨RExt.refl _ _,λall _=>⟨rfl,λi a b ha=>by simp at ha⟩⟩
 |e::es,refs,p,h=>by
  simp only[Z39] at h;split at h
  .cases h
  .rename_i p1 h1;split at h
   .cases h
   .rename_i p2 h2;obtain rfl:=osj h;obtain⟨a1,a2⟩:=HB n0 _ _ _ _ h1;obtain⟨b1,b2⟩:=E1 n0 es _ _ h2;refine⟨a1.trans b1,λall hall=>?_⟩;have c1:=a2 all (b1.sub.trans hall);obtain⟨c2,c3⟩:=b2 all hall;refine⟨by simp[c2],λi a b ha hb=>?_⟩;cases i with
    |zero=>simp at ha hb;subst ha;subst hb;exact⟨rfl,rfl,c1⟩
    |succ i=>exact c3 i a b (by simpa using ha) (by simpa using hb)
theorem Q5f {n0:Nat}{refs:List Nat}{b:EB}{p:EB×List Nat}(h:gcB n0 refs b=some p):RExt n0 refs p.2/\∀ (all:List Nat),Sub p.2 all->∀ q q',BRen (n0+all.length) (gcP n0 all) (p.1.to q') (b.to q):=by
 unfold gcB at h;split at h
 .split at h
  .rename_i q hq;obtain rfl:=osj h;obtain⟨h1,h2⟩:=Ko (HB n0 8) _ _ _ hq;exact⟨h1,λall hall _ _=>⟨rfl,rfl,rfl,h2 all hall⟩⟩
  .cases h
 .split at h
  .rename_i q hq;obtain rfl:=osj h;obtain⟨h1,h2⟩:=E1 n0 _ _ _ hq;exact⟨h1,λall hall _ _=>⟨rfl,rfl,(h2 all hall).1,(h2 all hall).2⟩⟩
  .cases h
 .cases h
theorem Q09 {h':CH}{n0:Nat}:∀ (f k:Nat) (refs:List Nat) (acc:CH) (r:CH×List Nat),Q4f h' n0 f k refs acc=some r->acc.n=n0+k->acc.n<=1000000001 ->
  RExt n0 refs r.2/\r.1.n=n0+r.2.length/\r.1.n<=1000000001/\(∀ i,i<acc.n->r.1.get i=acc.get i) /\
  ∀ j,k<=j->j<r.2.length->∃ b b',h'.get (r.2.getD j 0)=some b/\r.1.get (n0+j)=some b'/\∀ q q',BRen (n0+r.2.length) (gcP n0 r.2) (b'.to q') (b.to q):=by
 intro f;induction f with
 |zero=>intro k refs acc r h;cases h
 |succ f ih =>
  intro k refs acc r h hn hs;simp only[Q4f] at h;split at h
  .split at h
   .rename_i hk;obtain rfl:=osj h;exact⟨RExt.refl _ _,by rw[hn,hk],hs,λ_ _=>rfl,λj h1 h2=>by simp only at h2;omega⟩
   .cases h
  .rename_i hk;split at h
   .cases h
   .rename_i b hb;split at h
    .cases h
    .rename_i p hp;split at h
     .rename_i aT;have aT:acc.n<=1000000000:=zx aT;obtain⟨a1,a2⟩:=Q5f hp;have ki:(acc.push p.1).n=acc.n+1:=rfl;obtain⟨b1,b2,b3,b4,b5⟩:=ih (k+1) p.2 (acc.push p.1) r h (by rw[ki];omega) (by rw[ki];omega);refine⟨a1.trans b1,b2,b3,λi hi=>?_,λj lu f_=>?_⟩
      .rw[b4 i (by rw[ki];omega),CH.q1q hs,z6 (by omega)]
      .by_cases dQ:j=k
       .subst dQ;have cD:j<refs.length:=by omega
        obtain⟨t,ht⟩:=(a1.trans b1).sub;have hg:r.2.getD j 0=refs.getD j 0:=by rw[ht,ze,ze,xd cD]
        refine⟨b,p.1,by rw[hg];exact hb,?_,a2 r.2 b1.sub⟩;rw[<-hn,b4 _ (by rw[ki];omega),CH.q1q hs,z7 rfl]
       .exact b5 j (by omega) f_
     .cases h
theorem PH {rs bn:MP}{h h':CH}{U U':Heap}(hs:CSim rs h U) (a_:CSim bn h' U') (hr:∀ i,i<h.n->bn i=rs i) {v:Value}{y x:Value×CH}(hg:Ei h h' v=some y) (h1:y.1=x.1) (h2:y.2.n=x.2.n) (h3:∀ i,y.2.get i=x.2.get i) :
  DropTo U v U' x.1 (x.2.toHeap rs):=by
 unfold Ei at hg;split at hg
 .cases hg
 .rename_i p hp;split at hg
  .cases hg
  .rename_i q hq;obtain rfl:=osj hg;simp only at h1 h2 h3;obtain⟨f1,f2⟩:=HB h.n 8 [] v p hp;unfold Q6i at hq;split at hq
   .rename_i dx;simp only[CH.keepOk,z1,zh,x8] at dx;obtain⟨hle,dx⟩:=dx;have hle:h.n<=h'.n:=zx hle;have ox:=hs.sm;obtain⟨g0,g1,g2,g3,g4⟩:=Q09 _ 0 p.2 ⟨h'.t,h.n⟩ q hq rfl ox;have hall:=f1.trans g0;have iP:q.2.Nodup:=hall.2 List.nodup_nil;have bI:∀ x∈q.2,h.n<=x:=by
     obtain⟨⟨t,ht,hx⟩,_⟩:=hall;simpa [ht] using hx
    have hold:∀ i,i<h.n->q.1.get i=h'.get i:=λi hi=>by rw[g3 i hi,CH.q0w (h:=⟨h'.t,h.n⟩) hi,CH.q0w (by omega)]
    have iR:(x.2.toHeap rs).n=h.n+q.2.length:=by show x.2.n=_;rw[<-h2,g1]
    have rk:∀ i,(x.2.toHeap rs).get i=(q.1.get i).map (EB.to (rs i)):=λi=>by show (x.2.get i).map _=_;rw[<-h3 i]
    rw[<-h1];refine DropTo.rename (gcP h.n q.2) (by rw[iR,<-hs.n];omega) (λi hi=>?_) (λi fT gF=>?_) (λi j fT gF lu f_ he=>?_) (by rw[iR];exact f2 q.2 g0.sub)
    .rw[<-hs.n] at hi;refine⟨by simp[gcP,hi],by rw[rk,hold i hi,a_.get,hr i hi],?_⟩;have:=dx i hi;rw[a_.get,hs.get];split at this
     .rename_i e2;rw[e2];exact .inr (.inr rfl)
     .rename_i a b e1 e2;rw[e1,e2];rw[zo] at this;rcases this with hb|hb
      .exact .inr (.inl ⟨_,rfl,(Q22 hb).1⟩)
      .rw[EB.beq_eq hb,hr i hi];exact .inl rfl
     .cases this
    .rw[<-hs.n] at fT;rw[iR] at gF;obtain⟨b,b',e1,e2,e3⟩:=g4 (i-h.n) (by omega) (by omega);have jx:gcP h.n q.2 i=q.2.getD (i-h.n) 0:=by simp[gcP,wh.2 fT]
     have aP:q.2.getD (i-h.n) 0∈q.2:=by
      have:i-h.n<q.2.length:=by omega
      simp[ze,this]
     rw[show h.n+(i-h.n)=i by omega] at e2;rw[jx];refine⟨by rw[<-hs.n];exact bI _ aP,b'.to (rs i),b.to (bn (q.2.getD (i-h.n) 0)),by rw[rk,e2];rfl,by rw[a_.get,e1];rfl,by rw[iR];exact e3 _ _⟩
    .rw[<-hs.n] at fT lu;rw[iR] at gF f_;simp only[gcP,wh.2 fT,wh.2 lu,if_false] at he;have iV:i-h.n<q.2.length:=by omega
     have fG:j-h.n<q.2.length:=by omega
     simp only[ze,z8 iV,z8 fG,Option.getD_some] at he;have:=(List.getElem_inj (h₀:=iV) (h₁:=fG) iP).1 he;omega
   .cases hq
theorem Sx {a m d:Nat}{g:Value->Option Value}(hg:∀ v u,g v=some u->Sh a m d v u):∀ (vs us:List Value),Z1c g vs=some us->vs.length=us.length/\∀ (i:Nat) (v u:Value),vs[i]?=some v->us[i]?=some u->Sh a m d v u
 |[],us,h=>by obtain rfl:=osj h;exact⟨rfl,λi v u h=>by simp at h⟩
 |v::vs,us,h=>by
  simp only[Z1c] at h;split at h
  .cases h
  .rename_i u hu;split at h
   .cases h
   .rename_i lx dE;obtain rfl:=osj h;obtain⟨h1,h2⟩:=Sx hg vs lx dE;refine⟨by simp[h1],λi v' u' jt dg=>?_⟩;cases i with
    |zero=>simp at jt dg;subst jt;subst dg;exact hg _ _ hu
    |succ i=>exact h2 i v' u' (by simpa using jt) (by simpa using dg)
theorem Q4b (a m d:Nat):∀ (f:Nat) (v u:Value),shX a m d f v=some u->Sh a m d v u:=by
 intro f;induction f with
 |zero=>intro v u h;cases h
 |succ f ih =>
  intro v u h;unfold shX at h;split at h
  .split at h
   .rename_i hc;obtain rfl:=osj h;exact .ptr _ _ hc.1 hc.2
   .cases h
  .split at h
   .rename_i hc;obtain rfl:=osj h;exact .sl _ _ _ _ hc.1 hc.2
   .cases h
  .split at h
   .rename_i p hp;obtain rfl:=osj h;obtain⟨h1,h2⟩:=Sx ih _ _ hp;exact .agg _ _ (by simpa using h1) λi k1 k2=>h2 i _ _ (by simp) (by simp)
   .cases h
  .split at h
   .rename_i p hp;obtain rfl:=osj h;obtain⟨h1,h2⟩:=Sx ih _ _ hp;exact .tuple _ _ (by simpa using h1) λi k1 k2=>h2 i _ _ (by simp) (by simp)
   .cases h
  .split at h
   .rename_i hc;obtain rfl:=osj h;exact .plain _ hc
   .cases h
theorem SG {rs:MP}{h:CH}{U:Heap}(hs:CSim rs h U):∀ (m:List PB) (k:Nat) (refs r:List Nat),Cu h k refs m=some r ->
  Sub refs r/\r.length=k+m.length/\∀ i b,m[i]?=some b->∃ wr c',U.get (r.getD (k+i) 0)=some (.cells c' b.esz wr b.tight)/\LRen r.length (gcP 0 r) b.c c'
 |[],k,refs,r,hb=>by
  simp only[Cu] at hb;split at hb
  .rename_i hl;obtain rfl:=osj hb;exact⟨⟨[],by simp⟩,by simp[hl],λi b h=>by simp at h⟩
  .cases hb
 |b::m,k,refs,r,hb=>by
  simp only[Cu] at hb;split at hb
  .rename_i hk;split at hb
   .rename_i c e w t hg;split at hb
    .rename_i p hp;split at hb
     .rename_i hc;simp only[z1,zf,zF] at hc;obtain⟨rfl,rfl,h3⟩:=hc;have h3:=M1 (Bt 20) _ _ h3;obtain⟨s1,s2⟩:=Ko (HB 0 8) _ _ _ hp;obtain⟨i1,i2,i3⟩:=SG hs m (k+1) p.2 r hb;have iQ:=s1.sub.trans i1;refine⟨iQ,by rw[i2,x9];omega,λi b' b6=>?_⟩;cases i with
      |zero =>
       have b6:b=b':=by simpa using b6
       subst b6;obtain⟨u,hu⟩:=iQ;have dy:r.getD (k+0) 0=refs.getD k 0:=by rw[hu,zM,ze,ze,xd hk]
       have hl:=s2 r i1;rw[h3,zS] at hl;exact⟨w,c,by rw[dy];exact hs.cells hg,hl⟩
      |succ i =>
       have:=i3 i b' (by simpa using b6)
       rwa [show k+1+i=k+(i+1) by omega] at this
     .cases hb
    .cases hb
   .cases hb
  .cases hb
theorem PW {rs:MP}:∀ (fr:List PB) {h:CH}{U:Heap},CSim rs h U->h.n+fr.length<=1000000000->CSim rs (Dh fr h) (YK U fr)/\(Dh fr h).n=h.n+fr.length
 |[],h,U,hs,_=>by
  have:YK U []=U:=Heap.ext' (λj=>by
   show (if j<U.n then U.get j else _)=_;split
   .rfl
   .rename_i hj;rw[U.wf j (by omega)];simp) rfl
  rw[this];exact⟨hs,rfl⟩
 |b::l,h,U,hs,hr=>by
  have hr:h.n+(l.length+1)<=1000000000:=hr;have hn:=hs.n;have h1:CSim rs (h.push (.cells b.c b.esz true b.tight)) (U.push (b.blk true)):=hs.push (Nat.ble_eq_true_of_le (by omega)) rfl;obtain⟨h2,h3⟩:=PW l h1 (by show h.n+1+_<=_;omega);refine⟨?_,by rw[show Dh (b::l) h=Dh l (h.push (.cells b.c b.esz true b.tight)) from rfl,h3];show h.n+1+l.length=h.n+(l.length+1);omega⟩;have:YK U (b::l)=YK (U.push (b.blk true)) l:=Heap.ext' (λj=>by
   show (if j<U.n then U.get j else _)=(if j<U.n+1 then (U.push (b.blk true)).get j else _);rcases Nat.lt_trichotomy j U.n with hj|hj|hj
   .rw[z7 hj,z7 (by omega),Heap.q0j _ _ hj]
   .subst hj;rw[z6 (by omega),z7 (by omega),Heap.q0a];simp
   .rw[z6 (by omega),z6 (by omega)];rw[show j-U.n=(j-(U.push (b.blk true)).n)+1 by simp;omega];rfl) (by simp[YK];omega)
  rw[this];exact h2
theorem Sn {h:CH}{args:List Value}{refs:List Nat}:∀ (ms:List Memo) (m:Memo),IA h args refs ms=some m->m∈ms/\args=m.args/\(Cu h 0 refs m.bl).isSome=true
 |[],m,h=>by cases h
 |m0::ms,m,h=>by
  simp only[IA] at h;split at h
  .rename_i hc;obtain rfl:=osj h;rw[z1] at hc;exact⟨xj,M1 (Bt 20) _ _ hc.1,hc.2⟩
  .obtain⟨h1,h2⟩:=Sn ms m h;exact⟨xF _ h1,h2⟩
theorem LP {f:FuncId}{args:List Value}{ms:List Memo}(hm:∀ m∈ms,Q1n P f m) {rs:MP}{h:CH}{U:Heap}(hs:CSim rs h U) {p:Value×CH}(hp:A4 h args ms=some p)
  {K:Value->Heap->Prop}(hK:∀ U',h.n<=p.2.n->CSim rs p.2 U'->K p.1 U'):VCalled P f args U K:=by
 unfold A4 at hp;split at hp
 .cases hp
 .rename_i q hq;split at hp
  .cases hp
  .rename_i m oU;obtain⟨h1,h2,h3⟩:=Sn ms m oU;obtain⟨k1,k3⟩:=hm m h1;obtain⟨r,je⟩:=Option.isSome_iff_exists.1 h3;obtain⟨l0,l1,l2⟩:=SG hs _ _ _ _ je;rw[zS] at l1;split at hp
   .cases hp
   .rename_i hr;have hr:=zx hr;split at hp
    .rename_i v hv;obtain rfl:=osj hp;obtain⟨s1,s2⟩:=PW m.fr hs hr;have hx:=(Ko (HB 0 8) _ _ _ hq).2 r l0;rw[h2,l1] at hx;refine VCalled.localize (π:=gcP 0 r) k1 k3 (λi b hb=>?_) (by simpa using hx) ?_ (hK _ (by rw[s2];omega) s1)
     .obtain⟨wr,c',g1,g2⟩:=l2 i b hb;rw[l1] at g2;exact⟨wr,c',by simpa [gcP] using g1,g2⟩
     .have:=Q4b _ _ _ _ _ _ hv
      rwa [hs.n] at this
    .cases hp
theorem So (hm:P.follows .mixedOrders=true) (hT:TabOk P T) (cu:Sd P ev) (hG:Good R G) {ys:Ys}{f:FuncId}{args:List Value}{h:CH}{k:Value->CH->A}{rs:MP}{U:Heap}{K:Value->Heap->Prop}
  (hY:YOk P ys rs h.n) (hs:CSim rs h U) (he:G (I4 T ev R ys f args h k)) (hk:Q95 G rs h k K):VCalled P f args U K:=by
 unfold I4 at he;split at he
 .rename_i vc rl nt hf;have hF:=hT.code f vc rl nt hf;split at he
  .rename_i hb;exact hF.calls hm RR (cu R G hG ys vc none _ _ h _ rs U _ hY hs (ET.q1p (zx hb)) he (Da hG hk))
  .exact(hG.fail he).elim
 .rename_i vc rl nt hf;have hF:=hT.codeJ f vc rl nt hf;split at he
  .rename_i hb;split at he
   .rename_i x hx;split at he
    .rename_i hc;have aT:x.2.n<=1000000000:=zx hc.1;have hK:=hk x.1 x.2 rs _ (zx hc.2) (λ_ _=>rfl) (Pp (by omega)) he;refine hF.calls hm RR (cu joinOps (OG x) (As x) ys vc none _ _ h _ rs U _ hY hs (ET.q1p (zx hb)) (show OG x _ from ⟨x,hx,rfl,rfl,λ_=>rfl⟩) ?_);intro e df h' bn U' ai hn hr a_ bM _ hg;have fin:OG x (match Dg df h' rl with|some v=>Ei h h' v|none=>none)->Z8 (XR ai U' rl) λv=>∃ v' aJ,DropTo U v U' v' aJ/\K v' aJ:=by
      rintro⟨y,hy,h1,h2,h3⟩;split at hy
      .rename_i v hv;rw[DB a_ bM hv];exact⟨_,_,PH hs a_ hr hy h1 h2 h3,hK⟩
      .cases hy
     cases e with
     |normal=>exact fin hg
     |ret=>exact fin hg
     |_=>obtain⟨y,hy,_⟩:=hg;cases hy
    .exact(hG.fail he).elim
   .exact(hG.fail he).elim
  .exact(hG.fail he).elim
 .rename_i vc rl nt ms hf;obtain⟨hF,hM⟩:=hT.codeM f vc rl nt ms hf;split at he
  .rename_i p hp;exact LP hM hs hp λU' hn a_=>hk _ _ rs U' hn (λ_ _=>rfl) a_ he
  .split at he
   .rename_i hb;exact hF.calls hm RR (cu R G hG ys vc none _ _ h _ rs U _ hY hs (ET.q1p (zx hb)) he (Da hG hk))
   .exact(hG.fail he).elim
 .rename_i hf;split at he
  .rename_i v;exact hT.same f hf v U K (hk v h rs U (zd _) (λ_ _=>rfl) hs he)
  .exact(hG.fail he).elim
 .exact(hG.fail he).elim
theorem AJ (hm:P.follows .mixedOrders=true) (cu:Sd P ev) (hG:Good R G) {ys:Ys}{f:FuncId}{vc:VCode}{rl:List VResult}{nt:Nat}(hf:T f=some (.code vc rl nt)) (hF:Fun P f vc rl nt) {args:List Value}{h:CH}{k:Value->CH->A}{rs:MP}{U:Heap}{K:Value->Heap->Prop}
  (hY:YOk P ys rs h.n) (hs:CSim rs h U) (he:G (I4 T ev R ys f args h k)) (hk:Q95 G rs h k K):VCallsTo P f args U K:=by
 unfold I4 at he;rw[hf] at he;simp only at he;split at he
 .rename_i hb;exact hF.callsTo hm RR (cu R G hG ys vc none _ _ h _ rs U _ hY hs (ET.q1p (zx hb)) he (Da hG hk))
 .exact(hG.fail he).elim
theorem Es (cu:Sd P ev) (hG:Good R G) {ys:Ys}{i:Nat}{args:List Value}{h:CH}{k:Value->CH->A}{rs:MP}{U:Heap}{K:Value->Heap->Prop}
  (hY:YOk P ys rs h.n) (hs:CSim rs h U) (he:G (Q1p ev R ys i args h k)) (hk:Q95 G rs h k K):VYields P i args U K:=by
 unfold Q1p at he;split at he
 .rename_i c hc;obtain⟨aP,kf,aq⟩:=hY i c hc;split at he
  .rename_i hg;split at he
   .rename_i hlen;refine aq args U K ⟨hs.lp hg,hlen,?_⟩;refine cu R G hG ys c.a (some i) _ _ h _ rs U _ hY hs (Ch c.ps args kf) he ?_;intro e jB h1 fc σ1 bh eT fa dM fg _ hg1;cases e with
    |normal =>
     simp only[Q6r] at hg1;split at hg1
     .rename_i iw;have e1:fc i=rs i:=fa i aP;have mG:=dM.lp iw;rw[e1] at mG;refine⟨mG,?_⟩;have fT:=dM.lt iw;refine cu R G hG ys c.b (some i) jB bh _ _ fc _ _ (hY.mono (n':=(h1.upd i (.lp .busy none)).n) eT fa) (dM.upd fT (b:=.lp .busy none) (by rw[EB.to,e1])) fg hg1 ?_;intro e2 fl h2 dN σ2 aO dD dC bT fp _ cL;have kz:h1.n<=h2.n:=dD;have jC:dN i=rs i:=(dC i fT).trans e1;unfold Q3p at cL;split at cL
      .rename_i mH;have gF:=bT.lt mH;have mI:=bT.lp mH;rw[jC] at mI;refine⟨mI,?_⟩;have agree:∀ j,j<h.n->dN j=rs j:=λj hj=>(dC j (zV hj eT)).trans (fa j hj);cases e2 with
       |normal=>exact hk _ (h2.upd i (.lp .ready none)) dN _ (zN eT kz) agree (bT.upd gF (b:=.lp .ready none) (by simp only[EB.to,jC])) cL
       |ret=>exact hk _ (h2.upd i (.lp .done (some .ret))) dN _ (zN eT kz) agree (bT.upd gF (b:=.lp .done (some .ret)) (by simp only[EB.to,jC])) cL
       |exit id=>exact hk _ (h2.upd i (.lp .done (some (.exit id)))) dN _ (zN eT kz) agree (bT.upd gF (b:=.lp .done (some (.exit id))) (by simp only[EB.to,jC])) cL
       |_=>exact(hG.fail cL).elim
      .exact(hG.fail cL).elim
     .exact(hG.fail hg1).elim
    |_=>exact(hG.fail hg1).elim
   .exact(hG.fail he).elim
  .exact(hG.fail he).elim
 .exact(hG.fail he).elim
theorem P_ (hG:Good R G) {i m since clock:Nat}{seen:List Nat}{h:CH}{k:Value->CH->A}:∀ (es:List XJ),
  (∀ e∈es,seen.contains e.2.2=true)/\Bf R i m since clock seen h k es=none \/
  ∃ a,Bf R i m since clock seen h k es=some a/\(G a->∀ e∈es,seen.contains e.2.2=false->G (k (.tuple #[.bool true,e.1,e.2.1]) (h.upd i (.iter m since (seen++[e.2.2]) clock))))
 |[]=>.inl ⟨λ_ h=>(by cases h),rfl⟩
 |e::es=>by
  have ih:=P_ hG (i:=i) (m:=m) (since:=since) (clock:=clock) (seen:=seen) (h:=h) (k:=k) es;by_cases hc:seen.contains e.2.2=true
  .have he:Bf R i m since clock seen h k (e::es)=Bf R i m since clock seen h k es:=by rw[Bf,z7 hc]
   rw[he];rcases ih with⟨h1,h2⟩|⟨a,h1,h2⟩
   .exact .inl ⟨λx hx=>by rcases zG.1 hx with rfl|hx;exact hc;exact h1 x hx,h2⟩
   .refine .inr ⟨a,h1,λkA x hx bc=>?_⟩;rcases zG.1 hx with rfl|hx
    .rw[hc] at bc;cases bc
    .exact h2 kA x hx bc
  .rcases ih with⟨h1,h2⟩|⟨a,h1,h2⟩
   .refine .inr ⟨k (.tuple #[.bool true,e.1,e.2.1]) (h.upd i (.iter m since (seen++[e.2.2]) clock)),by rw[Bf,z6 hc,h2],λkA x hx bc=>?_⟩;rcases zG.1 hx with rfl|hx
    .exact kA
    .rw[h1 x hx] at bc;cases bc
   .refine .inr ⟨R.both (k (.tuple #[.bool true,e.1,e.2.1]) (h.upd i (.iter m since (seen++[e.2.2]) clock))) a,by rw[Bf,z6 hc,h1],λkA x hx bc=>?_⟩;obtain⟨g1,g2⟩:=hG.both _ _ kA;rcases zG.1 hx with rfl|hx
    .exact g1
    .exact h2 g2 x hx bc
theorem FE (hG:Good R G) {x:Value}{h:CH}{k:Value->CH->A}{rs:MP}{U:Heap}{K:Value->Heap->Prop}(hs:CSim rs h U) (he:G (Q89 R x h k)) (hk:Q95 G rs h k K):FN x U K:=by
 unfold Q89 at he;unfold FN;split at he
 .rename_i i;split at he
  .rename_i m since seen last hg;have hi:=hs.lt hg;simp only[hs.iter hg];split at he
   .rename_i es clock wr gh;obtain⟨k1,_⟩:=hs.mapAt gh;simp only[k1];split at he
    .rename_i hc;refine⟨hc.1,hc.2,?_⟩;rcases P_ hG (i:=i) (m:=m) (since:=since) (clock:=clock) (seen:=seen) (h:=h) (k:=k) es with⟨h1,h2⟩|⟨a,h1,h2⟩
     .rw[h2] at he;simp only at he;split at he
      .exact⟨λ_=>hk _ _ rs U (zd _) (λ_ _=>rfl) hs he,λe gQ mJ=>by rw[h1 e gQ] at mJ;cases mJ⟩
      .exact(hG.fail he).elim
     .rw[h1] at he;simp only at he;have key:G a->∀ e∈es,seen.contains e.2.2=false->K (.tuple #[.bool true,e.1,e.2.1]) (U.upd i (.obj (.iter m since (seen++[e.2.2]) clock) true)):=λkA e gQ mJ =>
       hk _ (h.upd i (.iter m since (seen++[e.2.2]) clock)) rs _ (zd _) (λ_ _=>rfl) (hs.upd hi rfl) (h2 kA e gQ mJ)
      split at he
      .obtain⟨g1,g2⟩:=hG.both _ _ he;exact⟨λ_=>hk _ _ rs U (zd _) (λ_ _=>rfl) hs g1,key g2⟩
      .rename_i hn;exact⟨λhh=>absurd hh hn,key he⟩
    .exact(hG.fail he).elim
   .exact(hG.fail he).elim
  .exact(hG.fail he).elim
 .exact(hG.fail he).elim
theorem LX (hm:P.follows .mixedOrders=true) (hT:TabOk P T) (cu:Sd P ev) (hG:Good R G) {ys:Ys}{o:VOp}{et:ET}{env:Env}(hE:FRel et env) {h:CH}{k:Value->CH->A}{rs:MP}{U:Heap}{K:Value->Heap->Prop}
  (hY:YOk P ys rs h.n) (hs:CSim rs h U) (he:G (Q7z T ev R ys o et h k)) (hk:Q95 G rs h k K):vop (Q3 P) o env U K:=by
 have ak:=TP hE;have other:∀ o':VOp,G (Q27 R (I7 o' (By et) h) k)->Z8 (Q6 o' (Q4 env) U) λp=>K p.1 p.2:=by
  intro o' hg;rw[ak] at hg;unfold Q27 at hg;split at hg
  .rename_i p hp;obtain⟨h1,U',h2,h3⟩:=U9 hs hp;rw[h2];exact hk _ _ rs U' h1 (λ_ _=>rfl) h3 hg
  .exact(hG.fail hg).elim
 cases o
 case callF f args =>
  simp only[Q7z,ak] at he;exact So hm hT cu hG hY hs he hk
 case callV f args =>
  simp only[Q7z,ak] at he;simp only[vop];unfold Q6s at he;split at he
  .rename_i g first cap hg
   simp only[hg];exact So hm hT cu hG hY hs he hk
  .rename_i i first cap hg
   simp only[hg];exact Es cu hG hY hs he hk
  .exact(hG.fail he).elim
 case ext x =>
  cases x
  case nextMap x =>
   simp only[Q7z,ak] at he;exact FE hG hs he hk
  case delete a b c=>exact other (.ext (.delete a b c)) he
  case mapEntry a z b c=>exact other (.ext (.mapEntry a z b c)) he
  case entryStore a b c=>exact other (.ext (.entryStore a b c)) he
  all_goals exact other _ he
 case move a=>exact other (.move a) he
 case makeFunc a b c=>exact other (.makeFunc a b c) he
 case bad=>exact other .bad he
 all_goals exact other _ he
theorem Rx (hm:P.follows .mixedOrders=true) (hT:TabOk P T) (cu:Sd P ev) (hG:Good R G) {ys:Ys}{k:ET->CH->A}{K:Env->Heap->Prop}:∀ (ops:List VOper) (et:ET) (env:Env) (h:CH) (rs:MP) (U:Heap),
  YOk P ys rs h.n->CSim rs h U->FRel et env->G (Q3g T ev R ys ops et h k)->Q4h G rs h (List.length env) k K->HS (Q3 P) ops env U K:=by
 intro ops;induction ops with
 |nil=>intro et env h rs U hY hs hE he hk;exact hk et h rs U env (zd _) (λ_ _=>rfl) hs hE rfl he
 |cons o rest ih =>
  intro et env h rs U hY hs hE he hk
  have he:G (match Q2g et o.guard with
   |none=>R.fail
   |some true=>Q7z T ev R ys o.op et h λv h'=>Q3g T ev R ys rest (et.put o.dst v) h' k
   |some false=>Q3g T ev R ys rest (et.put o.dst undef) h k):=he
  rw[IZ hE] at he;simp only[HS];split at he
  .exact(hG.fail he).elim
  .rename_i hw;rw[hw];refine⟨λ_=>?_,λhh=>by cases hh⟩;refine LX hm hT cu hG hE hY hs he ?_;intro v h' bn U' hn hr a_ hg;refine ih _ _ h' bn U' (hY.mono hn hr) a_ (hE.put _ _) hg ?_;intro fl h2 dN σ2 aO dD dC bT fp hl cL;exact hk fl h2 dN σ2 aO (zN hn dD) (λi hi=>(dC i (by omega)).trans (hr i hi)) bT fp (by rw[hl,Jn]) cL
  .rename_i hw;rw[hw];refine⟨λhh=>(by cases hh),λ_=>?_⟩;refine ih _ _ h rs U hY hs (hE.put _ _) he ?_;intro fl h2 dN σ2 aO dD dC bT fp hl cL;exact hk fl h2 dN σ2 aO dD dC bT fp (by rw[hl,Jn]) cL
def CSims (rs:MP) (n:Nat):List CH->List Heap->Prop
 |[],[]=>True
 |h::hs,U::σs=>(CSim rs h U/\h.n<=n)/\CSims rs n hs σs
 |_,_=>False
theorem CSims.mono {rs bn:MP}{n n':Nat}(hn:n<=n') (hr:∀ i,i<n->bn i=rs i):∀ {hs:List CH}{σs:List Heap},CSims rs n hs σs->CSims bn n' hs σs
 |[],[],_=>trivial
 |h::hs,U::σs,⟨⟨h1,h2⟩,h3⟩=>⟨⟨h1.rs λi hi=>hr i (by omega),by omega⟩,CSims.mono hn hr h3⟩
 |[],_::_,h=>h.elim
 |_::_,[],h=>h.elim
theorem CSims.snoc {rs:MP}{n:Nat}{h:CH}{U:Heap}(hs:CSim rs h U) (hn:h.n<=n):∀ {hl:List CH}{σl:List Heap},CSims rs n hl σl->CSims rs n (hl++[h]) (σl++[U])
 |[],[],_=>⟨⟨hs,hn⟩,trivial⟩
 |_::_,_::_,⟨h1,h2⟩=>⟨h1,CSims.snoc hs hn h2⟩
 |[],_::_,h=>h.elim
 |_::_,[],h=>h.elim
theorem T2 {rs:MP}{h:CH}{U:Heap}(hs:CSim rs h U) {op:VOp}{ev:Operand->Value}{v:Value}(hr:IP op ev v h=true):We op ev v U:=by
 unfold IP at hr;split at hr
 .rename_i q hq;obtain⟨_,U',h2,_⟩:=U9 hs hq;unfold We;rw[h2];exact Bt _ _ _ hr
 .cases hr
def Q4g:List (Nat×(CH->Bool))->List (Nat×(Heap->Prop))->Prop
 |[],[]=>True
 |c::l,d::m=>(c.1=d.1/\∀ rs h U,CSim rs h U->c.2 h=true->d.2 U)/\Q4g l m
 |_,_=>False
theorem BM {rs:MP}{h:CH}{U:Heap}(hs:CSim rs h U) {r:Nat}:∀ {l:List (Nat×(CH->Bool))}{m:List (Nat×(Heap->Prop))},Q4g l m->Q1s r h l=true->W7 r U m
 |[],[],_,_=>trivial
 |c::l,d::m,⟨⟨h1,h2⟩,h3⟩,he=>by
  simp only[Q1s,z1,zo,Bool.not_eq_true'] at he;refine⟨λhr=>h2 rs h U hs ?_,BM hs h3 he.2⟩;rcases he.1 with h|h
  .rw[h1,Nat.ble_eq_true_of_le hr] at h;cases h
  .exact h
 |[],_::_,h,_=>h.elim
 |_::_,[],h,_=>h.elim
theorem CSims.mem {rs:MP}{n:Nat}:∀ {hl:List CH}{σl:List Heap},CSims rs n hl σl->∀ (f:CH->Bool) (Q:Heap->Prop),(∀ rs h U,CSim rs h U->f h=true->Q U)->∀ j,(hl.drop j).all f=true->∀ Z∈σl.drop j,Q Z
 |[],[],_,_,_,_,_,_,Z,hτ=>by simp at hτ
 |h::hl,U::σl,⟨h1,h2⟩,f,Q,hQ,0,ha,Z,hτ=>by
  simp only[xt,zO,z1,zG] at ha hτ;rcases hτ with rfl|hτ
  .exact hQ rs h Z h1.1 ha.1
  .exact CSims.mem h2 f Q hQ 0 (by simpa using ha.2) Z (by simpa using hτ)
 |h::hl,U::σl,⟨h1,h2⟩,f,Q,hQ,j+1,ha,Z,hτ=>CSims.mem h2 f Q hQ j (by simpa using ha) Z (by simpa using hτ)
 |[],_::_,h,_,_,_,_,_,_,_=>h.elim
 |_::_,[],h,_,_,_,_,_,_,_=>h.elim
theorem CSims.length {rs:MP}{n:Nat}:∀ {hl:List CH}{σl:List Heap},CSims rs n hl σl->hl.length=σl.length
 |[],[],_=>rfl
 |_::_,_::_,⟨_,h⟩=>by simp[CSims.length h]
 |[],_::_,h=>h.elim
 |_::_,[],h=>h.elim
theorem PC (hm:P.follows .mixedOrders=true) (hT:TabOk P T) (cu:Sd P ev) (hG:Good R G) {ys:Ys}{k:ET->CH->A}{K:Env->Heap->Prop}:∀ (ops:List DOper) (et:ET) (env:Env) (hl:List CH) (h:CH) (pe:List (Nat×(CH->Bool))) (rs:MP) (σl:List Heap) (U:Heap) (pv:List (Nat×(Heap->Prop))),
  YOk P ys rs h.n->CSim rs h U->FRel et env->CSims rs h.n hl σl->Q4g pe pv->G (B9 T ev R ys ops et hl h pe k)->Q4h G rs h (List.length env) k K->Jx (Q3 P) ops env σl U pv K:=by
 intro ops;induction ops with
 |nil=>intro et env hl h pe rs σl U pv hY hs hE kB hp he hk;exact hk et h rs U env (zd _) (λ_ _=>rfl) hs hE rfl he
 |cons o rest ih =>
  intro et env hl h pe rs σl U pv hY hs hE kB dS he hk;have ak:=TP hE;simp only[B9,IZ hE,ak] at he;simp only[Jx];have hlen:=kB.length;split at he
  .exact(hG.fail he).elim
  .rename_i hw;rw[hw];refine⟨λ_=>?_,λhh=>by cases hh⟩;split at he
   .rename_i aB;rw[z7 aB];split at he
    .rename_i p hp;split at he
     .rename_i kC;obtain⟨iX,mK⟩:=kC;simp only[CH.newOk,z1,zh] at iX;obtain⟨n1,n2,n3⟩:=iX;have n1:h.n<=p.2.n:=zx n1;have n2:p.2.n<=1000000000:=zx n2;have kD:CSim rs p.2 (p.2.toHeap rs):=Pp (by omega);refine .inl ⟨p.1,p.2.toHeap rs,?_,?_,?_⟩
      .refine LX hm hT cu (Q8j p) hE hY hs hp ?_;intro v h' bn U' hn hr a_ hg;have hg:(v,h')=p:=osj hg;subst hg;refine⟨rfl,?_⟩;have:CSim rs h' U':=by
        refine⟨a_.n,a_.sm,λi=>?_⟩;rw[a_.get];cases iw:h'.get i with
        |none=>rfl
        |some b =>
         rcases zl i h.n with hi|hi
         .rw[hr i hi]
         .have aP:=a_.lt iw;have:=n3 i (List.mem_range'_1.2 ⟨hi,by simp at n1 |-;omega⟩);simp only[iw] at this;cases b<;>first|rfl|cases this
       exact this.eq
      .rw[<-hlen];exact BM kD dS mK
      .refine ih _ _ _ p.2 pe rs _ _ pv (hY.mono n1 (λ_ _=>rfl)) kD (hE.put _ _) ((kB.mono n1 (λ_ _=>rfl)).snoc kD (zd _)) dS he ?_;intro fl h2 dN σ2 aO dD dC bT fp b9 cL;exact hk fl h2 dN σ2 aO (zN n1 dD) (λi hi=>dC i (by omega)) bT fp (by rw[b9,Jn]) cL
     .exact(hG.fail he).elim
    .exact(hG.fail he).elim
   .rename_i aB;rw[z6 aB];have done:∀ (u:Value) (oy:List (Nat×(CH->Bool))) (oz:List (Nat×(Heap->Prop))),Q4g oy oz->G (B9 T ev R ys rest (et.put o.dst u) hl h oy k)->Jx (Q3 P) rest (XV env o.dst u) σl U oz K:=by
     intro u oy oz br hg;refine ih _ _ hl h oy rs σl U oz hY hs (hE.put _ _) kB br hg ?_;intro fl h2 dN σ2 aO dD dC bT fp b9 cL;exact hk fl h2 dN σ2 aO dD dC bT fp (by rw[b9,Jn]) cL
    split at he
    .rename_i bD;rw[z7 bD];split at he
     .rename_i p hp;split at he
      .rename_i hall;obtain⟨_,U',h2,_⟩:=U9 hs hp;rw[h2];refine⟨kB.mem _ _ (λrs h U hc hf=>T2 hc hf) _ hall,?_⟩;refine done _ _ _ ?_ he;rw[<-hlen];split
       .exact⟨⟨rfl,λrs h U hc hf=>T2 hc hf⟩,dS⟩
       .exact dS
      .exact(hG.fail he).elim
     .exact(hG.fail he).elim
    .rename_i bD;rw[z6 bD];split at he
     .rename_i p hp;obtain⟨_,U',h2,_⟩:=U9 hs hp;rw[h2];exact done _ _ _ dS he
     .exact(hG.fail he).elim
  .rename_i hw;rw[hw];refine⟨λhh=>(by cases hh),λ_=>?_⟩;split at he
   .rename_i aB;rw[z7 aB];split at he
    .rename_i mK;refine⟨by rw[<-hlen];exact BM hs dS mK,?_⟩;refine ih _ _ _ h pe rs _ U pv hY hs (hE.put _ _) (kB.snoc hs (zd _)) dS he ?_;intro fl h2 dN σ2 aO dD dC bT fp b9 cL;exact hk fl h2 dN σ2 aO dD dC bT fp (by rw[b9,Jn]) cL
    .exact(hG.fail he).elim
   .rename_i aB;rw[z6 aB];refine ih _ _ _ h pe rs _ U pv hY hs (hE.put _ _) kB dS he ?_;intro fl h2 dN σ2 aO dD dC bT fp b9 cL;exact hk fl h2 dN σ2 aO dD dC bT fp (by rw[b9,Jn]) cL
theorem ET.q2g {e:ET}{env:Env}(h:FRel e env):e.list=env:=by
 apply zI;intro i;unfold ET.list;rw[xh];rcases zl i e.m with hi|hi
 .rw[List.getElem?_range hi];have:=h.get i;rw[h.m] at hi;rw[ze,z8 hi] at this;rw[z8 hi,xR,<-this];rfl
 .rw[zz (by simpa using hi),zz (by rw[<-h.m];exact hi)];rfl
theorem AH {ρ:Plc}{n:Nat}{vs:Array Value}{cs:List Value}(h:VRel ρ n (.tuple vs) (.tuple cs.toArray)):LRel ρ n vs.toList cs:=by
 obtain⟨ds,he,hl⟩:=h.q1k;have:cs.toArray=ds:=by injection he
 subst this;simpa using hl
theorem Fu (hm:P.follows .mixedOrders=true) (hT:TabOk P T) (cu:Sd P ev) {ys:Ys}{x:Value×CH}{vs:Array Value}(ju:x.1=.tuple vs) {K:Env->Heap->Prop}{et:ET}{env:Env}{h:CH}{rs:MP}{U:Heap}(hY:YOk P ys rs h.n) (hs:CSim rs h U) (hE:FRel et env)
  (hk:K vs.toList (x.2.toHeap rs)):∀ (alts:List (List DOper)),OG x (IW T ev ys et h alts)->∀ ops∈alts,Jx (Q3 P) ops env [U] U [] λbh σ1=>∃ aO σ2,DropE U bh σ1 aO σ2/\K aO σ2:=by
 have one:∀ a:List DOper,OG x (Q7a T ev ys et h a)->Jx (Q3 P) a env [U] U [] λbh σ1=>∃ aO σ2,DropE U bh σ1 aO σ2/\K aO σ2:=by intro a ha;refine PC hm hT cu (As x) a et env [h] h [] rs [U] U [] hY hs hE ⟨⟨hs,zd _⟩,trivial⟩ trivial ha ?_;intro df h' bn U' ai hn hr a_ bM hl hg;obtain⟨y,hy,h1,h2,h3⟩:=hg;unfold Z1h at hy;have hd:=PH hs a_ hr hy h1 h2 h3;rw[ET.q2g bM,ju] at hd;refine⟨vs.toList,x.2.toHeap rs,?_,hk⟩;intro ρ0 w0 ρ w cs fA pk hH hL;obtain⟨ρ',d1,d2,d3⟩:=hd ρ0 w0 ρ w (.tuple cs.toArray) fA pk hH (VRel.q0i hL);exact⟨ρ',AH d1,d2,d3⟩
 intro alts;induction alts with
 |nil=>rintro⟨y,hy,_⟩;cases hy
 |cons a l ih =>
  intro he ops ho;cases l with
  |nil =>obtain rfl:=x6.1 ho;exact one _ he
  |cons b r =>
   obtain⟨g1,g2⟩:=(As x).both _ _ he;rcases zG.1 ho with rfl|ho
   .exact one _ g1
   .exact ih g2 ops ho
theorem E2 (hm:P.follows .mixedOrders=true) (hT:TabOk P T) (cu:Sd P ev) (hG:Good R G) {ys:Ys}{k:ET->CH->A}{K:Env->Heap->Prop}:∀ (aQ:List DSeg) (et:ET) (env:Env) (h:CH) (rs:MP) (U:Heap),
  YOk P ys rs h.n->CSim rs h U->FRel et env->G (SE T ev R ys aQ et h k)->Q4h G rs h (List.length env) k K->Du (Q3 P) aQ env U K:=by
 intro aQ;induction aQ with
 |nil=>intro et env h rs U hY hs hE he hk;exact hk et h rs U env (zd _) (λ_ _=>rfl) hs hE rfl he
 |cons x rest ih =>
  intro et env h rs U hY hs hE he hk;have next:Q4h G rs h (List.length env) (λet h=>SE T ev R ys rest et h k) (λenv U=>Du (Q3 P) rest env U K):=by intro jB h1 fc σ1 bh eT fa dM fg dU hg1;refine ih jB bh h1 fc σ1 (hY.mono eT fa) dM fg hg1 ?_;intro fl h2 dN σ2 aO dD dC bT fp b9 cL;exact hk fl h2 dN σ2 aO (zN eT dD) (λi hi=>(dC i (by omega)).trans (fa i hi)) bT fp (b9.trans dU) cL
  cases x with
  |one o=>exact Rx hm hT cu hG [o] et env h rs U hY hs hE he next
  |alts l =>
   have many:G (match IW T ev ys et h l with
     |some x=>(match x.1 with
      |.tuple vs=>if x.2.room=true/\Nat.ble h.n x.2.n=true/\vs.toList.length=et.m then SE T ev R ys rest (ET.of vs.toList 0) x.2 k else R.fail
      |_=>R.fail)
     |none=>R.fail)->Du (Q3 P) (.alts l::rest) env U K:=by
    intro he;split at he
    .rename_i x hx;split at he
     .rename_i vs ju;split at he
      .rename_i hc;obtain⟨c1,c2,c3⟩:=hc;have aT:x.2.n<=1000000000:=zx c1;have tF:FRel (ET.of vs.toList 0) vs.toList:=by
        have:=ET.q1p (args:=vs.toList) (nt:=0) (by show vs.toList.length+(0-vs.toList.length)<=_;have:=hE.sm;omega);simpa using this
       exact Fu hm hT cu ju hY hs hE (next _ x.2 rs _ _ (zx c2) (λ_ _=>rfl) (Pp (by omega)) tF (by rw[c3,hE.m]) he) l ⟨x,hx,rfl,rfl,λ_=>rfl⟩
      .exact(hG.fail he).elim
     .exact(hG.fail he).elim
    .exact(hG.fail he).elim
   match l,he with
   |[],he=>exact many he
   |[a],he =>intro ops ho;obtain rfl:=x6.1 ho;refine PC hm hT cu hG ops et env [h] h [] rs [U] U [] hY hs hE ⟨⟨hs,zd _⟩,trivial⟩ trivial he ?_;intro df h' bn U' ai hn hr a_ bM hl hg;exact⟨ai,U',.refl _ _ _,next df h' bn U' ai hn hr a_ bM hl hg⟩
   |a::b::r,he=>exact many he
def EI (P:Program) (T:Tab) (ev:Q9a) (c:VCode):Prop:=∀ {A:Type}(R:AnsOps A) (G:A->Prop),Good R G->∀ (ys:Ys) (ro:Option Nat) (et:ET) (env:Env) (h:CH) (k:Exit->ET->CH->A) (rs:MP) (U:Heap) (Q:Exit->Env->Heap->Prop),
 YOk P ys rs h.n->CSim rs h U->FRel et env->G (Ed T ev R ys c ro et h k)->Q5n G rs h (List.length env) k Q->vwp (Q3 P) c ro Q env U
theorem Ez (hm:P.follows .mixedOrders=true) (hT:TabOk P T) (cu:Sd P ev) (hG:Good R G) {ys:Ys}{g:Operand}{ps:List Nat}{a b:VCode}{ro:Option Nat}{et:ET}{env:Env}{h:CH}{k:Exit->ET->CH->A}{rs:MP}{U:Heap}{Q:Exit->Env->Heap->Prop}
  (hY:YOk P ys rs h.n) (hs:CSim rs h U) (hE:FRel et env) (he:G (Q1w T ev R ys (By et g) ps a b ro et h k)) (hk:Q5n G rs h (List.length env) k Q):vwp (Q3 P) (.rangeF g ps a b) ro Q env U:=by
 rw[TP hE] at he;unfold Q1w at he;simp only[vwp,AY];split at he
 .rename_i f first cap hg
  simp only[hg];split at he
  .rename_i vc rl nt hf;have hF:=hT.code f vc rl nt hf;split at he
   .rename_i kC;obtain⟨aP,aT⟩:=kC;have hit:(Q3 P).it f=some λi Y args U K=>VD P i Y->VCallsTo P f args U K:=by
     simp only[Q3];rw[z7 hF.enterable]
    rw[hit];refine⟨?_,λr tG=>?_⟩
    .cases ro with
     |none=>trivial
     |some i =>
      simp only[Q71] at aP;split at aP
      .rename_i st pend iw;exact⟨_,_,_,_,hs.lp iw⟩
      .cases aP
    .let fc:MP:=λi=>if i=h.n then (env,r) else rs i
     have eI:∀ i,i<h.n->fc i=rs i:=λi hi=>by simp only[fc];rw[z6 (by omega)]
     have dM:CSim fc (h.push (.lp .ready none)) (U.push (.obj (.lp env r .ready none) true)) :=
      (hs.rs eI).push aT (by simp[EB.to,fc])
     have tH:YOk P ((h.n,⟨ps,a,b,et⟩)::ys) fc (h.push (.lp .ready none)).n:=by
      intro i c hc;simp only[Ys.find] at hc;split at hc
      .rename_i eF;have eF:=zC eF;subst eF;obtain rfl:=osj hc;refine⟨Nat.lt_succ_self _,by simp only[fc,zr];exact hE,?_⟩;rw[hs.n] at *
       simpa [fc,hs.n] using tG
      .obtain⟨h1,h2,h3⟩:=hY i c hc;rw[eI i h1];exact⟨Nat.lt_succ_of_lt h1,h2,h3⟩
     rw[<-hs.n];refine AJ hm cu hG hf hF tH dM he ?_;intro v h' bn U' hn hr a_ cO;have ou:h.n+1<=h'.n:=hn;unfold Z0a at cO;unfold Q54;split at cO
     .rename_i st pend iw;have hi:=a_.lt iw;simp only[a_.lp iw];split at cO
      .rename_i cF;refine⟨(by rintro rfl;cases cF),?_⟩;have agree:∀ j,j<h.n->bn j=rs j:=λj hj=>(hr j (Nat.lt_succ_of_lt hj)).trans (eI j hj);have cD:=a_.kill hi;split at cO
       .exact hk _ _ _ bn _ _ (by show h.n<=h'.n;omega) agree cD hE rfl cO
       .exact hk _ _ _ bn _ _ (by show h.n<=h'.n;omega) agree cD hE rfl cO
       .exact hk _ _ _ bn _ _ (by show h.n<=h'.n;omega) agree cD hE rfl cO
       .exact(hG.fail cO).elim
      .exact(hG.fail cO).elim
     .exact(hG.fail cO).elim
   .exact(hG.fail he).elim
  .exact(hG.fail he).elim
 .exact(hG.fail he).elim
theorem Eb (hm:P.follows .mixedOrders=true) (hT:TabOk P T) (cu:Sd P ev)
  (mL:∀ b,EI P T ev b->EI P T ev (.loop b)):∀ (c:VCode),EI P T ev c:=by
 intro c;induction c with
 |skip=>intro A R G hG ys ro et env h k rs U Q hY hs hE he hk;exact hk _ _ _ rs U _ (zd _) (λ_ _=>rfl) hs hE rfl he
 |region ops =>intro A R G hG ys ro et env h k rs U Q hY hs hE he hk;exact Rx hm hT cu hG ops et env h rs U hY hs hE he λdf h' bn U' ai h1 h2 h3 h4 h5 h6=>hk _ _ _ _ _ _ h1 h2 h3 h4 h5 h6
 |regionD aQ =>intro A R G hG ys ro et env h k rs U Q hY hs hE he hk;exact E2 hm hT cu hG aQ et env h rs U hY hs hE he λdf h' bn U' ai h1 h2 h3 h4 h5 h6=>hk _ _ _ _ _ _ h1 h2 h3 h4 h5 h6
 |rangeF g ps a b eN d_ =>intro A R G hG ys ro et env h k rs U Q hY hs hE he hk;exact Ez hm hT cu hG hY hs hE he hk
 |seq a b eN d_ =>
  intro A R G hG ys ro et env h k rs U Q hY hs hE he hk;simp only[vwp];refine eN R G hG ys ro et env h _ rs U _ hY hs hE he ?_;intro e df h' bn U' ai hn hr a_ bM hl hg;cases e with
  |normal =>refine d_ R G hG ys ro df ai h' k bn U' Q (hY.mono hn hr) a_ bM hg ?_;intro e2 fl h2 dN σ2 aO dD dC bT fp b9 cL;exact hk e2 fl h2 dN σ2 aO (zN hn dD) (λi hi=>(dC i (by omega)).trans (hr i hi)) bT fp (b9.trans hl) cL
  |_=>exact hk _ df h' bn U' ai hn hr a_ bM hl hg
 |cond c a b eN d_ =>
  intro A R G hG ys ro et env h k rs U Q hY hs hE he hk;have he:G (Q8p R (By et c) (Ed T ev R ys a ro et h k) (Ed T ev R ys b ro et h k)):=he;rw[TP hE] at he;unfold Q8p at he;simp only[vwp];split at he
  .rename_i hc;rw[hc];exact⟨λ_=>eN R G hG ys ro et env h k rs U Q hY hs hE he hk,λhh=>by cases hh⟩
  .rename_i hc;rw[hc];exact⟨λhh=>(by cases hh),λ_=>d_ R G hG ys ro et env h k rs U Q hY hs hE he hk⟩
  .exact(hG.fail he).elim
 |block id b ih =>
  intro A R G hG ys ro et env h k rs U Q hY hs hE he hk;simp only[vwp];refine ih R G hG ys ro et env h _ rs U _ hY hs hE he ?_;intro e df h' bn U' ai hn hr a_ bM hl hg;cases e with
  |exit gv =>
   simp only[Q3v] at hg;simp only[EM];split at hg
   .rename_i hid;rw[z7 hid];exact hk _ df h' bn U' ai hn hr a_ bM hl hg
   .rename_i hid;rw[z6 hid];exact hk _ df h' bn U' ai hn hr a_ bM hl hg
  |_=>exact hk _ df h' bn U' ai hn hr a_ bM hl hg
 |loop b ih =>intro A R G hG ys ro et env h k rs U Q hY hs hE he hk;exact mL b ih R G hG ys ro et env h k rs U Q hY hs hE he hk
 |exit id=>intro A R G hG ys ro et env h k rs U Q hY hs hE he hk;exact hk _ _ _ rs U _ (zd _) (λ_ _=>rfl) hs hE rfl he
 |ret=>intro A R G hG ys ro et env h k rs U Q hY hs hE he hk;exact hk _ _ _ rs U _ (zd _) (λ_ _=>rfl) hs hE rfl he
 |bad=>intro A R G hG ys ro et env h k rs U Q hY hs hE he hk;exact(hG.fail he).elim
theorem Cm {v:Value}(h:Q00 v=true):Zd v=true\/∃ vs,v=.tuple vs/\vs.toList.all Zd=true:=by unfold Q00 at h;split at h<;>first|exact .inl rfl|exact .inr ⟨_,rfl,h⟩|cases h
theorem Q58 {ρ:Plc}{n:Nat}{v c:Value}(h:Q00 v=true) (hv:VRel ρ n v c):c=v:=by
 rcases Cm h with hp|⟨vs,rfl,hall⟩
 .exact Ki hp hv
 .obtain⟨ds,rfl,hl⟩:=hv.q1k;have hall:∀ x∈vs.toList,Zd x=true:=zh.1 hall;have:ds.toList=vs.toList:=by
   apply zI;intro i;rcases zl i vs.toList.length with hi|hi
   .have cE:i<ds.toList.length:=by rw[<-hl.1];exact hi
    rw[z8 hi,z8 cE];rw[Ki (hall _ (zk hi)) (hl.2 i _ _ (z8 hi) (z8 cE))]
   .rw[zz hi,zz (by rw[<-hl.1];exact hi)]
  rw[RA this]
theorem Q2n {ρ:Plc}{n:Nat}{v:Value}(h:Q00 v=true):VRel ρ n v v:=by
 rcases Cm h with hp|⟨vs,rfl,hall⟩
 .exact WN hp
 .exact .tuple _ _ rfl λi h1 _=>WN (zh.1 hall _ (by simp))
theorem HX (m:Nat) (env:Env) (h:List.length env=m):HU (List.range m) env=env:=by
 apply zI;intro i;simp only[HU,xh];rcases zl i m with hi|hi
 .rw[List.getElem?_range hi];simp[ze,h,hi]
 .rw[zz (by simpa using hi),zz (by omega)];rfl
theorem Ct:∀ (l:List Nat) (vs base:List Value) (i:Nat),l.Nodup->vs.length=l.length->(∀ x∈l,x<base.length)->(Wy l vs base)[i]?=if i∈l then vs[l.idxOf i]? else base[i]?
 |[],[],base,i,_,_,_=>by simp[Wy]
 |[],_::_,_,_,_,h,_=>by simp at h
 |_::_,[],_,_,_,h,_=>by simp at h
 |x::l,v::vs,base,i,hn,h,hb=>by
  obtain⟨h1,h2⟩:=wc.1 hn;simp only[Wy];rw[Ct l vs _ i h2 (by simpa using h) (λy hy=>by rw[xL];exact hb y (by simp[hy]))];by_cases ly:i=x
  .subst ly;rw[z6 h1,z7 (by simp),List.getElem?_set_self (hb i (by simp))];simp
  .by_cases gI:i∈l
   .have e:(x::l).idxOf i=l.idxOf i+1:=by rw[List.idxOf_cons,show (x==i)=false from by simpa using Ne.symm ly];rfl
    rw[z7 gI,z7 (by simp[gI]),e];rfl
   .rw[z6 gI,z6 (by simp[ly,gI]),List.getElem?_set_ne (Ne.symm ly)]
theorem EG (m:Nat) (vs:List Value) (h:vs.length=m):Wy (List.range m) vs (List.replicate m poison)=vs:=by
 apply zI;intro i;rw[Ct _ _ _ _ List.nodup_range (by simpa using h) (λx hx=>by simpa using hx)];split
 .rename_i hi;have hi:=x8.1 hi;have:(List.range m).idxOf i=i:=by
   have h1:(List.range m).idxOf i<(List.range m).length:=List.idxOf_lt_length_of_mem (x8.2 hi);have h2:=List.getElem_idxOf h1;rw[List.getElem_range] at h2;exact h2
  rw[this]
 .rename_i hi;have hi:m<=i:=by simpa using hi
  rw[zz (by simpa using hi),zz (by omega)]
theorem Q0x (hm:P.follows .mixedOrders=true) (hT:TabOk P T):∀ (n:Nat) (c:VCode),EI P T (Ll T n) c:=by
 intro n;induction n using Nat.strongRecOn with
 |ind n oq =>
  have cu:Sd P (Ll T n):=by
   cases n with
   |zero=>intro A R G hG ys c ro et env h k rs U Q hY hs hE he hk;exact(hG.fail he).elim
   |succ n=>intro A R G hG ys c ro et env h k rs U Q hY hs hE he hk;exact oq n (Nat.lt_succ_self _) c R G hG ys ro et env h k rs U Q hY hs hE he hk
  refine Eb hm hT cu λb d_=>?_;intro A R G hG ys ro et env h k rs U Q hY hs hE he hk;have mM:∀ j,j<=n->EI P T (Ll T j) b:=λj hj=>by
   rcases zl j n with h'|h'
   .exact oq j h' b
   .obtain rfl:j=n:=by omega
    exact d_
  simp only[vwp];refine⟨List.range (List.length env),λj vs σ1=>j<=n/\∃ jB h1 fc,h.n<=h1.n/\(∀ i,i<h.n->fc i=rs i)/\CSim fc h1 σ1/\FRel jB vs/\List.length vs=List.length env/\G (Ed T (Ll T j) R ys (.loop b) ro jB h1 k),n,?_,?_⟩
  .rw[HX _ _ rfl];exact⟨zd _,et,h,rs,zd _,λ_ _=>rfl,hs,hE,rfl,he⟩
  .rintro j vs σ1 ⟨hj,jB,h1,fc,g1,g2,g3,gE,g4,g5⟩;rw[EG _ _ g4];refine mM j hj R G hG ys ro jB vs h1 _ fc σ1 _ (hY.mono g1 g2) g3 gE g5 ?_;intro e df h' bn U' ai hn hr a_ bM hl hg;cases e with
   |normal =>
    cases j with
    |zero=>exact(hG.fail hg).elim
    |succ j =>
     refine⟨j,Nat.lt_succ_self _,by omega,df,h',bn,zN g1 hn,λi hi=>(hr i (by omega)).trans (g2 i hi),a_,?_,?_,?_⟩
     .rw[HX _ _ (hl.trans g4)];exact bM
     .rw[HX _ _ (hl.trans g4)];exact hl.trans g4
     .exact hg
   |_=>exact hk _ df h' bn U' ai (zN g1 hn) (λi hi=>(hr i (by omega)).trans (g2 i hi)) a_ bM (hl.trans g4) hg
theorem FX (hm:P.follows .mixedOrders=true) (hT:TabOk P T) (n:Nat):Sd P (Ll T n):=by
 cases n with
 |zero=>intro A R G hG ys c ro et env h k rs U Q hY hs hE he hk;exact(hG.fail he).elim
 |succ n=>intro A R G hG ys c ro et env h k rs U Q hY hs hE he hk;exact Q0x hm hT n c R G hG ys ro et env h k rs U Q hY hs hE he hk
theorem HRel.forget {ρ:Plc}{U:Heap}{w:World}(hH:HRel ρ U w):HRel (λ_=>none) Heap.empty w :=
 ⟨⟨λi b h=>(by cases h),λ_ _=>rfl,λi p h=>(by cases h),λi j p q b _ h=>(by cases h)⟩,λg cs hg=>⟨(hH.tab g cs hg).1,λ⟨_,_,_,h,_⟩=>by cases h⟩⟩
theorem EJ {f:FuncId}{args:List Value}(ha:args.all Zd=true) {v:Value}(hv:Q00 v=true) (he:Xz P f) (h0:VCallsTo P f args Heap.empty (λu _=>u=v)) {U:Heap}{K:Value->Heap->Prop}(hK:K v U):VCalled P f args U K:=by
 refine VCallsTo.called he ?_;intro ρ w aw hH hL;refine (h0 (λ_=>none) w aw hH.forget ?_).mono ?_
 .refine⟨hL.1,λi a c jb hc=>?_⟩;have hp:=zh.1 ha a (x4 jb);have:=Ki hp (hL.2 i a c jb hc);subst this;exact WN hp
 .rintro e w' ⟨c,rfl,u,ρ',U',rfl,dR,fO,hE⟩;refine⟨c,rfl,u,ρ,U,hK,?_,?_,?_⟩
  .have:c=u:=Q58 hv dR;subst this;exact Q2n hv
  .exact hH.world hE.size (λi p hp=>hE.keep _ (hH.lt i p hp) (λ⟨_,_,_,h,_⟩=>by cases h)) λg cs hg=>hE.keep _ (hH.tab.lt hg) (λ⟨_,_,_,h,_⟩=>by cases h)
  .exact⟨hE.os,hE.tape,hE.output,hE.size,λB hB _=>hE.keep B hB (λ⟨_,_,_,h,_⟩=>by cases h),λ_ _ h=>h,zd _,λ_ _ _ h=>h⟩
theorem Q5m (hm:P.follows .mixedOrders=true) (hT:TabOk P T) (n:Nat) {f:FuncId}{vc:VCode}{rl:List VResult}{nt:Nat}(hF:Fun P f vc rl nt) (args:List Value) (ha:args.all Zd=true) (v:Value) (hv:Q00 v=true) (p:Value->Bool) (hp:∀ u,p u=true->u=v)
  (ec:Nat.ble (ET.of args nt).m 1000000=true) (he:Ll T n UX [] vc none (ET.of args nt) CH.empty (Q5x false rl λv _=>p v)=true) {U:Heap}{K:Value->Heap->Prop}(hK:K v U):VCalled P f args U K:=by
 refine EJ ha hv hF.enterable ?_ hK;refine hF.callsTo hm RR ?_
 exact FX hm hT n UX (·=true) IQ [] vc none _ _ CH.empty _ (λ_=>([],default)) Heap.empty _ (λi c h=>by cases h) ⟨rfl,by decide,λi=>rfl⟩ (ET.q1p (zx ec)) he
  (Da (R:=UX) IQ λv' h' bn U' _ _ _ hg=>hp v' hg)
end
end Go.V
namespace Go.V
open Go
def Q66 (P:Program) (f:FuncId):Option FEnt->Prop
 |none=>True
 |some (.code vc rs nt)=>Fun P f vc rs nt
 |some (.codeJ vc rs nt)=>Fun P f vc rs nt
 |some (.codeM vc rs nt ms)=>Fun P f vc rs nt/\∀ m∈ms,Q1n P f m
 |some .same=>∀ (v:Value) (U:Heap) (K:Value->Heap->Prop),K v U->VCalled P f [v] U K
def EntsOk (P:Program):Nat->List (Option FEnt)->Prop
 |_,[]=>True
 |i,e::l=>Q66 P i e/\EntsOk P (i+1) l
theorem EntsOk.get {P:Program}:∀ {l:List (Option FEnt)}{i j:Nat}{e:FEnt},EntsOk P i l->l[j]?=some (some e)->Q66 P (i+j) (some e)
 |[],_,_,_,_,h=>by simp at h
 |x::l,i,0,e,h,hj=>by simp at hj;subst hj;exact h.1
 |x::l,i,j+1,e,h,hj=>by have:=EntsOk.get (l:=l) (i:=i+1) (j:=j) h.2 (by simpa using hj);rw[zw,xT 1 j] at this;exact this
theorem Q49 {P:Program}{l:List (Option FEnt)}(h:EntsOk P 0 l):TabOk P (λf=>(l[f]?).join):=by
 have key:∀ f e,(l[f]?).join=some e->Q66 P f (some e):=λf e he=>by
  have:=EntsOk.get (j:=f) (e:=e) h (by
   cases hl:l[f]? with
   |none=>rw[hl] at he;cases he
   |some x=>rw[hl] at he;simp at he;rw[he])
  simpa using this
 exact⟨λf vc rs nt he=>key f _ he,λf vc rs nt he=>key f _ he,λf vc rs nt ms he=>key f _ he,λf he=>key f _ he⟩
theorem Q5i {P:Program}{f:FuncId}{fn:Func}{e:Array Value->Sem Value}(hf:P.funcs[f]?=some fn) (h1:(fn.name=="runtime.NumGoroutine")=false) (h2:fn.body.isNone=true) (h3:Extern.findNext fn=none) (h4:Extern.find fn=some e) (h5:∀ (c:Value) w,(e #[c]).run P w=.ok c w)
  (v:Value) (U:Heap) (K:Value->Heap->Prop) (hK:K v U):VCalled P f [v] U K:=by
 intro ρ w aw hH hL;obtain⟨c,hc⟩:∃ c,aw=#[c]:=by
  have hl:=hL.1
  match aw,hl with
  |⟨[c]⟩,_=>exact⟨c,rfl⟩
 subst hc;refine .inr ⟨c,⟨v,ρ,U,hK,hL.2 0 v c rfl rfl,hH,Ext.refl _ _ _⟩,λw' _=>?_⟩;have fG:fn.body=none:=by simpa using h2
 have iV:¬ fn.name="runtime.NumGoroutine":=by simpa using h1
 simp[callFunc,hf,iV,fG,h3,h4,h5]
def isTrue:Value->Bool
 |.bool true=>true
 |_=>false
theorem Q3h {v:Value}(h:isTrue v=true):v=.bool true:=by
 unfold isTrue at h;split at h
 .rfl
 .cases h
theorem Al {P:Program}(hm:P.follows .mixedOrders=true) {T:Tab}(hT:TabOk P T) (n:Nat) {f:FuncId}{vc:VCode}{rl:List VResult}{nt:Nat}(hF:Fun P f vc rl nt) (ec:Nat.ble (ET.of [] nt).m 1000000=true)
  (he:Ll T n UX [] vc none (ET.of [] nt) CH.empty (Q5x false rl λv _=>isTrue v)=true) {U:Heap}{K:Value->Heap->Prop}(hK:K (.bool true) U):VCalled P f [] U K :=
 Q5m hm hT n hF [] rfl (.bool true) rfl isTrue (λ_ h=>Q3h h) ec he hK
end Go.V