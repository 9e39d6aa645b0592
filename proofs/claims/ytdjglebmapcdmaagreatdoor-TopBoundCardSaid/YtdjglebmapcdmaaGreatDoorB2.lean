/- A framework for walks, contracts of functions, and their proofs: part 2. -/
import Derived.RangeFuncLeaves
import Derived.RangeFuncCalls
import Derived.OrdersIn
import Derived.TacticsIn
import Derived.Sort.LoopGhostIn
import Derived.Deep.LoopGhost
import Derived.Test.YtdjglebmapcdmaaGreatDoorProg
import Derived.Test.YtdjglebmapcdmaaGreatDoorB1
noncomputable section
namespace Go.V
open Go
section
variable {P:Program}{S:VSpecs}{B:Nat}
def FF:Option Nat->Fence
 |none=>Fence.wide
 |some l=>Fence.wide.inRound l
theorem Q76 (ro:Option Nat) (f:FuncId):(FF ro).fn f:=by cases ro<;>trivial
theorem IN (ro:Option Nat):(FF ro).depth=none:=by cases ro<;>rfl
theorem Z1r (ro:Option Nat):(FF ro).round=ro:=by cases ro<;>rfl
theorem Q4m {ro:Option Nat}{n:Nat}{f:FuncId}{args:Array Value}{w:World}{R:Ending->World->Prop}(h:Calls P f args w R):CallsIn (FF ro) n P f args w R:=by
 cases ro with
 |none=>exact callsIn_wide.2 h
 |some l=>exact CallsIn.inRound l (callsIn_wide.2 h)
theorem Q37 {ro:Option Nat}{n m:Nat}{l:Nat}{f:FuncId}{tmps:Array Value}{eT body:Code}{w:World}{R:Ending->World->Prop}(h:RoundIn Fence.wide m P l f tmps eT body w R):RoundIn (FF ro) n P l f tmps eT body w R:=by refine⟨Q76 _ _,λc cs _=>?_⟩;obtain⟨e,w',r,s⟩:=h.2 c cs (room_wide _);refine⟨e,w',r,?_⟩;cases ro<;>exact s
def Got (ρ:Plc) (U:Heap) (w:World) (R:Value->Heap->Prop) (c:Value) (w':World):Prop :=
 ∃ v ρ' U',R v U'/\VRel ρ' U'.n v c/\HRel ρ' U' w'/\Ext ρ U w ρ' U' w'
def VCallsTo (P:Program) (f:FuncId) (args:List Value) (U:Heap) (R:Value->Heap->Prop):Prop :=
 ∀ ρ w (aG:Array Value),HRel ρ U w->LRel ρ U.n args aG.toList->Calls P f aG w λe w'=>∃ c,e=.returned c/\Got ρ U w R c w'
def VCalled (P:Program) (f:FuncId) (args:List Value) (U:Heap) (R:Value->Heap->Prop):Prop :=
 ∀ ρ w (aG:Array Value),HRel ρ U w->LRel ρ U.n args aG.toList ->
  ((∀ w,(callFunc f aG).run P w=.ok (.enter f aG) w)/\Calls P f aG w λe w'=>∃ c,e=.returned c/\Got ρ U w R c w') \/
  (∃ c,Got ρ U w R c w/\∀ w',Like ρ w w'->(callFunc f aG).run P w'=.ok (.value c) w')
def IL (P:Program) (i:Nat) (args:List Value) (U:Heap) (R:Value->Heap->Prop):Prop :=
 ∀ ρ w (aG:Array Value),HRel ρ U w->LRel ρ U.n args aG.toList ->
  ∃ p,ρ i=some p/\∃ fn tmps eT body,(Instr.yield p.blk aG).run P w=.ok (.round p.blk fn tmps eT body) w /\
   RoundIn Fence.wide 0 P p.blk fn tmps eT body w λe w'=>∃ c,e=.returned c/\Got ρ U w R c w'
def Yq (P:Program) (f:FuncId):Prop:=∃ fn,P.funcs[f]?=some fn/\fn.body.isSome=true/\(fn.name=="runtime.NumGoroutine")=false
def Z6z (P:Program) (f:FuncId) (s:FT):Prop:=∀ args U K,s args U K->VCalled P f args U K
def Hj (P:Program) (i:Nat) (s:FT):Prop:=∀ args U K,s args U K->IL P i args U K
def Z6u (P:Program) (f:FuncId) (T:Nat->FT->FT):Prop:=Yq P f/\∀ i Y,Hj P i Y->∀ args U K,T i Y args U K->VCallsTo P f args U K
structure OkSpecs (P:Program) (S:VSpecs):Prop where
 fn:∀ f s,S.fn f=some s->Z6z P f s
 yl:∀ i s,S.yl i=some s->Hj P i s
 it:∀ f T,S.it f=some T->Z6u P f T
theorem DS {f:FuncId}(h:Yq P f) (args:Array Value) (w:World):(callFunc f args).run P w=.ok (.enter f args) w:=by
 obtain⟨fn,h1,h2,h3⟩:=h;have h4:¬ fn.body=none:=λe=>by rw[e] at h2;cases h2
 have h5:¬ fn.name="runtime.NumGoroutine":=λe=>by rw[e] at h3;simp at h3
 simp[callFunc,h1,h4,h5]
theorem VCallsTo.called {f:FuncId}{args:List Value}{U:Heap}{R:Value->Heap->Prop}(he:Yq P f) (h:VCallsTo P f args U R):VCalled P f args U R :=
 fun ρ w aG hH hL=>.inl ⟨λw=>DS he aG w,h ρ w aG hH hL⟩
theorem Got.mono {ρ:Plc}{U:Heap}{w:World}{R R':Value->Heap->Prop}{c:Value}{w':World}(h:Got ρ U w R c w') (hr:∀ v U',R v U'->R' v U'):Got ρ U w R' c w' :=
 let ⟨v,ρ',U',h1,h2⟩:=h;⟨v,ρ',U',hr _ _ h1,h2⟩
theorem VCallsTo.mono {f:FuncId}{args:List Value}{U:Heap}{R R':Value->Heap->Prop}(h:VCallsTo P f args U R) (hr:∀ v U',R v U'->R' v U'):VCallsTo P f args U R' :=
 fun ρ w aG hH hL=>(h ρ w aG hH hL).mono λ_ _ ⟨c,he,hg⟩=>⟨c,he,hg.mono hr⟩
theorem VN {ρ:Plc}{n:Nat}{env:Env}{a:Act}(h:LRel ρ n env a.tmps.toList) {v c:Value}(hv:VRel ρ n v c) (d:Option Nat):LRel ρ n (Wg env d v) (a.put d c).tmps.toList:=by
 cases d with
 |none=>exact h
 |some d=>simp only[Wg,Act.put,Array.toList_setIfInBounds];exact h.set d hv
theorem UY (env:Env) (d:Option Nat) (v:Value):List.length (Wg env d v)=List.length env:=by cases d<;>simp[Wg]
theorem W9 (a:Act) (d:Option Nat) (c:Value):(a.put d c).defers=a.defers:=by cases d<;>rfl
theorem T_ {ρ:Plc}{n:Nat}{env:Env}{a:Act}{ops:Array Oper}{o:Oper}{vo:VOper}(hc:JH P ops o=some vo) (hL:LRel ρ n env a.tmps.toList) {b:Bool}(h:JV env vo.guard=some b) :
  Region.wanted o (yielded ops a.tmps)=b/\vo.dst=o.dst/\N2 P o.op=vo.op:=by
 unfold JH at hc;simp only[zw] at hc;cases hg:o.guard with
 |none =>simp[hg] at hc;subst hc;simp[JV] at h;subst h;simp[Region.wanted,hg]
 |some jw =>
  obtain⟨j,want⟩:=jw;simp[hg] at hc;cases hj:ops[j]? with
  |none=>simp[hj] at hc
  |some oj =>
   cases hd:oj.dst with
   |none=>simp[hj,hd] at hc
   |some d =>
    simp[hj,hd] at hc;subst hc;refine⟨?_,rfl,rfl⟩;simp only[JV] at h;simp only[Region.wanted,hg,yielded,hj,x8,hd];have hlen:List.length env=a.tmps.size:=by have:=hL.1;omega
    rcases zu d (List.length env) with aj|b8
    .have dg:d<a.tmps.size:=by rw[<-hlen];exact aj
     have hr:=hL.2 d env[d] a.tmps[d] (z3 aj) (by simp[dg]);have he:env.getD d undef=env[d]:=by simp[List.getD,aj]
     rw[he] at h;simp only[xE dg];split at h
     .rename_i b' heq;rw[heq] at hr;rw[hr.q1a];simp at h;simp[<-h]
     .rename_i vs heq;rw[heq] at hr;obtain⟨ds,hds,_⟩:=hr.q1m;simp_all
     .cases h
    .have he:env.getD d undef=undef:=by simp_all
     rw[he] at h;have:a.tmps[d]?=none:=(by simp_all);simp only[this];simp[undef] at h;subst h;simp
theorem Z19 {o:Oper}{vo:VOp}(hc:MQ P o.op=some vo) {ρ:Plc}{U:Heap}{env:Env}{a:Act}(hL:LRel ρ U.n env a.tmps.toList) {K:Value->Heap->Prop}
  (aJ:(∃ f bN,vo=.callF f bN)\/(∃ f bN,vo=.callV f bN)) {σ0:Heap}(h:vop S vo env σ0 K) :
  (∃ f args aG,vcall S f args σ0 K/\LRel ρ U.n args aG.toList/\∀ w,(execOp a.eval o).run P w=(callFunc f aG).run P w) \/
  (∃ i r args aG,Q5g S i args σ0 K/\VRel ρ U.n (.func (.yield i) #[] #[]) (.func (.yield r) #[] #[])/\LRel ρ U.n args aG.toList/\∀ w,(execOp a.eval o).run P w=(Instr.yield r aG).run P w):=by
 have bp:=hc;cases eM:MQ P o.op with
 |none=>rw[eM] at hc;cases hc
 |some ta =>
  clear eM hc ta;obtain⟨dst,op,ty,pos,after,guard⟩:=o;simp only at bp;unfold MQ at bp;split at bp
  .cases bp
  rename_i av;simp only[z_,zH] at av;cases op
  case call c =>
   simp only[Op.operands] at av bp;split at bp
   .rename_i f aN;simp at bp;subst bp;simp only[vop] at h;have az:(c.args.toList).all W4=true:=by
     simp only[Call.operands,aN,Array.toList_append,List.all_append,z1] at av;exact av.2
    refine .inl ⟨f,_,c.args.map a.eval,h,by have:=II (λx hx=>YM hL hx) az;simpa using this,λw=>?_⟩;simp[execOp,resolve,aN,Act.eval,Deferred.ofValue,invoke]
   .rename_i fo aK aN;simp at bp;subst bp;simp only[vop] at h;simp only[Call.operands,aN,Array.toList_append,List.all_append,z1] at av;have hf:=YM hL (x:=fo) (by simpa using av.1);have has:=II (λx hx=>YM hL hx) av.2;split at h
    .rename_i g first cap heq
     rw[heq] at hf;cases jC:a.eval fo with
     |func fn gs ds =>
      rw[jC] at hf;cases hf with
      |func _ _ _ _ _ h1 h2 h3 h4 =>
       refine .inl ⟨g,_,gs++c.args.map a.eval++ds,h,?_,λw=>?_⟩
       .have ep:=LRel.of_array h1 h3;have dy:=LRel.of_array h2 h4;have:=(ep.append has).append dy;simpa using this
       .simp[execOp,resolve,aN,jC,Deferred.ofValue,invoke]
     |_=>rw[jC] at hf;cases hf
    .rename_i i first cap heq
     rw[heq] at hf;have hinv:∀ c,VRel ρ U.n (.func (.yield i) first cap) c->∃ r,c=.func (.yield r) #[] #[]/\VRel ρ U.n (.func (.yield i) #[] #[]) (.func (.yield r) #[] #[]):=by
      intro c h;cases h with
      |yield _ r hi hr=>exact⟨r,rfl,.yield i r hi hr⟩
     obtain⟨r,jC,hv⟩:=hinv _ hf;refine .inr ⟨i,r,_,c.args.map a.eval,h,hv,by simpa using has,λw=>?_⟩;simp[execOp,resolve,aN,jC,Deferred.ofValue,invoke]
    .cases h
   all_goals
    repeat' first
     |(cases bp;done)
     |(simp at bp;subst bp;rcases aJ with⟨f,bN,h⟩|⟨f,bN,h⟩<;>cases h;done)
     |split at bp
   grind [Option.bind_eq_bind,Option.bind_eq_some_iff]
  all_goals simp only[Op.operands] at av bp
  all_goals
   repeat' first
    |(cases bp;done)
    |(simp at bp;subst bp;rcases aJ with⟨f,bN,h⟩|⟨f,bN,h⟩<;>cases h;done)
    |split at bp
  all_goals simp only[zw,zR,reduceCtorEq,and_false,exists_false] at bp
  all_goals first
   |(obtain⟨_,_,bp⟩:=bp;simp at bp;subst bp;rcases aJ with⟨f,bN,h⟩|⟨f,bN,h⟩<;>cases h;done)
   |(obtain⟨_,_,_,_,bp⟩:=bp;simp at bp;subst bp;rcases aJ with⟨f,bN,h⟩|⟨f,bN,h⟩<;>cases h;done)
   |(obtain⟨_,_,_,_,_,_,bp⟩:=bp;simp at bp;subst bp;rcases aJ with⟨f,bN,h⟩|⟨f,bN,h⟩<;>cases h;done)
   |(obtain⟨d,_,bp⟩:=bp;cases d<;>simp at bp<;>subst bp<;>rcases aJ with⟨f,bN,h⟩|⟨f,bN,h⟩<;>cases h;done)
   |(obtain⟨_,_,_,_,bp⟩:=bp;split at bp<;>simp at bp;subst bp;rcases aJ with⟨f,bN,h⟩|⟨f,bN,h⟩<;>cases h;done)
   |(obtain⟨_,_,bp⟩:=bp;split at bp<;>simp at bp;subst bp;rcases aJ with⟨f,bN,h⟩|⟨f,bN,h⟩<;>cases h;done)
theorem BC {o:Op}{vo:VOp}(h:N2 P o=vo) (hv:vo≠.bad):MQ P o=some vo\/∃ x,FI P o=some x/\vo=.ext x:=by
 unfold N2 at h
 grind
theorem Q5t {o:Op}{x:XOp}(h:MQ P o=some (.ext x)):False:=by
 unfold MQ at h
 repeat' first
  |contradiction
  |(cases h;done)
  |(simp at h;done)
  |(rw[zw,zR] at h;obtain⟨_,_,h⟩:=h)
  |split at h
theorem O9 {o:Op}{vo:VOp}(h:N2 P o=vo) (hv:vo≠.bad) (c:Call):o≠.defer c:=by
 rintro rfl;rcases BC h hv with h|⟨x,h,_⟩
 .unfold MQ at h;split at h<;>simp at h
 .unfold FI at h;split at h<;>simp at h
theorem Q7i {o:Oper}{x:Operand}(hc:FI P o.op=some (.nextMap x)) {ρ:Plc}{U:Heap}{w:World}{env:Env}{ev:Operand->Value}(hH:HRel ρ U w) (hE:∀ x,W4 x=true->VRel ρ U.n (Q5 env x) (ev x))
  {K:Value->Heap->Prop}(h:Q9g (Q5 env x) U K):∃ c w',(execOp ev o).run P w=.ok (.value c) w'/\Got ρ U w K c w':=by
 obtain⟨dst,op,ty,pos,after,guard⟩:=o;simp only at hc;unfold FI at hc;split at hc
 .cases hc
 rename_i av;simp only[z_,zH] at av;have bC:op=.next x false:=by
  cases op
  case next y b=>cases b<;>simp at hc;subst hc;rfl
  all_goals
   simp only at hc
   repeat' first
    |contradiction
    |(obtain⟨_,h⟩:=Q5r hc;cases h;done)
    |(cases hc;done)
    |(simp at hc;done)
    |(rw[zw,zR] at hc;obtain⟨_,_,hc⟩:=hc)
    |split at hc
 subst bC;clear hc;simp[Op.operands] at av;have hx:=hE x av;unfold Q9g at h;split at h
 .rename_i i bg;rw[bg] at hx;split at h
  .rename_i m since seen last hb;split at h
   .rename_i es clock wr aH;obtain⟨h1,hall,h2,h3⟩:=h;obtain⟨p,hp,⟨_,eA⟩,O,hO,rm,rfl,ox⟩:=hH.live i _ hb;obtain⟨q,entries,gQ,cz,aI,aL⟩:=WB hH aH ox;simp at gQ;subst gQ;obtain⟨_,_,bZ⟩:=hx.q0u hp;rw[eA,zN] at bZ;have hg1:(getObj p.blk).run P w=.ok (.mapIter (some q.blk) since seen.toArray last) w:=(by grind [QN]);have rj:(getObj q.blk).run P w=.ok (.map entries clock) w:=(by grind [QN]);let left:=entries.filter λe=>!seen.toArray.contains e.born;let a8:=left.filter (·.born<since);let new:=left.filter (·.born>=since);let bU:Array (Option MapEntry):=(if a8.isEmpty then #[none] else #[])++(a8++new).map some;have br:0<bU.size:=by
     by_cases ho:a8.isEmpty=true
     .grind
     .have:a8.size≠0:=(by simp_all)
      grind
    obtain⟨k,w1,hk,dB,ry⟩:∃ k w1,k<bU.size/\(choose (.mapNext bU.size)).run P w=.ok k w1/\(w1=w\/w1=w.drew):=by
     rw[run_choose_drew];by_cases hf:(Question.mapNext bU.size).forced=true
     .exact⟨0,w,br,by rw[z2 hf],.inl rfl⟩
     .refine⟨_,w.drew,?_,by rw[z0 hf],.inr rfl⟩;exact x6 _ br
    have iK:HRel ρ U w1:=by rcases ry with rfl|rfl;exact hH;exact hH.drew
    have gE:Ext ρ U w ρ U w1:=by grind [Ext.refl,Ext.drew]
    have tc:w1.heap[p.blk]?=some (.mapIter (some q.blk) since seen.toArray last):=by rcases ry with rfl|rfl<;>exact hO
    have ah:¬ ((!seen.toArray.isEmpty&&!entries.isEmpty&&entries.all (λe=>decide (e.born>=last)))=true):=by
     intro hh;simp only[z1] at hh;obtain⟨⟨h4,h5⟩,h6⟩:=hh;simp only[zp] at h1;rcases h1 with (h1|h1)|h1
     .simp_all
     .rw[List.isEmpty_iff] at h1;subst h1;have:entries=#[]:=by have:=aL.1;simpa using this
      subst this;simp at h5
     .obtain⟨kv,dO,aj⟩:=xy.1 h1;obtain⟨j,hj⟩:=zZ.1 dO;have cH:j<entries.toList.length:=by rw[aL.1];grind
      have he:=aL.2 j entries.toList[j] kv (z3 cH) hj;have:=Array.all_eq_true'.1 h6 entries.toList[j] (by rw[<-Array.mem_toList_iff];exact zh cH);have h7:=he.2.1
      grind
    have aZ:∀ r,(match bU[k]? with
      |some (some e)=>(do setObj p.blk (.mapIter (some q.blk) since (seen.toArray.push e.born) clock);pure (Value.tuple #[.bool true,e.key,e.val]):Sem Value)
      |some none=>pure (.tuple #[.bool false])
      |none=>stuck "Next: no such candidate").run P w1=r->(Instr.next (ev x) false ty).run P w=r:=by
     intro r hr;rw[<-hr];simp only[Instr.next,bZ,zl,hg1,rj,zf];rw[z0 ah];simp only[zl];change ((choose (Question.mapNext bU.size)).run P w).andThen _=_;rw[dB];rfl
    have hval:∀ c w',(Instr.next (ev x) false ty).run P w=.ok c w'->(execOp ev ⟨dst,.next x false,ty,pos,after,guard⟩).run P w=.ok (.value c) w':=λc w' h=>by simp[execOp,h]
    have eQ:bU[k]?=some bU[k]:=xE hk;cases hx:bU[k] with
    |none =>
     rw[hx] at eQ;have aW:none∈bU:=hx▸Array.getElem_mem hk;have hold:a8.isEmpty=true:=by
      grind
     refine⟨_,w1,hval _ _ (aZ _ (by rw[eQ];rfl)),_,ρ,U,h2 ?_,VRel.q0k (LRel.cons (.bool _) (LRel.nil _ _)),iK,gE⟩;refine zg.2 λkv dO=>?_;obtain⟨j,hj⟩:=zZ.1 dO;have cH:j<entries.toList.length:=by rw[aL.1];grind
     have he:=aL.2 j entries.toList[j] kv (z3 cH) hj;cases td:seen.contains kv.2.2 with
     |true=>rfl
     |false =>
      simp only[Bool.false_or,ze];rcases zu kv.2.2 since with aj|b8
      .exfalso;have:entries.toList[j]∈a8:=by
        simp only[a8,left,Array.mem_filter,ze];refine⟨⟨by simp_all,?_⟩,by rw[he.2.1];exact aj⟩;rw[he.2.1];simpa using td
       simp_all
      .exact b8
    |some e =>
     rw[hx] at eQ;have aW:some e∈bU:=hx▸Array.getElem_mem hk;have fX:e∈left:=by
      have h4:e∈a8++new:=by simp only[bU,Array.mem_append,Array.mem_map] at aW;simp_all
      grind
     obtain⟨hel,lS⟩:=Array.mem_filter.1 fX;rw[<-Array.mem_toList_iff] at hel;obtain⟨j,hj⟩:=zZ.1 hel;have cH:j<es.length:=by rw[<-aL.1];grind
     have he:=aL.2 j e es[j] hj (z3 cH);have iQ:=h3 es[j] (zh cH) (by rw[<-he.2.1];simpa using lS);obtain⟨k1,k2⟩:=iK.setObj (o':=.iter m since (seen++[es[j].2.2]) clock) (O':=.mapIter (some q.blk) since (seen.toArray.push e.born) clock) hp hb ⟨q.blk,by rw[he.2.1];simp,ox⟩;have aS:VRel ρ U.n es[j].1 e.key:=by rw[he.1];exact ME (by grind)
     refine⟨_,_,hval _ _ (aZ _ (by
      rw[eQ];simp only[zl,Z5 tc (λ_ _ _ e=>by cases e),zf,xa])),_,ρ,_,iQ,VRel.q0k (LRel.cons (.bool _) (LRel.cons aS (LRel.cons he.2.2 (LRel.nil _ _)))),k1,gE.trans k2⟩
   .exact h.elim
  .exact h.elim
 .exact h.elim
theorem Q9j (hS:OkSpecs P S) {f:FuncId}{args:List Value}{U:Heap}{K:Value->Heap->Prop}(h:vcall S f args U K):VCalled P f args U K:=by
 unfold vcall at h;split at h
 .rename_i s hs;exact hS.fn f s hs _ _ _ h
 .exact h.elim
theorem Q79 (hS:OkSpecs P S) {i:Nat}{args:List Value}{U:Heap}{K:Value->Heap->Prop}(h:Q5g S i args U K):IL P i args U K:=by
 unfold Q5g at h;split at h
 .rename_i s hs;exact hS.yl i s hs _ _ _ h
 .exact h.elim
theorem Q8t {o:Oper}{vo:VOp}(hc:N2 P o.op=vo) {ρ:Plc}{U:Heap}{w:World}{env:Env}{a:Act}(hH:HRel ρ U w) (hL:LRel ρ U.n env a.tmps.toList) {v:Value}{U':Heap}
  (h:Qc vo (Q5 env) U=some (v,U')):OI P ρ U w v U' (execOp a.eval o):=by
 cases hq:vo.quiet with
 |false=>exact(by grind [Z36,YM])
 |true =>obtain⟨rfl,c,eL,hr⟩:=Z09 hc hq hH (λx hx=>YM hL hx) h;exact⟨c,w,ρ,.inl (hr w (Like.refl ρ w)),eL,hH,Ext.refl _ _ _⟩
theorem Mn (hS:OkSpecs P S) {ro:Option Nat}{n:Nat}{o:Oper}{vo:VOp}(bC:N2 P o.op=vo) {ρ:Plc}{U:Heap}{w:World}{env:Env}{a:Act}(hH:HRel ρ U w) (hL:LRel ρ U.n env a.tmps.toList)
  {K:Value->Heap->Prop}(h:vop S vo env U K) {next:Act->World->Prop}{Q':Exit->Act->World->Prop}(hn:∀ c w',Got ρ U w K c w'->next (a.put o.dst c) w'):o.wpIn (FF ro) n P a w next Q':=by
 refine⟨λf _=>Q76 _ _,?_⟩;have c_:vo≠.bad:=by rintro rfl;exact h.elim
 rw[Oper.semAt_eq _ _ _ (O9 bC c_)];by_cases aJ:(∃ f bN,vo=.callF f bN)\/(∃ f bN,vo=.callV f bN)
 .have hc:MQ P o.op=some vo:=by
   grind [BC]
  rcases Z19 (S:=S) hc hL aJ h with⟨f,args,aG,hv,mu,hr⟩|⟨i,r,args,aG,hv,b9,mu,hr⟩
  .rcases Q9j hS hv ρ w aG hH mu with⟨h1,h2⟩|⟨c,hg,h2⟩
   .rw[hr,h1];exact⟨(by grind [IN]),(Q4m h2).mono (by simp_all)⟩
   .rw[hr,h2 w (Like.refl ρ w)];exact hn c w hg
  .obtain⟨p,hp,fn,tmps,eT,body,h1,h2⟩:=Q79 hS hv ρ w aG hH mu;have tf:r=p.blk:=by
    cases b9 with
    |yield _ _ _ hh=>exact hh p hp
   rw[hr,tf,h1];exact⟨(by grind [IN]),(Q37 h2).mono (by simp_all)⟩
 .by_cases gS:∃ x,vo=.ext (.nextMap x)
  .obtain⟨x,rfl⟩:=gS;have hc:FI P o.op=some (.nextMap x):=by
    rcases BC bC c_ with hc|⟨y,hy,hx⟩
    .have:=Q5t hc;exact this.elim
    .cases hx;exact hy
   obtain⟨c,w',hr,hg⟩:=Q7i hc hH (λx hx=>YM hL hx) h;rw[hr];exact hn c w' hg
  .have fF:∃ v U',Qc vo (Q5 env) U=some (v,U')/\K v U':=by
    unfold vop at h;split at h
    .simp_all
    .simp_all
    .exact absurd ⟨_,rfl⟩ gS
    .cases dC:Qc vo (Q5 env) U with
     |none=>rw[dC] at h;exact h.elim
     |some p=>rw[dC] at h;exact⟨p.1,p.2,rfl,h⟩
   obtain⟨v,U',dC,hK⟩:=fF;obtain⟨c,w',ρ',aZ,eL,gm,hE⟩:=Q8t bC hH hL dC;have hg:Got ρ U w K c w':=⟨v,ρ',U',hK,eL,gm,hE⟩;rcases aZ with aZ|⟨aZ,rfl⟩
   .rw[aZ];exact hn c w' hg
   .rw[aZ];exact hn undef w' hg
def Mks (B:Nat) (ds:List Deferred) (w:World):Prop:=B<=w.heap.size/\∃ Ds:List Nat,ds=Ds.map (λD=>⟨.collected D,#[]⟩)/\Ds.Nodup/\∀ D∈Ds,B<=D/\w.heap[D]?=some (.deferred (some []))
theorem Mks.nil {w:World}(h:B<=w.heap.size):Mks B [] w:=⟨h,[],rfl,List.nodup_nil,λ_ h=>by cases h⟩
theorem Mks.ext {ds:List Deferred}{ρ ρ':Plc}{U U':Heap}{w w':World}(h:Mks B ds w) (hH:HRel ρ U w) (hE:Ext ρ U w ρ' U' w'):Mks B ds w':=by
 obtain⟨h0,Ds,h1,h2,h3⟩:=h;refine⟨xu h0 hE.size,Ds,h1,h2,λD hD=>⟨(h3 D hD).1,?_⟩⟩;have hb:=(h3 D hD).2;have aj:D<w.heap.size:=by
  grind
 rw[hE.keep D aj (λ⟨i,p,b,hp,_,_,pI⟩=>hH.q0m hb i p hp pI)];exact hb
def Lm (B m:Nat) (ρ:Plc) (U:Heap) (w:World) (K:Env->Heap->Prop) (a':Act) (w':World):Prop :=
 ∃ al ρ' U',K al U'/\List.length al=m/\HRel ρ' U' w'/\LRel ρ' U'.n al a'.tmps.toList/\Mks B a'.defers w'/\Ext ρ U w ρ' U' w'
theorem Q5y (hS:OkSpecs P S) {ro:Option Nat}{n:Nat}(ops:Array Oper) (Q:Exit->Act->World->Prop):∀ (l:List Oper) (lv:List VOper),l.mapM (JH P ops)=some lv ->
  ∀ (env:Env) (U:Heap) (K:Env->Heap->Prop) (ρ:Plc) (w:World) (a:Act),F7 S lv env U K->HRel ρ U w->LRel ρ U.n env a.tmps.toList->Mks B a.defers w ->
  (∀ a' w',Lm B (List.length env) ρ U w K a' w'->Q .normal a' w')->wpListIn (FF ro) n P ops Q l a w:=by
 intro l;induction l with
 |nil =>intro lv bH env U K ρ w a h hH hL hd hQ;simp at bH;subst bH;exact hQ a w ⟨env,ρ,U,h,rfl,hH,hL,hd,Ext.refl _ _ _⟩
 |cons o l ih =>
  intro lv bH env U K ρ w a h hH hL hd hQ;rw[x4] at bH;cases bp:JH P ops o with
  |none=>simp[bp] at bH
  |some vo =>
   cases fU:l.mapM (JH P ops) with
   |none=>simp[bp,fU] at bH
   |some rz =>
    simp[bp,fU] at bH;subst bH;simp only[F7] at h;cases hw:JV env vo.guard with
    |none=>rw[hw] at h;exact h.elim
    |some b =>
     rw[hw] at h;obtain⟨de,bI,bC⟩:=T_ bp hL hw;obtain⟨ht,hf⟩:=h;simp only[wpListIn];rw[de];cases b with
     |false =>rw[z0 (by simp)];exact⟨λf _=>Q76 _ _,ih rz fU (Wg env vo.dst undef) U K ρ w _ (hf rfl) hH (by rw[bI];exact VN hL Xf o.dst) (by rw[W9];exact hd) (by grind [UY])⟩
     |true =>
      rw[z2 rfl];refine Mn hS bC hH hL (ht rfl) λc w' ⟨v,ρ',U',hK,eL,gm,hE⟩=>?_
      exact ih rz fU (Wg env vo.dst v) U' K ρ' w' _ hK gm (by rw[bI];exact VN (hE.lrel hL) eL o.dst) (by rw[W9];exact hd.ext hH hE)
       (λa' oc ⟨mG,ef,aM,k1,k0,k2,k3,k4,k5⟩=>hQ a' oc ⟨mG,ef,aM,k1,by rw[k0,UY],k2,k3,k4,hE.trans k5⟩)
theorem Q06:∀ (l:List Nat) (vs:List Value) (env:Env),(Um l vs env).length=env.length:=by
 intro l;induction l with
 |nil=>intro vs env;cases vs<;>rfl
 |cons i l ih =>
  intro vs env;cases vs with
  |nil=>rfl
  |cons v vs=>simp only[Um];rw[ih];simp
theorem Q7f {ρ:Plc}{n:Nat}:∀ (l:List Nat) (env base:Env) (cs:List Value),LRel ρ n env cs->LRel ρ n base cs->LRel ρ n (Um l (Ev l env) base) cs:=by
 intro l;induction l with
 |nil=>intro env base cs _ hb;exact hb
 |cons i l ih =>
  intro env base cs he hb;simp only[Ev,zx,Um];refine ih env _ cs he ?_;refine⟨by simp[hb.1],λj v c hv hc=>?_⟩;by_cases cB:i=j
  .subst cB;rcases zu i (List.length base) with aj|b8
   .rw[List.getElem?_set_self aj] at hv;obtain rfl:=osj hv;have dg:i<List.length env:=by rw[he.1,<-hb.1];exact aj
    have:env.getD i poison=env[i]:=by simp[List.getD,dg]
    rw[this];exact he.2 i _ c (z3 dg) hc
   simp_all
  .rw[List.getElem?_set_ne cB] at hv;exact hb.2 j v c hv hc
theorem Q6m {ρ:Plc}{n:Nat}(cs:List Value) {m:Nat}(h:m=cs.length):LRel ρ n (List.replicate m poison) cs :=
 ⟨by simp[h],λi v c hv _=>by
  have:=xh hv;rw[List.mem_replicate] at this;rw[this.2];exact .poison c⟩
def RoRel (cM ro:Option Nat) (ρ:Plc) (n:Nat):Prop:=(cM=none/\ro=none)\/∃ i l,cM=some i/\ro=some l/\i<n/\∀ p,ρ i=some p->p.blk=l
theorem RoRel.ext {cM ro:Option Nat}{ρ ρ':Plc}{U U':Heap}{w w':World}(h:RoRel cM ro ρ U.n) (hE:Ext ρ U w ρ' U' w'):RoRel cM ro ρ' U'.n:=by
 rcases h with h|⟨i,l,h1,h2,h3,h4⟩
 .exact .inl h
 .exact .inr ⟨i,l,h1,h2,zQ h3 hE.n,λp hp=>h4 p (hE.pl i h3 p hp)⟩
def Sound (P:Program) (S:VSpecs) (c:Code) (vc:VCode):Prop :=
 ∀ ⦃B:Nat⦄ (cM ro:Option Nat) (n:Nat) (Q:Exit->Env->Heap->Prop) (env:Env) (U:Heap) (ρ:Plc) (w:World) (a:Act),vwp S vc cM Q env U->HRel ρ U w->LRel ρ U.n env a.tmps.toList->Mks B a.defers w->RoRel cM ro ρ U.n ->
  ∀ (Q':Exit->Act->World->Prop),(∀ e a' w',Lm B (List.length env) ρ U w (Q e) a' w'->Q' e a' w')->c.wpIn (FF ro) n P Q' a w
theorem Q9r {ρ:Plc}{n:Nat}:∀ (ps:List Nat) (vs cs:List Value) (env:Env) (tmps:Array Value),LRel ρ n env tmps.toList->LRel ρ n vs cs ->
  LRel ρ n (FK env ps vs) ((ps.zip cs).foldl (λ(tmps:Array Value) (q:Nat×Value)=>tmps.setIfInBounds q.1 q.2) tmps).toList:=by
 intro ps;induction ps with
 |nil=>intro vs cs env tmps h _;cases vs<;>exact h
 |cons p ps ih =>
  intro vs cs env tmps h hv;cases vs with
  |nil =>
   cases cs with
   |nil=>exact h
   |cons _ _=>have:=hv.1;simp at this
  |cons v vs =>
   cases cs with
   |nil=>have:=hv.1;simp at this
   |cons c cs =>simp only[FK,List.zip_cons_cons,xU];refine ih vs cs _ _ ?_ ⟨by have:=hv.1;simpa using this,λi a b ha hb=>hv.2 (i+1) a b (by simpa using ha) (by simpa using hb)⟩;rw[Array.toList_setIfInBounds];exact h.set p (hv.2 0 v c rfl rfl)
theorem WR {w:World}{l:Nat}{r:Loop}(h:w.heap[l]?=some (.loop r)):(Instr.getLoop l).run P w=.ok r w:=by simp[Instr.getLoop,QN h (λ_ _ _ e=>by cases e)]
theorem HH {ρ:Plc}{U:Heap}{w:World}(hH:HRel ρ U w) {i:Nat}{env:Env}{r:Loop}{st:LoopState}{pend:Option Code}{wr:Bool}(h:U.get i=some (.obj (.lp env r st pend) wr)) :
  ∃ p,ρ i=some p/\w.heap[p.blk]?=some (.loop {r with state:=st,pending:=pend})/\LRel ρ U.n env r.tmps.toList:=by
 obtain⟨p,hp,_,O,h1,rfl,h2⟩:=hH.live i _ h;exact⟨p,hp,h1,h2⟩
theorem Q1r {ρ:Plc}{U:Heap}{w:World}(hH:HRel ρ U w) {i:Nat}{env:Env}{r:Loop}{st:LoopState}{pend:Option Code}{p:Pl}(hp:ρ i=some p) (h:U.get i=some (.obj (.lp env r st pend) true)) (lT:LoopState) (bK:Option Code) :
  HRel ρ (U.upd i (.obj (.lp env r lT bK) true)) (CF w p.blk (.loop {r with state:=lT,pending:=bK})) /\
  Ext ρ U w ρ (U.upd i (.obj (.lp env r lT bK) true)) (CF w p.blk (.loop {r with state:=lT,pending:=bK})):=by
 obtain⟨p',bu,h1,h2⟩:=HH hH h;exact hH.setObj hp h ⟨rfl,h2⟩
theorem Q3w {eT body:Code}{va vb:VCode}(ha:Sound P S eT va) (hb:Sound P S body vb) (ps:List Nat) (env:Env) (r:Loop) (ky:r.assign=eT) (pJ:r.body=body) (kz:r.params.toList=ps) (i:Nat) :
  Hj P i (Z01 (vwp S va (some i)) (vwp S vb (some i)) ps env r i):=by
 intro args U K h ρ w aG hH hL;obtain⟨h1,h2,h3⟩:=h;obtain⟨p,hp,aI,pK⟩:=HH hH h1;refine⟨p,hp,r.fn,(r.params.zip aG).foldl (λtmps (t,a)=>tmps.setIfInBounds t a) r.tmps,r.assign,r.body,?_,?_⟩
 .have aP:aG.size=r.params.size:=by
   have h4:=hL.1
   grind
  simp[Instr.yield,WR aI,aP]
 .refine roundIn_of_wpIn (F:=Fence.wide) trivial ?_;rw[ky,pJ];refine ha (some i) (some p.blk) 0 _ _ U ρ w _ h3 hH ?_ (Mks.nil (z5 _)) (.inr ⟨i,p.blk,rfl,rfl,U.lt h1,(by simp_all)⟩) _ ?_
  .have:=Q9r ps args aG.toList env r.tmps pK hL;rw[<-kz,<-Array.toList_zip,Array.foldl_toList] at this;rw[kz] at this;exact this
  .intro e a1 w1 ⟨cu,ρ1,σ1,k1,k0,k2,k3,k4,k5⟩;cases e with
   |normal =>
    obtain⟨k6,k7⟩:=k1;obtain⟨p1,lU,jD,rA⟩:=HH k2 k6;have pL:p1=p:=by have:=k5.pl i (U.lt h1) p1 lU;simp_all
    subst pL;obtain⟨j1,j2⟩:=Q1r k2 lU k6 .busy none;refine⟨_,by simp[Instr.beginRound,WR jD,Z5 jD (λ_ _ _ e=>by cases e)];rfl,?_⟩;refine hb (some i) (some p1.blk) 0 _ _ _ ρ1 _ a1 k7 j1 k3 (k4.ext k2 j2) (.inr ⟨i,p1.blk,rfl,rfl,σ1.lt k6,(by simp_all)⟩) _ ?_;intro e2 a2 w2 ⟨dh,ρ2,σ2,m1,m0,m2,m3,m4,m5⟩;obtain⟨m6,m7⟩:=m1;obtain⟨p2,cU,dY,rB⟩:=HH m2 m6;have pL:p2=p1:=by have h8:=m5.pl i (by rw[Heap.q2d];exact σ1.lt k6) p2 cU;simp_all
    subst pL;cases e2 with
    |normal =>obtain⟨q1,q2⟩:=Q1r m2 cU m6 .ready none;refine⟨.bool true,_,?_,_,rfl,.bool true,ρ2,_,m7,.bool _,q1,k5.trans (j2.trans (m5.trans q2))⟩;simp[Instr.endRound,WR dY,Z5 dY (λ_ _ _ e=>by cases e)]
    |ret =>obtain⟨q1,q2⟩:=Q1r m2 cU m6 .done (some .ret);refine⟨.bool false,_,?_,_,rfl,.bool false,ρ2,_,m7,.bool _,q1,k5.trans (j2.trans (m5.trans q2))⟩;simp[Instr.endRound,WR dY,Z5 dY (λ_ _ _ e=>by cases e)]
    |exit id =>obtain⟨q1,q2⟩:=Q1r m2 cU m6 .done (some (.exit id));refine⟨.bool false,_,?_,_,rfl,.bool false,ρ2,_,m7,.bool _,q1,k5.trans (j2.trans (m5.trans q2))⟩;simp[Instr.endRound,WR dY,Z5 dY (λ_ _ _ e=>by cases e)]
    |goto l=>exact m7.elim
    |panic ch=>exact m7.elim
    |outgrown=>exact m7.elim
   |exit id=>exact k1.elim
   |goto l=>exact k1.elim
   |ret=>exact k1.elim
   |panic ch=>exact k1.elim
   |outgrown=>exact k1.elim
theorem Heap.ext' {U U':Heap}(h:∀ j,U.get j=U'.get j) (hn:U.n=U'.n):U=U':=by obtain⟨g,n,wf⟩:=U;obtain⟨g',n',vH⟩:=U';have hg:g=g':=funext h;simp_all
theorem Mks.push {ds:List Deferred}{w:World}(h:Mks B ds w):Mks B ({target:=.collected w.heap.size,args:=#[]}::ds) (w.alloc (.deferred (some []))):=by
 obtain⟨h0,Ds,h1,h2,h3⟩:=h;have aj:∀ D∈Ds,D<w.heap.size:=(by grind);refine⟨by rw[World.size_alloc];omega,w.heap.size::Ds,by rw[h1];rfl,(by grind),λD hD=>?_⟩;rcases zK.1 hD with rfl|hD
 .refine⟨h0,?_⟩;show (w.heap.push _)[w.heap.size]?=_;simp
 .refine⟨(h3 D hD).1,?_⟩;show (w.heap.push _)[D]?=_
  grind
theorem Ext.q1c {ρ:Plc}{U:Heap}(w:World) (O:Obj):Ext ρ U w ρ U (w.alloc O) :=
 ⟨rfl,rfl,rfl,by have:=World.size_alloc w O;omega,λB hB _=>by show (w.heap.push _)[B]?=_;grind,λ_ _ h=>h,z5 _,λ_ _ _ h=>h⟩
theorem HRel.q1c {ρ:Plc}{U:Heap}{w:World}(h:HRel ρ U w) (O:Obj):HRel ρ U (w.alloc O) :=
 h.world (by have:=World.size_alloc w O;omega) (λi p hp=>by show (w.heap.push _)[p.blk]?=_;rw[Array.getElem?_push,z0 (by have:=h.lt i p hp;omega)]) λg cs hg=>by show (w.heap.push _)[g]?=_;rw[Array.getElem?_push,z0 (by have:=h.tab.lt hg;omega)]
theorem Q3p {cM ro:Option Nat}{ρ:Plc}{U:Heap}{w:World}{a:Act}{env:Env}(hH:HRel ρ U w) (hL:LRel ρ U.n env a.tmps.toList) (hd:Mks B a.defers w) (hR:RoRel cM ro ρ U.n) (a7:J1c U cM) (fn:FuncId) (ps:Array Nat) (eT body:Code) :
  ∃ (r:Loop) (mark:List Deferred) (w1:World) (ρ1:Plc),(Instr.enterLoop fn a.tmps ps eT body ro).run P w=.ok (w1.heap.size-1,mark) w1/\r.assign=eT/\r.body=body/\r.params=ps /\
   HRel ρ1 (U.push (.obj (.lp env r .ready none) true)) w1/\Ext ρ U w ρ1 (U.push (.obj (.lp env r .ready none) true)) w1/\Mks B (mark++a.defers) w1 /\
   (∀ p,ρ1 U.n=some p->p.blk=w1.heap.size-1):=by
 rcases hR with⟨rfl,rfl⟩|⟨i,l,rfl,rfl,hi,mH⟩
 .let w0:=w.alloc (.deferred (some []));have gp:HRel ρ U w0:=hH.q1c _;have tg:Ext ρ U w ρ U w0:=Ext.q1c _ _;let r:Loop:={state:=.ready,pending:=none,fn,tmps:=a.tmps,params:=ps,assign:=eT,body:=body,defers:=w.heap.size};obtain⟨ρ1,h1,h2,h3⟩:=gp.newObj (.lp env r .ready none) (.loop r) ⟨rfl,hL⟩;have aP:(w0.alloc (.loop r)).heap.size-1=w0.heap.size:=by simp_all
  refine⟨r,[{target:=.collected w.heap.size,args:=#[]}],w0.alloc (.loop r),ρ1,?_,rfl,rfl,rfl,h2,tg.trans h3,?_,λp hp=>?_⟩
  .rw[aP];simp[Instr.enterLoop];exact⟨(World.size_alloc w _).symm,rfl⟩
  .exact(hd.push).ext gp h3
  simp_all
 .obtain⟨th,r0,st,pend,hb⟩:=a7;obtain⟨p,hp,aI,_⟩:=HH hH hb;have aX:=mH p hp;subst aX;let r:Loop:={state:=.ready,pending:=none,fn,tmps:=a.tmps,params:=ps,assign:=eT,body:=body,defers:=r0.defers};obtain⟨ρ1,h1,h2,h3⟩:=hH.newObj (.lp env r .ready none) (.loop r) ⟨rfl,hL⟩;have aP:(w.alloc (.loop r)).heap.size-1=w.heap.size:=by simp_all
  refine⟨r,[],w.alloc (.loop r),ρ1,?_,rfl,rfl,rfl,h2,h3,?_,λp hp=>?_⟩
  .rw[aP];simp[Instr.enterLoop,WR aI];rfl
  .exact hd.ext hH h3
  simp_all
theorem Q2s (hS:OkSpecs P S) {eT body:Code}{va vb:VCode}(ha:Sound P S eT va) (hb:Sound P S body vb) (g:Operand) (hg:W4 g=true) (ps:Array Nat):Sound P S (.rangeFunc g ps eT body) (.rangeF g ps.toList va vb):=by
 intro B cM ro n Q env U ρ w a h hH hL hd hR Q' hQ;simp only[vwp,Q4d] at h;have gu:=YM hL hg;split at h
 .rename_i f first cap b8
  rw[b8] at gu;split at h
  .rename_i T hT;obtain⟨a7,h⟩:=h;refine wpIn_rangeFunc λfn _=>?_;obtain⟨r,mark,w1,ρ1,he,ky,pJ,kz,iK,gE,hd1,ep⟩:=Q3p (P:=P) hH hL hd hR a7 fn ps eT body;obtain⟨gT,pM⟩:=hS.it f T hT;obtain⟨gs,ds,oz,lL,ju⟩:∃ gs ds,a.eval g=.func (.func f) gs ds/\LRel ρ U.n first.toList gs.toList/\LRel ρ U.n cap.toList ds.toList:=by
    cases oz:a.eval g with
    |func vI gs ds =>
     rw[oz] at gu;cases gu with
     |func _ _ _ _ _ k1 k2 k3 k4=>exact⟨gs,ds,rfl,LRel.of_array k1 k3,LRel.of_array k2 k4⟩
    |_=>rw[oz] at gu;cases gu
   have hY:Hj P U.n (Z01 (vwp S va (some U.n)) (vwp S vb (some U.n)) ps.toList env r U.n):=(by grind [Q3w]);have kA:=pM U.n _ hY _ _ _ (h r) ρ1 w1 (gs++#[.func (.yield (w1.heap.size-1)) #[] #[]]++ds) iK (by
    have k1:=gE.lrel lL;have k2:=gE.lrel ju;have k3:LRel ρ1 (U.push (.obj (.lp env r .ready none) true)).n [.func (.yield U.n) #[] #[]] [.func (.yield (w1.heap.size-1)) #[] #[]] :=
     LRel.cons (.yield _ _ (by simp) (λp hp=>(ep p hp).symm)) (LRel.nil _ _)
    have:=(k1.append k3).append k2;simpa using this)
   refine⟨w1.heap.size-1,mark,w1,{target:=.fn (.func f) ds,args:=gs++#[.func (.yield (w1.heap.size-1)) #[] #[]]},w1,f,gs++#[.func (.yield (w1.heap.size-1)) #[] #[]]++ds,w1,?_,?_,λ_ _=>Q76 _ _,?_,(by grind [IN]),?_⟩
   .rw[Z1r];exact he
   .simp[resolve,oz,Deferred.ofValue];rfl
   .simp only[invoke];exact DS gT _ _
   .refine (Q4m kA).mono λe w3 ⟨c,tj,v,ρ3,σ3,k1,k2,k3,k4⟩=>?_;subst tj;unfold Z3u at k1;split at k1
    .rename_i al r' st pend kb;obtain⟨aY,k1⟩:=k1;obtain⟨p3,rC,gU,rD⟩:=HH k3 kb;have aX:p3.blk=w1.heap.size-1:=ep p3 (k4.pl U.n (by simp) p3 rC);obtain⟨q1,q2⟩:=Q1r k3 rC kb .exhausted pend;rw[aX] at gU q1 q2;obtain⟨q3,q4⟩:=q1.kill U.n;have fD:(σ3.upd U.n (.obj (.lp al r' .exhausted pend) true)).kill U.n=σ3.kill U.n:=by
      apply Heap.ext'
      .grind [Heap.q0f,Heap.q0c,Heap.q0b]
      .rfl
     rw[fD] at q3 q4;have jE:=gE.trans (k4.trans (q2.trans q4));have bQ:=hd1.ext iK (k4.trans (q2.trans q4));refine⟨pend,_,by simp[Instr.endLoop,WR gU,Z5 gU (λ_ _ _ e=>by cases e),aY];rfl,?_⟩;have gS:∀ K:Env->Heap->Prop,K env (σ3.kill U.n)->Lm B (List.length env) ρ U w K {a with defers:=mark++a.defers} (CF w3 (w1.heap.size-1) (.loop {r' with state:=.exhausted,pending:=pend})):=λK hK =>
      ⟨env,_,_,hK,rfl,q3,jE.lrel hL,bQ,jE⟩
     grind [wpIn_ret,wpIn_exit]
    .exact k1.elim
  .exact h.elim
 .exact h.elim
end
end Go.V
namespace Go.V
open Go
theorem V3 {ev fm:Operand->Value}(x:Option Operand) (d:Nat) (h:∀ y∈x.toList,ev y=fm y):Y0 ev x d=Y0 fm x d:=by
 cases x with
 |none=>rfl
 |some y=>simp only[Y0];rw[h y (by simp)]
theorem Q5w {o:XOp}{ev fm:Operand->Value}{U:Heap}(h:∀ x∈o.opds,ev x=fm x):JY o ev U=JY o fm U:=by cases o<;>simp only[XOp.opds,zK,List.not_mem_nil,or_false,forall_eq_or_imp,forall_eq] at h<;>simp only[JY]<;>(try simp only[h])
theorem Si {o:VOp}{ev fm:Operand->Value}{U:Heap}(h:∀ x∈o.opds,ev x=fm x):Qc o ev U=Qc o fm U:=by
 cases o
 case build z ps =>
  have:(ps.map λp=>(p.1,p.2.1,ev p.2.2))=ps.map λp=>(p.1,p.2.1,fm p.2.2):=xd λp hp=>by rw[h p.2.2 (zC.2 ⟨p,hp,rfl⟩)]
  simp only[Qc,this]
 case buildSlice e z n ps =>
  have:(ps.map λp=>(p.1*e.sz,e.sz,ev p.2))=ps.map λp=>(p.1*e.sz,e.sz,fm p.2):=xd λp hp=>by rw[h p.2 (zC.2 ⟨p,hp,rfl⟩)]
  simp only[Qc,this]
 case makeFunc fn a b =>
  have h1:a.map ev=a.map fm:=xd λx hx=>h x (wH _ hx);have h2:b.map ev=b.map fm:=xd λx hx=>h x (xW _ hx);simp only[Qc,h1,h2]
 case slice size x lo hi mx =>
  have h1:=V3 lo 0 (λy hy=>h y (by simp[VOp.opds] at *;exact .inr (.inl hy)));have h2:∀ n,Y0 ev hi n=Y0 fm hi n:=λn=>V3 hi n (λy hy=>h y (by simp[VOp.opds] at *;exact .inr (.inr (.inl hy))));have h3:=V3 mx 0 (λy hy=>h y (by simp[VOp.opds] at *;exact .inr (.inr (.inr hy))));have h4:=h x (by simp[VOp.opds]);simp only[Qc,h4];cases fm x<;>simp only[h1,h2,h3]
 case sliceStr x lo hi =>
  have h1:=V3 lo 0 (λy hy=>h y (by simp[VOp.opds] at *;exact .inr (.inl hy)));have h2:∀ n,Y0 ev hi n=Y0 fm hi n:=λn=>V3 hi n (λy hy=>h y (by simp[VOp.opds] at *;exact .inr (.inr hy)));have h4:=h x (by simp[VOp.opds]);simp only[Qc,h4];cases fm x<;>simp only[h1,h2]
 case ext o=>exact Q5w h
 all_goals
  simp only[VOp.opds,zK,List.not_mem_nil,or_false,forall_eq_or_imp,forall_eq] at h;simp only[Qc];try simp only[h]
theorem Q2g {S:VSpecs}{o:VOp}{env al:Env}{U:Heap}{K:Value->Heap->Prop}(h:∀ x∈o.opds,Q5 env x=Q5 al x):vop S o env U K=vop S o al U K:=by
 cases o
 case callF f bN =>
  have:bN.map (Q5 env)=bN.map (Q5 al):=xd h;simp only[vop,this]
 case callV f bN =>
  have h1:Q5 env f=Q5 al f:=h f (by simp[VOp.opds]);have h2:bN.map (Q5 env)=bN.map (Q5 al):=xd λx hx=>h x (by simp[VOp.opds,hx]);simp only[vop,h1,h2]
 case ext o =>
  by_cases hx:∃ x,o=.nextMap x
  .obtain⟨x,rfl⟩:=hx;have h1:Q5 env x=Q5 al x:=h x (by simp[VOp.opds,XOp.opds]);simp only[vop,h1]
  .have e1:=Si (U:=U) h;cases o<;>first|exact absurd ⟨_,rfl⟩ hx|(simp only[vop];rw[e1])
 all_goals
  have e1:=Si (U:=U) h;simp only[vop];rw[e1]
theorem Heap.Le.refl (U:Heap):U.Le U:=⟨z5 _,λ_ _ h=>h⟩
theorem Heap.Le.trans {U U' aM:Heap}(h:U.Le U') (k:U'.Le aM):U.Le aM:=⟨xu h.1 k.1,λi b hb=>k.2 i b (h.2 i b hb)⟩
theorem J0e {U U':Heap}(h:U.Le U') {esz:Nat}{v:Value}{xs:List Value}(hx:U.sl esz v=some xs):U'.sl esz v=some xs:=by
 unfold Heap.sl at hx |-;split at hx
 .exact hx
 .rename_i i o n c;split at hx
  .rename_i cs e wr t hb;simp only[h.2 i _ hb];exact hx
  .cases hx
 .cases hx
theorem Oi {U U':Heap}(h:U.Le U') {m:Nat}{x:List XY×Nat×Bool}(hx:U.mapAt m=some x):U'.mapAt m=some x:=by
 unfold Heap.mapAt at hx |-;split at hx
 .rename_i es clock wr hb;simp only[h.2 m _ hb];exact hx
 .cases hx
theorem Q6l {U U':Heap}(h:U.Le U') {kd:Nat}{a b:Value}{r:Bool}(hx:Xk kd a b U=some r):Xk kd a b U'=some r:=by
 unfold Xk at hx |-
 split at hx<;>first
  |exact hx
  |(cases hx;done)
  |skip
 rename_i i o j q;split at hx
 .rename_i hc;obtain⟨h1,h2,h3⟩:=hc;obtain⟨b,hb⟩:=Option.isSome_iff_exists.1 h3;rw[z2 ⟨h1,h2,by rw[h.2 _ _ hb];rfl⟩];exact hx
 .cases hx
theorem Q0j {neg:Bool}{s:List MK}{x y:Operand}{ev:Operand->Value}{U U' σ1:Heap}{v:Value}(h:JY (.eqAgg neg s x y) ev U=some (v,σ1)):JY (.eqAgg neg s x y) ev U'=some (v,U'):=by
 simp only[JY] at h |-;split at h
 .simp_all
 .cases h
theorem Q8x {o:XOp}{ev:Operand->Value}{U U' σ1:Heap}{v:Value}(hk:(VOp.ext o).kind≠2) (h:JY o ev U=some (v,σ1)) (hl:U.Le U'):JY o ev U'=some (v,U'):=by
 cases o<;>simp only[VOp.kind,VOp.quiet,XOp.quiet] at hk<;>try (exact absurd rfl hk)
 case eqAgg neg s x y=>exact Q0j h
 case eqNil kd neg x y =>
  simp only[JY] at h |-
  grind [Q6l]
 case lookup mk z ok x i =>
  simp only[JY] at h |-;split at h
  .rename_i bG;rw[z2 bG];split at h
   .simp_all
   .rename_i m vJ;split at h
    .rename_i es clock wr hm;simp only[Oi hl hm]
     grind
    .cases h
   .cases h
  .cases h
 case lenMap x =>
  simp only[JY] at h |-
  grind [Oi]
 case entry x =>
  simp only[JY] at h |-;split at h
  .rename_i i hx;split at h
   .rename_i m since seen last wr hb;simp only[hl.2 i _ hb];split at h
    .rename_i es clock ki b hm fc;simp only[Oi hl hm,fc]
     grind
    .cases h
   .cases h
  .cases h
 case toUnsafe x =>
  simp only[JY] at h |-;split at h
  .simp_all
  .rename_i i o hx;split at h
   .rename_i c e wr t hb;simp only[hl.2 i _ hb];simp_all
   .cases h
  .cases h
 case fromUnsafe u sz x =>
  simp only[JY] at h |-;split at h
  .simp_all
  .rename_i i o hx;split at h
   .rename_i c e hb;simp only[hl.2 i _ hb];simp_all
   .cases h
  .cases h
 case sliceData x =>
  simp only[JY] at h |-;split at h
  .simp_all
  .rename_i i o n cap hx;split at h
   .rename_i hc;obtain⟨h1,h2⟩:=hc;obtain⟨b,hb⟩:=Option.isSome_iff_exists.1 h2;rw[z2 ⟨h1,by rw[hl.2 _ _ hb];rfl⟩];simp_all
   .cases h
  .cases h
 case bytesStr x =>
  simp only[JY] at h |-;split at h
  .grind [J0e]
  .cases h
theorem Q0e {o:VOp}{ev:Operand -> Value}{U U' σ1:Heap}{v:Value}(hk:o.kind = 0) (h:Qc o ev U = some (v, σ1)):Qc o ev U' = some (v, U'):=by
  cases o
  case ext o =>
    cases o <;> first | (simp [VOp.kind, VOp.quiet, XOp.quiet] at hk; done) | skip
    case eqAgg neg s x y => exact Q0j h
  case slice size x lo hi mx => cases mx <;> simp [VOp.kind, VOp.quiet] at hk
  case build z ps =>
    simp only [Qc] at h |-;split at h
    . simp_all
    . cases h
  all_goals first
    | (simp [VOp.kind, VOp.quiet] at hk; done)
    | skip
  all_goals
    simp only [Qc] at h |-
    (repeat' split at h) <;> first
      | (cases h; done)
      | (rename_i tk; obtain ⟨rfl, rfl, rfl⟩:=tk; simp_all; done)
      | (simp_all; done)
      | (simp_all
         obtain ⟨rfl, _⟩:=h
         first
          | rw [z0 (by omega)]
          | rw [z2 (by omega)])
theorem AD {o:VOp}{ev:Operand->Value}{U U' σ1:Heap}{v:Value}(hk:o.kind≠2) (h:Qc o ev U=some (v,σ1)) (hl:U.Le U'):Qc o ev U'=some (v,U'):=by
 cases o
 case ext o=>exact Q8x hk h hl
 case load agg size a =>
  simp only[Qc] at h |-;split at h
  .split at h
   .split at h
    .rename_i hall;rw[z2 hall];split at h
     .simp_all
     .cases h
    .cases h
   .cases h
  .rename_i i o hx;split at h
   .rename_i c e wr t hb;simp only[hl.2 i _ hb];split at h
    .simp_all
    .cases h
   .cases h
  .cases h
 case slice size x lo hi mx =>
  cases mx with
  |some m=>simp[VOp.kind,VOp.quiet] at hk
  |none =>
   simp only[Qc] at h |-;split at h
   .rename_i a n cap hx;split at h
    .rename_i l k ep dy;unfold Vz at h |-;split at h
     .simp_all
     .rename_i i o n' ax heq;split at h
      .rename_i c e wr t hb;simp only[hl.2 i _ hb];simp_all
      .cases h
     .cases h
    .rename_i hm;cases hm
    .cases h
   .cases h
 all_goals first
  |(exact absurd rfl hk)
  |(exact Q0e rfl h)
section
variable {P:Program}{S:VSpecs}{B:Nat}
def EL (lv:List VOper) (env:Env) (tr:Nat->Value) (A:Nat->Bool):Nat->Env
 |0=>env
 |i+1=>if A i then Wg (EL lv env tr A i) ((lv[i]?).bind (·.dst)) (tr i) else EL lv env tr A i
theorem Uf (lv:List VOper) (env:Env) (tr:Nat->Value) (A:Nat->Bool):∀ i,List.length (EL lv env tr A i)=List.length env
 |0=>rfl
 |i+1=>by
  simp only[EL];split
  .rw[UY];exact Uf lv env tr A i
  .exact Uf lv env tr A i
theorem Ng (lv:List VOper) (env:Env) {tr tr':Nat->Value}{A B:Nat->Bool}:∀ i,(∀ l,l<i->tr l=tr' l)->(∀ l,l<i->A l=B l)->EL lv env tr A i=EL lv env tr' B i
 |0,_,_=>rfl
 |i+1,h,h'=>by simp only[EL];rw[Ng lv env i (λl hl=>h l (by omega)) (λl hl=>h' l (by omega)),h i (by omega),h' i (by omega)]
theorem T1 (env:Env) (d:Option Nat) (v:Value) {x:Nat}(h:d≠some x):(Wg env d v)[x]?=env[x]?:=by
 cases d with
 |none=>rfl
 |some d=>simp only[Wg];rw[List.getElem?_set_ne (by rintro rfl;exact h rfl)]
theorem Z7o (lv:List VOper) (env:Env) {tr tr':Nat->Value}{A:Nat->Bool}:∀ i,(∀ l,l<i->A l=true->tr l=tr' l)->EL lv env tr A i=EL lv env tr' A i
 |0,_=>rfl
 |i+1,h=>by simp only[EL];rw[Z7o lv env i λl hl hA=>h l (by omega) hA];simp_all
theorem T4 (lv:List VOper) (env:Env) (tr:Nat->Value) {A B:Nat->Bool}(x:Nat):∀ i,(∀ l,l<i->(lv[l]?).bind (·.dst)=some x->A l=B l)->(EL lv env tr A i)[x]?=(EL lv env tr B i)[x]?
 |0,_=>rfl
 |i+1,h=>by
  have ih:=T4 lv env tr x i (λl hl hd=>h l (by omega) hd);by_cases hd:(lv[i]?).bind (·.dst)=some x
  .have lW:=h i (by omega) hd;simp only[EL];rw[lW];split
   .rw[hd];simp only[Wg,xt];rw[Uf,Uf];rfl
   .exact ih
  .simp only[EL]
   grind [T1]
theorem Ra (lv:List VOper) (env:Env) (tr:Nat->Value) (j:Nat):∀ i,j<=i->EL lv env tr (λl=>decide (l<j)) i=EL lv env tr (λ_=>true) j
 |0,h=>by
  obtain rfl:j=0:=by omega
  rfl
 |i+1,h=>by
  by_cases hj:j=i+1
  .subst hj;exact Ng lv env _ (λ_ _=>rfl) (λl hl=>by simp[hl])
  .simp only[EL];rw[z0 (by simp;omega)];exact Ra lv env tr j i (by omega)
def DFact (S:VSpecs) (d:DInfo) (lv:List VOper) (env:Env) (tr:Nat->Value) (hp:Nat->Heap) (u:Nat) (i:Nat):Prop :=
 ∀ v,lv[i]?=some v->∃ b,JV (EL lv env tr (λ_=>true) i) v.guard=some b /\
  (b=true->v.op.kind=2->vop S v.op (EL lv env tr (λ_=>true) i) (hp (d.rank i)) (λv' U'=>v'=tr i/\U'=hp (d.rank i+1))) /\
  (b=true->v.op.kind=1->∀ r,d.kmin i<=r->r<=d.kmax i->r<=u->∃ U',Qc v.op (Q5 (EL lv env tr (λ_=>true) i)) (hp r)=some (tr i,U')) /\
  (b=true->v.op.kind≠1->v.op.kind≠2->∃ U',Qc v.op (Q5 (EL lv env tr (λ_=>true) i)) (hp (d.rank i))=some (tr i,U')) /\
  (b=false->tr i=undef/\(v.op.kind=2->hp (d.rank i+1)=hp (d.rank i)))
def Z7p (d:DInfo) (lv:List VOper) (env:Env) (tr:Nat->Value) (i:Nat) (pend:List (Nat×(Heap->Prop))):Prop :=
 ∀ l,l<i->∀ v,lv[l]?=some v->JV (EL lv env tr (λ_=>true) l) v.guard=some true->v.op.kind=1->d.rank i+1<=d.kmax l->(d.kmax l,Wp v.op (Q5 (EL lv env tr (λ_=>true) l)) (tr l))∈pend
inductive Know (S:VSpecs) (d:DInfo) (lv:List VOper) (env:Env) (K:Env->Heap->Prop):List Nat->Nat->(Nat->Value)->(Nat->Heap)->Prop
 |full {nd:List Nat}{tr:Nat->Value}{hp:Nat->Heap}(hF:∀ l,l<lv.length->l∉nd->DFact S d lv env tr hp (d.rank lv.length) l) (hK:K (EL lv env tr (λ_=>true) lv.length) (hp (d.rank lv.length))):Know S d lv env K nd lv.length tr hp
 |part {nd:List Nat}{i:Nat}{tr:Nat->Value}{hp:Nat->Heap}{v:VOper}(hv:lv[i]?=some v) (hk:v.op.kind=2) (hw:JV (EL lv env tr (λ_=>true) i) v.guard=some true)
   (hF:∀ l,l<i->l∉nd->DFact S d lv env tr hp (d.rank i) l) (jF:∀ j,i<j->j<lv.length->∃ e u,i<=e/\e<j/\lv[e]?=some u/\((∃ x,u.dst=some x/\∀ v,lv[j]?=some v->x∈Ni v)\/(u.op.kind=2/\∀ v,lv[j]?=some v->v.op.kind=2)))
   (R:Value->Heap->Prop) (fG:vop S v.op (EL lv env tr (λ_=>true) i) (hp (d.rank i)) R)
   (I:∀ u U',R u U'->Nat) (T:∀ u U',R u U'->Nat->Value) (H:∀ u U',R u U'->Nat->Heap)
   (hT:∀ u U' h,i<I u U' h/\(∀ l,l<i->T u U' h l=tr l)/\T u U' h i=u/\(∀ r,r<=d.rank i->H u U' h r=hp r)/\H u U' h (d.rank i+1)=U')
   (next:∀ u U' h,Know S d lv env K (i::nd) (I u U' h) (T u U' h) (H u U' h)):Know S d lv env K nd i tr hp
theorem Q0o {r:Nat}{U:Heap}:∀ {l:List (Nat×(Heap->Prop))},W2 r U l->∀ c∈l,r<=c.1->c.2 U
 |[],_,_,h=>by cases h
 |x::l,h,c,hc=>by
  rcases zK.1 hc with rfl|hc
  .exact h.1
  .exact Q0o h.2 c hc
theorem E5 {op:VOp}{ev:Operand->Value}{v:Value}{Z:Heap}(h:Wp op ev v Z):∃ U',Qc op ev Z=some (v,U'):=by
 unfold Wp at h;cases hv:Qc op ev Z with
 |none=>rw[hv] at h;exact h.elim
 |some q =>rw[hv] at h;have h:q.1=v:=h;exact⟨q.2,by rw[<-h]⟩
theorem DFact.congr {d:DInfo}{lv:List VOper}{env:Env}{tr tr':Nat->Value}{hp bu:Nat->Heap}{u u' l:Nat}(h:DFact S d lv env tr hp u l) (ht:∀ k,k<=l->tr' k=tr k) (hh:∀ r,r<=u->bu r=hp r) (hr:d.rank l<=u) (h2:∀ v,lv[l]?=some v->v.op.kind=2->d.rank l+1<=u)
  (hu:∀ v,lv[l]?=some v->JV (EL lv env tr (λ_=>true) l) v.guard=some true->v.op.kind=1->∀ r,u<r->r<=u'->r<=d.kmax l->∃ U',Qc v.op (Q5 (EL lv env tr (λ_=>true) l)) (bu r)=some (tr l,U')):DFact S d lv env tr' bu u' l:=by
 intro v hv;obtain⟨b,f1,f2,f3,f4,f5⟩:=h v hv;have e:=Ng lv env (tr:=tr') (tr':=tr) (A:=λ_=>true) (B:=λ_=>true) l (λk hk=>ht k (by omega)) (λ_ _=>rfl);rw[e,ht l (z5 _),hh _ hr]
 grind
theorem I9:∀ (d:DInfo) (rest:List VOper) (i:Nat) (xs:List Nat),waits xs (d.opers rest i)=true->∀ (k:Nat) (v:VOper),rest[k]?=some v->v.op.kind=2\/(∃ x∈xs,x∈Ni v)\/∃ (e:Nat) (u:VOper) (x:Nat),e<k/\rest[e]?=some u/\u.dst=some x/\x∈Ni v
 |d,[],i,xs,_,k,v,hv=>by simp at hv
 |d,o::rest,i,xs,h,k,v,hv=>by
  simp only[DInfo.opers,waits,z1,zp,xy,zD] at h;obtain⟨h1,h2⟩:=h;cases k with
  |zero =>
   obtain rfl:o=v:=by simpa using hv
   rcases h1 with h1|⟨x,hx,bO⟩
   .exact .inl h1
   refine .inr (.inl ⟨x,by simpa using bO,?_⟩);simp only[Ni,xk] at hx |-;rcases hx with hx|hx
   .exact .inl (.inr hx)
   .exact .inr hx
  |succ k =>
   rcases I9 d rest (i+1) _ h2 k v (by simpa using hv) with h3|⟨y,hy,rE⟩|⟨e,u,y,he,hu,hd,hn⟩
   .exact .inl h3
   .rcases xk.1 hy with hy|hy
    .exact .inr (.inr ⟨0,o,y,by omega,rfl,by simpa using hy,rE⟩)
    .exact .inr (.inl ⟨y,hy,rE⟩)
   .exact .inr (.inr ⟨e+1,u,y,by omega,by simpa using hu,hd,hn⟩)
theorem Q1x (d:DInfo) {i j:Nat}(h:i<=j):d.rank i<=d.rank j:=by
 induction j with
 |zero =>
  obtain rfl:i=0:=by omega
  exact z5 _
 |succ j ih =>
  by_cases cB:i=j+1
  .subst cB;exact z5 _
  .have:=ih (by omega);simp only[DInfo.rank];split<;>omega
theorem Z6m (d:DInfo) (lv:List VOper) (lX:∀ i v,lv[i]?=some v->d.k i=v.op.kind) (env:Env) (K:Env->Heap->Prop):∀ (rest:List VOper) (i:Nat),i<=lv.length->lv.drop i=rest->∀ (nd:List Nat) (tp:Nat->Value) (hq:Nat->Heap) (pend:List (Nat×(Heap->Prop))),
  (∀ l,l<i->l∉nd->DFact S d lv env tp hq (d.rank i) l)->Z7p d lv env tp i pend ->
  JA S (d.opers rest i) (EL lv env tp (λ_=>true) i) ((List.range (d.rank i+1)).map hq) (hq (d.rank i)) pend K ->
  ∃ k tr hp,i<=k/\(∀ l,l<i->tr l=tp l)/\(∀ r,r<=d.rank i->hp r=hq r)/\Know S d lv env K nd k tr hp:=by
 intro rest;induction rest with
 |nil =>
  intro i mH hi nd tp hq pend hF hP h;have hl:lv.length<=i:=by simpa using hi
  obtain rfl:i=lv.length:=by omega
  simp only[DInfo.opers,JA] at h;exact⟨_,tp,hq,z5 _,λ_ _=>rfl,λ_ _=>rfl,.full hF h⟩
 |cons v rest ih =>
  intro i mH hi nd tp hq pend hF hP h;have aj:i<lv.length:=by
   grind
  have hv:lv[i]?=some v:=by
   have:=congrArg List.head? hi
   grind [List.head?_drop]
  have fY:lv.drop (i+1)=rest:=by have:=congrArg List.tail hi;simpa using this
  have hk:=lX i v hv;have ky:v.op.kind=2->d.rank (i+1)=d.rank i+1:=λe=>by simp only[DInfo.rank,hk,e,zn]
  have lO:v.op.kind≠2->d.rank (i+1)=d.rank i:=λe=>by simp only[DInfo.rank,hk,e,if_false]
  have eR:∀ l,l<i->d.rank l<=d.rank i/\∀ w,lv[l]?=some w->w.op.kind=2->d.rank l+1<=d.rank i:=λl hl=>by have h1:=Q1x d (show l+1<=i by omega);refine⟨by simp only[DInfo.rank] at h1;split at h1<;>omega,λw hw h2=>?_⟩;simp only[DInfo.rank,lX l w hw,h2,zn] at h1;exact h1
  simp only[DInfo.opers,JA] at h;have hlen:((List.range (d.rank i+1)).map hq).length=d.rank i+1:=by simp
  cases hw:JV (EL lv env tp (λ_=>true) i) v.guard with
  |none=>rw[hw] at h;exact h.elim
  |some b =>
   rw[hw] at h;obtain⟨ht,hf⟩:=h
   have go:∀ (jd:List Nat) (u:Value) (U':Heap) (bK:List (Nat×(Heap->Prop))),(∀ l,l∈nd->l∈jd) ->
     JA S (d.opers rest (i+1)) (Wg (EL lv env tp (λ_=>true) i) v.dst u) (if v.op.kind=2 then (List.range (d.rank i+1)).map hq++[U'] else (List.range (d.rank i+1)).map hq) (if v.op.kind=2 then U' else hq (d.rank i)) bK K ->
     (v.op.kind=2->W2 (d.rank i+1) U' pend)->(∀ c∈pend,c∈bK) ->
     (b=true->v.op.kind=1->d.rank i+1<=d.kmax i->(d.kmax i,Wp v.op (Q5 (EL lv env tp (λ_=>true) i)) u)∈bK) ->
     (i∉jd->∀ tr hp,(∀ l,l<i->tr l=tp l)->tr i=u->(∀ r,r<=d.rank i->hp r=hq r)->(v.op.kind=2->hp (d.rank i+1)=U')->DFact S d lv env tr hp (d.rank (i+1)) i) ->
     ∃ k tr hp,i<k/\(∀ l,l<i->tr l=tp l)/\tr i=u/\(∀ r,r<=d.rank i->hp r=hq r)/\(v.op.kind=2->hp (d.rank i+1)=U')/\Know S d lv env K jd k tr hp:=by
    intro jd u U' bK gv h jG pN rF mI;let gV:Nat->Value:=λl=>if l=i then u else tp l
    let cz:Nat->Heap:=λr=>if v.op.kind=2/\r=d.rank i+1 then U' else hq r
    have et:∀ l,l<i->gV l=tp l:=(by grind);have ei:gV i=u:=by simp[gV]
    have eh:∀ r,r<=d.rank i->cz r=hq r:=(by grind);have rG:v.op.kind=2->cz (d.rank i+1)=U':=λaC=>by simp[cz,aC]
    have e1:EL lv env gV (λ_=>true) (i+1)=Wg (EL lv env tp (λ_=>true) i) v.dst u:=by simp only[EL,zn];rw[Ng lv env (tr:=gV) (tr':=tp) i et (λ_ _=>rfl),hv,ei];rfl
    have e2:(List.range (d.rank (i+1)+1)).map cz=if v.op.kind=2 then (List.range (d.rank i+1)).map hq++[U'] else (List.range (d.rank i+1)).map hq:=by
     grind [List.range_succ,List.map_congr_left]
    have e3:cz (d.rank (i+1))=if v.op.kind=2 then U' else hq (d.rank i):=by simp only[DInfo.rank,hk];split<;>rename_i aC<;>simp[cz,aC]
    have tl:∀ l,l<i+1->l∉jd->DFact S d lv env gV cz (d.rank (i+1)) l:=λl hl gW=>by
     by_cases gX:l=i
     .subst gX;exact mI gW gV cz et ei eh rG
     .have gX:l<i:=by omega
      refine (hF l gX λh=>gW (gv l h)).congr (λk hk=>et k (by omega)) eh (eR l gX).1 (eR l gX).2 λw je oA bn r r1 r2 r3=>?_;by_cases aC:v.op.kind=2
      .rw[ky aC] at r2;obtain rfl:r=d.rank i+1:=by omega
       rw[rG aC];exact E5 (Q0o (jG aC) _ (hP l gX w je oA bn (by omega)) (by simpa using r3))
      .rw[lO aC] at r2;omega
    have tm:Z7p d lv env gV (i+1) bK:=λl hl w je oA bn rv=>by
     by_cases gX:l=i
     .subst gX;rw[hv] at je;obtain rfl:=osj je;have e:=Ng lv env (tr:=gV) (tr':=tp) (A:=λ_=>true) (B:=λ_=>true) l et (λ_ _=>rfl);simp_all
     .have gX:l<i:=by omega
      have e:=Ng lv env (tr:=gV) (tr':=tp) (A:=λ_=>true) (B:=λ_=>true) l (λk hk=>et k (by omega)) (λ_ _=>rfl);rw[e] at oA |-;rw[et l gX];have hle:d.rank i<=d.rank (i+1):=by simp only[DInfo.rank];split<;>omega
      exact pN _ (hP l gX w je oA bn (by omega))
    obtain⟨k,tr,hp,k0,k1,k2,k3⟩:=ih (i+1) (by omega) fY jd gV cz bK tl tm (by rw[e1,e2,e3];exact h)
    grind
   have weak:∀ {jd:List Nat}{u:Value}{U':Heap},(∃ k tr hp,i<k/\(∀ l,l<i->tr l=tp l)/\tr i=u/\(∀ r,r<=d.rank i->hp r=hq r)/\(v.op.kind=2->hp (d.rank i+1)=U')/\Know S d lv env K jd k tr hp)->∃ k tr hp,i<=k/\(∀ l,l<i->tr l=tp l)/\(∀ r,r<=d.rank i->hp r=hq r)/\Know S d lv env K jd k tr hp:=by
    grind
   have fact:∀ {u:Value}{U':Heap},(b=true->v.op.kind=1->∀ r,d.kmin i<=r->r<=d.rank i->Wp v.op (Q5 (EL lv env tp (λ_=>true) i)) u (hq r))->(b=true->v.op.kind≠1->v.op.kind≠2->∃ aM,Qc v.op (Q5 (EL lv env tp (λ_=>true) i)) (hq (d.rank i))=some (u,aM))->(b=false->u=undef/\(v.op.kind=2->U'=hq (d.rank i)))->(b=true->v.op.kind=2->vop S v.op (EL lv env tp (λ_=>true) i) (hq (d.rank i)) (λv' aM=>v'=u/\aM=U')) ->
     ∀ tr hp,(∀ l,l<i->tr l=tp l)->tr i=u->(∀ r,r<=d.rank i->hp r=hq r)->(v.op.kind=2->hp (d.rank i+1)=U')->DFact S d lv env tr hp (d.rank (i+1)) i:=by
    intro u U' g1 g2 g3 k5 tr hp k1 k2 k3 k4 v' oB;rw[hv] at oB;obtain rfl:=osj oB;have e:=Ng lv env (tr:=tr) (tr':=tp) (A:=λ_=>true) (B:=λ_=>true) i k1 (λ_ _=>rfl);rw[e,k2,k3 _ (z5 _)]
    grind [E5]
   cases b with
   |false =>
    have hf:=hf rfl;by_cases aC:v.op.kind=2
    .rw[z2 aC] at hf;obtain⟨lU,hf⟩:=hf;exact weak (go nd undef (hq (d.rank i)) pend (λ_ h=>h) (by rw[z2 aC,ite_self];exact hf) (by grind) (λ_ h=>h) (λh=>by cases h) (λ_=>fact (λh=>by cases h) (λh=>by cases h) (λ_=>⟨rfl,λ_=>rfl⟩) (λh=>by cases h)))
    .rw[z0 aC] at hf;exact weak (go nd undef (hq (d.rank i)) pend (λ_ h=>h) (by rw[z0 aC,ite_self];exact hf) (λh=>absurd h aC) (λ_ h=>h) (λh=>by cases h) (λ_=>fact (λh=>by cases h) (λh=>by cases h) (λ_=>⟨rfl,λ_=>rfl⟩) (λh=>by cases h)))
   |true =>
    have ht:=ht rfl;by_cases aC:v.op.kind=2
    .rw[z2 aC] at ht;rw[hlen] at ht;rcases ht with⟨u,U',h1,h2,h3⟩|⟨gH,fG⟩
     .exact weak (go nd u U' pend (λ_ h=>h) (by rw[z2 aC,z2 aC];exact h3) (λ_=>h2) (λ_ h=>h) (λ_ hk=>by omega) (λ_=>fact (λ_ hk=>by omega) (λ_ _ hk=>absurd aC hk) (λh=>by cases h) (λ_ _=>h1)))
     .have nx:∀ u U',(W2 (d.rank i+1) U' pend/\JA S (d.opers rest (i+1)) (Wg (EL lv env tp (λ_=>true) i) v.dst u) ((List.range (d.rank i+1)).map hq++[U']) U' pend K) ->
        ∃ k tr hp,i<k/\(∀ l,l<i->tr l=tp l)/\tr i=u/\(∀ r,r<=d.rank i->hp r=hq r)/\(v.op.kind=2->hp (d.rank i+1)=U')/\Know S d lv env K (i::nd) k tr hp:=λu U' ⟨h2,h3⟩ =>
       go (i::nd) u U' pend (λ_ h=>zr _ h) (by rw[z2 aC,z2 aC];exact h3) (λ_=>h2) (λ_ h=>h) (λ_ hk=>by omega) (λh=>absurd zz h)
      refine⟨i,tp,hq,z5 _,λ_ _=>rfl,λ_ _=>rfl,.part hv aC hw hF (λj hj aT=>?_) _ fG (λu U' h=>(nx u U' h).choose) (λu U' h=>(nx u U' h).choose_spec.choose) (λu U' h=>(nx u U' h).choose_spec.choose_spec.choose) (λu U' h=>?_) (λu U' h=>?_)⟩
      .obtain⟨n,hn⟩:∃ n,j=i+1+n:=⟨j-(i+1),by omega⟩;subst hn;have tn:∀ k w,lv[i+1+k]?=some w->rest[k]?=some w:=(by grind);have pO:∀ k w,rest[k]?=some w->lv[i+1+k]?=some w:=(by grind);have tq:=z3 aT;rcases I9 d rest (i+1) _ gH n _ (tn n _ tq) with oC|⟨x,hx,tu⟩|⟨e,u,x,he,hu,hd,tu⟩
       .exact⟨i,v,z5 _,by omega,hv,(by grind)⟩
       .exact⟨i,v,z5 _,by omega,hv,(by grind)⟩
       .exact⟨i+1+e,u,by omega,by omega,pO e u hu,(by grind)⟩
      .grind
      grind
    .rw[z0 aC] at ht;by_cases bn:v.op.kind=1
     .rw[z2 bn] at ht;cases dC:Qc v.op (Q5 (EL lv env tp (λ_=>true) i)) (hq (d.rank i)) with
      |none=>rw[dC] at ht;exact ht.elim
      |some p =>
       rw[dC] at ht;obtain⟨g1,g2⟩:=ht;refine weak (go nd p.1 (hq (d.rank i)) _ (λ_ h=>h) (by rw[z0 aC,ite_self];exact g2) (λh=>absurd h aC) (λc hc=>?_) (λ_ _ hr=>?_) (λ_=>fact (λ_ _ r tv tw=>?_) (λ_ hk=>absurd bn hk) (λh=>by cases h) (λ_ hk=>absurd hk aC)))
       .grind
       .grind
       .refine g1 _ ?_;rw[zZ];refine⟨r-d.kmin i,?_⟩
        grind
     .rw[z0 bn] at ht;cases dC:Qc v.op (Q5 (EL lv env tp (λ_=>true) i)) (hq (d.rank i)) with
      |none=>rw[dC] at ht;exact ht.elim
      |some p =>rw[dC] at ht;exact weak (go nd p.1 (hq (d.rank i)) pend (λ_ h=>h) (by rw[z0 aC,ite_self];exact ht) (λh=>absurd h aC) (λ_ h=>h) (λ_ hk=>absurd hk bn) (λ_=>fact (λ_ hk=>absurd hk bn) (λ_ _ _=>⟨p.2,dC⟩) (λh=>by cases h) (λ_ hk=>absurd hk aC)))
structure DOk (d:DInfo) (n:Nat):Prop where
 edge:∀ j,j<n->∀ e∈d.ed.getD j [],e<j
 path:∀ j,j<n->∀ i,i<j->d.lt i j=true->∃ e∈d.ed.getD j [],e=i\/(i<e/\d.lt i e=true)
 free:∀ j,j<n->∀ i,i<j->d.lt i j=false->d.touch i j=false/\¬(d.k i=2/\d.k j=2)
 kmin:∀ j,j<n->d.k j=1->(d.kmin j<=d.rank j/\d.rank j<=d.kmax j)/\d.kmax j<=d.rank n/\∀ l,l<n->d.k l=2->((d.lt l j=true<->d.rank l<d.kmin j)/\(d.lt j l=true<->d.kmax j<=d.rank l))
theorem DOk.of {d:DInfo}(h:d.ok=true):DOk d d.ks.length:=by
 have h0:∀ j,j<d.ks.length->d.okE j=true/\d.okP j=true/\d.okK j=true:=λj hj=>by have:=zg.1 h j (zS.2 hj);simpa [z1] using this
 refine⟨λj hj e he=>?_,λj hj i hi aj=>?_,λj hj i hi aj=>?_,λj hj hk=>?_⟩
 .have:=zg.1 (h0 j hj).1 e he;simpa using this
 .have:=zg.1 (h0 j hj).2.1 i (zS.2 hi);simp_all
 .have:=zg.1 (h0 j hj).2.1 i (zS.2 hi)
  grind
 .have:=(h0 j hj).2.2;simp only[DInfo.okK,hk,BEq.rfl,xT,Bool.false_or,z1,ze] at this
  grind
theorem E2 (d:DInfo) {i j:Nat}(h:i<j) (hk:d.k i=2):d.rank i<d.rank j:=by have:=Q1x d (show i+1<=j from h);simp only[DInfo.rank,hk,zn] at this;omega
theorem G3 (d:DInfo):∀ j r,r<d.rank j->∃ l,l<j/\d.k l=2/\d.rank l=r
 |0,r,h=>by simp[DInfo.rank] at h
 |j+1,r,h=>by
  simp only[DInfo.rank] at h;split at h
  .rename_i hk;rcases zu r (d.rank j) with h'|h'
   .obtain⟨l,h1,h2⟩:=G3 d j r h';exact⟨l,by omega,h2⟩
   grind
  .obtain⟨l,h1,h2⟩:=G3 d j r h;exact⟨l,by omega,h2⟩
theorem TA {d:DInfo}{n:Nat}(hd:DOk d n) {A:Nat->Bool}(hc:∀ j,j<n->A j=true->∀ e∈d.ed.getD j [],A e=true):∀ j,j<n->A j=true->∀ i,i<j->d.lt i j=true->A i=true:=by
 intro j;induction j using Nat.strongRecOn with
 |ind j ih =>
  intro hj hA i hi aj;obtain⟨e,he,h⟩:=hd.path j hj i hi aj;have mJ:=hd.edge j hj e he;have gI:=hc j hj hA e he;rcases h with rfl|⟨h1,h2⟩
  .exact gI
  .exact ih e mJ (by omega) gI i h1 h2
def cnt (A:Nat->Bool):Nat->Nat
 |0=>0
 |i+1=>cnt A i+if A i then 0 else 1
theorem Q4a {A:Nat->Bool}:∀ {n},cnt A n=0->∀ i,i<n->A i=true
 |0,_,i,h=>by omega
 |n+1,hc,i,h=>by
  simp only[cnt] at hc;by_cases hi:i=n
  .simp_all
  .exact Q4a (n:=n) (by omega) i (by omega)
theorem Z0x {A B:Nat->Bool}{j:Nat}(hA:A j=false) (hB:B j=true) (h:∀ i,i≠j->A i=B i):∀ n,j<n->cnt A n=cnt B n+1
 |0,hj=>by omega
 |n+1,hj=>by
  simp only[cnt];by_cases aT:j=n
  .subst aT;have:cnt A j=cnt B j:=by
    have key:∀ m,m<=j->cnt A m=cnt B m:=by
     intro m;induction m with
     |zero=>intro _;rfl
     |succ m ih=>intro hm;simp only[cnt];rw[ih (by omega),h m (by omega)]
    exact key j (z5 _)
   simp[hA,hB,this]
  .have:=Z0x hA hB h n (by omega);rw[h n (by omega)];omega
theorem Z4p (o:VOp):o.kind<=2:=by
 unfold VOp.kind;split<;>try omega
 split<;>omega
theorem Z4q {o:VOp}{env:Env}{U:Heap}{p:Value×Heap}{K:Value->Heap->Prop}(hk:o.kind≠2) (h:Qc o (Q5 env) U=some p) (hK:K p.1 p.2):vop S o env U K:=by
 cases o
 case callF=>exact absurd rfl hk
 case callV=>exact absurd rfl hk
 case ext x =>
  cases x
  case nextMap=>exact absurd rfl hk
  all_goals (simp only[vop];rw[h];exact hK)
 all_goals (simp only[vop];rw[h];exact hK)
theorem Tq {o:VOp}{ev:Operand->Value}{U U':Heap}{v:Value}(hk:o.kind≠2) (h:Qc o ev U=some (v,U')):U'=U:=by have:=AD hk h (Heap.Le.refl U);simp_all
theorem I8 {env al:Env}{g:Option (Nat×Bool)}(h:∀ x b,g=some (x,b)->env[x]?=al[x]?):JV env g=JV al g:=by
 cases g with
 |none=>rfl
 |some p =>obtain⟨x,b⟩:=p;simp only[JV,z9];rw[h x b rfl]
theorem I3 {env al:Env}{x:Operand}(h:∀ t,x=.tmp t->env[t]?=al[t]?):Q5 env x=Q5 al x:=by
 cases x<;>try rfl
 rename_i t;simp only[Q5,z9];rw[h t rfl]
structure DInv (B:Nat) (d:DInfo) (lv:List VOper) (env:Env) (tr:Nat->Value) (hp:Nat->Heap) (ρ0:Plc) (σ0:Heap) (w0:World) (A:Nat->Bool) (a:Act) (w:World):Prop where
 closed:∀ j,j<lv.length->A j=true->∀ e∈d.ed.getD j [],A e=true
 run:∃ m ρ,(∀ l,l<lv.length->d.k l=2->(A l=true<->d.rank l<m))/\m<=d.rank lv.length/\HRel ρ (hp m) w/\LRel ρ (hp m).n (EL lv env tr A lv.length) a.tmps.toList/\Mks B a.defers w/\Ext ρ0 σ0 w0 ρ (hp m) w
structure DLink (P:Program) (ops:Array Oper) (pm:List Nat) (d:DInfo) (lv:List VOper):Prop where
 comp:∀ (p:Nat) (v:VOper),lv[p]?=some v->∃ o,ops[pm.getD p 0]?=some o/\JH P ops o=some v/\d.k p=v.op.kind
 touch:∀ (i j:Nat) (u v:VOper),lv[i]?=some u->lv[j]?=some v->d.touch i j=false->(∀ x,u.dst=some x->x∉Ni v)/\(∀ x,v.dst=some x->x∉Ni u)
 size:pm.length=lv.length
theorem DLink.of {ops:Array Oper}{vs:List VOper}(h:ops.toList.mapM (JH P ops)=some vs) {d0:DInfo}{pm:List Nat}(jt:∀ i∈pm,i<vs.length):DLink P ops pm (Q35 d0 vs pm) (MB vs pm):=by
 obtain⟨h1,h2⟩:=Yr _ _ _ h;refine⟨λp v hv=>?_,λi j u v hu hv ht=>?_,by simp[MB]⟩
 .simp only[MB,xC,zi] at hv;obtain⟨i,hi,rfl⟩:=hv;have a7:=jt i (xh hi);have gw:i<ops.toList.length:=by omega
  obtain⟨v,hv,hc⟩:=h2 i _ (z3 gw);have hg:vs.getD i default=v:=by simp[z9,hv]
  have hp:pm.getD p 0=i:=by simp[z9,hi]
  refine⟨ops.toList[i],?_,by rw[hg];exact hc,?_⟩
  .rw[hp];simp
  .simp[DInfo.k,Q35,MB,z9,hi]
 .simp only[DInfo.touch,Q35,Z3p,z9,xC,hu,hv,wG,Option.getD_some,Bool.or_eq_false_iff] at ht
  grind
theorem Q4g {v:VOper}{x:Nat}(h:v.dst=some x):x∈Ni v:=by simp[Ni,h]
theorem Q43 {v:VOper}{x:Nat}(h:Operand.tmp x∈v.op.opds):x∈Ni v:=by refine wH _ (xW _ ?_);exact List.mem_filterMap.2 ⟨_,h,rfl⟩
theorem Io {v:VOper}{x:Nat}{b:Bool}(h:v.guard=some (x,b)):x∈Ni v:=by refine xW _ ?_;simp[h]
theorem Cu (hS:OkSpecs P S) {ro:Option Nat}{n:Nat}{ops:Array Oper}{pm:List Nat}{d:DInfo}{lv:List VOper}(hl:DLink P ops pm d lv) (hd:DOk d lv.length) {env:Env}{tr:Nat->Value}{hp:Nat->Heap}
  {bd j:Nat}(hF:DFact S d lv env tr hp bd j)
  {Q:Exit->Act->World->Prop}{ρ0:Plc}{σ0:Heap}{w0:World}{A:Nat->Bool}{a:Act}{w:World}(pP:∀ m,(∀ l,l<lv.length->d.k l=2->(A l=true<->d.rank l<m))->m<=d.rank lv.length->m<=bd) (hI:DInv B d lv env tr hp ρ0 σ0 w0 A a w)
  (aT:j<lv.length) (kB:A j=false) (fH:∀ e∈d.ed.getD j [],A e=true) {A':Nat->Bool}(bA:∀ i,A' i=if i=j then true else A i) {K:Act->World->Prop}(hK:∀ a' w',DInv B d lv env tr hp ρ0 σ0 w0 A' a' w'->K a' w'):wpOpIn (FF ro) n P ops Q (pm.getD j 0) K a w:=by
 obtain⟨v,hv⟩:∃ v,lv[j]?=some v:=⟨_,z3 aT⟩;obtain⟨o,ho,hc,hk⟩:=hl.comp j v hv;obtain⟨cN,m,ρ,hm,lY,hH,hL,dR,hE⟩:=hI;have mK:∀ i,i<j->d.lt i j=true->A i=true:=by
  intro i hi aj;obtain⟨e,he,h⟩:=hd.path j aT i hi aj;have mJ:=hd.edge j aT e he;have gI:A e=true:=fH e he;rcases h with rfl|⟨h1,h2⟩
  .exact gI
  .exact TA hd cN e (by omega) gI i h1 h2
 have gY:∀ i,i<lv.length->j<i->d.lt j i=true->A i=false:=by
  intro i hi aU aj;cases hA:A i with
  |false=>rfl
  |true=>rw[TA hd cN i hi hA j aU aj] at kB;cases kB
 have mL:∀ x,x∈Ni v->(EL lv env tr A lv.length)[x]?=(EL lv env tr (λ_=>true) j)[x]?:=by
  intro x hx;rw[<-Ra lv env tr j lv.length (by omega)];refine T4 lv env tr x lv.length λl bm bI=>?_;cases bH:lv[l]? with
  |none=>rw[bH] at bI;cases bI
  |some u =>
   rw[bH] at bI;rcases Nat.lt_trichotomy l j with h|h|h
   .have aj:d.lt l j=true:=by
     cases aj:d.lt l j with
     |true=>rfl
     |false=>exact absurd hx ((hl.touch l j u v bH hv (hd.free j aT l h aj).1).1 x bI)
    simp_all
   .simp_all
   .have aj:d.lt j l=true:=by
     cases aj:d.lt j l with
     |true=>rfl
     |false=>exact absurd hx ((hl.touch j l v u hv bH (hd.free l bm j h aj).1).2 x bI)
    grind
 obtain⟨b,f1,f2,f3,tx,f4⟩:=hF v hv;have hw:JV (EL lv env tr A lv.length) v.guard=some b:=by
  grind [I8,Io]
 have jg:∀ x∈v.op.opds,Q5 (EL lv env tr A lv.length) x=Q5 (EL lv env tr (λ_=>true) j) x:=(by grind [I3,Q43]);obtain⟨de,bI,bC⟩:=T_ hc hL hw;have eC:EL lv env tr A' lv.length=Wg (EL lv env tr A lv.length) v.dst (tr j):=by
  apply x3;intro x;by_cases hx:v.dst=some x
  .have h1:(EL lv env tr A' lv.length)[x]?=(EL lv env tr (λl=>decide (l<j+1)) lv.length)[x]?:=by
    refine T4 lv env tr x lv.length λl bm ck=>?_;rw[bA];by_cases fp:l=j
    .subst fp;simp
    .rw[z0 fp];cases bH:lv[l]? with
     |none=>rw[bH] at ck;cases ck
     |some u =>
      rw[bH] at ck;have oD:=Q4g hx;rcases zu l j with h|h
      .have aj:d.lt l j=true:=by
        cases aj:d.lt l j with
        |true=>rfl
        |false=>exact absurd oD ((hl.touch l j u v bH hv (hd.free j aT l h aj).1).1 x ck)
       grind
      .have h':j<l:=by omega
       have aj:d.lt j l=true:=by
        cases aj:d.lt j l with
        |true=>rfl
        |false=>exact absurd oD ((hl.touch j l v u hv bH (hd.free l bm j h' aj).1).2 x ck)
       grind
   rw[h1,Ra lv env tr (j+1) lv.length (by omega)];simp only[EL,zn,hv,x8,hx,Wg];rw[xt,xt];simp only[zn,Uf]
  grind [T1,T4]
 have b6:∀ i,i<lv.length->A' i=true->∀ e∈d.ed.getD i [],A' e=true:=by
  grind
 have pQ:d.k j=2->d.rank j=m:=by
  intro aC;have h1:¬ d.rank j<m:=(by grind);by_cases h2:d.rank j=m
  .exact h2
  .obtain⟨l,fp,dw,eR⟩:=G3 d j m (by omega);have aj:d.lt l j=true:=by
    cases aj:d.lt l j with
    |true=>rfl
    |false=>exact absurd ⟨dw,aC⟩ (hd.free j aT l fp aj).2
   grind
 have fg:d.k j=2->∀ l,l<lv.length->d.k l=2->(A' l=true<->d.rank l<m+1):=by
  grind [Nat.lt_or_ge,E2]
 have jh:d.k j≠2->∀ l,l<lv.length->d.k l=2->(A' l=true<->d.rank l<m):=by
  grind
 have kC:d.k j=2->m+1<=d.rank lv.length:=(by grind [E2]);unfold wpOpIn;simp only[ho];cases b with
 |false =>
  rw[de,z0 (by simp)];obtain⟨g1,g2⟩:=f4 rfl;refine⟨λf _=>Q76 _ _,hK _ _ ⟨b6,?_⟩⟩;by_cases aC:d.k j=2
  .grind [W9,VN,Xf]
  .grind [W9,VN,Xf]
 |true =>
  rw[de,z2 rfl];by_cases aC:d.k j=2
  .have fq:=pQ aC;have g1:=f2 rfl (hk▸aC);rw[fq] at g1;rw[<-Q2g jg] at g1;refine Mn hS bC hH hL g1 λc w' ⟨u,ρ',U',⟨hu,hσ⟩,eL,gm,dP⟩=>hK _ _ ⟨b6,?_⟩;subst hu;subst hσ;refine⟨m+1,ρ',fg aC,kC aC,gm,?_,by rw[W9];exact dR.ext hH dP,hE.trans dP⟩;rw[eC,bI];exact VN (dP.lrel hL) eL o.dst
  .have g2:∃ σ1,Qc v.op (Q5 (EL lv env tr A lv.length)) (hp m)=some (tr j,σ1):=by
    rw[Si jg];by_cases bn:d.k j=1
    .obtain⟨⟨k1,k4⟩,k3,k2⟩:=hd.kmin j aT bn;refine f3 rfl (hk▸bn) m ?_ ?_ (pP m hm lY)
     .rcases zu m (d.kmin j) with h|h
      .obtain⟨l,bm,dw,eR⟩:=G3 d j m (by omega)
       grind
      .exact h
     .rcases zu (d.kmax j) m with h|h
      .obtain⟨l,bm,dw,eR⟩:=G3 d lv.length (d.kmax j) (by omega);have aj:=(k2 l bm dw).2.2 (by omega);have rH:=(hm l bm dw).2 (by omega);rcases Nat.lt_trichotomy j l with h'|h'|h'
       .simp_all
       .subst h';omega
       .exfalso;have ky:d.rank l<d.rank j:=E2 d h' dw;omega
      .exact h
    .have jc:v.op.kind=0:=by
      grind [Z4p]
     obtain⟨σ1,g1⟩:=tx rfl (by omega) (by omega);exact⟨hp m,Q0e jc g1⟩
   obtain⟨σ1,g2⟩:=g2;have hq:=Tq (hk▸aC) g2;subst hq;refine Mn hS (K:=λv' U'=>v'=tr j/\U'=hp m) bC hH hL (by grind [Z4q]) λc w' ⟨u,ρ',U',⟨hu,hσ⟩,eL,gm,dP⟩=>hK _ _ ⟨b6,?_⟩;subst hu;subst hσ;refine⟨m,ρ',jh aC,lY,gm,?_,by rw[W9];exact dR.ext hH dP,hE.trans dP⟩;rw[eC,bI];exact VN (dP.lrel hL) eL o.dst
theorem Q3x (hS:OkSpecs P S) {ro:Option Nat}{n:Nat}{ops:Array Oper}{pm:List Nat}{d:DInfo}{lv:List VOper}(hl:DLink P ops pm d lv) (hd:DOk d lv.length) {env:Env}{tr:Nat->Value}{hp:Nat->Heap}
  {j:Nat}{v:VOper}(hv:lv[j]?=some v) (pR:v.op.kind=2) (vK:JV (EL lv env tr (λ_=>true) j) v.guard=some true) {R:Value->Heap->Prop}(fG:vop S v.op (EL lv env tr (λ_=>true) j) (hp (d.rank j)) R)
  {Q:Exit->Act->World->Prop}{ρ0:Plc}{σ0:Heap}{w0:World}{A:Nat->Bool}{a:Act}{w:World}(hI:DInv B d lv env tr hp ρ0 σ0 w0 A a w) (rI:∀ l,j<=l->l<lv.length->A l=false)
  (aT:j<lv.length) (kB:A j=false) (fH:∀ e∈d.ed.getD j [],A e=true) {A':Nat->Bool}(bA:∀ i,A' i=if i=j then true else A i) {K:Act->World->Prop}
  (hK:∀ u U' a' w',R u U'->(∀ tr' bu,(∀ l,l<j->tr' l=tr l)->tr' j=u->(∀ r,r<=d.rank j->bu r=hp r)->bu (d.rank j+1)=U'->DInv B d lv env tr' bu ρ0 σ0 w0 A' a' w')->K a' w'):wpOpIn (FF ro) n P ops Q (pm.getD j 0) K a w:=by
 obtain⟨o,ho,hc,hk⟩:=hl.comp j v hv;obtain⟨cN,m,ρ,hm,lY,hH,hL,dR,hE⟩:=hI;have mK:∀ i,i<j->d.lt i j=true->A i=true:=by
  intro i hi aj;obtain⟨e,he,h⟩:=hd.path j aT i hi aj;have mJ:=hd.edge j aT e he;have gI:A e=true:=fH e he;rcases h with rfl|⟨h1,h2⟩
  .exact gI
  .exact TA hd cN e (by omega) gI i h1 h2
 have gY:∀ i,i<lv.length->j<i->d.lt j i=true->A i=false:=by
  grind
 have mL:∀ x,x∈Ni v->(EL lv env tr A lv.length)[x]?=(EL lv env tr (λ_=>true) j)[x]?:=by
  intro x hx;rw[<-Ra lv env tr j lv.length (by omega)];refine T4 lv env tr x lv.length λl bm bI=>?_;cases bH:lv[l]? with
  |none=>rw[bH] at bI;cases bI
  |some u =>
   rw[bH] at bI;rcases Nat.lt_trichotomy l j with h|h|h
   .have aj:d.lt l j=true:=by
     cases aj:d.lt l j with
     |true=>rfl
     |false=>exact absurd hx ((hl.touch l j u v bH hv (hd.free j aT l h aj).1).1 x bI)
    simp_all
   .simp_all
   .grind
 have hw:JV (EL lv env tr A lv.length) v.guard=some true:=by
  grind [I8,Io]
 have jg:∀ x∈v.op.opds,Q5 (EL lv env tr A lv.length) x=Q5 (EL lv env tr (λ_=>true) j) x:=(by grind [I3,Q43]);obtain⟨de,bI,bC⟩:=T_ hc hL hw;have eC:∀ tr:Nat->Value,EL lv env tr A' lv.length=Wg (EL lv env tr A lv.length) v.dst (tr j):=λtr=>by
  apply x3;intro x;by_cases hx:v.dst=some x
  .have h1:(EL lv env tr A' lv.length)[x]?=(EL lv env tr (λl=>decide (l<j+1)) lv.length)[x]?:=by
    refine T4 lv env tr x lv.length λl bm ck=>?_;rw[bA];by_cases fp:l=j
    .subst fp;simp
    .rw[z0 fp];cases bH:lv[l]? with
     |none=>rw[bH] at ck;cases ck
     |some u =>
      rw[bH] at ck;have oD:=Q4g hx;rcases zu l j with h|h
      .have aj:d.lt l j=true:=by
        cases aj:d.lt l j with
        |true=>rfl
        |false=>exact absurd oD ((hl.touch l j u v bH hv (hd.free j aT l h aj).1).1 x ck)
       grind
      .grind
   rw[h1,Ra lv env tr (j+1) lv.length (by omega)];simp only[EL,zn,hv,x8,hx,Wg];rw[xt,xt];simp only[zn,Uf]
  grind [T1,T4]
 have b6:∀ i,i<lv.length->A' i=true->∀ e∈d.ed.getD i [],A' e=true:=by
  grind
 have pQ:d.k j=2->d.rank j=m:=by
  intro aC;have h1:¬ d.rank j<m:=(by grind);by_cases h2:d.rank j=m
  .exact h2
  .obtain⟨l,fp,dw,eR⟩:=G3 d j m (by omega);have aj:d.lt l j=true:=by
    cases aj:d.lt l j with
    |true=>rfl
    |false=>exact absurd ⟨dw,aC⟩ (hd.free j aT l fp aj).2
   grind
 have fg:d.k j=2->∀ l,l<lv.length->d.k l=2->(A' l=true<->d.rank l<m+1):=by
  grind [Nat.lt_or_ge,E2]
 have jh:d.k j≠2->∀ l,l<lv.length->d.k l=2->(A' l=true<->d.rank l<m):=by omega
 have kC:d.k j=2->m+1<=d.rank lv.length:=(by grind [E2]);unfold wpOpIn;simp only[ho];rw[de,z2 rfl];have aC:d.k j=2:=hk.trans pR;have fq:=pQ aC;rw[fq,<-Q2g jg] at fG;refine Mn hS bC hH hL fG λc w' ⟨u,ρ',U',hR,eL,gm,dP⟩=>hK u U' _ _ hR λtr' bu t1 t2 t3 t4=>⟨b6,m+1,ρ',fg aC,kC aC,?_,?_,?_,?_⟩
 .rw[<-fq,t4];exact gm
 .have e0:EL lv env tr' A lv.length=EL lv env tr A lv.length:=(by grind [Z7o,Nat.lt_or_ge]);rw[<-fq,t4,eC tr',e0,bI,t2];exact VN (dP.lrel hL) eL o.dst
 .rw[W9];exact dR.ext hH dP
 .rw[<-fq,t4];exact hE.trans dP
theorem J1j {ops:Array Oper}{pm:List Nat}{d:DInfo}{lv:List VOper}(_hl:DLink P ops pm d lv) {env:Env}{tr:Nat->Value}{hp:Nat->Heap}{ρ0:Plc}{σ0:Heap}{w0:World}{A:Nat->Bool}{a:Act}{w:World}
  (hI:DInv B d lv env tr hp ρ0 σ0 w0 A a w) (hall:∀ j,j<lv.length->A j=true):Lm B (List.length env) ρ0 σ0 w0 (λal U'=>al=EL lv env tr (λ_=>true) lv.length/\U'=hp (d.rank lv.length)) a w:=by
 obtain⟨cN,m,ρ,hm,lY,hH,hL,dR,hE⟩:=hI;have eD:m=d.rank lv.length:=by
  rcases zu m (d.rank lv.length) with h|h
  .grind [G3]
  .omega
 subst eD;have e:=Ng lv env (tr:=tr) (tr':=tr) (A:=A) (B:=λ_=>true) lv.length (λ_ _=>rfl) (λl hl=>hall l hl);exact⟨_,ρ,_,⟨rfl,rfl⟩,Uf _ _ _ _ _,hH,by rw[<-e];exact hL,dR,hE⟩
def Q9e (pm:List Nat) (d:DInfo) (n:Nat):(Nat->Bool)->List Nat->Prop
 |A,[]=>∀ p,p<n->A p=true
 |A,j::rest=>∃ p,p<n/\pm.getD p 0=j/\A p=false/\(∀ e∈d.ed.getD p [],A e=true)/\Q9e pm d n (λq=>if q=p then true else A q) rest
theorem Q6n (hS:OkSpecs P S) {ro:Option Nat}{n:Nat}{ops:Array Oper}{pm:List Nat}{d:DInfo}{lv:List VOper}(hl:DLink P ops pm d lv) (hd:DOk d lv.length) {env:Env}{K:Env->Heap->Prop}
  {Q:Exit->Act->World->Prop}{ρ0:Plc}{σ0:Heap}{w0:World}{l2:List Nat}(hQ:∀ a w,Lm B (List.length env) ρ0 σ0 w0 K a w->wpOpsIn (FF ro) n P ops Q l2 a w) {nd:List Nat}{i:Nat}{tr:Nat->Value}{hp:Nat->Heap}(tz:Know S d lv env K nd i tr hp) :
  ∀ (l:List Nat) (A:Nat->Bool) (a:Act) (w:World),Q9e pm d lv.length A l->DInv B d lv env tr hp ρ0 σ0 w0 A a w->(∀ j,i<=j->j<lv.length->A j=false)->(∀ j,j∈nd->j<lv.length->A j=true)->wpOpsIn (FF ro) n P ops Q (l++l2) a w:=by
 induction tz with
 |full hF hK =>
  intro l;induction l with
  |nil =>intro A a w hs hI _ _;obtain⟨al,ρ',U',⟨e1,e2⟩,n1⟩:=J1j hl hI hs;exact hQ a w ⟨al,ρ',U',by rw[e1,e2];exact hK,n1⟩
  |cons j rest ih =>
   intro A a w hs hI hA hN;obtain⟨p,bu,rfl,jH,he,cI⟩:=hs;rw[x7,wpOpsIn_cons];refine Cu hS hl hd (hF p bu λh=>?_) (λm _ h=>h) hI bu jH he (λ_=>rfl) λa' w' mM=>ih _ a' w' cI mM (λj h1 h2=>by omega) (λj hj lK=>?_)
   .rw[hN p h bu] at jH;cases jH
   .simp_all
 |part hv hk hw hF jF R fG I T H hT next tA =>
  rename_i nd i tr hp v;have a7:i<lv.length:=by
   grind
  intro l;induction l with
  |nil =>intro A a w hs hI hA _;have:=hs i a7;rw[hA i (z5 _) a7] at this;cases this
  |cons j rest ih =>
   intro A a w hs hI hA hN;obtain⟨p,bu,rfl,jH,he,cI⟩:=hs;rw[x7,wpOpsIn_cons];have eK:d.k i=2:=by obtain⟨_,_,_,h⟩:=hl.comp i v hv;exact h.trans hk
   rcases Nat.lt_trichotomy p i with lZ|rfl|lZ
   .refine Cu hS hl hd (hF p lZ λh=>?_) (λm hm _=>?_) hI bu jH he (λ_=>rfl) λa' w' mM=>ih _ a' w' cI mM (λj h1 h2=>?_) (λj hj lK=>?_)
    .rw[hN p h bu] at jH;cases jH
    .grind
    .grind
    simp_all
   .refine Q3x hS hl hd hv hk hw fG hI hA bu jH he (λ_=>rfl) λu U' a' w' hR mM=>?_;obtain⟨q1,q2,q3,q4,q5⟩:=hT u U' hR;refine tA u U' hR _ _ a' w' cI (mM _ _ q2 q3 q4 q5) (λj h1 h2=>?_) (λj hj lK=>?_)
    .grind
    grind
   .exfalso;obtain⟨e,u,h1,h2,hu,hn⟩:=jF p lZ bu;have jG:=z3 bu;have aj:d.lt e p=true:=by
     cases h:d.lt e p with
     |true=>rfl
     |false =>
      rcases hn with⟨x,hx,hn⟩|⟨mf,mN⟩
      .exact absurd (hn _ jG) ((hl.touch e p u _ hu jG (hd.free p bu e h2 h).1).1 x hx)
      .obtain⟨_,_,_,q1⟩:=hl.comp e u hu;obtain⟨_,_,_,q2⟩:=hl.comp p _ jG;exact absurd ⟨q1.trans mf,q2.trans (mN _ jG)⟩ (hd.free p bu e h2 h).2
    have gI:A e=true:=by
     obtain⟨e',rJ,h3⟩:=hd.path p bu e h2 aj;have mO:=he e' rJ;rcases h3 with rfl|⟨h3,h4⟩
     .exact mO
     .exact TA hd hI.closed e' (by have:=hd.edge p bu e' rJ;omega) mO e h3 h4
    grind
def Nz (ops:Array Oper):Array Bool->List Nat->Prop
 |L,[]=>∀ j,j<ops.size->L.getD j false=true
 |L,j::rest=>j∈Region.ready .any ops L/\Nz ops (L.setIfInBounds j true) rest
theorem Gb (L:Array Bool) (j i:Nat) (hj:j<L.size):(L.setIfInBounds j true).getD i false=if i=j then true else L.getD i false:=by
 by_cases h:i=j
 .subst h;simp[hj]
 .simp[h,Array.getElem?_setIfInBounds_ne (Ne.symm h)]
theorem Z0o {ops:Array Oper}(gZ:∀ (j:Nat) (o:Oper),ops[j]?=some o->∀ e∈SF o,e<j) {L:Array Bool}(hs:L.size=ops.size) (h:Region.ready .any ops L=[]):∀ j,j<ops.size->L.getD j false=true:=by
 intro j;induction j using Nat.strongRecOn with
 |ind j ih =>
  intro hj;cases hA:L.getD j false with
  |true=>rfl
  |false =>
   exfalso;have:j∈Region.ready .any ops L:=by
    refine mem_ready.2 ⟨?_,ops[j],xE hj,λe he hb=>?_⟩
    .simp_all
    .have:=gZ j ops[j] (xE hj) e.on (zC.2 (by grind));exact ih _ this (by omega)
   rw[h] at this;cases this
theorem Cb {ops:Array Oper}{L:Array Bool}(hs:L.size=ops.size) {j:Nat}(h:j∈Region.ready .any ops L):j<ops.size/\L.getD j false=false/\∃ o,ops[j]?=some o/\∀ e∈SF o,L.getD e false=true:=by obtain⟨h1,o,ho,h2⟩:=mem_ready.1 h;have aT:j<ops.size:=(xJ.1 ho).1;refine⟨aT,by simp[hs,aT] at h1 |-;exact h1,o,ho,λe he=>?_⟩;obtain⟨x,hx,rfl⟩:=zC.1 he;simp_all
theorem Z3g {ops:Array Oper}(gZ:∀ (j:Nat) (o:Oper),ops[j]?=some o->∀ e∈SF o,e<j):∀ (fuel t:Nat) (L:Array Bool),L.size=ops.size->cnt (λi=>L.getD i false) ops.size<=fuel ->
  Nz ops L (Region.linearise.go .any ops fuel t L []):=by
 intro fuel;induction fuel with
 |zero =>intro t L hs hc;simp only[Region.linearise.go,List.reverse_nil,Nz];exact Q4a (by omega)
 |succ fuel ih =>
  intro t L hs hc;simp only[Region.linearise.go]
  change Nz ops L (match (Region.ready .any ops L)[t % (Region.ready .any ops L).length]? with
   |some i=>Region.linearise.go .any ops fuel (t / (Region.ready .any ops L).length) (L.setIfInBounds i true) [i]
   |none=>[].reverse)
  cases hi:(Region.ready .any ops L)[t % (Region.ready .any ops L).length]? with
  |none =>
   have ji:Region.ready .any ops L=[]:=by
    cases hr:Region.ready .any ops L with
    |nil=>rfl
    |cons x xs =>rw[hr] at hi;have aj:t % (x::xs).length<(x::xs).length:=x6 _ (by simp);simp at hi;simp at aj;omega
   simp only[List.reverse_nil,Nz];exact Z0o gZ hs ji
  |some i =>
   simp only[];rw[linearise_go_acc,List.reverse_singleton,List.singleton_append];have jI:=xh hi;obtain⟨a7,oE,_⟩:=Cb hs jI;refine⟨jI,ih _ _ (by simp[hs]) ?_⟩;have jJ:i<L.size:=by rw[hs];exact a7
   have:=Z0x (A:=λi=>L.getD i false) (B:=λk=>(L.setIfInBounds i true).getD k false) (j:=i) oE (by simp only[Gb L i i jJ,zn]) (λk hk=>by simp only[Gb L i k jJ,z0 hk]) ops.size a7;omega
theorem Q3l {ops:Array Oper}:∀ (l:List Nat) (L:Array Bool),L.size=ops.size->Nz ops L l->l.Nodup/\∀ j,j∈l<->(j<ops.size/\L.getD j false=false):=by
 intro l;induction l with
 |nil=>intro L hs h;exact⟨List.nodup_nil,λj=>⟨λh=>(by cases h),λ⟨h1,h2⟩=>by rw[h j h1] at h2;cases h2⟩⟩
 |cons i l ih =>
  intro L hs h;obtain⟨jI,h'⟩:=h;obtain⟨a7,oE,_⟩:=Cb hs jI;have jJ:i<L.size:=by rw[hs];exact a7
  obtain⟨k1,k2⟩:=ih _ (by simp[hs]) h';refine⟨xI.2 ⟨λhm=>?_,k1⟩,λj=>?_⟩
  .simp_all
  .grind [Gb]
structure DBase (ops:Array Oper) (d:DInfo):Prop where
 ed:∀ (j:Nat) (o:Oper),ops[j]?=some o->d.ed.getD j []=SF o
 edge:∀ j,j<ops.size->∀ e∈d.ed.getD j [],e<j
 path:∀ j,j<ops.size->∀ i,i<j->d.lt i j=true->∃ e∈d.ed.getD j [],e=i\/(i<e/\d.lt i e=true)
 up:∀ i j,d.lt i j=true->i<j
 size:d.ks.length=ops.size
theorem Q3n {ops:Array Oper}{d:DInfo}(hb:DBase ops d) {A:Nat->Bool}(hc:∀ j,j<ops.size->A j=true->∀ e∈d.ed.getD j [],A e=true):∀ j,j<ops.size->A j=true->∀ i,i<j->d.lt i j=true->A i=true:=by
 intro j;induction j using Nat.strongRecOn with
 |ind j ih =>
  intro hj hA i hi aj;obtain⟨e,he,h⟩:=hb.path j hj i hi aj;have mJ:=hb.edge j hj e he;have gI:=hc j hj hA e he;rcases h with rfl|⟨h1,h2⟩
  .exact gI
  .exact ih e mJ (by omega) gI i h1 h2
theorem Z7n {ops:Array Oper}{d:DInfo}(hb:DBase ops d):∀ (l:List Nat) (L:Array Bool),L.size=ops.size->(∀ j,j<ops.size->L.getD j false=true->∀ e∈d.ed.getD j [],L.getD e false=true)->Nz ops L l ->
  l.Pairwise λj i=>d.lt i j=false:=by
 intro l;induction l with
 |nil=>intro L _ _ _;exact List.Pairwise.nil
 |cons j l ih =>
  intro L hs hc h;obtain⟨jI,h'⟩:=h;obtain⟨a7,oE,o,ho,gZ⟩:=Cb hs jI;have jJ:j<L.size:=by rw[hs];exact a7
  have d_:∀ k,k<ops.size->(L.setIfInBounds j true).getD k false=true->∀ e∈d.ed.getD k [],(L.setIfInBounds j true).getD e false=true:=by
   intro k hk hA e he;rw[Gb L j e jJ];split
   .rfl
   .rw[Gb L j k jJ] at hA;split at hA
    .rename_i tB;subst tB;rw[hb.ed _ o ho] at he;exact gZ e he
    .exact hc k hk hA e he
  obtain⟨k1,k2⟩:=Q3l l _ (by simp[hs]) h';refine List.Pairwise.cons (λi hi=>?_) (ih _ (by simp[hs]) d_ h');cases aj:d.lt i j with
  |false=>rfl
  |true =>
   exfalso;have cB:=hb.up i j aj;have hA:(L.setIfInBounds j true).getD j false=true:=by rw[Gb L j j jJ,z2 rfl]
   have:=Q3n hb d_ j a7 hA i cB aj;rw[((k2 i).1 hi).2] at this;cases this
theorem O1 (lt:Nat->Nat->Bool):∀ (s l:List Nat) (n:Nat),s.Perm l->l.length<=n->s.Pairwise (λj i=>lt i j=false)->s∈exts lt n l:=by
 intro s;induction s with
 |nil =>intro l n hp hn _;have:l=[]:=hp.symm.eq_nil;subst this;cases n<;>simp[exts]
 |cons k s ih =>
  intro l n hp hn hs;have hk:k∈l:=hp.mem_iff.1 (by simp);cases l with
  |nil=>cases hk
  |cons x xs =>
   cases n with
   |zero=>simp at hn
   |succ n =>
    simp only[exts];refine List.mem_flatMap.2 ⟨k,hk,?_⟩;obtain⟨h1,h2⟩:=xP.1 hs;have hall:((x::xs).all λi=>i==k||!lt i k)=true:=by
     grind
    rw[z2 hall];refine zC.2 ⟨s,ih _ n ?_ ?_ h2,rfl⟩
    .grind
    .simp_all
theorem Z18 {j:Nat}:∀ (a a' b b':List Nat),j∉a->j∉a'->a++j::b=a'++j::b'->a=a':=by
 intro a;induction a with
 |nil =>
  intro a' b b' _ h' h;cases a' with
  |nil=>rfl
  |cons x a'=>simp at h;exact(by simp_all)
 |cons x a ih =>
  intro a' b b' h1 h2 h;cases a' with
  |nil=>simp at h;exact(by simp_all)
  |cons y a' =>simp at h;obtain⟨rfl,h⟩:=h;rw[ih a' b b' (λhm=>h1 (by simp[hm])) (λhm=>h2 (by simp[hm])) h]
theorem Q4l {ops:Array Oper}{d:DInfo}(hb:DBase ops d):∀ (l:List Nat) (L:Array Bool),L.size=ops.size->Nz ops L l->∀ pre j post,l=pre++j::post->∀ e∈d.ed.getD j [],L.getD e false=true\/e∈pre:=by
 intro l;induction l with
 |nil=>intro L _ _ pre j post h;simp at h
 |cons i l ih =>
  intro L hs h pre j post he e kD;obtain⟨jI,h'⟩:=h;obtain⟨a7,oE,o,ho,gZ⟩:=Cb hs jI;have jJ:i<L.size:=by rw[hs];exact a7
  cases pre with
  |nil =>simp at he;obtain⟨rfl,_⟩:=he;rw[hb.ed _ o ho] at kD;exact .inl (gZ e kD)
  |cons x pre =>
   simp at he;obtain⟨rfl,he⟩:=he;rcases ih _ (by simp[hs]) h' pre j post he e kD with h1|h1
   .grind [Gb]
   .exact .inr (by simp[h1])
theorem Q2c {d0 d:DInfo}{pm l:List Nat}(N:Nat) (hN:∀ i∈l,i<N) (rF:pm.Nodup) (gW:l.Nodup) (aW:∀ i,i∈pm<->i∈l) (cO:∀ pre j post,l=pre++j::post->∀ e∈d0.ed.getD j [],e∈l->e∈pre)
  (gZ:∀ p,p<pm.length->d.ed.getD p []=Z57 d0 pm p) (hf:pm.filter (λi=>d0.k i==2)=l.filter (λi=>d0.k i==2)) :
  ∀ (post pre:List Nat),l=pre++post->Q9e pm d pm.length (λq=>pre.contains (pm.getD q N)) post:=by
 intro post;induction post with
 |nil =>
  intro pre hl p hp;have hm:pm.getD p N∈pm:=by simp[z9,hp]
  have:=(aW _).1 hm;rw[hl,xn] at this;simpa using this
 |cons j post ih =>
  intro pre hl;have cH:j∈l:=by rw[hl];simp
  have fq:=(aW j).2 cH;have hp:pm.idxOf j<pm.length:=List.idxOf_lt_length_of_mem fq;have vL:pm[pm.idxOf j]'hp=j:=List.getElem_idxOf hp;have hg:∀ z,pm.getD (pm.idxOf j) z=j:=(by simp_all);have mP:j∉pre:=(by grind);refine⟨pm.idxOf j,hp,hg 0,by simp only[hg];simpa using mP,λe he=>?_,?_⟩
  .rw[gZ _ hp] at he;rcases xk.1 he with he|he
   .obtain⟨e0,rr,rfl⟩:=zC.1 he
    grind
   .split at he
    .rename_i aC;rw[hg] at aC;obtain⟨hq,hk⟩:=zU.1 (List.mem_of_getLast? (Option.mem_toList.1 he));have cz:e<pm.idxOf j:=zS.1 hq;have hel:e<pm.length:=by omega
     have heq:pm.getD e N=pm[e]'hel:=by simp[z9,hel]
     have pS:pm.getD e 0=pm[e]'hel:=by simp[z9,hel]
     rw[pS] at hk;simp only[heq];have fI:pm=pm.take (pm.idxOf j)++j::pm.drop (pm.idxOf j+1):=by
      grind [List.take_append_drop,List.drop_eq_getElem_cons]
     have rK:j∉pm.take (pm.idxOf j):=by
      grind
     have tC:(pm.take (pm.idxOf j)).filter (λi=>d0.k i==2)++j::(pm.drop (pm.idxOf j+1)).filter (λi=>d0.k i==2)=pre.filter (λi=>d0.k i==2)++j::post.filter (λi=>d0.k i==2):=by
      grind
     have:=Z18 _ _ _ _ (by grind) (by grind) tC;have a7:pm[e]∈(pm.take (pm.idxOf j)).filter (λi=>d0.k i==2):=(by grind)
     grind
    .cases he
  .have pT:(λq=>if q=pm.idxOf j then true else pre.contains (pm.getD q N))=λq=>(pre++[j]).contains (pm.getD q N):=by
    grind
   rw[pT];exact ih (pre++[j]) (by rw[hl];simp)
theorem Z0q {ops:Array Oper}{vs:List VOper}(h:ops.toList.mapM (JH P ops)=some vs) (av:(NX ops.toList vs).okB=true):DBase ops (NX ops.toList vs):=by
 have hlen:vs.length=ops.size:=by have:=(Yr _ _ _ h).1;simpa using this
 have lX:(NX ops.toList vs).ks.length=ops.size:=by simp[NX,hlen]
 have cL:=av;unfold DInfo.okB at cL;rw[z1,ze] at cL;obtain⟨vM,mr⟩:=cL;have h0:∀ j,j<ops.size->(NX ops.toList vs).okE j=true/\(NX ops.toList vs).an.getD j 0<2 ^ j/\((List.range j).all λi=>!((NX ops.toList vs).lt i j)||((NX ops.toList vs).ed.getD j []).any (λe=>e==i||decide (i<e)&&(NX ops.toList vs).lt i e))=true:=(by simp_all);have mQ:∀ j,j<ops.size->∀ e∈(NX ops.toList vs).ed.getD j [],e<j:=λj hj e he=>by have:=zg.1 (h0 j hj).1 e he;simpa using this
 refine⟨λj o ho=>by simp[NX,z9,ho],mQ,λj hj i hi aj=>?_,λi j aj=>?_,lX⟩
 .grind
 .rcases zu i j with h|h
  .exact h
  .exfalso;unfold DInfo.lt at aj
   grind [Nat.lt_or_ge,Nat.lt_of_lt_of_le,Nat.pow_le_pow_right,Nat.testBit_lt_two_pow,List.getElem?_eq_none]
theorem Q5o {t:Nat}:∀ (l:List Nat),l.Pairwise (λj i=>¬ (i<t/\t<=j))->l=l.filter (λi=>decide (i<t))++l.filter (λi=>decide (t<=i))
 |[],_=>rfl
 |x::l,h=>by
  obtain⟨h1,h2⟩:=xP.1 h;have ih:=Q5o l h2;by_cases hx:x<t
  .grind
  .have rh:t<=x:=by omega
   have ji:l.filter (λi=>decide (i<t))=[]:=(by grind [List.filter_eq_nil_iff])
   grind
theorem As (hS:OkSpecs P S) {ro:Option Nat}{n:Nat}{ops:Array Oper}{vs:List VOper}(cy:ops.toList.mapM (JH P ops)=some vs) {d0:DInfo}(_hb:DBase ops d0) {l l2 idx pm:List Nat}(gW:l.Nodup) (aj:∀ i∈l,i<ops.size) (tD:∀ i,i∈l<->i∈idx)
  (cO:∀ pre j post,l=pre++j::post->∀ e∈d0.ed.getD j [],e∈l->e∈pre) (eD:Z7x d0 vs idx (l.filter λi=>d0.k i==2) pm=true)
  {env:Env}{U:Heap}{K:Env->Heap->Prop}{ρ:Plc}{w:World}{a:Act}(pU:JA S ((Q35 d0 vs pm).opers (MB vs pm) 0) env [U] U [] K) (hH:HRel ρ U w) (hL:LRel ρ U.n env a.tmps.toList) (dR:Mks B a.defers w)
  {Q:Exit->Act->World->Prop}(hQ:∀ a' w',Lm B (List.length env) ρ U w K a' w'->wpOpsIn (FF ro) n P ops Q l2 a' w'):wpOpsIn (FF ro) n P ops Q (l++l2) a w:=by
 have mh:vs.length=ops.size:=by have:=(Yr _ _ _ cy).1;simpa using this
 simp only[Z7x,z1,ze,zg,List.contains_iff_mem] at eD;obtain⟨m1,m2,m3,m4,m5⟩:=eD;have mR:∀ i,i∈pm<->i∈l:=(by grind);have lZ:∀ i∈pm,i<vs.length:=(by simp_all);have hl:DLink P ops pm (Q35 d0 vs pm) (MB vs pm):=DLink.of cy lZ;have pV:(MB vs pm).length=pm.length:=by simp[MB]
 have lX:(Q35 d0 vs pm).ks.length=(MB vs pm).length:=by simp[Q35]
 have hd:=DOk.of m5;rw[lX] at hd;have gZ:∀ p,p<pm.length->(Q35 d0 vs pm).ed.getD p []=Z57 d0 pm p:=λp hp=>by simp[Q35,z9,hp]
 have g_:=Q2c (d:=Q35 d0 vs pm) ops.size aj m3 gW mR cO gZ m4 l [] (by simp);have fD:∀ i v,(MB vs pm)[i]?=some v->(Q35 d0 vs pm).k i=v.op.kind:=λi v hv=>(hl.comp i v hv).choose_spec.2.2;obtain⟨k,tr,hp,_,_,k2,k3⟩:=Z6m (Q35 d0 vs pm) (MB vs pm) fD env K (MB vs pm) 0 (by omega) rfl [] (λ_=>undef) (λ_=>U) [] (λl hl=>by omega) (λl hl=>by omega) (by simpa [DInfo.rank,EL] using pU);have pW:hp 0=U:=k2 0 (by omega);have mS:(λq=>([]:List Nat).contains (pm.getD q ops.size))=λ_=>false:=by funext q;rfl
 rw[mS] at g_;refine Q6n (B:=B) (pm:=pm) hS hl hd hQ k3 l (λ_=>false) a w (by rw[pV];exact g_) ?_ (λ_ _ _=>rfl) (λj hj=>by cases hj) (ρ0:=ρ) (σ0:=U) (w0:=w)
 .refine⟨λj hj hA=>(by cases hA),0,ρ,λl bm hk=>by simp,by omega,by rw[pW];exact hH,?_,dR,by rw[pW];exact Ext.refl _ _ _⟩;have e:EL (MB vs pm) env tr (λ_=>false) (MB vs pm).length=env:=by
   have:∀ m,EL (MB vs pm) env tr (λ_=>false) m=env:=by
    intro m;induction m with
    |zero=>rfl
    |succ m ih=>simp only[EL,zk,if_false];exact ih
   exact this _
  rw[e,pW];exact hL
theorem Oq (d:DInfo):∀ (lv:List VOper) (i:Nat),(∀ v∈lv,v.op.kind≠2)->∀ (env:Env) (U:Heap) (pend:List (Nat×(Heap->Prop))) (K:Env->Heap->Prop),F7 S lv env U K->JA S (d.opers lv i) env [U] U pend K:=by
 intro lv;induction lv with
 |nil=>intro i _ env U pend K h;exact h
 |cons v rest ih =>
  intro i hk env U pend K h;have aC:v.op.kind≠2:=hk v (by simp);have fY:∀ u∈rest,u.op.kind≠2:=λu hu=>hk u (by simp[hu]);simp only[F7] at h;simp only[DInfo.opers,JA];cases hw:JV env v.guard with
  |none=>rw[hw] at h;exact h.elim
  |some b =>
   rw[hw] at h;obtain⟨ht,hf⟩:=h;refine⟨λe=>?_,λe=>?_⟩
   .have ht:=ht e;have fF:∃ p,Qc v.op (Q5 env) U=some p/\F7 S rest (Wg env v.dst p.1) p.2 K:=by
     have c_:∀ x:XOp,v.op=.ext x->(∀ y,x≠.nextMap y):=λx hx y hy=>by rw[hx,hy] at aC;exact aC rfl
     have:=ht;unfold vop at this;split at this
     .rename_i f bN heq;rw[heq] at aC;exact absurd rfl aC
     .rename_i f bN heq;rw[heq] at aC;exact absurd rfl aC
     .simp_all
     .cases dC:Qc v.op (Q5 env) U with
      |none=>rw[dC] at this;exact this.elim
      |some p=>rw[dC] at this;exact⟨p,rfl,this⟩
    obtain⟨p,hp,hr⟩:=fF;have hq:p.2=U:=(by grind [Tq]);rw[hq] at hr;rw[z0 aC];split
    .rw[hp];refine⟨λZ hτ=>?_,ih (i+1) fY _ _ _ _ hr⟩;have:Z=U:=by
      grind
     subst this;show Zc (Qc v.op (Q5 env) Z) _;rw[hp];rfl
    .rw[hp];exact ih (i+1) fY _ _ _ _ hr
   .simp_all
theorem Q8b (hS:OkSpecs P S) {ro:Option Nat}{n:Nat}{ops:Array Oper}{vs:List VOper}(cy:ops.toList.mapM (JH P ops)=some vs) {d0:DInfo}(hb:DBase ops d0) (_hk0:∀ i v,vs[i]?=some v->d0.k i=v.op.kind) {s len:Nat}(hlen:0<len) (fT:s+len<=ops.size) {x:DSeg}(hx:J0i d0 vs s len=some x)
  {l l2:List Nat}(gW:l.Nodup) (aW:∀ i,i∈l<->(s<=i/\i<s+len)) (cO:∀ pre j post,l=pre++j::post->∀ e∈d0.ed.getD j [],e∈l->e∈pre) (fZ:l.Pairwise λj i=>d0.lt i j=false)
  {rest:List DSeg}{env:Env}{U:Heap}{K:Env->Heap->Prop}{ρ:Plc}{w:World}{a:Act}(h:RQ S (x::rest) env U K) (hH:HRel ρ U w) (hL:LRel ρ U.n env a.tmps.toList) (dR:Mks B a.defers w)
  {Q:Exit->Act->World->Prop}(hQ:∀ a' w',Lm B (List.length env) ρ U w (λenv U=>RQ S rest env U K) a' w'->wpOpsIn (FF ro) n P ops Q l2 a' w'):wpOpsIn (FF ro) n P ops Q (l++l2) a w:=by
 have mh:vs.length=ops.size:=by have:=(Yr _ _ _ cy).1;simpa using this
 unfold J0i at hx;split at hx
 .rename_i h1;subst h1;obtain rfl:=osj hx;have hs:s<ops.size:=by omega
  have ep:l=[s]:=by
   have hm:∀ i,i∈l<->i=s:=λi=>by rw[aW i];omega
   have hp:l.Perm [s]:=(by grind);exact List.perm_singleton.1 hp
  subst ep;obtain⟨v,hv,hc⟩:=(Yr _ _ _ cy).2 s ops[s] (by simp[hs]);have hg:vs.getD s default=v:=by simp[z9,hv]
  simp only[RQ,hg] at h;simp only[F7] at h;rw[List.singleton_append,wpOpsIn_cons];unfold wpOpIn;rw[xE hs];simp only;cases hw:JV env v.guard with
  |none=>rw[hw] at h;exact h.elim
  |some b =>
   rw[hw] at h;obtain⟨ht,hf⟩:=h;obtain⟨de,bI,bC⟩:=T_ hc hL hw;rw[de];cases b with
   |false =>rw[z0 (by simp)];refine⟨λf _=>Q76 _ _,hQ _ _ ⟨_,ρ,U,hf rfl,UY _ _ _,hH,by rw[bI];exact VN hL Xf _,by rw[W9];exact dR,Ext.refl _ _ _⟩⟩
   |true =>rw[z2 rfl];refine Mn hS bC hH hL (ht rfl) λc w' ⟨u,ρ',U',hK,eL,gm,hE⟩=>?_;exact hQ _ _ ⟨_,ρ',U',hK,UY _ _ _,gm,by rw[bI];exact VN (hE.lrel hL) eL _,by rw[W9];exact dR.ext hH hE,hE⟩
 .rename_i mf;simp only at hx;split at hx
  .rename_i hP;obtain rfl:=osj hx;simp only[RQ] at h;have mT:(l.filter λi=>d0.k i==2).Perm ((List.range' s len).filter λi=>d0.k i==2):=by
    grind [List.Perm.filter,List.perm_ext_iff_of_nodup,List.nodup_range']
   have hs:=O1 d0.lt _ _ len mT (by
    refine xu (List.length_filter_le _ _) (by simp)) (fZ.filter _)
   have eD:=zg.1 hP _ (zC.2 ⟨_,hs,rfl⟩);have pU:=h _ (zC.2 ⟨_,zC.2 ⟨_,hs,rfl⟩,rfl⟩);exact As hS cy hb gW (by grind) (by simp_all) cO eD pU hH hL dR (λa' w' hn=>by
    obtain⟨al,ρ',U',⟨dh,σ2,hD,hR⟩,n1,n2,n3,n4,n5⟩:=hn;obtain⟨ρ2,d1,d2,d3⟩:=hD ρ w ρ' w' a'.tmps.toList hH n5 n2 n3;exact hQ a' w' ⟨dh,ρ2,σ2,hR,(d1.1.trans n3.1.symm).trans n1,d2,d1,n4,d3⟩)
  .cases hx
theorem Q7m (hS:OkSpecs P S) {ro:Option Nat}{n:Nat}{ops:Array Oper}{vs:List VOper}(cy:ops.toList.mapM (JH P ops)=some vs) {d0:DInfo}(hb:DBase ops d0) (jc:∀ i v,vs[i]?=some v->d0.k i=v.op.kind)
  {Q:Exit->Act->World->Prop}{K:Env->Heap->Prop}:∀ (f s:Nat) (bk:List DSeg),Q9x d0 vs f s=some bk->s<=ops.size->∀ (l:List Nat),l.Nodup->(∀ i,i∈l<->(s<=i/\i<ops.size)) ->
   (∀ pre j post,l=pre++j::post->∀ e∈d0.ed.getD j [],e∈l->e∈pre)->(l.Pairwise λj i=>d0.lt i j=false) ->
   ∀ (env:Env) (U:Heap) (ρ:Plc) (w:World) (a:Act),RQ S bk env U K->HRel ρ U w->LRel ρ U.n env a.tmps.toList->Mks B a.defers w->(∀ a' w',Lm B (List.length env) ρ U w K a' w'->Q .normal a' w') ->
   wpOpsIn (FF ro) n P ops Q l a w:=by
 intro f
 have fin:∀ (s:Nat) (bk:List DSeg),s=d0.ks.length->[]=bk->∀ (l:List Nat),(∀ i,i∈l<->(s<=i/\i<ops.size))->∀ (env:Env) (U:Heap) (ρ:Plc) (w:World) (a:Act),RQ S bk env U K->HRel ρ U w->LRel ρ U.n env a.tmps.toList->Mks B a.defers w->(∀ a' w',Lm B (List.length env) ρ U w K a' w'->Q .normal a' w') ->
   wpOpsIn (FF ro) n P ops Q l a w:=by
  intro s bk hs ft l aW env U ρ w a h hH hL dR hQ;subst ft;have:l=[]:=by
   cases l with
   |nil=>rfl
   |cons x l =>have:=(aW x).1 (by simp);rw[hs,hb.size] at this;omega
  subst this;exact hQ a w ⟨env,ρ,U,h,rfl,hH,hL,dR,Ext.refl _ _ _⟩
 induction f with
 |zero =>
  intro s bk ft hs l gW aW cO fZ env U ρ w a h hH hL dR hQ;simp only[Q9x] at ft;split at ft
  .grind
  .cases ft
 |succ f ih =>
  intro s bk ft hs l gW aW cO fZ env U ρ w a h hH hL dR hQ;simp only[Q9x] at ft;split at ft
  .grind
  .rename_i aK;split at ft
   .cases ft
   .rename_i t ht;have pX:=List.find?_some ht;have mU:=List.mem_range'_1.1 (List.mem_of_find?_eq_some ht);rw[hb.size] at mU;split at ft
    .rename_i x r hx hr;obtain rfl:=osj ft;have aj:∀ i p,i<t->t<=p->p<ops.size->d0.lt i p=true:=λi p hi hp rF=>by
      have h1:=zg.1 pX p (List.mem_range'_1.2 ⟨hp,by rw[hb.size];omega⟩);simp_all
     have pY:l.Pairwise (λj i=>¬ (i<t/\t<=j)):=by
      grind [List.pairwise_iff_forall_sublist]
     have fI:=Q5o l pY;have jh:∀ i,i∈l.filter (λi=>decide (i<t))<->(s<=i/\i<s+(t-s)):=λi=>by rw[zU,aW i,ze];omega
     have fg:∀ i,i∈l.filter (λi=>decide (t<=i))<->(t<=i/\i<ops.size):=λi=>by rw[zU,aW i,ze];omega
     rw[fI];refine Q8b hS cy hb jc (by omega) (by omega) hx (gW.filter _) jh ?_ (fZ.filter _) h hH hL dR ?_
     .grind
     .intro a' w' ⟨al,ρ',U',k1,k0,k2,k3,k4,k5⟩;refine ih t r hr (by omega) _ (gW.filter _) fg ?_ (fZ.filter _) al U' ρ' w' a' k1 k2 k3 k4 ?_
      .intro pre j post he e kD hel;have:=cO (l.filter (λi=>decide (i<t))++pre) j post (fI.trans (by rw[he,zX])) e kD (zU.1 hel).1
       grind
      .intro a2 w2 ⟨dh,ρ2,σ2,m1,m0,m2,m3,m4,m5⟩;exact hQ a2 w2 ⟨dh,ρ2,σ2,m1,m0.trans k0,m2,m3,m4,k5.trans m5⟩
    .cases ft
theorem Q67 (hm:P.follows .mixedOrders=true) (hS:OkSpecs P S) {ro:Option Nat}{n:Nat}{id:Nat}{ops:Array Oper}{vs:List VOper}(cy:ops.toList.mapM (JH P ops)=some vs) {bk:List DSeg}(av:Z5o (NX ops.toList vs) vs=some bk)
  {env:Env}{U:Heap}{K:Env->Heap->Prop}{ρ:Plc}{w:World}{a:Act}(h:RQ S bk env U K) (hH:HRel ρ U w) (hL:LRel ρ U.n env a.tmps.toList) (dR:Mks B a.defers w)
  {Q:Exit->Act->World->Prop}(hQ:∀ a' w',Lm B (List.length env) ρ U w K a' w'->Q .normal a' w'):(Code.region id ops true).wpIn (FF ro) n P Q a w:=by
 unfold Z5o at av;split at av
 .rename_i hB;have hb:=Z0q cy hB;have fD:∀ i v,vs[i]?=some v->(NX ops.toList vs).k i=v.op.kind:=λi v hv=>by
   simp[DInfo.k,NX,z9,hv]
  generalize pC:NX ops.toList vs=d0 at *
  refine wpIn_region_draw λt=>?_;simp only[Region.schedule,hm,Bool.true_or,zn];have fJ:∀ (j:Nat) (o:Oper),ops[j]?=some o->∀ e∈SF o,e<j:=λj o ho e he=>hb.edge j (xJ.1 ho).1 e (by rw[hb.ed j o ho];exact he);have hall:∀ i,(Array.replicate ops.size false).getD i false=false:=λi=>by rw[Array.getD_eq_getD_getElem?,Array.getElem?_replicate];split<;>rfl
  have gx:=Z3g fJ ops.size t (Array.replicate ops.size false) (by simp) (by
   have:∀ m,cnt (λi=>(Array.replicate ops.size false).getD i false) m<=m:=by
    intro m;induction m with
    |zero=>exact z5 _
    |succ m ih=>simp only[cnt];split<;>omega
   exact this _)
  change wpOpsIn _ _ _ _ _ (Region.linearise.go .any ops ops.size t (Array.replicate ops.size false) []) _ _;generalize Region.linearise.go .any ops ops.size t (Array.replicate ops.size false) []=l at *
  obtain⟨gv,aW⟩:=Q3l l _ (by simp) gx;have fZ:=Z7n hb l _ (by simp) (λj _ hA=>by rw[hall] at hA;cases hA) gx;have cO:=Q4l hb l _ (by simp) gx;refine Q7m hS cy hb fD _ 0 bk av (by omega) l gv (λi=>by rw[aW i,hall];simp) (λpre j post he e kD _=>?_) fZ env U ρ _ a h hH.drew hL (dR.ext hH (Ext.drew _ _ _)) (λa' w' hn=>?_)
  .grind
  .obtain⟨al,ρ',U',n0,n1,n2,n3,n4,n5⟩:=hn;exact hQ a' w' ⟨al,ρ',U',n0,n1,n2,n3,n4,(Ext.drew _ _ _).trans n5⟩
 .cases av
theorem Q13 (hm:P.follows .mixedOrders=true) (hS:OkSpecs P S) {ro:Option Nat}{n:Nat}{id:Nat}{ops:Array Oper}{vs:List VOper}(cy:ops.toList.mapM (JH P ops)=some vs) (av:T9 (NX ops.toList vs) vs=true)
  {env:Env}{U:Heap}{K:Env->Heap->Prop}{ρ:Plc}{w:World}{a:Act}(h:F7 S vs env U K) (hH:HRel ρ U w) (hL:LRel ρ U.n env a.tmps.toList) (dR:Mks B a.defers w)
  {Q:Exit->Act->World->Prop}(hQ:∀ a' w',Lm B (List.length env) ρ U w K a' w'->Q .normal a' w'):(Code.region id ops true).wpIn (FF ro) n P Q a w:=by
 simp only[T9,z1] at av;obtain⟨hB,pZ,jt⟩:=av;have hb:=Z0q cy hB;have mh:vs.length=ops.size:=by have:=(Yr _ _ _ cy).1;simpa using this
 have aC:∀ v∈vs,v.op.kind≠2:=(by simp_all);have fD:∀ i v,vs[i]?=some v->(NX ops.toList vs).k i=v.op.kind:=λi v hv=>by simp[DInfo.k,NX,z9,hv]
 generalize pC:NX ops.toList vs=d0 at *
 refine wpIn_region_draw λt=>?_;simp only[Region.schedule,hm,Bool.true_or,zn];have fJ:∀ (j:Nat) (o:Oper),ops[j]?=some o->∀ e∈SF o,e<j:=λj o ho e he=>hb.edge j (xJ.1 ho).1 e (by rw[hb.ed j o ho];exact he);have hall:∀ i,(Array.replicate ops.size false).getD i false=false:=λi=>by rw[Array.getD_eq_getD_getElem?,Array.getElem?_replicate];split<;>rfl
 have gx:=Z3g fJ ops.size t (Array.replicate ops.size false) (by simp) (by
  have:∀ m,cnt (λi=>(Array.replicate ops.size false).getD i false) m<=m:=by
   intro m;induction m with
   |zero=>exact z5 _
   |succ m ih=>simp only[cnt];split<;>omega
  exact this _)
 change wpOpsIn _ _ _ _ _ (Region.linearise.go .any ops ops.size t (Array.replicate ops.size false) []) _ _;generalize Region.linearise.go .any ops ops.size t (Array.replicate ops.size false) []=l at *
 obtain⟨gv,aW⟩:=Q3l l _ (by simp) gx;have cO:=Q4l hb l _ (by simp) gx;have aj:∀ i∈l,i<ops.size:=λi hi=>((aW i).1 hi).1;have ji:l.filter (λi=>d0.k i==2)=[]:=(by simp_all);have tE:MB vs (List.range' 0 d0.ks.length)=vs:=by
  apply x3;intro i;unfold MB;rw[xC];rcases zu i vs.length with hi|hi
  .rw[List.getElem?_range' (by rw[hb.size];omega),z3 hi];simp[z9,hi]
  .rw[xb (by simp[hb.size];omega),xb hi];rfl
 have hd:=Oq (S:=S) (Q35 d0 vs (List.range' 0 d0.ks.length)) vs 0 aC env U [] K h;rw[<-xn l];refine As hS cy hb gv aj (λi=>by rw[aW i,hall,List.mem_range'_1,hb.size];simp) (λpre j post he e kD _=>?_) (idx:=List.range' 0 d0.ks.length) (pm:=List.range' 0 d0.ks.length) (by rw[ji];exact jt) (by rw[tE];exact hd) hH.drew hL (dR.ext hH (Ext.drew _ _ _)) (λa' w' hn=>?_)
 .grind
 .obtain⟨al,ρ',U',n0,n1,n2,n3,n4,n5⟩:=hn;exact hQ a' w' ⟨al,ρ',U',n0,n1,n2,n3,n4,(Ext.drew _ _ _).trans n5⟩
theorem Q1c (hS:OkSpecs P S) {id:Nat}{ops:Array Oper}{lv:List VOper}(bH:ops.toList.mapM (JH P ops)=some lv):Sound P S (.region id ops false) (.region lv):=by
 intro B cM ro n Q env U ρ w a h hH hL hd hR Q' hQ;simp only[vwp] at h;refine wpIn_region ?_;rw[List.range_eq_range',<-Array.length_toList,wpOpsIn_eq_wpListIn ops.toList 0 (by simp)]
 grind [Q5y]
theorem cond_true {v:Value}{A B:Prop}(h:Z0a v A B):∃ t,v=.bool t/\(t=true->A)/\(t=false->B):=by
 unfold Z0a at h;split at h
 .exact⟨_,rfl,h⟩
 .exact h.elim
theorem Q60 {c:Code}{vc:VCode}(ih:Sound P S c vc):Sound P S (.loop c) (.loop vc):=by
 intro B cM ro n Q env U ρ w a h hH hL hd hR Q' hQ;simp only[vwp] at h;obtain⟨live,I,n0,h0,kE⟩:=h;refine wpIn_loop_ghost (λk a' w'=>Lm B (List.length env) ρ U w (λal U'=>I k (Ev live al) U') a' w') n0 ⟨env,ρ,U,h0,rfl,hH,hL,hd,Ext.refl _ _ _⟩ ?_;rintro k a1 w1 ⟨cu,ρ1,σ1,k1,k0,k2,k3,k4,k5⟩;have hlen:List.length (Um live (Ev live cu) (List.replicate env.length poison))=List.length env:=by rw[Q06];simp
 refine ih cM ro n _ _ σ1 ρ1 w1 a1 (kE k (Ev live cu) σ1 k1) k2 (Q7f live cu _ _ k3 (Q6m _ (by rw[<-k3.1,k0]))) k4 (hR.ext k5) _ ?_;rintro e a2 w2 ⟨dh,ρ2,σ2,m1,m0,m2,m3,m4,m5⟩;rw[hlen] at m0;cases e with
 |normal =>obtain⟨n',tF,hI⟩:=m1;exact⟨n',tF,dh,ρ2,σ2,hI,m0,m2,m3,m4,k5.trans m5⟩
 |_=>exact hQ _ a2 w2 ⟨dh,ρ2,σ2,m1,m0,m2,m3,m4,k5.trans m5⟩
theorem TO (c:Code):Sound P S c .bad:=by intro B cM ro n Q env U ρ w a h;exact h.elim
theorem Q6v (hm:P.follows .mixedOrders=true) (hS:OkSpecs P S):∀ (c:Code) (vc:VCode),comp P c=some vc->Sound P S c vc:=by
 intro c;induction c with
 |skip =>intro vc hc;simp[comp] at hc;subst hc;intro B cM ro n Q env U ρ w a h hH hL hd hR Q' hQ;exact wpIn_skip (hQ _ _ _ ⟨env,ρ,U,h,rfl,hH,hL,hd,Ext.refl _ _ _⟩)
 |region id ops dr =>
  intro vc hc;cases dr with
  |false =>simp only[comp,zw,zR] at hc;obtain⟨lv,bH,hc⟩:=hc;simp at hc;subst hc;exact Q1c hS bH
  |true =>
   simp only[comp,zw,zR] at hc;obtain⟨lv,bH,hc⟩:=hc;split at hc
   .rename_i av;simp at hc;subst hc;intro B cM ro n Q env U ρ w a h hH hL hd hR Q' hQ;exact Q13 hm hS bH av h hH hL hd (λa' w' hn=>hQ .normal a' w' hn)
   split at hc
   .rename_i bk av;simp at hc;subst hc;intro B cM ro n Q env U ρ w a h hH hL hd hR Q' hQ;exact Q67 hm hS bH av h hH hL hd (λa' w' hn=>hQ .normal a' w' hn)
   .simp at hc;subst hc;exact TO _
 |seq x y jK oF =>
  intro vc hc;simp only[comp,zw,zR] at hc;obtain⟨vx,hx,vy,hy,hc⟩:=hc;simp at hc;subst hc;intro B cM ro n Q env U ρ w a h hH hL hd hR Q' hQ;simp only[vwp] at h;refine wpIn_seq (jK vx hx cM ro n _ env U ρ w a h hH hL hd hR _ ?_);rintro e a1 w1 ⟨cu,ρ1,σ1,k1,k0,k2,k3,k4,k5⟩;cases e with
  |normal =>refine oF vy hy cM ro n _ cu σ1 ρ1 w1 a1 k1 k2 k3 k4 (hR.ext k5) _ ?_;rintro e2 a2 w2 ⟨dh,ρ2,σ2,m1,m0,m2,m3,m4,m5⟩;exact hQ e2 a2 w2 ⟨dh,ρ2,σ2,m1,m0.trans k0,m2,m3,m4,k5.trans m5⟩
  |_=>exact hQ _ a1 w1 ⟨cu,ρ1,σ1,k1,k0,k2,k3,k4,k5⟩
 |cond c x y jK oF =>
  intro vc hc;simp only[comp] at hc;split at hc
  .rename_i av;simp only[zw,zR] at hc;obtain⟨vx,hx,vy,hy,hc⟩:=hc;simp at hc;subst hc;intro B cM ro n Q env U ρ w a h hH hL hd hR Q' hQ;simp only[vwp] at h;obtain⟨t,ht,h1,h2⟩:=cond_true h;have hv:=YM hL av;rw[ht] at hv;refine wpIn_cond_split hv.q1a (λe=>?_) (λe=>?_)
   .exact jK vx hx cM ro n Q env U ρ w a (h1 e) hH hL hd hR Q' hQ
   .exact oF vy hy cM ro n Q env U ρ w a (h2 e) hH hL hd hR Q' hQ
  .simp at hc;subst hc;exact TO _
 |block id x jK =>
  intro vc hc;simp only[comp,zw,zR] at hc;obtain⟨vx,hx,hc⟩:=hc;simp at hc;subst hc;intro B cM ro n Q env U ρ w a h hH hL hd hR Q' hQ;simp only[vwp] at h;refine wpIn_block (jK vx hx cM ro n _ env U ρ w a h hH hL hd hR _ ?_);rintro e a1 w1 ⟨cu,ρ1,σ1,k1,k0,k2,k3,k4,k5⟩;cases e with
  |exit j6 =>
   simp only[Z0g] at k1;simp only[Exit.inBlock];split at k1
   .rename_i he;rw[z2 he];exact hQ _ a1 w1 ⟨cu,ρ1,σ1,k1,k0,k2,k3,k4,k5⟩
   .rename_i he;rw[z0 he];exact hQ _ a1 w1 ⟨cu,ρ1,σ1,k1,k0,k2,k3,k4,k5⟩
  |_=>exact hQ _ a1 w1 ⟨cu,ρ1,σ1,k1,k0,k2,k3,k4,k5⟩
 |loop x jK =>intro vc hc;simp only[comp,zw,zR] at hc;obtain⟨vx,hx,hc⟩:=hc;simp at hc;subst hc;exact Q60 (jK vx hx)
 |rangeFunc g ps x y jK oF =>
  intro vc hc;simp only[comp] at hc;split at hc
  .rename_i av;simp only[zw,zR] at hc
   grind [Q2s]
  .simp at hc;subst hc;exact TO _
 |exit id =>intro vc hc;simp[comp] at hc;subst hc;intro B cM ro n Q env U ρ w a h hH hL hd hR Q' hQ;exact wpIn_exit (hQ _ _ _ ⟨env,ρ,U,h,rfl,hH,hL,hd,Ext.refl _ _ _⟩)
 |ret =>intro vc hc;simp[comp] at hc;subst hc;intro B cM ro n Q env U ρ w a h hH hL hd hR Q' hQ;exact wpIn_ret (hQ _ _ _ ⟨env,ρ,U,h,rfl,hH,hL,hd,Ext.refl _ _ _⟩)
 |_ =>intro vc hc;simp[comp] at hc;subst hc;exact TO _
end
end Go.V
namespace Go.V
open Go
inductive Ren (n:Nat) (π:Nat->Nat):Value->Value->Prop
 |plain (v:Value) (h:Jy v=true):Ren n π v v
 |poison (c:Value):Ren n π poison c
 |glob (g o s:Nat):Ren n π (.pointer (some ⟨g,o,some s⟩)) (.pointer (some ⟨g,o,some s⟩))
 |ptr (i o:Nat) (hi:i<n):Ren n π (.pointer (some ⟨i,o,none⟩)) (.pointer (some ⟨π i,o,none⟩))
 |sl (i o len cap:Nat) (hi:i<n):Ren n π (.slice (some ⟨i,o,none⟩) len cap) (.slice (some ⟨π i,o,none⟩) len cap)
 |slx (i o len cap:Nat) (hi:i<n):Ren n π (.slice (some ⟨i,o,some 0⟩) len cap) (.slice (some ⟨π i,o,some 0⟩) len cap)
 |map (i:Nat) (hi:i<n):Ren n π (.map (some i)) (.map (some (π i)))
 |iface (t:TypeId) (v c:Value) (h:Ren n π v c):Ren n π (.iface t v) (.iface t c)
 |yield (i:Nat) (hi:i<n):Ren n π (.func (.yield i) #[] #[]) (.func (.yield (π i)) #[] #[])
 |func (fn:FuncId) (fs gs cs ds:Array Value) (hf:fs.size=gs.size) (hc:cs.size=ds.size)
   (h1:∀ i (h1:i<fs.size) (h2:i<gs.size),Ren n π fs[i] gs[i]) (h2:∀ i (h1:i<cs.size) (h2:i<ds.size),Ren n π cs[i] ds[i]):Ren n π (.func (.func fn) fs cs) (.func (.func fn) gs ds)
 |agg (cs ds:Array Value) (hc:cs.size=ds.size) (h:∀ i (h1:i<cs.size) (h2:i<ds.size),Ren n π cs[i] ds[i]):Ren n π (.agg cs) (.agg ds)
 |tuple (cs ds:Array Value) (hc:cs.size=ds.size) (h:∀ i (h1:i<cs.size) (h2:i<ds.size),Ren n π cs[i] ds[i]):Ren n π (.tuple cs) (.tuple ds)
def LRen (n:Nat) (π:Nat->Nat) (vs cs:List Value):Prop:=vs.length=cs.length/\∀ (i:Nat) (v c:Value),vs[i]?=some v->cs[i]?=some c->Ren n π v c
theorem Ren.rel {ρ:Plc}{nf n':Nat}{π:Nat->Nat}{v' v:Value}(h:Ren n' π v' v):∀ {c:Value},VRel ρ nf v c->VRel (λi=>if i<n' then ρ (π i) else none) n' v' c:=by
 induction h with
 |plain v h =>intro c hv;have:c=v:=Cc h hv;subst this;exact Bo h
 |poison c=>intro c _;exact .poison _
 |glob g o s=>intro c hv;cases hv;exact .glob _ _ _
 |ptr i o hi =>intro c hv;obtain⟨a,rfl,_,h⟩:=hv.q1i;exact .ptr _ _ _ hi (by simp_all)
 |sl i o len cap hi =>intro c hv;obtain⟨a,ax,rfl,_,h⟩:=hv.q1b;exact .sl _ _ _ _ _ _ hi (by simp_all)
 |slx i o len cap hi =>
  intro c hv;cases hv with
  |slx _ _ _ _ a _ h=>exact .slx _ _ _ _ _ hi (by simp_all)
 |map i hi =>
  intro c hv;cases hv with
  |map _ r _ h=>exact .map _ _ hi (by simp_all)
 |yield i hi =>
  intro c hv;cases hv with
  |yield _ r _ h=>exact .yield _ _ hi (by simp_all)
 |iface t v c h ih =>
  intro c hv;cases hv with
  |iface _ _ _ h=>exact .iface _ _ _ (ih h)
 |func fn fs gs cs ds hf hc h1 h2 lH lJ =>
  intro c hv;cases hv with
  |func _ _ vN _ ds' p6 d_ oG oH =>exact .func _ _ _ _ _ (hf.trans p6) (hc.trans d_) (by simp_all) (by simp_all)
 |agg cs ds hc h ih =>
  intro c hv;cases hv with
  |agg _ ds' d_ h'=>exact .agg _ _ (hc.trans d_) (by simp_all)
 |tuple cs ds hc h ih =>
  intro c hv;cases hv with
  |tuple _ ds' d_ h'=>exact .tuple _ _ (hc.trans d_) (by simp_all)
theorem VRel.ren {ρ:Plc}{n n':Nat}{π:Nat->Nat}(hn:n<=n') (hπ:∀ i,i<n->π i=i) {v c:Value}(h:VRel ρ n v c):Ren n' π v v:=by
 induction h with
 |poison c=>exact .poison _
 |bool b=>exact .plain _ rfl
 |int k x=>exact .plain _ rfl
 |string s=>exact .plain _ rfl
 |nilPtr=>exact .plain _ rfl
 |nilSl=>exact .plain _ rfl
 |nilMap=>exact .plain _ rfl
 |nilFunc=>exact .plain _ rfl
 |nilIface=>exact .plain _ rfl
 |glob g o s=>exact .glob _ _ _
 |ptr i o a hi h=>have:=Ren.ptr (n:=n') (π:=π) i o (by omega);rwa [hπ i hi] at this
 |sl i o len cap a ax hi h=>have:=Ren.sl (n:=n') (π:=π) i o len cap (by omega);rwa [hπ i hi] at this
 |slx i o len cap a hi h=>have:=Ren.slx (n:=n') (π:=π) i o len cap (by omega);rwa [hπ i hi] at this
 |map i r hi h=>have:=Ren.map (n:=n') (π:=π) i (by omega);rwa [hπ i hi] at this
 |yield i r hi h=>have:=Ren.yield (n:=n') (π:=π) i (by omega);rwa [hπ i hi] at this
 |iface t v c _ ih=>exact .iface _ _ _ ih
 |func fn fs gs cs ds hf hc _ _ lH lJ=>exact .func _ _ _ _ _ rfl rfl (λi k1 _=>lH i k1 (by omega)) (λi k1 _=>lJ i k1 (by omega))
 |agg cs ds hc _ ih=>exact .agg _ _ rfl λi k1 _=>ih i k1 (by omega)
 |tuple cs ds hc _ ih=>exact .tuple _ _ rfl λi k1 _=>ih i k1 (by omega)
theorem LRen.rel {ρ:Plc}{nf n':Nat}{π:Nat->Nat}{cq vs:List Value}(h:LRen n' π cq vs) {cs:List Value}(hL:LRel ρ nf vs cs):LRel (λi=>if i<n' then ρ (π i) else none) n' cq cs:=by
 refine⟨h.1.trans hL.1,λi v c hv hc=>?_⟩;have aj:i<vs.length:=by rw[<-h.1];grind
 exact(h.2 i v _ hv (z3 aj)).rel (hL.2 i _ c (z3 aj) hc)
theorem LRel.ren {ρ:Plc}{n n':Nat}{π:Nat->Nat}(hn:n<=n') (hπ:∀ i,i<n->π i=i) {vs cs:List Value}(h:LRel ρ n vs cs):LRen n' π vs vs :=
 ⟨rfl,λi v u hv hu=>by
  obtain rfl:v=u:=osj (hv.symm.trans hu);obtain⟨c,_,hc⟩:=h.get hv;exact hc.ren hn hπ⟩
def ORen (n:Nat) (π:Nat->Nat):VObj->VObj->Prop
 |.map es clock,.map fs kF=>clock=kF/\es.length=fs.length/\∀ (k:Nat) (a b:XY),es[k]?=some a->fs[k]?=some b->a.1=b.1/\a.2.2=b.2.2/\Ren n π a.2.1 b.2.1
 |.iter m since seen last,.iter m' kG mV mW=>m'=π m/\m<n/\since=kG/\seen=mV/\last=mW
 |.lp env r st pend,.lp al r' lT bK=>LRen n π env al/\r=r'/\st=lT/\pend=bK
 |_,_=>False
theorem ORen.rel {ρ:Plc}{nf n':Nat}{π:Nat->Nat}{o' o:VObj}(h:ORen n' π o' o) {O:Obj}(hO:ORel ρ nf o O):ORel (λi=>if i<n' then ρ (π i) else none) n' o' O:=by
 cases o'<;>cases o<;>try exact h.elim
 .obtain⟨rfl,hl,hk⟩:=h;obtain⟨entries,h1,h2,h3⟩:=hO;refine⟨entries,h1,by rw[hl];exact h2,λk a ha=>?_⟩;have dw:=(zm.1 ha).1;rw[hl] at dw;obtain⟨e,he,h4,h5,h6⟩:=h3 k _ (z3 dw);obtain⟨k1,k2,k3⟩:=hk k a _ ha (z3 dw);exact⟨e,he,h4.trans k1.symm,h5.trans k2.symm,k3.rel h6⟩
 .obtain⟨rfl,hm,rfl,rfl,rfl⟩:=h;obtain⟨rm,h1,h2⟩:=hO;exact⟨rm,h1,(Ren.map _ hm).rel h2⟩
 .obtain⟨hl,rfl,rfl,rfl⟩:=h;exact⟨hO.1,hl.rel hO.2⟩
theorem ORel.ren {ρ:Plc}{n n':Nat}{π:Nat->Nat}(hn:n<=n') (hπ:∀ i,i<n->π i=i) {o:VObj}{O:Obj}(h:ORel ρ n o O):ORen n' π o o:=by
 cases o with
 |map es clock =>obtain⟨entries,h1,h2,h3⟩:=h;refine⟨rfl,rfl,λk a b ha hb=>?_⟩;obtain rfl:a=b:=osj (ha.symm.trans hb);obtain⟨e,_,_,_,hv⟩:=h3 k a ha;exact⟨rfl,rfl,hv.ren hn hπ⟩
 |iter m since seen last =>
  obtain⟨rm,h1,h2⟩:=h;cases h2 with
  |map _ _ hi _=>exact⟨(hπ m hi).symm,by omega,rfl,rfl,rfl⟩
 |lp env r st pend=>exact⟨h.2.ren hn hπ,rfl,rfl,rfl⟩
def BRen (n:Nat) (π:Nat->Nat):Blk->Blk->Prop
 |.cells c esz wr tight,.cells d mX ki hM=>esz=mX/\wr=ki/\tight=hM/\LRen n π c d
 |.obj o wr,.obj o' ki=>wr=ki/\ORen n π o o'
 |_,_=>False
theorem BRen.wr {n:Nat}{π:Nat->Nat}{b c:Blk}(h:BRen n π b c):b.wr=c.wr:=by cases b<;>cases c<;>first|(exact h.elim)|exact h.2.1|exact h.1
theorem BRen.rel {ρ:Plc}{nf n':Nat}{π:Nat->Nat}{p:Pl}{w:World}{b' b:Blk}(h:BRen n' π b' b) (hB:BRel ρ nf p w b):BRel (λi=>if i<n' then ρ (π i) else none) n' p w b':=by
 cases b' with
 |cells c esz wr tight =>
  cases b with
  |cells d mX ki hM =>
   obtain⟨rfl,rfl,rfl,hl⟩:=h;obtain⟨h1,h2,h3,h4,h5,h6⟩:=hB;refine⟨h1,h2,by rw[hl.1];exact h3,h4,λk v hk=>?_,h6⟩;have dw:k<d.length:=by rw[<-hl.1];grind
   obtain⟨u,hu,hv⟩:=h5 k _ (z3 dw);exact⟨u,hu,(hl.2 k v _ hk (z3 dw)).rel hv⟩
  |obj _ _=>exact h.elim
 |obj o wr =>
  cases b with
  |cells _ _ _ _=>exact h.elim
  |obj o' ki =>obtain⟨rfl,ho⟩:=h;obtain⟨h0,O,h1,h2⟩:=hB;exact⟨h0,O,h1,ho.rel h2⟩
def VObj.plain:VObj->Bool
 |.map es _=>es.all λkv=>Jy kv.2.1
 |_=>false
def Blk.plain:Blk->Bool
 |.cells c _ _ _=>c.all Jy
 |.obj o _=>o.plain
theorem LRen.plain {n:Nat}{π:Nat->Nat}{c:List Value}(h:c.all Jy=true):LRen n π c c :=
 ⟨rfl,λi v u hv hu=>by
  obtain rfl:v=u:=osj (hv.symm.trans hu);exact .plain _ (by grind)⟩
theorem BRen.plain {n:Nat}{π:Nat->Nat}{b:Blk}(h:b.plain=true):BRen n π b b:=by
 cases b with
 |cells c esz wr tight=>exact⟨rfl,rfl,rfl,LRen.plain h⟩
 |obj o wr =>
  cases o with
  |map es clock =>refine⟨rfl,rfl,rfl,λk a b ha hb=>?_⟩;obtain rfl:a=b:=osj (ha.symm.trans hb);exact⟨rfl,rfl,.plain _ (zg.1 h a (xh ha))⟩
  |_=>cases h
theorem BRel.ren {ρ:Plc}{n n':Nat}{π:Nat->Nat}(hn:n<=n') (hπ:∀ i,i<n->π i=i) {p:Pl}{w:World}{b:Blk}(h:BRel ρ n p w b):BRen n' π b b:=by
 cases b with
 |cells c esz wr tight =>refine⟨rfl,rfl,rfl,rfl,λi v u hv hu=>?_⟩;obtain rfl:v=u:=osj (hv.symm.trans hu);obtain⟨_,_,tG⟩:=h.2.2.2.2.1 i v hv;exact tG.ren hn hπ
 |obj o wr =>obtain⟨_,O,_,ho⟩:=h;exact⟨rfl,ho.ren hn hπ⟩
def DropTo (σ0:Heap) (v:Value) (σf:Heap) (v':Value) (U':Heap):Prop :=
 ∀ ρ0 w0 ρ w c,HRel ρ0 σ0 w0->Ext ρ0 σ0 w0 ρ σf w->HRel ρ σf w->VRel ρ σf.n v c->∃ ρ',VRel ρ' U'.n v' c/\HRel ρ' U' w/\Ext ρ0 σ0 w0 ρ' U' w
theorem DropTo.refl (σ0:Heap) (v:Value) (σf:Heap):DropTo σ0 v σf v σf:=λ_ _ ρ _ _ _ hE hH hv=>⟨ρ,hv,hH,hE⟩
theorem DropTo.rename {σ0 σf U':Heap}{v v':Value}(π:Nat->Nat) (h1:σ0.n<=U'.n)
  (h2:∀ i,i<σ0.n->π i=i/\U'.get i=σf.get i/\(σf.get i=σ0.get i\/∃ b,σf.get i=some b/\b.plain=true))
  (h3:∀ i,σ0.n<=i->i<U'.n->σ0.n<=π i/\∃ b' b,U'.get i=some b'/\σf.get (π i)=some b/\BRen U'.n π b' b)
  (h4:∀ i j,σ0.n<=i->i<U'.n->σ0.n<=j->j<U'.n->π i=π j->i=j) (h5:Ren U'.n π v' v):DropTo σ0 v σf v' U':=by
 intro ρ0 w0 ρ w c gp hE hH hv;have hπ:∀ i,i<σ0.n->π i=i:=λi hi=>(h2 i hi).1;have aI:∀ i b',U'.get i=some b'->∃ b,σf.get (π i)=some b/\BRen U'.n π b' b:=λi b' hb=>by
  have hi:=U'.lt hb;rcases zu i σ0.n with aj|b8
  .obtain⟨k1,k2,k3⟩:=h2 i aj;rw[k1];rw[k2] at hb;refine⟨b',hb,?_⟩;rcases k3 with k3|⟨b,k3,k4⟩
   .rw[k3] at hb;obtain⟨p,_,hB⟩:=gp.live i b' hb;exact hB.ren h1 hπ
   grind [osj,BRen.plain]
  grind
 have eE:∀ i j,i<U'.n->j<U'.n->π i=π j->i=j:=(by grind);have hX:Ext ρ0 σ0 w0 (λi=>if i<U'.n then ρ (π i) else none) U' w:=by
  refine⟨hE.os,hE.tape,hE.output,hE.size,hE.keep,?_,h1,λi hi p hp=>?_⟩
  .rintro B hB ⟨i,p,b,hp,hb,hw,rfl⟩;change (if i<U'.n then ρ (π i) else none)=some p at hp;split at hp
   .obtain⟨b0,bF,bh⟩:=aI i b hb;exact hE.wr _ hB ⟨π i,p,b0,hp,bF,by rw[<-bh.wr];exact hw,rfl⟩
   .cases hp
  .change (if i<U'.n then ρ (π i) else none)=some p at hp;split at hp
   .rw[hπ i hi] at hp;exact hE.pl i hi p hp
   .cases hp
 refine⟨λi=>if i<U'.n then ρ (π i) else none,h5.rel hv,gp.ext ⟨λi b' hb=>?_,λi hi=>?_,λi p hp=>?_,λi j p q b cB hp hq hb hw hx=>?_⟩ hX,hX⟩
 .obtain⟨b,bF,bh⟩:=aI i b' hb;obtain⟨p,hp,hB⟩:=hH.live _ b bF;exact⟨p,by simp[U'.lt hb,hp],bh.rel hB⟩
 .show (if i<U'.n then ρ (π i) else none)=none;split
  .rename_i aj;rcases zu i σ0.n with dg|b8
   .obtain⟨k1,k2,_⟩:=h2 i dg;rw[k1];exact hH.dead i (by rw[<-k2];exact hi)
   grind
  .rfl
 .change (if i<U'.n then ρ (π i) else none)=some p at hp;split at hp
  .exact hH.lt _ p hp
  .cases hp
 .change (if i<U'.n then ρ (π i) else none)=some p at hp;change (if j<U'.n then ρ (π j) else none)=some q at hq;split at hp
  .rename_i hi;split at hq
   .rename_i hj;obtain⟨b0,bF,bh⟩:=aI i b hb;exact hH.sep (π i) (π j) p q b0 (λe=>cB (eE i j hi hj e)) hp hq bF (by rw[<-bh.wr];exact hw) hx
   .cases hq
  .cases hp
def Agree (σ0 σf:Heap):Prop:=∀ i,i<σ0.n->σf.get i=σ0.get i
theorem Agree.refl (U:Heap):Agree U U:=λ_ _=>rfl
theorem Agree.push {σ0 U:Heap}(h:Agree σ0 U) (hn:σ0.n<=U.n) (b:Blk):Agree σ0 (U.push b):=λi hi=>(Heap.q0l U b (by omega)).trans (h i hi)
theorem Agree.trans {σ0 σ1 σ2:Heap}(h:Agree σ0 σ1) (k:Agree σ1 σ2) (hn:σ0.n<=σ1.n):Agree σ0 σ2:=λi hi=>(k i (by omega)).trans (h i hi)
theorem Z30 {n:Nat}{π:Nat->Nat}{v:Value}(h:Z4j v=true):Ren n π v v:=by
 unfold Z4j at h
 split at h<;>first
  |(exact .plain _ rfl)
  |(cases h;done)
  |skip
 rename_i vs;exact .tuple _ _ rfl λi k1 _=>.plain _ (zg.1 h _ (by simp))
theorem DropTo.same {σ0 σf:Heap}{v:Value}(hv:Z4j v=true) (hA:Agree σ0 σf):DropTo σ0 v σf v σ0 :=
 .rename (λi=>i) (z5 _) (λi hi=>⟨rfl,(hA i hi).symm,.inl (hA i hi)⟩) (λi h1 h2=>by omega) (λ_ _ _ _ _ _ h=>h) (Z30 hv)
section
variable {P:Program}{S:VSpecs}
def MD (tmps:Array Value):ResultVar->Sem Value
 |.tmp t=>pure (tmps.getD t undef)
 |.cell a t=>do loadVar t (<-asAddr (tmps.getD a undef))
theorem Ij (fn:Func) (tmps:Array Value):results fn tmps=(do
  let vs <-fn.results.mapM (MD tmps)
  pure (if h:vs.size=1 then vs[0] else .tuple vs)):=by
 unfold results;congr 1
theorem OL {ρ:Plc}{U:Heap}{w:World}{env:Env}{tmps:Array Value}(hH:HRel ρ U w) (hL:LRel ρ U.n env tmps.toList) {r:ResultVar}{vr:VResult}
  (hc:Xh P r=some vr) {v:Value}(h:WL env U vr=some v):∃ c,VRel ρ U.n v c/\(MD tmps r).run P w=.ok c w:=by
 have ai:∀ t,VRel ρ U.n (env.getD t undef) (tmps.getD t undef):=λt=>YM (a:=⟨tmps,[]⟩) hL (x:=.tmp t) rfl;cases r with
 |tmp t =>simp[Xh] at hc;subst hc;simp only[WL,xg] at h;subst h;exact⟨_,ai t,rfl⟩
 |cell a t =>
  simp only[Xh] at hc;split at hc
  .rename_i i d hi hu;simp at hc;subst hc;simp only[WL,zi] at h;obtain⟨p,hp,rfl⟩:=h;simp only[Qc,Q5] at hp;have ha:=ai a;split at hp
   .rename_i g o s h1;rw[h1] at ha;split at hp
    .rename_i c hb;split at hp
     .rename_i hall;split at hp
      .rename_i v0 hv;simp at hp;subst hp;obtain⟨u,cC,hr⟩:=Q0m hH hi hu hb hall hv ha;refine⟨u,cC,?_⟩;have:=hr w (Like.refl ρ w);have mY:tmps.getD a undef=.pointer (some ⟨g,o,none⟩):=by
        generalize tmps.getD a undef=c at ha;cases ha;rfl
       rw[mY] at this;simp only[Instr.loadAt,Instr.sureAddr,zl,xa,zf] at this;simp only[MD,mY,asAddr,zl,xa,zf];exact this
      .cases hp
     .cases hp
    .cases hp
   .rename_i i' o h1;rw[h1] at ha;split at hp
    .rename_i c esz wr tight hb;split at hp
     .rename_i v0 hv;simp at hp;subst hp;obtain⟨u,cC,hr⟩:=Q5n hH hi hu hb hv ha;refine⟨u,cC,?_⟩;have:=hr w (Like.refl ρ w);obtain⟨ad,mY,_⟩:=ha.q1i;rw[mY] at this;simp only[Instr.loadAt,Instr.sureAddr,zl,xa,zf] at this;simp only[MD,mY,asAddr,zl,xa,zf];exact this
     .cases hp
    .cases hp
   .cases hp
  .cases hc
theorem Q3i {α:Type}{ρ:Plc}{n:Nat}(g:α->Sem Value) (w:World) (f:α->Option Value):∀ (l:List α) (vs:List Value),l.mapM f=some vs ->
  (∀ a∈l,∀ v,f a=some v->∃ c,VRel ρ n v c/\(g a).run P w=.ok c w)->∃ cs,LRel ρ n vs cs/\(l.mapM g).run P w=.ok cs w:=by
 intro l;induction l with
 |nil=>intro vs h _;simp at h;subst h;exact⟨[],LRel.nil _ _,rfl⟩
 |cons a l ih =>
  intro vs h hg;rw[x4] at h;cases hf:f a with
  |none=>simp[hf] at h
  |some v =>
   cases hm:l.mapM f with
   |none=>simp[hf,hm] at h
   |some cq =>simp[hf,hm] at h;subst h;obtain⟨c,eU,fh⟩:=hg a (by simp) v hf;obtain⟨cs,p7,jj⟩:=ih cq hm (λb hb=>hg b (by simp[hb]));refine⟨c::cs,LRel.cons eU p7,?_⟩;rw[x4];simp[fh,jj]
theorem Fl {ρ:Plc}{U:Heap}{w:World}{env:Env}{tmps:Array Value}(hH:HRel ρ U w) (hL:LRel ρ U.n env tmps.toList) {fn:Func}{rs:List VResult}
  (hc:Gv P fn.results.toList=some rs) {v:Value}(h:Xz env U rs=some v):∃ c,VRel ρ U.n v c/\(results fn tmps).run P w=.ok c w:=by
 unfold Gv at hc;have hall:∀ vs,rs.mapM (WL env U)=some vs->∃ cs,LRel ρ U.n vs cs/\(fn.results.mapM (MD tmps)).run P w=.ok cs.toArray w:=by
  intro vs cy;have mZ:fn.results.toList.mapM (λr=>(Xh P r).bind (WL env U))=some vs:=by
   have:∀ (l:List ResultVar) (rs:List VResult) (vs:List Value),l.mapM (Xh P)=some rs->rs.mapM (WL env U)=some vs->l.mapM (λr=>(Xh P r).bind (WL env U))=some vs:=by
    intro l;induction l with
    |nil=>intro rs vs h1 h2;simp at h1;subst h1;simpa using h2
    |cons r l ih =>
     intro rs vs h1 h2;rw[x4] at h1;cases hg:Xh P r with
     |none=>simp[hg] at h1
     |some x =>
      cases hm:l.mapM (Xh P) with
      |none=>simp[hg,hm] at h1
      |some m8 =>
       simp[hg,hm] at h1;subst h1;rw[x4] at h2;cases hx:WL env U x with
       |none=>simp[hx] at h2
       |some y =>
        cases fg:m8.mapM (WL env U) with
        |none=>simp[hx,fg] at h2
        |some cq =>simp[hx,fg] at h2;subst h2;rw[x4];simp[hg,hx,ih m8 cq hm fg]
   exact this _ _ _ hc cy
  obtain⟨cs,k1,k2⟩:=Q3i (P:=P) (ρ:=ρ) (n:=U.n) (MD tmps) w _ _ _ mZ (λr _ v hv=>by
   cases hr:Xh P r with
   |none=>rw[hr] at hv;cases hv
   |some vr=>rw[hr] at hv;exact OL hH hL hr hv)
  refine⟨cs,k1,?_⟩;rw[Array.mapM_eq_mapM_toList];simp[k2]
 unfold Xz at h;split at h
 .rename_i r;obtain⟨cs,k1,k2⟩:=hall [v] (by simp[h]);have cg:cs.length=1:=by rw[<-k1.1];rfl
  obtain⟨c,rfl⟩:=zT.1 cg;refine⟨c,k1.2 0 v c rfl rfl,?_⟩;rw[Ij];simp_all
 .rename_i aK;simp only[zi] at h;obtain⟨vs,cy,rfl⟩:=h;obtain⟨cs,k1,k2⟩:=hall vs cy;refine⟨.tuple cs.toArray,VRel.q0k k1,?_⟩;have hl:cs.length≠1:=by
   rw[<-k1.1,(Yr _ _ _ cy).1]
   grind [List.length_eq_one_iff]
  rw[Ij];simp_all
theorem Q17 {ρ:Plc}{n:Nat}(k:Nat):LRel ρ n (List.replicate k undef) (List.replicate k undef) :=
 ⟨rfl,(by grind [osj,List.mem_of_getElem?,Xf])⟩
theorem Li {w:World}{D:Nat}{ds:List Deferred}(h:w.heap[D]?=some (.deferred (some ds))):(Instr.takeDeferred D).run P w=.ok ds (CF w D (.deferred none)):=by simp[Instr.takeDeferred,QN h (λ_ _ _ e=>by cases e),Z5 h (λ_ _ _ e=>by cases e)]
theorem Ext.mark {ρ0 ρ:Plc}{σ0 U:Heap}{w0 w:World}(hE:Ext ρ0 σ0 w0 ρ U w) {D:Nat}(hD:w0.heap.size<=D) (O:Obj):Ext ρ0 σ0 w0 ρ U (CF w D O) :=
 ⟨hE.os,hE.tape,hE.output,by rw[Ri];exact hE.size,λB hB hW=>(Ua w D O B (by omega)).trans (hE.keep B hB hW),hE.wr,hE.n,hE.pl⟩
theorem HRel.mark {ρ:Plc}{U:Heap}{w:World}(hH:HRel ρ U w) {D:Nat}{d:Option (List Deferred)}(hD:w.heap[D]?=some (.deferred d)) (O:Obj):HRel ρ U (CF w D O) :=
 hH.world (by rw[Ri];exact z5 _) (λi p hp=>Ua w D O p.blk (hH.q0m hD i p hp)) λg cs hg=>Ua w D O g λe=>by obtain⟨⟨e',f,h1⟩,_⟩:=hH.tab g cs hg;rw[e,hD] at h1;cases h1
theorem Q1y {fn:Func}{tmps:Array Value}{R:Ending->World->Prop}{ρ0:Plc}{σ0:Heap}{w0:World}{ρ:Plc}{U:Heap}
  (p8:∀ w,HRel ρ U w->Ext ρ0 σ0 w0 ρ U w->∃ v,(results fn tmps).run P w=.ok v w/\R (.returned v) w) :
  ∀ (Ds:List Nat) (w:World),Ds.Nodup->(∀ D∈Ds,w0.heap.size<=D/\w.heap[D]?=some (.deferred (some [])))->HRel ρ U w->Ext ρ0 σ0 w0 ρ U w ->
   LeavesInM Fence.wide 0 P fn tmps R (Ds.map λD=>⟨.collected D,#[]⟩) .returning w:=by
 intro Ds;induction Ds with
 |nil=>intro w _ _ hH hE;exact p8 w hH hE
 |cons D Ds ih =>intro w gv hall hH hE;obtain⟨h1,h2⟩:=xI.1 gv;obtain⟨h3,h4⟩:=hall D (by simp);refine⟨by simp,.inl ⟨D,_,rfl,Li h4,ih _ h2 (λE dP=>?_) (hH.mark h4 _) (hE.mark h3 _)⟩⟩;obtain⟨k1,k2⟩:=hall E (by simp[dP]);exact⟨k1,by grind [Ua]⟩
theorem SJ (hm:P.follows .mixedOrders=true) (hS:OkSpecs P S) {f:FuncId}{fn:Func}{c:Code}{vc:VCode}{rs:List VResult}(hf:P.funcs[f]?=some fn) (hb:fn.body=some c) (hc:comp P c=some vc) (hr:Gv P fn.results.toList=some rs)
  {args:List Value}{U:Heap}{R:Value->Heap->Prop}(h:vwp S vc none (Z6c rs λv σf=>∃ v' U',DropTo U v σf v' U'/\R v' U') (args++List.replicate (fn.ntmps-args.length) undef) U):VCallsTo P f args U R:=by
 intro ρ w aG hH hL;refine callsIn_wide.1 (callsIn_of_wp_marks (n:=0) hf hb trivial (Q6v hm hS c vc hc (B:=w.heap.size) none none 0 _ _ U ρ w _ h hH ?_ (Mks.nil (z5 _)) (.inl ⟨rfl,rfl⟩) _ ?_) rfl)
 .have hl:args.length=aG.size:=by have:=hL.1;simpa using this
  have:=hL.append (Q17 (ρ:=ρ) (n:=U.n) (fn.ntmps-args.length));simpa [hl] using this
 .intro e a' w' ⟨al,ρ',U',k1,_,k2,k3,⟨_,Ds,k4,k6,k7⟩,k5⟩;have fin:(Zc (Xz al U' rs) λv=>∃ v' aM,DropTo U v U' v' aM/\R v' aM)->LeavesInM Fence.wide 0 P fn a'.tmps (λe w'=>∃ c,e=.returned c/\Got ρ U w R c w') a'.defers .returning w':=by
   intro hk;rw[k4];refine Q1y (λw1 iK gE=>?_) Ds w' k6 k7 k2 k5;cases hv:Xz al U' rs with
   |none=>rw[hv] at hk;exact hk.elim
   |some v =>rw[hv] at hk;obtain⟨v',aM,hd,hR⟩:=hk;obtain⟨c,eU,fh⟩:=Fl iK k3 hr hv;obtain⟨ef,j1,j2,j3⟩:=hd ρ w ρ' w1 c hH gE iK eU;exact⟨c,fh,c,rfl,v',ef,aM,hR,j1,j2,j3⟩
  cases e with
  |normal=>exact fin k1
  |ret=>exact fin k1
  |_=>exact k1.elim
end
end Go.V
namespace Go.V
open Go
def Fun (P:Program) (f:FuncId) (vc:VCode) (rs:List VResult) (nt:Nat):Prop :=
 ∃ fn,P.funcs[f]?=some fn/\fn.body.bind (comp P)=some vc/\Gv P fn.results.toList=some rs/\fn.ntmps=nt/\(fn.name=="runtime.NumGoroutine")=false
def J0h (U:Heap) (rs:List VResult) (R:Value->Heap->Prop):Exit->Env->Heap->Prop:=Z6c rs λv σf=>∃ v' U',DropTo U v σf v' U'/\R v' U'
section
variable {P:Program}{S:VSpecs}{f:FuncId}{vc:VCode}{rs:List VResult}{nt:Nat}
theorem Fun.calls (h:Fun P f vc rs nt) (hm:P.follows .mixedOrders=true) (hS:OkSpecs P S) {args:List Value}{U:Heap}{R:Value->Heap->Prop}
  (hw:vwp S vc none (J0h U rs R) (args++List.replicate (nt-args.length) undef) U):VCalled P f args U R:=by
 obtain⟨fn,h1,h2,h3,h4,h5⟩:=h;cases hb:fn.body with
 |none=>rw[hb] at h2;cases h2
 |some c =>rw[hb] at h2;exact VCallsTo.called ⟨fn,h1,by rw[hb];rfl,h5⟩ (SJ hm hS h1 hb h2 h3 (by rw[h4];exact hw))
theorem Fun.enterable (h:Fun P f vc rs nt):Yq P f:=by
 obtain⟨fn,h1,h2,h3,h4,h5⟩:=h;refine⟨fn,h1,?_,h5⟩;cases hb:fn.body with
 |none=>rw[hb] at h2;cases h2
 |some c=>rfl
theorem Fun.callsTo (h:Fun P f vc rs nt) (hm:P.follows .mixedOrders=true) (hS:OkSpecs P S) {args:List Value}{U:Heap}{R:Value->Heap->Prop}
  (hw:vwp S vc none (J0h U rs R) (args++List.replicate (nt-args.length) undef) U):VCallsTo P f args U R:=by
 obtain⟨fn,h1,h2,h3,h4,h5⟩:=h;cases hb:fn.body with
 |none=>rw[hb] at h2;cases h2
 |some c =>rw[hb] at h2;exact SJ hm hS h1 hb h2 h3 (by rw[h4];exact hw)
def Q8 (P:Program):VSpecs where
 fn f:=some λargs U K=>VCalled P f args U K
 yl i:=some λargs U K=>IL P i args U K
 it f:=@ite _ (Yq P f) (Classical.propDecidable _) (some λi Y args U K=>Hj P i Y->VCallsTo P f args U K) none
theorem Ol:OkSpecs P (Q8 P) :=
  ⟨λf s h => by obtain rfl:=osj h; exactλargs U K h => h,
   λf s h => by obtain rfl:=osj h; exactλargs U K h => h,
   λf T h => by
    simp only [Q8] at h;split at h
    . rename_i he; obtain rfl:=osj h; exact ⟨he, λi Y hY args U K h => h hY⟩
    . cases h⟩
end
end Go.V
namespace Go.V
open Go
inductive EB where
 |cells (c:List Value) (esz:El) (wr tight:Bool)
 |map (es:List XY) (clock:Nat) (wr:Bool)
 |iter (m since:Nat) (seen:List Nat) (last:Nat)
 |lp (st:LoopState) (pend:Option Code)
inductive GT (α:Type) where
 |nil
 |node (v:α) (l r:GT α)
def GT.get {α:Type}(d:α) (t:GT α):Nat->α :=
 GT.rec (motive:=λ_=>Nat->α) (λ_=>d)
  (λv _ _ gl gr i=>Bool.rec (motive:=λ_=>α) (Bool.rec (motive:=λ_=>α) (gr (i / 2-1)) (gl (i / 2)) (Nat.beq (i % 2) 1)) v (Nat.beq i 0)) t
def GT.set {α:Type}(d:α) (f:Nat):GT α->Nat->α->GT α :=
 Nat.rec (motive:=λ_=>GT α->Nat->α->GT α) (λt _ _=>t)
  (λ_ ih t i b=>GT.rec (motive:=λ_=>GT α)
   (Bool.rec (motive:=λ_=>GT α) (Bool.rec (motive:=λ_=>GT α) (.node d .nil (ih .nil (i / 2-1) b)) (.node d (ih .nil (i / 2) b) .nil) (Nat.beq (i % 2) 1)) (.node b .nil .nil) (Nat.beq i 0))
   (λv l r _ _=>Bool.rec (motive:=λ_=>GT α) (Bool.rec (motive:=λ_=>GT α) (.node v l (ih r (i / 2-1) b)) (.node v (ih l (i / 2) b) r) (Nat.beq (i % 2) 1)) (.node b l r) (Nat.beq i 0)) t) f
theorem GT.q0w {α:Type}(d v:α) (l r:GT α) (k:Nat):(GT.node v l r).get d k=if k=0 then v else if k % 2=1 then l.get d (k / 2) else r.get d (k / 2-1):=by
 show (Bool.rec (motive:=λ_=>α) (Bool.rec (motive:=λ_=>α) (r.get d (k / 2-1)) (l.get d (k / 2)) (Nat.beq (k % 2) 1)) v (Nat.beq k 0))=_;by_cases h0:k=0
 .subst h0;rfl
 .have:Nat.beq k 0=false:=by
   cases h:Nat.beq k 0 with
   |false=>rfl
   |true=>exact absurd (zq h) h0
  rw[this,z0 h0];by_cases h1:k % 2=1
  .rw[z2 h1,h1];rfl
  .have:Nat.beq (k % 2) 1=false:=by
    cases h:Nat.beq (k % 2) 1 with
    |false=>rfl
    |true=>exact absurd (zq h) h1
   rw[this,z0 h1]
theorem GT.q2a {α:Type}(d v:α) (f:Nat) (l r:GT α) (i:Nat) (b:α):(GT.node v l r).set d (f+1) i b=if i=0 then .node b l r else if i % 2=1 then .node v (l.set d f (i / 2) b) r else .node v l (r.set d f (i / 2-1) b):=by
 show (Bool.rec (motive:=λ_=>GT α) (Bool.rec (motive:=λ_=>GT α) (.node v l (r.set d f (i / 2-1) b)) (.node v (l.set d f (i / 2) b) r) (Nat.beq (i % 2) 1)) (.node b l r) (Nat.beq i 0))=_;by_cases h0:i=0
 .subst h0;rfl
 .have:Nat.beq i 0=false:=by
   cases h:Nat.beq i 0 with
   |false=>rfl
   |true=>exact absurd (zq h) h0
  rw[this,z0 h0];by_cases h1:i % 2=1
  .rw[z2 h1,h1];rfl
  .have:Nat.beq (i % 2) 1=false:=by
    cases h:Nat.beq (i % 2) 1 with
    |false=>rfl
    |true=>exact absurd (zq h) h1
   rw[this,z0 h1]
theorem GT.set_nil {α:Type}(d:α) (f i:Nat) (b:α):(GT.nil:GT α).set d (f+1) i b=(GT.node d .nil .nil).set d (f+1) i b:=rfl
theorem GT.q1q {α:Type}(d:α):∀ (f:Nat) (t:GT α) (i:Nat) (b:α) (j:Nat),i+1<2 ^ f->(t.set d f i b).get d j=if j=i then b else t.get d j:=by
 intro f;induction f with
 |zero=>intro t i b j h;simp at h
 |succ f ih =>
  intro t i b j h;have hp:2 ^ (f+1)=2*2 ^ f:=by rw[Nat.pow_succ];omega
  have f_:∀ v l r,((GT.node v l r).set d (f+1) i b).get d j=if j=i then b else (GT.node v l r).get d j:=by
   intro v l r;rw[GT.q2a];by_cases hi:i=0
   .subst hi;rw[z2 rfl,GT.q0w,GT.q0w];split<;>rfl
   .rw[z0 hi];by_cases ho:i % 2=1
    .rw[z2 ho,GT.q0w,GT.q0w,ih _ _ _ _ (by omega)];by_cases fk:j=0
     .subst fk;rw[z2 rfl,z0 (Ne.symm hi),z2 rfl]
     .rw[z0 fk,z0 fk];by_cases hU:j % 2=1
      .rw[z2 hU,z2 hU];by_cases aU:j=i
       .subst aU;simp
       .rw[z0 aU,z0 (by omega)]
      .rw[z0 hU,z0 hU,z0 (by rintro rfl;exact hU ho)]
    .rw[z0 ho,GT.q0w,GT.q0w,ih _ _ _ _ (by omega)];by_cases fk:j=0
     .subst fk;rw[z2 rfl,z0 (Ne.symm hi),z2 rfl]
     .rw[z0 fk,z0 fk];by_cases hU:j % 2=1
      .rw[z2 hU,z2 hU,z0 (by rintro rfl;exact ho hU)]
      .rw[z0 hU,z0 hU];by_cases aU:j=i
       .subst aU;simp
       .rw[z0 aU,z0 (by omega)]
  cases t with
  |node v l r=>exact f_ v l r
  |nil =>
   rw[GT.set_nil,f_ d .nil .nil,GT.q0w];split
   .rfl
   .split
    .rfl
    .split<;>rfl
structure CH where
 t:GT (Option EB)
 n:Nat
def CH.get (h:CH) (i:Nat):Option EB:=Bool.rec (motive:=λ_=>Option EB) none (h.t.get none i) (Nat.blt i h.n)
theorem CH.q1u {h:CH}{i:Nat}(hi:i<h.n):h.get i=h.t.get none i:=by unfold CH.get;rw[show Nat.blt i h.n=true from Nat.ble_eq_true_of_le hi]
theorem CH.q1s {h:CH}{i:Nat}(hi:h.n<=i):h.get i=none:=by
 unfold CH.get;cases hb:Nat.blt i h.n with
 |false=>rfl
 |true=>have:=xQ hb;omega
def EB.to (q:Env×Loop):EB->Blk
 |.cells c e w t=>.cells c e w t
 |.map es cl w=>.obj (.map es cl) w
 |.iter m s sn l=>.obj (.iter m s sn l) true
 |.lp st pend=>.obj (.lp q.1 q.2 st pend) true
structure CSim (rs:Nat->Env×Loop) (h:CH) (U:Heap):Prop where
 n:h.n=U.n
 sm:h.n<=1000000001
 get:∀ i,U.get i=(h.get i).map (EB.to (rs i))
theorem CSim.cells {rs:Nat->Env×Loop}{h:CH}{U:Heap}(hs:CSim rs h U) {i:Nat}{c:List Value}{e:El}{w t:Bool}(hg:h.get i=some (.cells c e w t)):U.get i=some (.cells c e w t):=by rw[hs.get,hg];rfl
theorem CSim.map {rs:Nat->Env×Loop}{h:CH}{U:Heap}(hs:CSim rs h U) {i:Nat}{es:List XY}{cl:Nat}{w:Bool}(hg:h.get i=some (.map es cl w)):U.get i=some (.obj (.map es cl) w):=by rw[hs.get,hg];rfl
theorem CSim.iter {rs:Nat->Env×Loop}{h:CH}{U:Heap}(hs:CSim rs h U) {i m s:Nat}{sn:List Nat}{l:Nat}(hg:h.get i=some (.iter m s sn l)):U.get i=some (.obj (.iter m s sn l) true):=by rw[hs.get,hg];rfl
theorem CSim.lp {rs:Nat->Env×Loop}{h:CH}{U:Heap}(hs:CSim rs h U) {i:Nat}{st:LoopState}{pend:Option Code}(hg:h.get i=some (.lp st pend)):U.get i=some (.obj (.lp (rs i).1 (rs i).2 st pend) true):=by rw[hs.get,hg];rfl
theorem CSim.lt {rs:Nat->Env×Loop}{h:CH}{U:Heap}(hs:CSim rs h U) {i:Nat}{b:EB}(hg:h.get i=some b):i<h.n:=by
 have:U.get i=some (b.to (rs i)):=by rw[hs.get,hg];rfl
 rw[hs.n];exact U.lt this
theorem CSim.rs {rs m8:Nat->Env×Loop}{h:CH}{U:Heap}(hs:CSim rs h U) (hr:∀ i,i<h.n->m8 i=rs i):CSim m8 h U :=
 ⟨hs.n,hs.sm,λi=>by
  rw[hs.get];cases hg:h.get i with
  |none=>rfl
  |some b=>rw[hr i (hs.lt hg)]⟩
def Heap.empty:Heap:=⟨λ_=>none,0,λ_ _=>rfl⟩
def ESnd (rs:Nat->Env×Loop) (h:CH) (_σ:Heap) (r:Option (Value×Heap)) (p:Value×CH):Prop:=h.n<=p.2.n/\∃ U',r=some (p.1,U')/\CSim rs p.2 U'
theorem ESnd.same {rs:Nat->Env×Loop}{h:CH}{U:Heap}(hs:CSim rs h U) {r:Option (Value×Heap)}{v:Value}(hr:r=some (v,U)):ESnd rs h U r (v,h):=⟨z5 _,U,hr,hs⟩
theorem BRel.any {ρ ρ':Plc}{n n':Nat}{p:Pl}{w:World}{c:List Value}{esz:El}{wr tight:Bool}(hp:c.all Jy=true) (h:BRel ρ n p w (.cells c esz wr tight)) :
  BRel ρ' n' p w (.cells c esz wr tight):=by
 obtain⟨h1,h2,h3,h4,h5,h6⟩:=h;refine⟨h1,h2,h3,h4,λk v hk=>?_,h6⟩;obtain⟨u,hu,hv⟩:=h5 k v hk;have aX:Jy v=true:=zg.1 hp v (xh hk);obtain rfl:u=v:=Cc aX hv;exact⟨u,hu,Bo aX⟩
structure PB where
 c:List Value
 esz:El
 tight:Bool
def PB.blk (wr:Bool) (b:PB):Blk:=.cells b.c b.esz wr b.tight
def Z3q (bl fr:List PB):Heap where
 get i:=if i<bl.length then (bl[i]?).map (PB.blk false) else (fr[i-bl.length]?).map (PB.blk true)
 n:=bl.length+fr.length
 wf i h:=by rw[z0 (by omega),xb (by omega)];rfl
def Z4o {α:Type}(p:α->α->Bool):List α->List α->Bool
 |[],[]=>true
 |a::l,b::m=>p a b&&Z4o p l m
 |_,_=>false
def Z43:Nat->Value->Value->Bool
 |0,_,_=>false
 |f+1,a,b=>match a,b with
  |.bool x,.bool y=>x==y
  |.int k x,.int k' y=>decide (k=k')&&decide (x=y)
  |.string s,.string t=>decide (s.data.toList=t.data.toList)
  |.pointer none,.pointer none=>true
  |.pointer (some ⟨i,o,none⟩),.pointer (some ⟨j,q,none⟩)=>Nat.beq i j&&Nat.beq o q
  |.slice none l c,.slice none l' c'=>Nat.beq l l'&&Nat.beq c c'
  |.slice (some ⟨i,o,none⟩) l c,.slice (some ⟨j,q,none⟩) l' c'=>Nat.beq i j&&(Nat.beq o q&&(Nat.beq l l'&&Nat.beq c c'))
  |.slice (some ⟨i,o,some 0⟩) l c,.slice (some ⟨j,q,some 0⟩) l' c'=>Nat.beq i j&&(Nat.beq o q&&(Nat.beq l l'&&Nat.beq c c'))
  |.map x,.map y=>decide (x=y)
  |.chan none,.chan none=>true
  |.nilFunc,.nilFunc=>true
  |.nilIface,.nilIface=>true
  |.func (.func g) fs cs,.func (.func g') tH cs'=>decide (g=g')&&(Z4o (Z43 f) fs.toList tH.toList&&Z4o (Z43 f) cs.toList cs'.toList)
  |.func (.yield i) ⟨[]⟩ ⟨[]⟩,.func (.yield j) ⟨[]⟩ ⟨[]⟩=>Nat.beq i j
  |.iface t v,.iface t' v'=>decide (t=t')&&Z43 f v v'
  |.agg cs,.agg ds=>Z4o (Z43 f) cs.toList ds.toList
  |.tuple cs,.tuple ds=>Z4o (Z43 f) cs.toList ds.toList
  |_,_=>false
def EB.beq:EB->EB->Bool
 |.cells c e w t,.cells c' e' w' t'=>decide (e=e')&&(w==w'&&(t==t'&&Z4o (Z43 20) c c'))
 |.map es cl w,.map bV tI w'=>Nat.beq cl tI&&(w==w'&&Z4o (λa b=>Z43 20 a.1 b.1&&(Z43 20 a.2.1 b.2.1&&Nat.beq a.2.2 b.2.2)) es bV)
 |.iter m s sn l,.iter m' s' tJ l'=>Nat.beq m m'&&(Nat.beq s s'&&(Nat.beq l l'&&decide (sn=tJ)))
 |.lp .ready none,.lp .ready none=>true
 |.lp .busy none,.lp .busy none=>true
 |_,_=>false
structure AnsOps (A:Type) where
 fail:A
 both:A->A->A
def CH.same (h h':CH):Bool:=Nat.beq h.n h'.n&&(List.range h.n).all λi=>match h.get i,h'.get i with
 |none,none=>true
 |some a,some b=>a.beq b
 |_,_=>false
structure ET where
 t:GT Value
 m:Nat
def ET.get (e:ET) (i:Nat):Value:=Bool.rec (motive:=λ_=>Value) undef (e.t.get undef i) (Nat.blt i e.m)
def ET.set (e:ET) (i:Nat) (v:Value):ET:=Bool.rec (motive:=λ_=>ET) e ⟨e.t.set undef 32 i v,e.m⟩ (Nat.blt i e.m)
structure RCtx where
 ps:List Nat
 a:VCode
 b:VCode
 env:ET
abbrev Ys:=List (Nat×RCtx)
structure Memo where
 args:List Value
 bl:List PB
 v:Value
 fr:List PB
inductive FEnt where
 |code (vc:VCode) (rs:List VResult) (nt:Nat)
 |codeJ (vc:VCode) (rs:List VResult) (nt:Nat)
 |codeM (vc:VCode) (rs:List VResult) (nt:Nat) (ms:List Memo)
 |same
abbrev Tab:=FuncId->Option FEnt
abbrev J1z:=∀ {A:Type},AnsOps A->Ys->VCode->Option Nat->ET->CH->(Exit->ET->CH->A)->A
structure FRel (e:ET) (env:Env):Prop where
 m:e.m=List.length env
 sm:e.m<=1000000
 get:∀ i,env.getD i undef=e.get i
theorem ET.q1u {e:ET}{i:Nat}(hi:i<e.m):e.get i=e.t.get undef i:=by unfold ET.get;rw[show Nat.blt i e.m=true from Nat.ble_eq_true_of_le hi]
theorem ET.q1s {e:ET}{i:Nat}(hi:e.m<=i):e.get i=undef:=by
 unfold ET.get;cases hb:Nat.blt i e.m with
 |false=>rfl
 |true=>have:=xQ hb;omega
theorem ET.q1w {e:ET}{i:Nat}{v:Value}(hi:i<e.m):e.set i v=⟨e.t.set undef 32 i v,e.m⟩:=by unfold ET.set;rw[show Nat.blt i e.m=true from Nat.ble_eq_true_of_le hi]
theorem ET.q1x {e:ET}{i:Nat}{v:Value}(hi:e.m<=i):e.set i v=e:=by
 unfold ET.set;cases hb:Nat.blt i e.m with
 |false=>rfl
 |true=>have:=xQ hb;omega
theorem ET.q2b (e:ET) (i:Nat) (v:Value):(e.set i v).m=e.m:=by
 rcases zu i e.m with h|h
 .rw[ET.q1w h]
 .rw[ET.q1x h]
theorem ET.q1q {e:ET}(hs:e.m<=1000000) (i:Nat) (v:Value) (j:Nat):(e.set i v).get j=if j=i/\i<e.m then v else e.get j:=by
 rcases zu i e.m with hi|hi
 .rw[ET.q1w hi];rcases zu j e.m with hj|hj
  .rw[ET.q1u (e:=⟨e.t.set undef 32 i v,e.m⟩) hj,ET.q1u hj];show (e.t.set undef 32 i v).get undef j=_;rw[GT.q1q undef 32 _ _ _ _ (by omega)];by_cases h:j=i
   .rw[z2 h,z2 ⟨h,hi⟩]
   .rw[z0 h,z0 (λe=>h e.1)]
  .rw[ET.q1s (e:=⟨e.t.set undef 32 i v,e.m⟩) hj,ET.q1s hj,z0 (by rintro⟨rfl,_⟩;omega)]
 .rw[ET.q1x hi,z0 (by rintro⟨_,h⟩;omega)]
theorem FRel.set {e:ET}{env:Env}(h:FRel e env) (i:Nat) (v:Value):FRel (e.set i v) (env.set i v):=by
 refine⟨by rw[ET.q2b,xc];exact h.m,by rw[ET.q2b];exact h.sm,λj=>?_⟩;rw[ET.q1q h.sm,<-h.get,z9,z9,xt,h.m];by_cases cB:i=j
 .subst cB;rcases zu i (List.length env) with hi|hi
  .rw[z2 rfl,z2 hi,z2 ⟨rfl,hi⟩];rfl
  .rw[z2 rfl,z0 (by omega),z0 (by rintro⟨_,h⟩;omega),xb hi]
 .rw[z0 cB,z0 (λe=>cB e.1.symm)]
def Z6e (P:Program) (f:FuncId) (m:Memo):Prop :=
 VCalled P f m.args (Z3q m.bl []) (λu Z=>u=m.v/\Z=Z3q m.bl m.fr)/\∀ b∈m.fr,b.c.all Jy=true
section
variable {P:Program}{T:Tab}{ev:J1z}
abbrev J11:=Nat->Env×Loop
variable {A:Type}{R:AnsOps A}{G:A->Prop}
theorem LRen.agg {n:Nat}{π:Nat->Nat}{cq:List Value}{cs:Array Value}(h:LRen n π cq cs.toList):Ren n π (.agg cq.toArray) (.agg cs) :=
 .agg _ _ (by simpa using h.1) λi h1 h2=>h.2 i _ _ (by simp) (by simp)
theorem LRen.tuple {n:Nat}{π:Nat->Nat}{cq:List Value}{cs:Array Value}(h:LRen n π cq cs.toList):Ren n π (.tuple cq.toArray) (.tuple cs) :=
 .tuple _ _ (by simpa using h.1) λi h1 h2=>h.2 i _ _ (by simp) (by simp)
def CSims (rs:J11) (n:Nat):List CH->List Heap->Prop
 |[],[]=>True
 |h::hs,U::σs=>(CSim rs h U/\h.n<=n)/\CSims rs n hs σs
 |_,_=>False
theorem CSims.get {rs:J11}{n:Nat}{h:CH}{U:Heap}(hs:CSim rs h U):∀ {hl:List CH}{σl:List Heap}(j:Nat),CSims rs n hl σl->CSim rs (hl.getD j h) (σl.getD j U)
 |[],[],_,_=>by simpa using hs
 |a::l,b::m,0,⟨h1,_⟩=>by simpa using h1.1
 |a::l,b::m,j+1,⟨_,h2⟩=>by simpa using CSims.get hs j h2
 |[],_::_,_,h=>h.elim
 |_::_,[],_,h=>h.elim
theorem CSims.length {rs:J11}{n:Nat}:∀ {hl:List CH}{σl:List Heap},CSims rs n hl σl->hl.length=σl.length
 |[],[],_=>rfl
 |_::_,_::_,⟨_,h⟩=>by simp[CSims.length h]
 |[],_::_,h=>h.elim
 |_::_,[],h=>h.elim
end
end Go.V
namespace Go.V
open Go
def Z7i (P:Program) (f:FuncId):Option FEnt->Prop
 |none=>True
 |some (.code vc rs nt)=>Fun P f vc rs nt
 |some (.codeJ vc rs nt)=>Fun P f vc rs nt
 |some (.codeM vc rs nt ms)=>Fun P f vc rs nt/\∀ m∈ms,Z6e P f m
 |some .same=>∀ (v:Value) (U:Heap) (K:Value->Heap->Prop),K v U->VCalled P f [v] U K
def EntsOk (P:Program):Nat->List (Option FEnt)->Prop
 |_,[]=>True
 |i,e::l=>Z7i P i e/\EntsOk P (i+1) l
theorem EntsOk.get {P:Program}:∀ {l:List (Option FEnt)}{i j:Nat}{e:FEnt},EntsOk P i l->l[j]?=some (some e)->Z7i P (i+j) (some e)
 |[],_,_,_,_,h=>by simp at h
 |x::l,i,0,e,h,hj=>by simp at hj;subst hj;exact h.1
 |x::l,i,j+1,e,h,hj=>by have:=EntsOk.get (l:=l) (i:=i+1) (j:=j) h.2 (by simpa using hj);rw[zo,xV 1 j] at this;exact this
end Go.V
namespace Go.Proofs.Tryz
open Go Go.V Go.Proofs
theorem mixed:Tryz.prog.follows .mixedOrders=true:=by kernel_rfl
def cof (fn:Func):VCode:=match fn.body.bind (comp Tryz.prog) with|some c=>c|none=>.bad
theorem Qd {fn:Func}(h:(fn.body.bind (comp Tryz.prog)).isSome=true):fn.body.bind (comp Tryz.prog)=some (cof fn):=by
 unfold cof;cases h2:fn.body.bind (comp Tryz.prog) with
 |none=>rw[h2] at h;cases h
 |some c=>rfl
def c2:VCode:=cof Tryz.f2
def c3:VCode:=cof Tryz.f3
theorem fun3:Fun Tryz.prog 3 c3 [.tmp 6] 160:=⟨Tryz.f3,Tryz.func3,Qd (by kernel_rfl),by kernel_rfl,rfl,rfl⟩
def c4:VCode:=cof Tryz.f4
theorem J21:Fun Tryz.prog 4 c4 [.cell 4 true 2] 48:=⟨Tryz.f4,Tryz.func4,Qd (by kernel_rfl),by kernel_rfl,rfl,rfl⟩
def c5:VCode:=cof Tryz.f5
theorem J1w:Fun Tryz.prog 5 c5 [.tmp 4] 16:=⟨Tryz.f5,Tryz.func5,Qd (by kernel_rfl),by kernel_rfl,rfl,rfl⟩
def c6:VCode:=cof Tryz.f6
theorem J20:Fun Tryz.prog 6 c6 [.cell 6 true 2,.tmp 7,.tmp 8] 84:=⟨Tryz.f6,Tryz.func6,Qd (by kernel_rfl),by kernel_rfl,rfl,rfl⟩
def c7:VCode:=cof Tryz.f7
theorem J1t:Fun Tryz.prog 7 c7 [.cell 2 true 2] 9:=⟨Tryz.f7,Tryz.func7,Qd (by kernel_rfl),by kernel_rfl,rfl,rfl⟩
def c8:VCode:=cof Tryz.f8
theorem J1p:Fun Tryz.prog 8 c8 [.tmp 0] 69:=⟨Tryz.f8,Tryz.func8,Qd (by kernel_rfl),by kernel_rfl,rfl,rfl⟩
def c9:VCode:=cof Tryz.f9
theorem J1v:Fun Tryz.prog 9 c9 [.tmp 0] 65:=⟨Tryz.f9,Tryz.func9,Qd (by kernel_rfl),by kernel_rfl,rfl,rfl⟩
def c10:VCode:=cof Tryz.f10
theorem J0a:Fun Tryz.prog 10 c10 [.cell 2 true 2,.tmp 3] 54:=⟨Tryz.f10,Tryz.func10,Qd (by kernel_rfl),by kernel_rfl,rfl,rfl⟩
def c11:VCode:=cof Tryz.f11
theorem Z92:Fun Tryz.prog 11 c11 [.cell 2 true 2,.tmp 3] 34:=⟨Tryz.f11,Tryz.func11,Qd (by kernel_rfl),by kernel_rfl,rfl,rfl⟩
def c12:VCode:=cof Tryz.f12
theorem J0t:Fun Tryz.prog 12 c12 [.cell 4 true 2] 60:=⟨Tryz.f12,Tryz.func12,Qd (by kernel_rfl),by kernel_rfl,rfl,rfl⟩
def c13:VCode:=cof Tryz.f13
theorem J0d:Fun Tryz.prog 13 c13 [.tmp 6,.tmp 7,.tmp 8] 58:=⟨Tryz.f13,Tryz.func13,Qd (by kernel_rfl),by kernel_rfl,rfl,rfl⟩
def c14:VCode:=cof Tryz.f14
theorem J01:Fun Tryz.prog 14 c14 [.cell 2 true 2] 9:=⟨Tryz.f14,Tryz.func14,Qd (by kernel_rfl),by kernel_rfl,rfl,rfl⟩
def c15:VCode:=cof Tryz.f15
theorem Z8b:Fun Tryz.prog 15 c15 [.tmp 2] 15:=⟨Tryz.f15,Tryz.func15,Qd (by kernel_rfl),by kernel_rfl,rfl,rfl⟩
def c16:VCode:=cof Tryz.f16
theorem Z8j:Fun Tryz.prog 16 c16 [.cell 6 false 1,.tmp 7] 42:=⟨Tryz.f16,Tryz.func16,Qd (by kernel_rfl),by kernel_rfl,rfl,rfl⟩
def c17:VCode:=cof Tryz.f17
theorem Z89:Fun Tryz.prog 17 c17 [.tmp 2] 6:=⟨Tryz.f17,Tryz.func17,Qd (by kernel_rfl),by kernel_rfl,rfl,rfl⟩
def c18:VCode:=cof Tryz.f18
theorem Z8i:Fun Tryz.prog 18 c18 [.tmp 4,.tmp 5,.tmp 6,.tmp 7] 58:=⟨Tryz.f18,Tryz.func18,Qd (by kernel_rfl),by kernel_rfl,rfl,rfl⟩
def c19:VCode:=cof Tryz.f19
theorem Z9t:Fun Tryz.prog 19 c19 [.tmp 4] 26:=⟨Tryz.f19,Tryz.func19,Qd (by kernel_rfl),by kernel_rfl,rfl,rfl⟩
def c20:VCode:=cof Tryz.f20
theorem Z9b:Fun Tryz.prog 20 c20 [.tmp 2] 28:=⟨Tryz.f20,Tryz.func20,Qd (by kernel_rfl),by kernel_rfl,rfl,rfl⟩
def c21:VCode:=cof Tryz.f21
theorem J0o:Fun Tryz.prog 21 c21 [.tmp 6] 11:=⟨Tryz.f21,Tryz.func21,Qd (by kernel_rfl),by kernel_rfl,rfl,rfl⟩
def c22:VCode:=cof Tryz.f22
theorem J0s:Fun Tryz.prog 22 c22 [.tmp 2,.tmp 3] 102:=⟨Tryz.f22,Tryz.func22,Qd (by kernel_rfl),by kernel_rfl,rfl,rfl⟩
def c23:VCode:=cof Tryz.f23
theorem J0r:Fun Tryz.prog 23 c23 [.cell 6 true 2,.tmp 7] 38:=⟨Tryz.f23,Tryz.func23,Qd (by kernel_rfl),by kernel_rfl,rfl,rfl⟩
def c24:VCode:=cof Tryz.f24
theorem Z9j:Fun Tryz.prog 24 c24 [.tmp 2,.tmp 3] 49:=⟨Tryz.f24,Tryz.func24,Qd (by kernel_rfl),by kernel_rfl,rfl,rfl⟩
def c25:VCode:=cof Tryz.f25
theorem Z8c:Fun Tryz.prog 25 c25 [.tmp 6,.tmp 7] 29:=⟨Tryz.f25,Tryz.func25,Qd (by kernel_rfl),by kernel_rfl,rfl,rfl⟩
def c26:VCode:=cof Tryz.f26
theorem J05:Fun Tryz.prog 26 c26 [.tmp 2] 6:=⟨Tryz.f26,Tryz.func26,Qd (by kernel_rfl),by kernel_rfl,rfl,rfl⟩
def c27:VCode:=cof Tryz.f27
theorem Z8t:Fun Tryz.prog 27 c27 [.tmp 4] 10:=⟨Tryz.f27,Tryz.func27,Qd (by kernel_rfl),by kernel_rfl,rfl,rfl⟩
def c28:VCode:=cof Tryz.f28
theorem Z7j:Fun Tryz.prog 28 c28 [.cell 2 true 3,.tmp 3] 43:=⟨Tryz.f28,Tryz.func28,Qd (by kernel_rfl),by kernel_rfl,rfl,rfl⟩
def c29:VCode:=cof Tryz.f29
theorem J0w:Fun Tryz.prog 29 c29 [.tmp 4] 12:=⟨Tryz.f29,Tryz.func29,Qd (by kernel_rfl),by kernel_rfl,rfl,rfl⟩
def c30:VCode:=cof Tryz.f30
theorem J0p:Fun Tryz.prog 30 c30 [.tmp 2] 4:=⟨Tryz.f30,Tryz.func30,Qd (by kernel_rfl),by kernel_rfl,rfl,rfl⟩
def c31:VCode:=cof Tryz.f31
theorem Z9i:Fun Tryz.prog 31 c31 [.tmp 4] 10:=⟨Tryz.f31,Tryz.func31,Qd (by kernel_rfl),by kernel_rfl,rfl,rfl⟩
def c32:VCode:=cof Tryz.f32
theorem Z8q:Fun Tryz.prog 32 c32 [.tmp 4] 20:=⟨Tryz.f32,Tryz.func32,Qd (by kernel_rfl),by kernel_rfl,rfl,rfl⟩
def c33:VCode:=cof Tryz.f33
theorem Z8u:Fun Tryz.prog 33 c33 [.cell 2 true 3,.tmp 3] 30:=⟨Tryz.f33,Tryz.func33,Qd (by kernel_rfl),by kernel_rfl,rfl,rfl⟩
def c34:VCode:=cof Tryz.f34
theorem Z87:Fun Tryz.prog 34 c34 [.tmp 6] 11:=⟨Tryz.f34,Tryz.func34,Qd (by kernel_rfl),by kernel_rfl,rfl,rfl⟩
def c35:VCode:=cof Tryz.f35
theorem J08:Fun Tryz.prog 35 c35 [.tmp 4] 26:=⟨Tryz.f35,Tryz.func35,Qd (by kernel_rfl),by kernel_rfl,rfl,rfl⟩
def c36:VCode:=cof Tryz.f36
theorem J0q:Fun Tryz.prog 36 c36 [.tmp 6] 15:=⟨Tryz.f36,Tryz.func36,Qd (by kernel_rfl),by kernel_rfl,rfl,rfl⟩
def c37:VCode:=cof Tryz.f37
theorem Z9c:Fun Tryz.prog 37 c37 [.tmp 4] 21:=⟨Tryz.f37,Tryz.func37,Qd (by kernel_rfl),by kernel_rfl,rfl,rfl⟩
def c38:VCode:=cof Tryz.f38
theorem J0b:Fun Tryz.prog 38 c38 [.tmp 2] 18:=⟨Tryz.f38,Tryz.func38,Qd (by kernel_rfl),by kernel_rfl,rfl,rfl⟩
def c39:VCode:=cof Tryz.f39
theorem Z9e:Fun Tryz.prog 39 c39 [.tmp 4] 19:=⟨Tryz.f39,Tryz.func39,Qd (by kernel_rfl),by kernel_rfl,rfl,rfl⟩
def c40:VCode:=cof Tryz.f40
theorem Z9q:Fun Tryz.prog 40 c40 [.tmp 2] 8:=⟨Tryz.f40,Tryz.func40,Qd (by kernel_rfl),by kernel_rfl,rfl,rfl⟩
def c41:VCode:=cof Tryz.f41
theorem Z85:Fun Tryz.prog 41 c41 [.tmp 2] 8:=⟨Tryz.f41,Tryz.func41,Qd (by kernel_rfl),by kernel_rfl,rfl,rfl⟩
def c42:VCode:=cof Tryz.f42
theorem Z9o:Fun Tryz.prog 42 c42 [.tmp 4] 9:=⟨Tryz.f42,Tryz.func42,Qd (by kernel_rfl),by kernel_rfl,rfl,rfl⟩
def c43:VCode:=cof Tryz.f43
theorem J0n:Fun Tryz.prog 43 c43 [.tmp 4] 13:=⟨Tryz.f43,Tryz.func43,Qd (by kernel_rfl),by kernel_rfl,rfl,rfl⟩
def c44:VCode:=cof Tryz.f44
theorem Z91:Fun Tryz.prog 44 c44 [.cell 4 true 4] 20:=⟨Tryz.f44,Tryz.func44,Qd (by kernel_rfl),by kernel_rfl,rfl,rfl⟩
def c45:VCode:=cof Tryz.f45
theorem J0g:Fun Tryz.prog 45 c45 [.tmp 6] 29:=⟨Tryz.f45,Tryz.func45,Qd (by kernel_rfl),by kernel_rfl,rfl,rfl⟩
def c46:VCode:=cof Tryz.f46
theorem Z84:Fun Tryz.prog 46 c46 [.tmp 4] 81:=⟨Tryz.f46,Tryz.func46,Qd (by kernel_rfl),by kernel_rfl,rfl,rfl⟩
def c47:VCode:=cof Tryz.f47
theorem Z9n:Fun Tryz.prog 47 c47 [.tmp 2] 4:=⟨Tryz.f47,Tryz.func47,Qd (by kernel_rfl),by kernel_rfl,rfl,rfl⟩
def c48:VCode:=cof Tryz.f48
theorem Z8d:Fun Tryz.prog 48 c48 [.cell 6 true 4,.tmp 7] 40:=⟨Tryz.f48,Tryz.func48,Qd (by kernel_rfl),by kernel_rfl,rfl,rfl⟩
def c49:VCode:=cof Tryz.f49
theorem Z9f:Fun Tryz.prog 49 c49 [.cell 4 true 2,.tmp 5] 20:=⟨Tryz.f49,Tryz.func49,Qd (by kernel_rfl),by kernel_rfl,rfl,rfl⟩
def c50:VCode:=cof Tryz.f50
theorem J0z:Fun Tryz.prog 50 c50 [.tmp 7,.tmp 8] 22:=⟨Tryz.f50,Tryz.func50,Qd (by kernel_rfl),by kernel_rfl,rfl,rfl⟩
def c51:VCode:=cof Tryz.f51
theorem Z8n:Fun Tryz.prog 51 c51 [.tmp 4] 25:=⟨Tryz.f51,Tryz.func51,Qd (by kernel_rfl),by kernel_rfl,rfl,rfl⟩
def c52:VCode:=cof Tryz.f52
theorem Z95:Fun Tryz.prog 52 c52 [.tmp 6,.tmp 7] 28:=⟨Tryz.f52,Tryz.func52,Qd (by kernel_rfl),by kernel_rfl,rfl,rfl⟩
def c53:VCode:=cof Tryz.f53
theorem Z86:Fun Tryz.prog 53 c53 [.tmp 2] 5:=⟨Tryz.f53,Tryz.func53,Qd (by kernel_rfl),by kernel_rfl,rfl,rfl⟩
def c54:VCode:=cof Tryz.f54
theorem Z93:Fun Tryz.prog 54 c54 [] 14:=⟨Tryz.f54,Tryz.func54,Qd (by kernel_rfl),by kernel_rfl,rfl,rfl⟩
def c55:VCode:=cof Tryz.f55
theorem Z90:Fun Tryz.prog 55 c55 [] 16:=⟨Tryz.f55,Tryz.func55,Qd (by kernel_rfl),by kernel_rfl,rfl,rfl⟩
def c56:VCode:=cof Tryz.f56
theorem Z9v:Fun Tryz.prog 56 c56 [.tmp 2] 6:=⟨Tryz.f56,Tryz.func56,Qd (by kernel_rfl),by kernel_rfl,rfl,rfl⟩
def c57:VCode:=cof Tryz.f57
theorem Z9y:Fun Tryz.prog 57 c57 [.tmp 4] 16:=⟨Tryz.f57,Tryz.func57,Qd (by kernel_rfl),by kernel_rfl,rfl,rfl⟩
def c58:VCode:=cof Tryz.f58
theorem Z9l:Fun Tryz.prog 58 c58 [.tmp 4] 13:=⟨Tryz.f58,Tryz.func58,Qd (by kernel_rfl),by kernel_rfl,rfl,rfl⟩
def c59:VCode:=cof Tryz.f59
theorem J0c:Fun Tryz.prog 59 c59 [.tmp 4] 13:=⟨Tryz.f59,Tryz.func59,Qd (by kernel_rfl),by kernel_rfl,rfl,rfl⟩
def c60:VCode:=cof Tryz.f60
theorem Z88:Fun Tryz.prog 60 c60 [.tmp 4] 27:=⟨Tryz.f60,Tryz.func60,Qd (by kernel_rfl),by kernel_rfl,rfl,rfl⟩
def c62:VCode:=cof Tryz.f62
theorem Z9z:Fun Tryz.prog 62 c62 [] 37:=⟨Tryz.f62,Tryz.func62,Qd (by kernel_rfl),by kernel_rfl,rfl,rfl⟩
def c63:VCode:=cof Tryz.f63
theorem Z8e:Fun Tryz.prog 63 c63 [] 50:=⟨Tryz.f63,Tryz.func63,Qd (by kernel_rfl),by kernel_rfl,rfl,rfl⟩
def c65:VCode:=cof Tryz.f65
theorem Z8o:Fun Tryz.prog 65 c65 [.tmp 2] 14:=⟨Tryz.f65,Tryz.func65,Qd (by kernel_rfl),by kernel_rfl,rfl,rfl⟩
def c67:VCode:=cof Tryz.f67
theorem Z9d:Fun Tryz.prog 67 c67 [.tmp 2] 35:=⟨Tryz.f67,Tryz.func67,Qd (by kernel_rfl),by kernel_rfl,rfl,rfl⟩
def c68:VCode:=cof Tryz.f68
theorem Z83:Fun Tryz.prog 68 c68 [.tmp 4] 19:=⟨Tryz.f68,Tryz.func68,Qd (by kernel_rfl),by kernel_rfl,rfl,rfl⟩
def c69:VCode:=cof Tryz.f69
theorem Z96:Fun Tryz.prog 69 c69 [.cell 6 true 2] 38:=⟨Tryz.f69,Tryz.func69,Qd (by kernel_rfl),by kernel_rfl,rfl,rfl⟩
def c70:VCode:=cof Tryz.f70
theorem J0u:Fun Tryz.prog 70 c70 [.tmp 6] 16:=⟨Tryz.f70,Tryz.func70,Qd (by kernel_rfl),by kernel_rfl,rfl,rfl⟩
def c71:VCode:=cof Tryz.f71
theorem Z8w:Fun Tryz.prog 71 c71 [.tmp 6] 26:=⟨Tryz.f71,Tryz.func71,Qd (by kernel_rfl),by kernel_rfl,rfl,rfl⟩
def c72:VCode:=cof Tryz.f72
theorem J09:Fun Tryz.prog 72 c72 [.cell 6 false 1] 73:=⟨Tryz.f72,Tryz.func72,Qd (by kernel_rfl),by kernel_rfl,rfl,rfl⟩
def c73:VCode:=cof Tryz.f73
theorem Z9s:Fun Tryz.prog 73 c73 [.cell 4 true 4,.tmp 5] 33:=⟨Tryz.f73,Tryz.func73,Qd (by kernel_rfl),by kernel_rfl,rfl,rfl⟩
def c74:VCode:=cof Tryz.f74
theorem Z8f:Fun Tryz.prog 74 c74 [.tmp 4] 52:=⟨Tryz.f74,Tryz.func74,Qd (by kernel_rfl),by kernel_rfl,rfl,rfl⟩
def c75:VCode:=cof Tryz.f75
theorem Z9w:Fun Tryz.prog 75 c75 [.tmp 4] 13:=⟨Tryz.f75,Tryz.func75,Qd (by kernel_rfl),by kernel_rfl,rfl,rfl⟩
def c76:VCode:=cof Tryz.f76
theorem J0y:Fun Tryz.prog 76 c76 [] 148:=⟨Tryz.f76,Tryz.func76,Qd (by kernel_rfl),by kernel_rfl,rfl,rfl⟩
def c77:VCode:=cof Tryz.f77
theorem J0m:Fun Tryz.prog 77 c77 [.tmp 2] 8:=⟨Tryz.f77,Tryz.func77,Qd (by kernel_rfl),by kernel_rfl,rfl,rfl⟩
def c78:VCode:=cof Tryz.f78
theorem Z8z:Fun Tryz.prog 78 c78 [.tmp 3] 17:=⟨Tryz.f78,Tryz.func78,Qd (by kernel_rfl),by kernel_rfl,rfl,rfl⟩
def c79:VCode:=cof Tryz.f79
theorem Z8l:Fun Tryz.prog 79 c79 [.tmp 4] 9:=⟨Tryz.f79,Tryz.func79,Qd (by kernel_rfl),by kernel_rfl,rfl,rfl⟩
def c80:VCode:=cof Tryz.f80
theorem J0j:Fun Tryz.prog 80 c80 [.tmp 2] 26:=⟨Tryz.f80,Tryz.func80,Qd (by kernel_rfl),by kernel_rfl,rfl,rfl⟩
def c81:VCode:=cof Tryz.f81
theorem Z8p:Fun Tryz.prog 81 c81 [.tmp 3] 20:=⟨Tryz.f81,Tryz.func81,Qd (by kernel_rfl),by kernel_rfl,rfl,rfl⟩
def c82:VCode:=cof Tryz.f82
theorem J04:Fun Tryz.prog 82 c82 [.tmp 4] 6:=⟨Tryz.f82,Tryz.func82,Qd (by kernel_rfl),by kernel_rfl,rfl,rfl⟩
def c83:VCode:=cof Tryz.f83
theorem J0k:Fun Tryz.prog 83 c83 [.tmp 3] 14:=⟨Tryz.f83,Tryz.func83,Qd (by kernel_rfl),by kernel_rfl,rfl,rfl⟩
def c84:VCode:=cof Tryz.f84
theorem Z9u:Fun Tryz.prog 84 c84 [.tmp 6] 25:=⟨Tryz.f84,Tryz.func84,Qd (by kernel_rfl),by kernel_rfl,rfl,rfl⟩
def c85:VCode:=cof Tryz.f85
theorem Z8a:Fun Tryz.prog 85 c85 [] 39:=⟨Tryz.f85,Tryz.func85,Qd (by kernel_rfl),by kernel_rfl,rfl,rfl⟩
def c86:VCode:=cof Tryz.f86
theorem Z8x:Fun Tryz.prog 86 c86 [] 53:=⟨Tryz.f86,Tryz.func86,Qd (by kernel_rfl),by kernel_rfl,rfl,rfl⟩
def c94:VCode:=cof Tryz.f94
theorem Z97:Fun Tryz.prog 94 c94 [.tmp 2] 19:=⟨Tryz.f94,Tryz.func94,Qd (by kernel_rfl),by kernel_rfl,rfl,rfl⟩
def c95:VCode:=cof Tryz.f95
theorem Z99:Fun Tryz.prog 95 c95 [.tmp 2] 25:=⟨Tryz.f95,Tryz.func95,Qd (by kernel_rfl),by kernel_rfl,rfl,rfl⟩
def c96:VCode:=cof Tryz.f96
theorem Z8g:Fun Tryz.prog 96 c96 [.tmp 4] 19:=⟨Tryz.f96,Tryz.func96,Qd (by kernel_rfl),by kernel_rfl,rfl,rfl⟩
def c97:VCode:=cof Tryz.f97
theorem J0f:Fun Tryz.prog 97 c97 [.tmp 2] 22:=⟨Tryz.f97,Tryz.func97,Qd (by kernel_rfl),by kernel_rfl,rfl,rfl⟩
def c98:VCode:=cof Tryz.f98
theorem J03:Fun Tryz.prog 98 c98 [] 20:=⟨Tryz.f98,Tryz.func98,Qd (by kernel_rfl),by kernel_rfl,rfl,rfl⟩
def c99:VCode:=cof Tryz.f99
theorem J00:Fun Tryz.prog 99 c99 [.tmp 2] 5:=⟨Tryz.f99,Tryz.func99,Qd (by kernel_rfl),by kernel_rfl,rfl,rfl⟩
end Go.Proofs.Tryz
namespace Go.V
open Go
inductive Kind where
 |i (k:IntKind)
 |bo
 |st
 |list (k:Kind)
 |pair (a b:Kind)
 deriving DecidableEq,Inhabited
abbrev Kind.T:Kind->Type
 |.i _=>Int
 |.bo=>Bool
 |.st=>List UInt8
 |.list k=>List k.T
 |.pair a b=>a.T×b.T
def Kind.size:Kind->Nat
 |.pair a b=>a.size+b.size
 |_=>1
def Kind.dflt:(k:Kind)->k.T
 |.i _=>(0:Int)
 |.bo=>false
 |.st=>([]:List UInt8)
 |.list _=>[]
 |.pair a b=>(a.dflt,b.dflt)
def Kind.one:Kind->Bool
 |.pair _ _=>false
 |_=>true
theorem Kind.size_pos:∀ k:Kind,0<k.size
 |.pair a b=>by have:=a.size_pos;simp only[Kind.size];omega
 |.i _|.bo|.st|.list _=>by simp[Kind.size]
theorem Kind.q1k:∀ {k:Kind},k.one=true->k.size=1
 |.pair _ _,h=>by cases h
 |.i _,_|.bo,_|.st,_|.list _,_=>rfl
def Kind.prim:Kind->Bool
 |.i _|.bo|.st=>true
 |_=>false
def Kind.keyk:Kind->Bool
 |.pair a b=>a.keyk&&b.keyk
 |k=>k.prim
abbrev AT:List Kind->Type
 |[]=>Unit
 |[k]=>k.T
 |k::k'::ks=>k.T×AT (k'::ks)
structure Gd where
 id:Nat
 want:Bool
 c:Bool
inductive DW where
 |out
 |el (i:Int) (off sz:Nat)
 |row (k:Kind) (x:List k.T) (i:Int)
 |rowp (k:Kind) (x:List k.T) (i j:Int) (off:Nat)
 |inn (k:Kind) (x:List k.T)
 |inp (k:Kind) (l:List k.T) (j:Int) (off:Nat)
 |dat
 |obx (c:Bool)
 |yv
inductive SV where
 |dd (o:Nat) (w:DW)
 |any
 |val (k:Kind) (x:k.T)
 |bid (n:Nat) (c:Bool)
 |grd (gs:List Gd) (v:SV)
 |nilS
 |nilP
 |nilM
 |nilF
 |lst (o:Nat)
 |sub (o:Nat) (lo n sz:Nat)
 |elp (o:Nat) (i:Int) (off sz:Nat)
 |rop (k:Kind) (l:List k.T) (i:Int) (off:Nat)
 |box (o:Nat) (off:Nat)
 |cp (l:List SV) (off:Nat)
 |map (o:Nat)
 |agg (l:List SV)
 |tup (l:List SV)
 |fn (f:Nat) (first dk:List SV)
 |pf (ks:List Kind) (r:Kind) (cE:AT ks->Prop) (p:AT ks->r.T)
structure LpD where
 i:Nat
 vals:List Value
 r:Loop
inductive LpS where
 |busy
 |rdy
 |ret
 |exit (id:Nat)
def LpS.st:LpS->LoopState
 |.busy=>.busy
 |.rdy=>.ready
 |.ret=>.done
 |.exit _=>.done
def LpS.pend:LpS->Option Code
 |.busy=>none
 |.rdy=>none
 |.ret=>some .ret
 |.exit id=>some (.exit id)
def LpS.live:LpS->Bool
 |.busy=>false
 |_=>true
inductive OB where
 |dead
 |lst (ty:Nat) (k:Kind) (xs:List k.T) (nl:Bool)
 |cells (l:List SV) (u:Option Nat)
 |map (kk vk:Kind) (m:List (kk.T×vk.T))
 |stk (l:List SV) (vals:List Value)
 |deep (ty:Nat) (q:Option Nat) (k:Kind) (xs:List k.T) (nl:Bool) (hole:Option Nat)
 |iter (kk vk:Kind) (m:List (kk.T×vk.T)) (dn:List Nat)
 |mapE (kk vk:Kind) (m:List (kk.T×vk.T)) (key:kk.T) (n:Int)
 |lpf (l:List SV) (q:LpD) (s:LpS)
instance:Inhabited SV:=⟨.any⟩
instance:Inhabited OB:=⟨.dead⟩
inductive Rows {α:Type}(R:α->List Value->Prop):List α->List Value->Prop
 |nil:Rows R [] []
 |cons {x:α}{xs:List α}{c cs:List Value}(h:R x c) (t:Rows R xs cs):Rows R (x::xs) (c++cs)
def SlRel (h:Heap) (sz:Nat) {α:Type}(R:α->List Value->Prop) (l:List α) (v:Value):Prop :=
 (l=[]/\v=.slice none 0 0)\/∃ i o cap c e wr t,v=.slice (some ⟨i,o,none⟩) l.length cap/\l.length<=cap/\h.get i=some (.cells c e wr t)/\e.sz=sz/\o+l.length*sz<=c.length/\Rows R l ((c.drop o).take (l.length*sz))
def KC (h:Heap):(k:Kind)->k.T->List Value->Prop
 |.i ik,x,cs=>cs=[.int ik x]
 |.bo,x,cs=>cs=[.bool x]
 |.st,x,cs=>cs=[.string ⟨x.toArray⟩]
 |.list k,l,cs=>∃ v,cs=[v]/\SlRel h k.size (λx c=>KC h k x c) l v
 |.pair a b,x,cs=>∃ c1 c2,cs=c1++c2/\KC h a x.1 c1/\KC h b x.2 c2
theorem Rows.length {α:Type}{R:α->List Value->Prop}{n:Nat}(hR:∀ x c,R x c->c.length=n) {xs:List α}{cs:List Value}(h:Rows R xs cs):cs.length=xs.length*n:=by
 induction h with
 |nil=>simp
 |cons h _ ih=>simp only[zP,hR _ _ h,ih,zJ,zB,xx];omega
theorem Rows.mono {α:Type}{R R':α->List Value->Prop}(hR:∀ x c,R x c->R' x c) {xs:List α}{cs:List Value}(h:Rows R xs cs):Rows R' xs cs:=by
 induction h with
 |nil=>exact .nil
 |cons h _ ih=>exact .cons (hR _ _ h) ih
theorem Rows.append {α:Type}{R:α->List Value->Prop}{xs ys:List α}{cs ds:List Value}(h:Rows R xs cs) (h':Rows R ys ds):Rows R (xs++ys) (cs++ds):=by
 induction h with
 |nil=>exact h'
 |cons h _ ih=>rw[zX];exact .cons h ih
theorem Rows.at {α:Type}{R:α->List Value->Prop}{n:Nat}(hR:∀ x c,R x c->c.length=n) {xs:List α}{cs:List Value}(h:Rows R xs cs) {k:Nat}(hk:k<xs.length):R xs[k] ((cs.drop (k*n)).take n):=by
 induction h generalizing k with
 |nil=>simp at hk
 |@cons x xs c cs h t ih =>
  have hc:=hR _ _ h;cases k with
  |zero=>simp only[Nat.zero_mul,xG,List.getElem_cons_zero];rw[<-hc,List.take_left];exact h
  |succ k =>
   have:=ih (k:=k) (by simpa using hk);rw[List.getElem_cons_succ,zB,xx];have e:(c++cs).drop (k*n+n)=cs.drop (k*n):=by rw[List.drop_append,hc];simp_all
   rw[e];exact this
theorem Rows.take {α:Type}{R:α->List Value->Prop}{n:Nat}(hR:∀ x c,R x c->c.length=n) {xs:List α}{cs:List Value}(h:Rows R xs cs) (k:Nat):Rows R (xs.take k) (cs.take (k*n)):=by
 induction h generalizing k with
 |nil=>simp;exact .nil
 |@cons x xs c cs h t ih =>
  have hc:=hR _ _ h;cases k with
  |zero=>simp;exact .nil
  |succ k =>have e1:c.take ((k+1)*n)=c:=x9 (by rw[hc,zB];omega);rw[xO,List.take_append,hc,show (k+1)*n-n=k*n by rw[zB];omega,e1];exact .cons h (ih k)
theorem Rows.drop {α:Type}{R:α->List Value->Prop}{n:Nat}(hR:∀ x c,R x c->c.length=n) {xs:List α}{cs:List Value}(h:Rows R xs cs) (k:Nat):Rows R (xs.drop k) (cs.drop (k*n)):=by
 induction h generalizing k with
 |nil=>simp;exact .nil
 |@cons x xs c cs h t ih =>
  have hc:=hR _ _ h;cases k with
  |zero=>simp;exact .cons h t
  |succ k =>have e1:c.drop ((k+1)*n)=[]:=List.drop_eq_nil_of_le (by rw[hc,zB];omega);rw[xX,List.drop_append,hc,show (k+1)*n-n=k*n by rw[zB];omega,e1,xp];exact ih k
theorem Rows.set {α:Type}{R:α->List Value->Prop}{n:Nat}(hR:∀ x c,R x c->c.length=n) {xs:List α}{cs:List Value}(h:Rows R xs cs) {k:Nat}(hk:k<xs.length) {y:α}{d:List Value}(hd:R y d):Rows R (xs.set k y) (cs.take (k*n)++d++cs.drop (k*n+n)):=by
 have e:xs.set k y=xs.take k++([y]++xs.drop (k+1)):=by rw[List.set_eq_take_append_cons_drop,z2 hk];rfl
 rw[e,zX];have h2:=h.drop hR (k+1);rw[zB,xx] at h2;exact(h.take hR k).append ((show Rows R [y] d by simpa using Rows.cons hd .nil).append h2)
theorem Rows.replicate {α:Type}{R:α->List Value->Prop}{x:α}{c:List Value}(h:R x c):∀ n,Rows R (List.replicate n x) (List.replicate n c).flatten
 |0=>by simp;exact .nil
 |n+1=>by simp only[xr,List.flatten_cons];exact .cons h (Rows.replicate h n)
theorem KC.length {h:Heap}:∀ {k:Kind}{x:k.T}{cs:List Value},KC h k x cs->cs.length=k.size
 |.i _,_,_,e|.bo,_,_,e|.st,_,_,e=>by simp only[KC] at e;subst e;rfl
 |.list k,l,cs,e=>by obtain⟨v,rfl,_⟩:=e;rfl
 |.pair a b,x,cs,e=>by obtain⟨c1,c2,rfl,h1,h2⟩:=e;simp only[zP,KC.length h1,KC.length h2,Kind.size]
theorem SlRel.mono {h h':Heap}(hl:h.Le h') {sz:Nat}{α:Type}{R R':α->List Value->Prop}(hR:∀ x c,R x c->R' x c) {l:List α}{v:Value}(hs:SlRel h sz R l v):SlRel h' sz R' l v:=by
 rcases hs with hs|⟨i,o,cap,c,e,wr,t,h1,h2,h3,h4,h5,h6⟩
 .exact .inl hs
 .exact .inr ⟨i,o,cap,c,e,wr,t,h1,h2,hl.2 _ _ h3,h4,h5,h6.mono hR⟩
theorem KC.mono {h h':Heap}(hl:h.Le h'):∀ {k:Kind}{x:k.T}{cs:List Value},KC h k x cs->KC h' k x cs
 |.i _,_,_,e|.bo,_,_,e|.st,_,_,e=>e
 |.list k,l,cs,e=>by obtain⟨v,hv,hs⟩:=e;exact⟨v,hv,hs.mono hl λx c hx=>KC.mono (k:=k) hl hx⟩
 |.pair a b,x,cs,e=>by obtain⟨c1,c2,hc,h1,h2⟩:=e;exact⟨c1,c2,hc,KC.mono hl h1,KC.mono hl h2⟩
theorem KC.cellOk {h:Heap}:∀ {k:Kind}{x:k.T}{cs:List Value},KC h k x cs->cs.all cellOk=true
 |.i _,_,_,e|.bo,_,_,e|.st,_,_,e=>by simp only[KC] at e;subst e;rfl
 |.list k,l,cs,e=>by obtain⟨v,rfl,hs⟩:=e;rcases hs with⟨_,rfl⟩|⟨i,o,cap,c,e,wr,t,rfl,_⟩<;>rfl
 |.pair a b,x,cs,e=>by obtain⟨c1,c2,rfl,h1,h2⟩:=e;rw[List.all_append,KC.cellOk h1,KC.cellOk h2];rfl
def BN:(k:Kind)->k.T->List SV
 |.pair a b,x=>BN a x.1++BN b x.2
 |.i k,x=>[.val (.i k) x]
 |.bo,x=>[.val .bo x]
 |.st,x=>[.val .st x]
 |.list k,x=>[.val (.list k) x]
def Z0f:(k:Kind)->k.T->SV
 |.pair a b,x=>.agg (BN (.pair a b) x)
 |.i k,x=>.val (.i k) x
 |.bo,x=>.val .bo x
 |.st,x=>.val .st x
 |.list k,x=>.val (.list k) x
inductive RowsO {α:Type}(R:α->List Value->List Nat->Prop):List α->List Value->List Nat->Prop
 |nil:RowsO R [] [] []
 |cons {x:α}{xs:List α}{c cs:List Value}{is js:List Nat}(h:R x c is) (t:RowsO R xs cs js):RowsO R (x::xs) (c++cs) (is++js)
def KO (H:Heap):(q:Option Nat)->(k:Kind)->k.T->List Value->List Nat->Prop
 |_,.i ik,x,cs,is=>cs=[.int ik x]/\is=[]
 |_,.bo,x,cs,is=>cs=[.bool x]/\is=[]
 |_,.st,x,cs,is=>cs=[.string ⟨x.toArray⟩]/\is=[]
 |q,.list k,l,cs,is=>(l=[]/\cs=[.slice none 0 0]/\is=[])\/∃ i cap c e t js,cs=[.slice (some ⟨i,0,none⟩) l.length cap]/\is=i::js/\l.length<=cap/\H.get i=some (.cells c e true t)/\e.sz=k.size/\(∀ ty,q=some ty->e.ty=ty)/\cap*k.size<=c.length /\
   RowsO (λx c is=>KO H none k x c is) l (c.take (l.length*k.size)) js
 |_,.pair a b,x,cs,is=>∃ c1 c2 i1 i2,cs=c1++c2/\is=i1++i2/\KO H none a x.1 c1 i1/\KO H none b x.2 c2 i2
def J1l (i:Nat):Blk->Value
 |.cells c e _ t=>.tuple #[.int .i64 (i:Nat),.agg c.toArray,.int .i64 (e.sz:Nat),.int .i64 (e.ty:Nat),.bool t]
 |_=>.bool true
def J12:Value->Option (Nat×Blk)
 |.tuple ⟨[.int _ i,.agg c,.int _ sz,.int _ ty,.bool t]⟩=>some (i.toNat,.cells c.toList ⟨sz.toNat,ty.toNat⟩ true t)
 |_=>none
def Z6t:List Value->List (Nat×Blk)
 |[]=>[]
 |v::vs=>match J12 v with|some p=>p::Z6t vs|none=>Z6t vs
def IJ:List (Nat×Blk)->Nat->Option Blk
 |[],_=>none
 |(j,b)::r,i=>if i=j then some b else IJ r i
def Tj:List (Nat×Blk)->Nat
 |[]=>0
 |(j,_)::r=>max (j+1) (Tj r)
theorem Q0p:∀ (l:List (Nat×Blk)) (i:Nat),Tj l<=i->IJ l i=none
 |[],_,_=>rfl
 |(j,b)::r,i,h=>by
  simp only[Tj] at h;have:¬ i=j:=by omega
  simp only[IJ,z0 this];exact Q0p r i (by omega)
def listH (l:List (Nat×Blk)):Heap:=⟨IJ l,Tj l,λi h=>Q0p l i h⟩
def phd:Value->Value
 |.tuple ⟨v::_⟩=>v
 |v=>v
def Wn:Value->Heap
 |.tuple ⟨_::vs⟩=>listH (Z6t vs)
 |_=>listH []
def DR (p:Value):DW->Value->Prop
 |.out,v=>v=phd p/\∃ a n c,v=.slice a n c
 |.el i off sz,v=>∃ b len cap,phd p=.slice (some ⟨b,0,none⟩) len cap/\0<=i/\i<len/\v=.pointer (some ⟨b,i.toNat*sz+off,none⟩)
 |.row k x i,v=>KC (Wn p) (.list k) x [v]/\(∀ a n c,v=.slice (some a) n c->a.off=0)/\∃ b len cap c e t,phd p=.slice (some ⟨b,0,none⟩) len cap/\0<=i/\i<len/\(Wn p).get b=some (.cells c e true t)/\c[i.toNat]?=some v
 |.rowp k x i j off,v=>∃ b len cap c e t r rl rc bB re rt,phd p=.slice (some ⟨b,0,none⟩) len cap/\0<=i/\i<len/\(Wn p).get b=some (.cells c e true t)/\c[i.toNat]?=some (.slice (some ⟨r,0,none⟩) rl rc)/\0<=j/\j<rl/\x.length=rl/\(Wn p).get r=some (.cells bB re true rt)/\rl*k.size<=bB.length/\Rows (KC (Wn p) k) x (bB.take (rl*k.size))/\v=.pointer (some ⟨r,j.toNat*k.size+off,none⟩)
 |.inn k x,v=>KC (Wn p) (.list k) x [v]
 |.inp k l j off,v=>∃ b o c e wr t,0<=j/\j<l.length/\(Wn p).get b=some (.cells c e wr t)/\v=.pointer (some ⟨b,o+j.toNat*k.size+off,none⟩)/\o+l.length*k.size<=c.length/\Rows (KC (Wn p) k) l ((c.drop o).take (l.length*k.size))
 |.dat,v=>(phd p=.slice none 0 0/\v=.pointer none)\/∃ b n cap,phd p=.slice (some ⟨b,0,none⟩) n cap/\0<n/\v=.pointer (some ⟨b,0,none⟩)
 |.yv,v=>∃ i,p=.pointer (some ⟨i,0,none⟩)/\v=.func (.yield i) #[] #[]
 |.obx c,v=>(c=false/\v=.pointer none)\/(c=true/\∃ b,phd p=.pointer (some ⟨b,0,none⟩)/\v=.pointer (some ⟨b,0,none⟩))
def KV (h:Heap) (k:Kind) (x:k.T) (v:Value):Prop:=(k.one=true/\KC h k x [v])\/(k.one=false/\∃ cs,v=.agg cs.toArray/\KC h k x cs)
theorem KV.mono {h h':Heap}(hl:h.Le h') {k:Kind}{x:k.T}{v:Value}(e:KV h k x v):KV h' k x v:=by
 rcases e with⟨ho,e⟩|⟨ho,cs,hv,e⟩
 .exact .inl ⟨ho,e.mono hl⟩
 .exact .inr ⟨ho,cs,hv,e.mono hl⟩
def I5 (h:Heap):(ks:List Kind)->AT ks->List Value->Prop
 |[],_,vs=>vs=[]
 |[k],x,vs=>∃ v,vs=[v]/\KV h k x v
 |k::k'::ks,x,vs=>∃ v cq,vs=v::cq/\KV h k x.1 v/\I5 h (k'::ks) x.2 cq
def gtb (tb:Nat->Option Bool):SV->Prop
 |.bid n c=>tb n=some c
 |_=>True
section
variable (P:Program)
def PfRel (B:Heap) (ks:List Kind) (r:Kind) (cE:AT ks->Prop) (p:AT ks->r.T) (v:Value):Prop :=
 ∃ g first cap,v=.func (.func g) first cap/\∀ x,cE x->∀ U vs,B.Le U->I5 U ks x vs->VCalled P g (first.toList++vs++cap.toList) U λv' U'=>U'=U/\KV U r (p x) v'
mutual
def SR (B:Heap) (pl:Nat->Value) (tb:Nat->Option Bool):SV->Value->Prop
 |.any,_=>True
 |.val k x,v=>KC B k x [v]
 |.bid n c,v=>v=.bool c/\tb n=some c
 |.grd gs v,u=>((∀ g∈gs,tb g.id=some g.c)/\gtb tb v)/\((∀ g∈gs,g.c=g.want)->SR B pl tb v u)/\((∃ g∈gs,g.c≠g.want)->u=undef)
 |.nilS,v=>v=.slice none 0 0
 |.nilP,v=>v=.pointer none
 |.nilM,v=>v=.map none
 |.nilF,v=>v=.nilFunc
 |.lst o,v=>v=pl o/\∃ a n c,v=.slice a n c
 |.sub o lo n sz,v=>(lo=0/\n=0/\v=.slice none 0 0/\pl o=.slice none 0 0)\/∃ i len cap ax,pl o=.slice (some ⟨i,0,none⟩) len cap/\lo+n<=len/\n<=ax/\v=.slice (some ⟨i,lo*sz,none⟩) n ax
 |.elp o i off sz,v=>∃ b len cap,pl o=.slice (some ⟨b,0,none⟩) len cap/\0<=i/\i<len/\v=.pointer (some ⟨b,i.toNat*sz+off,none⟩)
 |.rop k l i off,v=>∃ b o c e wr t,0<=i/\i<l.length/\B.get b=some (.cells c e wr t)/\v=.pointer (some ⟨b,o+i.toNat*k.size+off,none⟩)/\o+l.length*k.size<=c.length/\Rows (KC B k) l ((c.drop o).take (l.length*k.size))
 |.box o off,v=>∃ b,pl o=.pointer (some ⟨b,0,none⟩)/\v=.pointer (some ⟨b,off,none⟩)
 |.cp l off,v=>∃ b c e wr t,B.get b=some (.cells c e wr t)/\v=.pointer (some ⟨b,off,none⟩)/\SRs B pl tb l c
 |.map o,v=>v=pl o/\∃ m,v=.map m
 |.agg l,v=>∃ cs,v=.agg cs.toArray/\SRs B pl tb l cs
 |.tup l,v=>∃ cs,v=.tuple cs.toArray/\SRs B pl tb l cs
 |.dd o w,v=>DR (pl o) w v
 |.fn f first dk,v=>∃ a b,v=.func (.func f) a.toArray b.toArray/\SRs B pl tb first a/\SRs B pl tb dk b
 |.pf ks r cE p,v=>PfRel P B ks r cE p v
def SRs (B:Heap) (pl:Nat->Value) (tb:Nat->Option Bool):List SV->List Value->Prop
 |[],vs=>vs=[]
 |s::ss,vs=>∃ v cq,vs=v::cq/\SR B pl tb s v/\SRs B pl tb ss cq
end
end
end Go.V
namespace Go.V
open Go
abbrev Own:=List (Nat×OB)
def Qe:Own->Nat->OB
 |[],_=>.dead
 |(k,b)::r,d=>bif Nat.beq k d then b else Qe r d
def oset:Own->Nat->OB->Own
 |[],d,b=>[(d,b)]
 |(k,c)::r,d,b=>bif Nat.beq k d then (d,b)::r else bif Nat.blt d k then (d,b)::(k,c)::r else (k,c)::oset r d b
structure St where
 env:List SV
 own:Own
 nx:Nat
mutual
def SV.kill (o:Nat):SV->SV
 |.lst o'=>bif Nat.beq o' o then .any else .lst o'
 |.sub o' lo n sz=>bif Nat.beq o' o then .any else .sub o' lo n sz
 |.elp o' i off sz=>bif Nat.beq o' o then .any else .elp o' i off sz
 |.dd o' w=>bif Nat.beq o' o then .any else .dd o' w
 |.box o' off=>bif Nat.beq o' o then .any else .box o' off
 |.map o'=>bif Nat.beq o' o then .any else .map o'
 |.grd gs v=>.grd gs (SV.kill o v)
 |.agg l=>.agg (SVs.kill o l)
 |.tup l=>.tup (SVs.kill o l)
 |.cp l off=>.cp (SVs.kill o l) off
 |.fn f a b=>.fn f (SVs.kill o a) (SVs.kill o b)
 |.any=>.any
 |.val k x=>.val k x
 |.bid n c=>.bid n c
 |.nilS=>.nilS
 |.nilP=>.nilP
 |.nilM=>.nilM
 |.nilF=>.nilF
 |.rop k l i off=>.rop k l i off
 |.pf ks r cE p=>.pf ks r cE p
def SVs.kill (o:Nat):List SV->List SV
 |[]=>[]
 |s::ss=>SV.kill o s::SVs.kill o ss
end
def OB.kill (o:Nat):OB->OB
 |.cells l u=>.cells (SVs.kill o l) u
 |.dead=>.dead
 |.lst ty k xs nl=>.lst ty k xs nl
 |.map kk vk m=>.map kk vk m
 |.stk l vals=>.stk (SVs.kill o l) vals
 |.deep ty q k xs nl h=>.deep ty q k xs nl h
 |.iter kk vk m dn=>.iter kk vk m dn
 |.mapE kk vk m key n=>.mapE kk vk m key n
 |.lpf l q s=>.lpf (SVs.kill o l) q s
def Q66 (o:Nat):Own->Own
 |[]=>[]
 |(k,b)::r=>bif Nat.beq k o then Q66 o r else (k,b.kill o)::Q66 o r
def St.kill (s:St) (o:Nat):St:=⟨SVs.kill o s.env,Q66 o s.own,s.nx⟩
def St.make (s:St) (o:Nat) (b:OB):St:=⟨(s.kill o).env,oset (s.kill o).own o b,s.nx⟩
def St.put (s:St) (d:Option Nat) (v:SV):St:=match d with
 |some d=>⟨s.env.set d v,s.own,s.nx⟩
 |none=>s
def cvp:Value->SV
 |.bool b=>.val .bo b
 |.int k x=>.val (.i k) x
 |.string s=>.val .st s.data.toList
 |.pointer none=>.nilP
 |.slice none 0 0=>.nilS
 |.map none=>.nilM
 |.nilFunc=>.nilF
 |_=>.any
def cv:Value->SV
 |.agg cs=>.agg (cs.toList.map cvp)
 |v=>cvp v
def Z4h:List Gd->List Gd->Bool
 |[],_=>true
 |_::_,[]=>false
 |a::l,b::m=>bif Nat.beq a.id b.id&&(a.want==b.want) then Z4h l m else Z4h (a::l) m
def Z0k (gs:List Gd):SV->SV
 |.grd g v=>bif Z4h g gs then v else .any
 |v=>v
def gev (gs:List Gd) (env:List SV):Operand->SV
 |.tmp t=>Z0k gs (env.getD t .any)
 |.const v=>cv v
 |.func f=>.fn f [] []
 |.global _=>.any
def Bh {k:Kind}(l:List k.T) (k':Kind):Option (List k'.T):=if h:k=k' then some (h▸l) else none
def Q81 {k:Kind}(x:k.T) (k':Kind):Option k'.T:=if h:k=k' then some (h▸x) else none
def asB:SV->Option Bool
 |.val .bo b=>some b
 |.bid _ c=>some c
 |_=>none
def asI:SV->Option (IntKind×Int)
 |.val (.i k) x=>some (k,x)
 |_=>none
def asS:SV->Option (List UInt8)
 |.val .st x=>some x
 |_=>none
def Kind.flat:Kind->Bool
 |.list _=>false
 |.pair a b=>a.flat&&b.flat
 |_=>true
def view (own:Own) (k:Kind):SV->Option (List k.T)
 |.nilS=>some []
 |.val (.list _k') l=>Bh l k
 |.lst o=>match Qe own o with|.lst _ _k' xs _=>Bh xs k|_=>none
 |.sub o lo n sz=>match Qe own o with|.lst _ k' xs _=>if sz=k'.size then (Bh xs k).map λxs=>(xs.drop lo).take n else none|_=>none
 |.dd o w=>bif k.flat then (match Qe own o with
  |.deep _ _ _ xs _ h=>(match w with
   |.out=>(match h with|none=>Bh xs k|some _=>none)
   |.inn _ l=>Bh l k
   |.row _ l _=>Bh l k
   |_=>none)
  |_=>none) else none
 |_=>none
def Z9m (own:Own):SV->Option Nat
 |.nilS=>some 0
 |.val (.list _) l=>some l.length
 |.lst o=>match Qe own o with|.lst _ _ xs _=>some xs.length|_=>none
 |.sub _ _ n _=>some n
 |.dd o w=>(match Qe own o with
  |.deep _ _ _ xs _ h=>(match w with
   |.out=>(match h with|none=>some xs.length|some _=>none)
   |.inn _ l=>some l.length
   |.row _ l _=>some l.length
   |_=>none)
  |_=>none)
 |_=>none
def SV.solid:SV->Bool
 |.agg _|.tup _|.any|.grd _ _=>false
 |_=>true
def P3:SV->Option (List SV)
 |.agg l=>bif l.all SV.solid then some l else none
 |.tup _=>none
 |.any=>none
 |.grd _ _=>none
 |v=>some [v]
def EJ:(k:Kind)->List SV->Option k.T
 |.i ik,[v]=>match v with|.val (.i rL) x=>if ik=rL then some x else none|_=>none
 |.bo,[v]=>asB v
 |.st,[v]=>asS v
 |.list k,[v]=>match v with|.nilS=>some []|.val (.list _k') l=>Bh l k|_=>none
 |.pair a b,l=>match EJ a (l.take a.size),EJ b (l.drop a.size) with
  |some x,some y=>some (x,y)
  |_,_=>none
 |_,_=>none
def dkV (k:Kind) (v:SV):Option k.T:=bif k.one then EJ k [v] else match v with|.agg l=>EJ k l|_=>none
def Q4f (k:Kind) (z:Value):List Value:=bif k.one then [z] else match z with|.agg a=>a.toList|_=>[]
def Z70:(k:Kind)->Nat->SV->k.T->Option k.T
 |.pair a b,off,v,x=>bif Nat.blt off a.size then (Z70 a off v x.1).map λy=>(y,x.2) else (Z70 b (off-a.size) v x.2).map λy=>(x.1,y)
 |.i ik,_,v,_=>EJ (.i ik) [v]
 |.bo,_,v,_=>EJ .bo [v]
 |.st,_,v,_=>EJ .st [v]
 |.list k,_,v,_=>EJ (.list k) [v]
def NB:Kind->List Value->Bool
 |.i ik,[.int k x]=>decide (ik=k)&&(x==0)
 |.bo,[.bool b]=>!b
 |.st,[.string s]=>s.data.toList.isEmpty
 |.list _,[.slice none 0 0]=>true
 |.pair a b,l=>NB a (l.take a.size)&&NB b (l.drop a.size)
 |_,_=>false
def InK (k:IntKind) (x:Int):Prop:=k.min<=x/\x<=k.max
def Z64:List Gd->Prop->Prop
 |[],p=>p
 |g::gs,p=>g.c=g.want->Z64 gs p
def Q2l (gs:List Gd):List Prop->Prop->Prop
 |[],q=>q
 |c::cs,q=>Z64 gs c/\Q2l gs cs q
abbrev CSp:=(SV->List SV->Option (Prop×SV))->List SV->Option (Prop×SV×List OB)
abbrev XSp:=Nat->List SV->St->(SV->St->Prop)->Prop
abbrev ISp:=List SV->Option (Prop×Nat×Nat×(Nat->List SV))
abbrev YSp:=List SV->St->(SV->St->Prop)->Prop
abbrev Z5y:=Nat->List SV->Nat×YSp->St->(St->Prop)->Prop
structure Cx where
 kt:List (Nat×Kind)
 cs:List (Nat×CSp)
 nt:Nat
 raw:List Nat
 off:Nat
 xs:List (Nat×XSp)
 it:List (Nat×ISp)
 el:List (Nat×Nat):=[]
 jn:List Nat:=[]
 nm:Bool:=false
 yl:List (Nat×YSp):=[]
 iy:List (Nat×Z5y):=[]
 spl:List Nat:=[]
 xf:List (Nat×Nat):=[]
def Qw {α:Type _}:List (Nat×α)->Nat->Option α
 |[],_=>none
 |(k,x)::r,d=>bif Nat.beq k d then some x else Qw r d
mutual
def Et (own:Own) (bx:List SV->Nat->SV):SV->SV
 |.lst o=>match Qe own o with|.lst _ k xs _=>.val (.list k) xs|_=>.any
 |.sub o lo n sz=>match Qe own o with|.lst _ k xs _=>if sz=k.size then .val (.list k) ((xs.drop lo).take n) else .any|_=>.any
 |.box o off=>match Qe own o with|.cells l _=>bx l off|_=>.any
 |.agg l=>.agg (E7 own bx l)
 |.fn f a b=>.fn f (E7 own bx a) (E7 own bx b)
 |.bid _ c=>.val .bo c
 |.val k x=>.val k x
 |.nilS=>.nilS
 |.nilP=>.nilP
 |.nilM=>.nilM
 |.nilF=>.nilF
 |.rop k l i off=>.rop k l i off
 |.cp l off=>.cp (E7 own bx l) off
 |.pf ks r cE p=>.pf ks r cE p
 |.any=>.any
 |.grd _ _=>.any
 |.elp _ _ _ _=>.any
 |.dd o w=>(match Qe own o with
  |.deep _ _ k xs _ h=>(match w with
   |.out=>(match h with|none=>.val (.list k) xs|some _=>.any)
   |.inn k x=>.val (.list k) x
   |.row k x _=>.val (.list k) x
   |_=>.any)
  |_=>.any)
 |.map _=>.any
 |.tup _=>.any
def E7 (own:Own) (bx:List SV->Nat->SV):List SV->List SV
 |[]=>[]
 |s::ss=>Et own bx s::E7 own bx ss
end
def J16 (own:Own) (l:List SV):List SV:=E7 own (λ_ _=>.any) l
def J13 (own:Own) (l:List SV):List SV:=E7 own (λc off=>.cp (J16 own c) off) l
def J1s (own:Own) (l:List SV):List SV:=E7 own (λc off=>.cp (J13 own c) off) l
def RF (own:Own) (l:List SV):List SV:=J1s own l
def AF:BinOp->Int->Int->Int
 |.add,a,b=>a+b
 |.sub,a,b=>a-b
 |_,a,b=>a*b
def LD (a b:Int):Int:=if b > a then b else a
def Q72 (a b:Int):Int:=if b<a then b else a
def Wk (k:IntKind) (x y:Int):Int:=x*2 ^ (Nat.min y.toNat k.bits)
def Zg (k:IntKind) (x y:Int):Int:=x.fdiv (2 ^ (Nat.min y.toNat k.bits))
def gfill (c:List SV):List (Nat×Nat×SV)->Option (List SV)
 |[]=>some c
 |(o,sz,v)::rest=>match P3 v with
  |some vs=>if vs.length=sz/\o+sz<=c.length then gfill (setS c o vs) rest else none
  |none=>none
 where setS (c:List SV) (o:Nat):List SV->List SV
 |[]=>c
 |v::vs=>setS (c.set o v) (o+1) vs
def Lq (agg:Bool) (size:Nat) (l:List SV) (off:Nat):Option SV :=
 bif agg then (if off+size<=l.length then some (.agg ((l.drop off).take size)) else none) else l[off]?
def Po (o:Nat):(k:Kind)->k.T->List SV
 |.pair a b,x=>Po o a x.1++Po o b x.2
 |.list k,x=>[.dd o (.inn k x)]
 |.i k,x=>[.val (.i k) x]
 |.bo,x=>[.val .bo x]
 |.st,x=>[.val .st x]
def Z9r (o:Nat) (i:Int):(k:Kind)->k.T->List SV
 |.list k,x=>[.dd o (.row k x i)]
 |.pair a b,x=>Po o (.pair a b) x
 |.i k,x=>[.val (.i k) x]
 |.bo,x=>[.val .bo x]
 |.st,x=>[.val .st x]
def Z15 (own:Own) (agg:Bool) (size:Nat):SV->Option SV
 |.box o off=>match Qe own o with|.cells l _=>Lq agg size l off|_=>none
 |.cp l off=>Lq agg size l off
 |.elp o i off sz=>match Qe own o with|.lst _ k xs _=>if sz=k.size/\off+size<=sz then Lq agg size (BN k (xs.getD i.toNat k.dflt)) off else none|_=>none
 |.rop k l i off=>if off+size<=k.size then Lq agg size (BN k (l.getD i.toNat k.dflt)) off else none
 |.dd o w=>(match Qe own o with
  |.deep _ _ k xs _ h=>(match h with
   |none=>(match w with
    |.el i off sz=>if sz=k.size/\off+size<=sz then Lq agg size (Z9r o i k (xs.getD i.toNat k.dflt)) off else none
    |.rowp k' x _ j off=>if off+size<=k'.size then Lq agg size (Po o k' (x.getD j.toNat k'.dflt)) off else none
    |.inp k' l j off=>if off+size<=k'.size then Lq agg size (Po o k' (l.getD j.toNat k'.dflt)) off else none
    |_=>none)
   |some _=>none)
  |_=>none)
 |_=>none
def K7 (ev:Operand->SV):Option Operand->Int->Option Int
 |none,d=>some d
 |some x,_=>(asI (ev x)).map (·.2)
def Q75 (k:MK) (a b:SV):Option Bool:=match k with
 |.int q=>(match asI a,asI b with|some (q1,x),some (q2,y)=>if q1=q/\q2=q then some (x==y) else none|_,_=>none)
 |.bool=>(match asB a,asB b with|some x,some y=>some (x==y)|_,_=>none)
 |.string=>(match asS a,asS b with|some x,some y=>some (x==y)|_,_=>none)
 |.agg _=>none
def Az:List MK->List SV->List SV->Option Bool
 |[],_,_=>none
 |k::ks,a::l,b::m=>(match ks with
  |[]=>(match l,m with|[],[]=>Q75 k a b|_,_=>none)
  |k'::ks=>(match Q75 k a b,Az (k'::ks) l m with|some x,some y=>some (x&&y)|_,_=>none))
 |_::_,_,_=>none
def Z41 (xs:List Int):List UInt8:=xs.map λx=>x.toNat.toUInt8
def gq (_kt:List (Nat×Kind)) (raw:Bool) (o:VOp) (ev:Operand->SV) (own:Own):Option (List Prop×SV) :=
 match o with
 |.move x=>some ([],ev x)
 |.arith op x y=>match asI (ev x),asI (ev y) with
  |some (k,a),some (k',b)=>if k=k' then (bif raw then some ([],.val (.i k) (k.wrap (AF op a b))) else some ([InK k (AF op a b)],.val (.i k) (AF op a b))) else none
  |_,_=>none
 |.div op x y=>match asI (ev x),asI (ev y) with
  |some (k,a),some (k',b)=>if k=k' then (match op with
   |.quo=>some ([b≠0,InK k (a.tdiv b)],.val (.i k) (a.tdiv b))
   |_=>some ([b≠0],.val (.i k) (a.tmod b))) else none
  |_,_=>none
 |.bits op x y=>match asI (ev x),asI (ev y) with
  |some (k,a),some (k',b)=>if k=k' then some ([],.val (.i k) (Qf op k a b)) else none
  |_,_=>none
 |.shift op x y=>match asI (ev x),asI (ev y) with
  |some (k,a),some (_,b)=>(match op with
   |.shl=>bif raw then some ([0<=b],.val (.i k) (k.wrap (Wk k a b))) else some ([0<=b,InK k (Wk k a b)],.val (.i k) (Wk k a b))
   |_=>some ([0<=b],.val (.i k) (Zg k a b)))
  |_,_=>none
 |.cmp op x y=>match asI (ev x),asI (ev y) with
  |some (k,a),some (k',b)=>if k=k' then some ([],.val .bo (Z7y op a b)) else none
  |_,_=>none
 |.str op x y=>match asS (ev x),asS (ev y) with
  |some a,some b=>(match op with
   |.add=>some ([a.length+b.length<=4611686018427387904],.val .st (a++b))
   |.eql=>some ([],.val .bo (a==b))
   |.neq=>some ([],.val .bo (!(a==b)))
   |.lss=>some ([],.val .bo (Op.bytesLess a b))
   |_=>none)
  |_,_=>none
 |.eqB neg x y=>match asB (ev x),asB (ev y) with
  |some a,some b=>some ([],.val .bo (if neg then !(a==b) else (a==b)))
  |_,_=>none
 |.un op x=>match op with
  |.not=>match asB (ev x) with|some b=>some ([],.val .bo (!b))|none=>none
  |.neg=>match asI (ev x) with|some (k,n)=>some ([InK k (0-n)],.val (.i k) (0-n))|none=>none
  |.xor=>match asI (ev x) with|some (k,n)=>some ([],.val (.i k) (Qf .xor k (if k.signed then -1 else k.max) n))|none=>none
  |_=>none
 |.convI k x=>match asI (ev x) with
  |some (_,n)=>bif raw then some ([],.val (.i k) (k.wrap n)) else some ([InK k n],.val (.i k) n)
  |none=>none
 |.convS x=>match asS (ev x) with|some s=>some ([],.val .st s)|none=>none
 |.build z parts=>match gfill (z.map cvp) (parts.map λp=>(p.1,p.2.1,ev p.2.2)) with|some l=>some ([],.agg l)|none=>none
 |.load agg size a=>bif Nat.blt 0 size then (Z15 own agg size (ev a)).map λv=>([],v) else none
 |.fieldAddr off a=>match ev a with
  |.box o f=>some ([],.box o (f+off))
  |.cp l f=>some ([],.cp l (f+off))
  |.elp o i f sz=>some ([],.elp o i (f+off) sz)
  |.dd o w=>(match w with
   |.el i f sz=>some ([],.dd o (.el i (f+off) sz))
   |.rowp k x i j f=>some ([],.dd o (.rowp k x i j (f+off)))
   |.inp k l j f=>some ([],.dd o (.inp k l j (f+off)))
   |_=>none)
  |.rop k l i f=>some ([],.rop k l i (f+off))
  |_=>none
 |.field agg off size x=>match ev x with|.agg l=>(Lq agg size l off).map λv=>([],v)|_=>none
 |.indexAddr size x i=>match ev x,asI (ev i) with
  |.lst o,some (_,j)=>(match Qe own o with|.lst _ k xs _=>if k.size=size then some ([0<=j,j<xs.length],.elp o j 0 size) else none|_=>none)
  |.dd o w,some (_,j)=>(match Qe own o with
   |.deep _ _ k xs _ h=>(match w with
    |.out=>(match h with|none=>(if k.size=size then some ([0<=j,j<xs.length],.dd o (.el j 0 size)) else none)|some _=>(if k.size=size then some ([0<=j,j<xs.length],.dd o (.el j 0 size)) else none))
    |.row k x i=>if k.size=size then some ([0<=j,j<x.length],.dd o (.rowp k x i j 0)) else none
    |.inn k l=>if k.size=size then some ([0<=j,j<l.length],.dd o (.inp k l j 0)) else none
    |_=>none)
   |_=>none)
  |.sub o lo n sz,some (_,j)=>(match Qe own o with|.lst _ k _ _=>if k.size=size/\sz=size then some ([0<=j,j<n],.elp o (lo+j) 0 size) else none|_=>none)
  |.val (.list k) l,some (_,j)=>if k.size=size then some ([0<=j,j<l.length],.rop k l j 0) else none
  |_,_=>none
 |.indexStr x i=>match asS (ev x),asI (ev i) with
  |some s,some (_,j)=>some ([0<=j,j<s.length],.val (.i .u8) ((s.getD j.toNat 0).toNat:Int))
  |_,_=>none
 |.indexArr len agg size x i=>match ev x,i with
  |.agg l,.const (.int _ (Int.ofNat j))=>if j<len then (Lq agg size l (j*size)).map λv=>([],v) else none
  |_,_=>none
 |.indexAddrArr len size x i=>match ev x,i with
  |.box o f,.const (.int _ (Int.ofNat j))=>if j<len then some ([],.box o (f+j*size)) else none
  |.cp l f,.const (.int _ (Int.ofNat j))=>if j<len then some ([],.cp l (f+j*size)) else none
  |_,_=>none
 |.slice size x lo hi none=>match ev x with
  |.lst o=>(match Qe own o with
   |.lst _ k xs _=>if k.size=size then (match K7 ev lo 0,K7 ev hi xs.length with
    |some a,some b=>some ([0<=a,a<=b,b<=xs.length],.sub o a.toNat (b-a).toNat size)
    |_,_=>none) else none
   |_=>none)
  |.sub o l0 n sz=>(match Qe own o with
   |.lst _ k _ _=>if k.size=size/\sz=size then (match K7 ev lo 0,K7 ev hi n with
    |some a,some b=>some ([0<=a,a<=b,b<=n],.sub o (l0+a.toNat) (b-a).toNat size)
    |_,_=>none) else none
   |_=>none)
  |.val (.list k) l=>if k.size=size then (match K7 ev lo 0,K7 ev hi l.length with
   |some a,some b=>some ([0<=a,a<=b,b<=l.length],.val (.list k) ((l.drop a.toNat).take (b-a).toNat))
   |_,_=>none) else none
  |.dd o w=>(match Qe own o with
   |.deep _ _ _ _ _ _=>(match w with
    |.inn k l=>if k.size=size then (match K7 ev lo 0,K7 ev hi l.length with
     |some a,some b=>some ([0<=a,a<=b,b<=l.length],.dd o (.inn k ((l.drop a.toNat).take (b-a).toNat)))
     |_,_=>none) else none
    |.row k l _=>if k.size=size then (match K7 ev lo 0,K7 ev hi l.length with
     |some a,some b=>some ([0<=a,a<=b,b<=l.length],.dd o (.inn k ((l.drop a.toNat).take (b-a).toNat)))
     |_,_=>none) else none
    |_=>none)
   |_=>none)
  |.nilS=>(match K7 ev lo 0,K7 ev hi 0 with
   |some a,some b=>some ([a=0,b=0],.nilS)
   |_,_=>none)
  |_=>none
 |.sliceStr x lo hi=>match asS (ev x) with
  |some s=>(match K7 ev lo 0,K7 ev hi s.length with
   |some a,some b=>some ([0<=a,a<=b,b<=s.length],.val .st ((s.drop a.toNat).take (b-a).toNat))
   |_,_=>none)
  |none=>none
 |.len x=>match Z9m own (ev x) with|some n=>some ([],.val (.i .i64) (n:Nat))|none=>none
 |.lenStr x=>match asS (ev x) with|some s=>some ([],.val (.i .i64) (s.length:Nat))|none=>none
 |.max4 x y z w=>match asI (ev x),asI (ev y),asI (ev z),asI (ev w) with
  |some (k,a),some (k2,b),some (k3,c),some (k4,d)=>if k=k2/\k=k3/\k=k4 then some ([],.val (.i k) (LD (LD (LD a b) c) d)) else none
  |_,_,_,_=>none
 |.max x y=>match asI (ev x),asI (ev y) with
  |some (k,a),some (k',b)=>if k=k' then some ([],.val (.i k) (LD a b)) else none
  |_,_=>none
 |.min x y=>match asI (ev x),asI (ev y) with
  |some (k,a),some (k',b)=>if k=k' then some ([],.val (.i k) (Q72 a b)) else none
  |_,_=>none
 |.makeFunc (.func f) first cap=>some ([],.fn f (first.map ev) (cap.map ev))
 |.extract x i=>match ev x with|.tup l=>(l[i]?).map λv=>([],v)|_=>none
 |.nilCheck x=>match ev x with
  |.box o f=>some ([],.box o f)
  |.cp l f=>some ([],.cp l f)
  |.fn f a b=>some ([],.fn f a b)
  |_=>none
 |.ext (.eqNil 1 neg x y)=>match ev x,ev y with
  |.nilS,.nilS=>some ([],.val .bo (!neg))
  |.lst o,.nilS=>(match Qe own o with|.lst _ _ _ nl=>some ([],.val .bo (bif neg then !nl else nl))|_=>none)
  |.dd o .out,.nilS=>(match Qe own o with|.deep _ _ _ _ nl _=>some ([],.val .bo (bif neg then !nl else nl))|_=>none)
  |.val (.list _) l,.nilS=>some ([l≠[]],.val .bo neg)
  |_,_=>none
 |.ext (.eqNil 0 neg x y)=>match ev x,ev y with
  |.nilP,.nilP=>some ([],.val .bo (!neg))
  |.box _ _,.nilP=>some ([],.val .bo neg)
  |.cp _ _,.nilP=>some ([],.val .bo neg)
  |.dd _ (.obx c),.nilP=>some ([],.val .bo (bif neg then c else !c))
  |.dd o (.obx c),.box o' f=>(match Qe own o with
   |.cells _ _=>if o=o'/\f=0 then some ([c=true],.val .bo (!neg)) else none
   |_=>none)
  |_,_=>none
 |.ext (.eqAgg neg s x y)=>match ev x,ev y with
  |.agg l,.agg m=>(Az s l m).map λb=>([],.val .bo (bif neg then !b else b))
  |_,_=>none
 |.ext (.toUnsafe x)=>match ev x with
  |.box o f=>(match Qe own o with|.cells l _=>if f<l.length then some ([],.box o f) else none|_=>none)
  |_=>none
 |.ext (.fromUnsafe u size x)=>match ev x with
  |.box o f=>(match Qe own o with
   |.cells l (some t)=>if f=0/\t=u/\size<=l.length then some ([],.box o 0) else none
   |_=>none)
  |_=>none
 |.ext (.bytesStr x)=>match view own (.i .u8) (ev x) with
  |some xs=>some ([],.val .st (Z41 xs))
  |none=>none
 |.ext (.sliceData x)=>match ev x with
  |.nilS=>some ([],.nilP)
  |.lst o=>(match Qe own o with|.lst _ _ xs nl=>some ([nl=false->xs≠[]],.dd o .dat)|_=>none)
  |_=>none
 |.ext (.lookup mk z ok x i)=>match ev x with
  |.map o=>(match Qe own o with
   |.map kk vk m=>if mkOk mk kk=true/\NB vk (Q4f vk z)=true then (match dkV kk (ev i) with
    |some key=>(if ok then some ([],.tup [Z0f vk (aget kk m key vk.dflt),.val .bo (ahas kk m key)]) else some ([],Z0f vk (aget kk m key vk.dflt)))
    |none=>none) else none
   |_=>none)
  |_=>none
 |.ext (.entry x)=>match ev x with
  |.box o f=>(match Qe own o with
   |.iter kk vk m dn=>if f=0/\kk.keyk=true/\vk.one=true then some ([dn≠[]],.tup [Z0f kk (m.getD (dn.getLastD 0) (kk.dflt,vk.dflt)).1,.val vk (m.getD (dn.getLastD 0) (kk.dflt,vk.dflt)).2]) else none
   |_=>none)
  |_=>none
 |.ext (.lenMap x)=>match ev x with
  |.map o=>(match Qe own o with|.map _ _ m=>some ([],.val (.i .i64) m.length)|_=>none)
  |_=>none
 |_=>none
 where
 mkP:MK->Kind->Bool
  |.int k,.i k'=>decide (k=k')
  |.string,.st=>true
  |.bool,.bo=>true
  |_,_=>false
 mkAt:Kind->List MK->Option (List MK)
  |.pair a b,l=>(match mkAt a l with|some r=>mkAt b r|none=>none)
  |k,m::r=>bif mkP m k then some r else none
  |_,[]=>none
 mkOk (m:MK) (k:Kind):Bool:=bif k.one then mkP m k else match m with
  |.agg l=>(match mkAt k l with|some []=>true|_=>false)
  |_=>false
 keq:(k:Kind)->k.T->k.T->Bool
  |.i _,(a:Int),b=>a==b
  |.bo,(a:Bool),b=>a==b
  |.st,(a:List UInt8),b=>a==b
  |.pair k l,x,y=>keq k x.1 y.1&&keq l x.2 y.2
  |_,_,_=>false
 aget (kk:Kind) {V:Type}:List (kk.T×V)->kk.T->V->V
  |[],_,d=>d
  |(k,v)::r,key,d=>if keq kk key k then v else aget kk r key d
 ahas (kk:Kind) {V:Type}:List (kk.T×V)->kk.T->Bool
  |[],_=>false
  |(k,_)::r,key=>keq kk key k||ahas kk r key
def Dk (kk:Kind) {V:Type}:List (kk.T×V)->kk.T->V->List (kk.T×V)
 |[],key,v=>[(key,v)]
 |(k,x)::r,key,v=>if gq.keq kk key k then (key,v)::r else (k,x)::Dk kk r key v
def Z3a (kk:Kind) {V:Type}:List (kk.T×V)->kk.T->List (kk.T×V)
 |[],_=>[]
 |(k,x)::r,key=>if gq.keq kk key k then r else (k,x)::Z3a kk r key
mutual
def SV.ret (n:Nat):SV->Bool
 |.val k _=>k.flat
 |.nilS|.nilP|.nilM|.nilF=>true
 |.lst j=>Nat.blt j n
 |.box j _=>Nat.blt j n
 |.map j=>Nat.blt j n
 |.dd j w=>(match w with|.out=>Nat.blt j n|_=>false)
 |.agg l=>SVs.ret n l
 |.tup l=>SVs.ret n l
 |_=>false
def SVs.ret (n:Nat):List SV->Bool
 |[]=>true
 |s::ss=>SV.ret n s&&SVs.ret n ss
end
mutual
def NU:SV->Bool
 |.val k _=>k.one
 |.box _ _=>false
 |.map _=>false
 |.dd _ _=>false
 |.agg l=>BE l
 |.tup l=>BE l
 |_=>true
def BE:List SV->Bool
 |[]=>true
 |s::ss=>NU s&&BE ss
end
def OB.isL:OB->Bool
 |.lst _ _ _ _=>true
 |_=>false
def OB.ret:OB->Bool
 |.lst _ k _ _=>k.flat
 |.cells l _=>SVs.ret 0 l
 |.map kk vk _=>kk.flat&&vk.flat
 |.dead=>false
 |.stk _ _=>false
 |.deep _ _ _ _ _ h=>h.isNone
 |.iter _ _ _ _=>false
 |.mapE _ _ _ _ _=>false
 |.lpf _ _ _=>false
def gap (cs:List (Nat×CSp)):Nat->SV->List SV->Option (Prop×SV)
 |0,_,_=>none
 |n+1,f,args=>match f with
  |.fn g a b=>(match Qw cs g with
   |some sp=>(match sp (gap cs n) (a++args++b) with
    |some (c,v,[])=>bif v.ret 0 then some (c,v) else none
    |_=>none)
   |none=>none)
  |.pf ks r cE p=>(match deca ks args with
   |some x=>bif r.flat then some (cE x,Z0f r (p x)) else none
   |none=>none)
  |_=>none
 where
 deca:(ks:List Kind)->List SV->Option (AT ks)
  |[],[]=>some ()
  |[k],[v]=>asV k v
  |k::k'::ks,v::vs=>match asV k v,deca (k'::ks) vs with|some x,some y=>some (x,y)|_,_=>none
  |_,_=>none
 asV (k:Kind) (v:SV):Option k.T:=bif k.one then EJ k [v] else match v with|.agg l=>EJ k l|_=>none
def NR (cs:List (Nat×CSp)) (f:SV) (args:List SV):Option (Prop×SV×List OB) :=
 match f with
 |.fn g a b=>(match Qw cs g with|some sp=>sp (gap cs 3) (a++args++b)|none=>none)
 |f=>(gap cs 3 f args).map λ(c,v)=>(c,v,[])
mutual
def SV.ren (d nt:Nat):SV->SV
 |.lst j=>.lst (d+j*nt)
 |.box j off=>.box (d+j*nt) off
 |.map j=>.map (d+j*nt)
 |.dd j w=>(match w with|.out=>.dd (d+j*nt) .out|_=>.any)
 |.agg l=>.agg (SVs.ren d nt l)
 |.tup l=>.tup (SVs.ren d nt l)
 |.any=>.any
 |.val k x=>.val k x
 |.bid _ c=>.val .bo c
 |.nilS=>.nilS
 |.nilP=>.nilP
 |.nilM=>.nilM
 |.nilF=>.nilF
 |.sub _ _ _ _|.elp _ _ _ _|.grd _ _|.cp _ _|.fn _ _ _|.rop _ _ _ _|.pf _ _ _ _=>.any
def SVs.ren (d nt:Nat):List SV->List SV
 |[]=>[]
 |s::ss=>SV.ren d nt s::SVs.ren d nt ss
end
def St.makes (s:St) (d nt:Nat):Nat->List OB->St
 |_,[]=>s
 |j,b::bs=>(s.make (d+j*nt) b).makes d nt (j+1) bs
def Q1n (k:Kind) (ev:Operand->SV):List (Nat×Operand)->List k.T->Option (List k.T)
 |[],xs=>some xs
 |(j,x)::r,xs=>match P3 (ev x) with
  |some l=>(match EJ k l with
   |some y=>if j<xs.length then Q1n k ev r (xs.set j y) else none
   |none=>none)
  |none=>none
mutual
def nmV:SV->(SV->Prop)->Prop
 |.val k x,K=>∀ y:k.T,y=x->K (.val k y)
 |.agg l,K=>Z61 l λl'=>K (.agg l')
 |.tup l,K=>Z61 l λl'=>K (.tup l')
 |.any,K=>K .any
 |.dd o w,K=>K (.dd o w)
 |.bid n c,K=>K (.bid n c)
 |.grd gs v,K=>K (.grd gs v)
 |.nilS,K=>K .nilS
 |.nilP,K=>K .nilP
 |.nilM,K=>K .nilM
 |.nilF,K=>K .nilF
 |.lst o,K=>K (.lst o)
 |.sub o lo n sz,K=>K (.sub o lo n sz)
 |.elp o i off sz,K=>K (.elp o i off sz)
 |.rop k l i off,K=>K (.rop k l i off)
 |.box o off,K=>K (.box o off)
 |.cp l off,K=>K (.cp l off)
 |.map o,K=>K (.map o)
 |.fn f a b,K=>K (.fn f a b)
 |.pf ks r cE p,K=>K (.pf ks r cE p)
def Z61:List SV->(List SV->Prop)->Prop
 |[],K=>K []
 |v::r,K=>nmV v λv'=>Z61 r λr'=>K (v'::r')
end
def J1q (o:VOp) (ev:Operand->SV):Bool:=match o with
 |.load _ _ a=>(match ev a with|.elp _ _ _ _=>true|.rop _ _ _ _=>true|.dd _ _=>true|_=>false)
 |.cmp ..|.str ..|.eqB ..|.un ..|.pick ..|.indexStr ..|.bits ..|.shift ..|.div ..|.sliceStr ..|.max ..|.max4 ..|.min ..=>true
 |.ext (.lookup ..)|.ext (.eqNil ..)|.ext (.eqAgg ..)|.ext (.entry ..)=>true
 |_=>false
def gnm (C:Cx) (o:VOp) (ev:Operand->SV) (v:SV) (K:SV->Prop):Prop:=bif C.nm&&J1q o ev then nmV v K else K v
def Q5i (C:Cx) (d:Nat) (f:SV) (args:List SV) (s:St) (K:SV->St->Prop):Prop :=
 match NR C.cs ((RF s.own [f]).getD 0 .any) (RF s.own args) with
 |some (c,v,bs)=>bif v.ret bs.length&&(bs.all OB.ret&&Nat.blt 0 C.nt) then c/\K (v.ren d C.nt) (s.makes d C.nt 0 bs) else False
 |none=>False
def Il (C:Cx) (d:Nat) (f:SV) (args:List SV) (s:St) (K:SV->St->Prop):Prop :=
 match f with
 |.fn g a b=>(match Qw C.xs g with
  |some x=>x d (a++(args++b)) s K
  |none=>Q5i C d (.fn g a b) args s K)
 |.dd o .yv=>(match Qw C.yl o with
  |some y=>y args s K
  |none=>False)
 |f=>Q5i C d f args s K
def gn (C:Cx) (d:Nat) (o:VOp) (ev:Operand->SV) (s:St) (K:SV->St->Prop):Prop :=
 match o with
 |.alloc t z=>K (.box d 0) (s.make d (.cells (z.map cvp) (some t)))
 |.box t x=>match P3 (ev x) with
  |some l=>K (.box d 0) (s.make d (.cells (SVs.kill d l) (some t)))
  |none=>False
 |.buildSlice e z n parts=>match Qw C.kt e.ty with
  |some k=>if k.size=e.sz/\NB k z=true then (match Q1n k ev parts (List.replicate n k.dflt) with
   |some xs=>K (.lst d) (s.make d (.lst e.ty k xs false))
   |none=>False) else False
  |none=>False
 |.makeSlice e bytes z l c=>match Qw C.kt e.ty,asI (ev l),asI (ev c) with
  |some k,some (_,a),some (_,b)=>if k.size=e.sz/\NB k z=true then
    Q2l [] [0<=a,a<=b,b*bytes<=70368744177664,b<=70368744177664] (K (.lst d) (s.make d (.lst e.ty k (List.replicate a.toNat k.dflt) false))) else False
  |_,_,_=>False
 |.append e bytes x y=>match Qw C.kt e.ty with
  |some k=>(match view s.own k (ev y) with
   |some ys=>(match ev x with
    |.nilS=>if k.size=e.sz then Q2l [] [ys.length*bytes<=70368744177664] (K (.lst d) (s.make d (.lst e.ty k ys ys.isEmpty))) else False
    |.lst o=>(match Qe s.own o with
     |.lst ty _k' xs nl=>if ty=e.ty/\k.size=e.sz then (match Bh xs k with
      |some xs=>Q2l [] [(xs.length+ys.length)*bytes<=70368744177664] (K (.lst o) (s.make o (.lst ty k (xs++ys) (ys.isEmpty&&nl))))
      |none=>False) else False
     |_=>False)
    |_=>False)
   |none=>False)
  |none=>False
 |.store size a v=>match ev a,P3 (ev v) with
  |.box o off,some vs=>(match Qe s.own o with
   |.cells l u=>if vs.length=size/\off+size<=l.length then K .any ⟨s.env,oset s.own o (.cells (gfill.setS l off vs) u),s.nx⟩ else False
   |_=>False)
  |.elp o i off sz,some vs=>(match Qe s.own o with
   |.lst ty k xs nl=>(if off=0/\size=k.size/\sz=k.size then (match EJ k vs with
     |some x=>K .any ⟨s.env,oset s.own o (.lst ty k (xs.set i.toNat x) nl),s.nx⟩
     |none=>False)
    else if size=1/\vs.length=1/\sz=k.size/\off<k.size then (match Z70 k off (vs.getD 0 .any) (xs.getD i.toNat k.dflt) with
     |some x=>K .any ⟨s.env,oset s.own o (.lst ty k (xs.set i.toNat x) nl),s.nx⟩
     |none=>False) else False)
   |_=>False)
  |_,_=>False
 |.callF f args=>Il C d (.fn f [] []) (args.map ev) s K
 |.callV f args=>Il C d (ev f) (args.map ev) s K
 |.ext (.mapUpdate mk m k v)=>match ev m with
  |.map o=>(match Qe s.own o with
   |.map kk vk l=>if gq.mkOk mk kk=true then (match dkV kk (ev k),dkV vk (ev v) with
    |some key,some x=>K .any ⟨s.env,oset s.own o (.map kk vk (Dk kk l key x)),s.nx⟩
    |_,_=>False) else False
   |_=>False)
  |_=>False
 |.ext (.delete mk m k)=>match ev m with
  |.map o=>(match Qe s.own o with
   |.map kk vk l=>if gq.mkOk mk kk=true then (match dkV kk (ev k) with
    |some key=>K .any ⟨s.env,oset s.own o (.map kk vk (Z3a kk l key)),s.nx⟩
    |none=>False) else False
   |_=>False)
  |_=>False
 |.ext (.mapEntry mk z m k)=>match ev m with
  |.map o=>(match Qe s.own o with
   |.map kk vk l=>if gq.mkOk mk kk=true/\NB vk (Q4f vk z)=true then (match dkV kk (ev k) with
    |some key=>∀ n:Int,K (.tup [Z0f vk (gq.aget kk l key vk.dflt),.val (.i .i64) n]) ⟨s.env,oset s.own o (.mapE kk vk (Dk kk l key (gq.aget kk l key vk.dflt)) key n),s.nx⟩
    |none=>False) else False
   |_=>False)
  |_=>False
 |.ext (.entryStore m st v)=>match ev m with
  |.map o=>(match Qe s.own o with
   |.mapE kk vk l key n=>(match asI (ev st),dkV vk (ev v) with
    |some (.i64,n'),some x=>n'=n/\K .any ⟨s.env,oset s.own o (.map kk vk (Dk kk l key x)),s.nx⟩
    |_,_=>False)
   |_=>False)
  |_=>False
 |.ext (.rangeMap x)=>match ev x with
  |.map o=>(match Qe s.own o with
   |.map kk vk m=>if kk.keyk=true/\vk.one=true then K (.box d 0) (St.make ⟨s.env,oset s.own o .dead,s.nx⟩ d (.iter kk vk m [])) else False
   |_=>False)
  |_=>False
 |.ext (.nextMap x)=>match ev x with
  |.box o f=>(match Qe s.own o with
   |.iter kk vk m dn=>if f=0/\kk.keyk=true then ((∀ r:Nat,r<m.length->r∈dn)->K (.tup [.val .bo false]) s)/\∀ r:Nat,r<m.length->r∉dn->K (.tup [.val .bo true,.any,.any]) ⟨s.env,oset s.own o (.iter kk vk m (dn++[r])),s.nx⟩ else False
   |_=>False)
  |_=>False
 |_=>False
def gnd (_:Cx) (_:Nat) (_:VOp) (_:Operand->SV) (_:St) (_:SV->St->Prop):Prop:=False
def SV.thing:SV->List Nat
 |.lst o=>[o]
 |.dd o _=>[o]
 |_=>[]
def Z7e (l:List SV):List Nat:=l.flatMap SV.thing
def Q1h (d:Nat) (o:VOp) (ev:Operand->SV):List Nat:=d::(match o with
 |.buildSlice _ _ _ parts=>parts.flatMap λp=>(match P3 (ev p.2) with|some l=>Z7e l|none=>[])
 |.append _ _ x y=>SV.thing (ev x)++SV.thing (ev y)
 |.store _ a v=>SV.thing (ev a)++(match P3 (ev v) with|some l=>Z7e l|none=>[])
 |_=>[])
def Q23 (C:Cx) (d:Nat) (o:VOp) (ev:Operand->SV):Bool :=
 match o with
 |.buildSlice e _ _ _=>(match Qw C.kt e.ty with|some k=>!k.flat&&!(C.raw.contains d)|none=>false)
 |.makeSlice e _ _ _ _=>(match Qw C.kt e.ty with|some k=>!k.flat&&!(C.raw.contains d)|none=>false)
 |.append _ _ x y=>(match ev x with
  |.dd _ _=>true
  |_=>(match ev y with|.dd _ .out=>true|_=>false))
 |.store _ a _=>(match ev a with|.dd _ _=>true|_=>false)
 |_=>false
mutual
def SV.frz (o:Nat) (k:Kind) (xs:List k.T):SV->SV
 |.lst o'=>bif Nat.beq o' o then .val (.list k) xs else .lst o'
 |.sub o' lo n sz=>bif Nat.beq o' o then .any else .sub o' lo n sz
 |.elp o' i off sz=>bif Nat.beq o' o then .any else .elp o' i off sz
 |.dd o' w=>bif Nat.beq o' o then .any else .dd o' w
 |.box o' off=>bif Nat.beq o' o then .any else .box o' off
 |.map o'=>bif Nat.beq o' o then .any else .map o'
 |.grd gs v=>.grd gs (SV.frz o k xs v)
 |.agg l=>.agg (SVs.frz o k xs l)
 |.tup l=>.tup (SVs.frz o k xs l)
 |.cp l off=>.cp (SVs.frz o k xs l) off
 |.fn f a b=>.fn f (SVs.frz o k xs a) (SVs.frz o k xs b)
 |.any=>.any
 |.val k x=>.val k x
 |.bid n c=>.bid n c
 |.nilS=>.nilS
 |.nilP=>.nilP
 |.nilM=>.nilM
 |.nilF=>.nilF
 |.rop k l i off=>.rop k l i off
 |.pf ks r cE p=>.pf ks r cE p
def SVs.frz (o:Nat) (k:Kind) (xs:List k.T):List SV->List SV
 |[]=>[]
 |s::ss=>SV.frz o k xs s::SVs.frz o k xs ss
end
def OB.frz (o:Nat) (k:Kind) (xs:List k.T):OB->OB
 |.cells l u=>.cells (SVs.frz o k xs l) u
 |.dead=>.dead
 |.lst ty k xs nl=>.lst ty k xs nl
 |.map kk vk m=>.map kk vk m
 |.stk l vals=>.stk (SVs.frz o k xs l) vals
 |.lpf l q s=>.lpf (SVs.frz o k xs l) q s
 |.deep ty q k xs nl h=>.deep ty q k xs nl h
 |.iter kk vk m dn=>.iter kk vk m dn
 |.mapE kk vk m key n=>.mapE kk vk m key n
def Z2s (o:Nat) (k:Kind) (xs:List k.T):Own->Own
 |[]=>[]
 |(j,b)::r=>bif Nat.beq j o then Z2s o k xs r else (j,b.frz o k xs)::Z2s o k xs r
def St.frz (s:St) (o:Nat):St:=match Qe s.own o with
 |.lst _ k xs _=>⟨SVs.frz o k xs s.env,Z2s o k xs s.own,s.nx⟩
 |_=>s
def St.frzs (s:St):List Nat->St
 |[]=>s
 |o::r=>(s.frz o).frzs r
def Sf:List SV->List Nat
 |[]=>[]
 |s::r=>(match s with|.lst o=>o::Sf r|_=>Sf r)
def Z4v (C:Cx) (d:Nat) (o:VOp) (ev:Operand->SV) (own:Own):List Nat:=match o with
 |.store _ a v=>(match ev a with
  |.elp q _ _ _=>(match Qe own q with
   |.lst _ k _ _=>bif k.flat then [] else (match P3 (ev v) with|some l=>Sf l|none=>[])
   |_=>[])
  |_=>[])
 |.buildSlice e _ _ parts=>(match Qw C.kt e.ty with
  |some k=>bif k.flat||!(C.raw.contains d) then [] else parts.flatMap λp=>(match P3 (ev p.2) with|some l=>Sf l|none=>[])
  |none=>[])
 |.move x=>bif C.raw.contains (2000000+d) then Sf [ev x] else []
 |_=>[]
def Ss (s:St) (j:Nat) (want:Bool):Option (List Gd×St) :=
 match s.env.getD j .any with
 |.val .bo c=>some ([⟨s.nx,want,c⟩],⟨s.env.set j (.bid s.nx c),s.own,s.nx+1⟩)
 |.bid n c=>some ([⟨n,want,c⟩],s)
 |.grd gs (.val .bo c)=>some (gs++[⟨s.nx,want,c⟩],⟨s.env.set j (.grd gs (.bid s.nx c)),s.own,s.nx+1⟩)
 |.grd gs (.bid n c)=>some (gs++[⟨n,want,c⟩],s)
 |_=>none
def gqc (C:Cx) (raw:Bool) (o:VOp) (ev:Operand->SV) (own:Own):Option (List Prop×SV) :=
 match o with
 |.callF f args=>match NR C.cs (.fn f [] []) (RF own (args.map ev)) with
  |some (c,v,[])=>bif v.ret 0 then some ([c],v) else none
  |_=>none
 |.callV f args=>match NR C.cs ((RF own [ev f]).getD 0 .any) (RF own (args.map ev)) with
  |some (c,v,[])=>bif v.ret 0 then some ([c],v) else none
  |_=>none
 |o=>gq C.kt raw o ev own
def Q4q (nt:Nat):Option (Prop×SV×List OB)->Option (Prop×SV)
 |some (c,v,bs)=>(match v,bs with
  |.lst 0,[.lst _ k xs _]=>bif k.flat&&Nat.blt 0 nt then some (c,.val (.list k) xs) else none
  |_,_=>none)
 |none=>none
def Q00 (C:Cx) (o:VOp) (ev:Operand->SV) (own:Own):Option (Prop×SV) :=
 match o with
 |.callF f args=>Q4q C.nt (NR C.cs (.fn f [] []) (RF own (args.map ev)))
 |.callV f args=>Q4q C.nt (NR C.cs ((RF own [ev f]).getD 0 .any) (RF own (args.map ev)))
 |.buildSlice e z n parts=>(match Qw C.kt e.ty with
  |some k=>if k.size=e.sz/\NB k z=true/\k.flat=true then (match Q1n k ev parts (List.replicate n k.dflt) with
   |some xs=>some (True,.val (.list k) xs)
   |none=>none) else none
  |none=>none)
 |_=>none
def Q1o (env:List SV) (x:Operand):Option Bool:=match x with
 |.tmp j=>(match env.getD j .any with
  |.grd gs v=>(match gs with
   |[]=>(match v with
    |.val k x=>(match k,x with|.bo,b=>some b|_,_=>none)
    |_=>none)
   |_=>none)
  |_=>none)
 |_=>none
def Z0y (env:List SV) (g:Option (Nat×Bool)):Option Bool:=match g with
 |none=>none
 |some (j,want)=>(match Q1o env (.tmp j) with
  |some b=>some (b==want)
  |none=>none)
def Z3i (gs:List Gd) (env:List SV) (c a b:Operand):Option SV :=
 match gev gs env c with
 |.bid n t =>
  match a,b with
  |.const (.bool true),b=>(asB (gev (gs++[⟨n,false,t⟩]) env b)).map λy=>.val .bo (t||y)
  |a,.const (.bool false)=>(asB (gev (gs++[⟨n,true,t⟩]) env a)).map λx=>.val .bo (t&&x)
  |a,b=>match gev (gs++[⟨n,true,t⟩]) env a,gev (gs++[⟨n,false,t⟩]) env b with
   |.val (.i k) x,.val (.i k') y=>if k=k' then some (.val (.i k) (if t then x else y)) else none
   |.val .bo x,.val .bo y=>some (.val .bo (if t then x else y))
   |_,_=>none
 |_=>none
def Q6d (gs:List Gd) (env:List SV) (c a b:Operand):Option SV:=match Q1o env c with
 |some t=>some (bif t then gev gs env a else gev gs env b)
 |none=>Z3i gs env c a b
def Q86:VOp->Bool
 |.alloc ..|.box ..|.buildSlice ..|.makeSlice ..|.append ..|.store ..|.callF ..|.callV ..=>false
 |.ext (.makeMap)|.ext (.mapUpdate ..)|.ext (.delete ..)|.ext (.mapEntry ..)|.ext (.entryStore ..)|.ext (.copy ..)|.ext (.clear ..)|.ext (.unsafeStr ..)|.ext (.strBytes ..)|.ext (.rangeMap _)|.ext (.nextMap _)=>false
 |_=>true
def RE:SV->SV
 |.bid _ c=>.val .bo c
 |v=>v
def Z6l (o:VOp):Option (Nat×Nat×(Nat->VOp)):=match o with
 |.indexAddrArr len size x (.tmp t)=>some (len,t,λn=>.indexAddrArr len size x (.const (.int .i64 (Int.ofNat n))))
 |.indexArr len agg size x (.tmp t)=>some (len,t,λn=>.indexArr len agg size x (.const (.int .i64 (Int.ofNat n))))
 |_=>none
def Q8o (j:Int) (f:Nat->Prop):Nat->Nat->Prop
 |0,_=>True
 |n+1,i=>(j=(i:Int)->f i)/\Q8o j f n (i+1)
def J1f (C:Cx) (o:VOper) (s:St) (K:St->Prop):Prop :=
 (match o.op with
 |.pick c a b=>match Q6d [] s.env c a b with
  |some v=>gnm C (.pick c a b) (gev [] s.env) v λv=>K (s.put o.dst v)
  |none=>False
 |op=>bif Q86 op then (match gq C.kt (C.raw.contains (o.dst.getD 0)) op (gev [] s.env) s.own with
   |some (cs,v)=>Q2l [] cs (gnm C op (gev [] s.env) v λv=>K (s.put o.dst v))
   |none=>False)
  else (match op with
   |.ext .makeMap=>(match Qw C.kt (1000000+o.dst.getD 0) with
    |some (.pair kk vk)=>K ((s.make (C.off+o.dst.getD 0) (.map kk vk [])).put o.dst (.map (C.off+o.dst.getD 0)))
    |_=>False)
   |op=>bif Q23 C (o.dst.getD 0) op (gev [] s.env) then gnd C (C.off+o.dst.getD 0) op (gev [] s.env) s λv s'=>K (s'.put o.dst v) else gn C (C.off+o.dst.getD 0) op (gev [] s.env) s λv s'=>K (s'.put o.dst v)))
def J19 (C:Cx) (o:VOper) (s:St) (K:St->Prop):Prop :=
 match Z6l o.op with
 |some (len,i,f)=>(match asI (gev [] s.env (.tmp i)) with
  |some (_,j)=>0<=j/\j<(len:Int)/\Q8o j (λn=>match gq C.kt (C.raw.contains (o.dst.getD 0)) (f n) (gev [] s.env) s.own with
   |some (cs,v)=>Q2l [] cs (gnm C (f n) (gev [] s.env) v λv=>K (s.put o.dst v))
   |none=>False) len 0
  |none=>False)
 |none=>J1f C o s K
def Z7w (C:Cx) (o:VOper) (s:St) (K:St->Prop):Prop :=
 match o.guard with
 |none=>J19 C o (s.frzs (Z4v C (o.dst.getD 0) o.op (gev [] s.env) s.own)) K
 |some (j,want)=>match Ss s j want with
  |none=>False
  |some (gs,s)=>(match o.op with
   |.pick c a b=>match Q6d gs s.env c a b with
    |some v=>gnm C (.pick c a b) (gev gs s.env) v λv=>K (s.put o.dst (.grd gs (RE v)))
    |none=>False
   |op=>(match gqc C (C.raw.contains (o.dst.getD 0)) op (gev gs s.env) s.own with
    |some (cs,v)=>Q2l gs cs (gnm C op (gev gs s.env) v λv=>K (s.put o.dst (.grd gs (RE v))))
    |none=>(match Q00 C op (gev gs s.env) s.own with
     |some (c,v)=>Q2l gs [c] (gnm C op (gev gs s.env) v λv=>K ((s.make (C.off+o.dst.getD 0) .dead).put o.dst (.grd gs v)))
     |none=>False)))
def gop (C:Cx) (o:VOper) (s:St) (K:St->Prop):Prop:=match Z0y s.env o.guard with
 |some t=>bif t then Z7w C ⟨o.dst,o.op,none⟩ s K else K (s.put o.dst .any)
 |none=>Z7w C o s K
def Z5h (d:Nat) (s:St):Option St:=match s.env.getD d .any with
 |.box o off=>bif Nat.beq off 0 then (match Qe s.own o with
  |.cells l _=>some ⟨s.env.set d (.cp l 0),oset s.own o .dead,s.nx⟩
  |_=>none) else none
 |_=>none
def Z7v (C:Cx) (d:Option Nat) (K:St->Prop) (s:St):Prop:=match d with
 |none=>K s
 |some d=>bif C.spl.contains d then (match asB (s.env.getD d .any) with
   |some t=>bif C.raw.contains (3000000+d) then (bif t then K (s.put (some d) (.grd [] (.val .bo true))) else K (s.put (some d) (.grd [] (.val .bo false))))
    else (t=true->K (s.put (some d) (.grd [] (.val .bo true))))/\(t=false->K (s.put (some d) (.grd [] (.val .bo false))))
   |none=>(match Z5h d s with
    |some s'=>K s'
    |none=>False))
  else K s
def Z7t (C:Cx):List VOper->St->(St->Prop)->Prop
 |[],s,K=>K s
 |o::r,s,K=>gop C o s (Z7v C o.dst λs'=>Z7t C r s' K)
def dv (o:DOper):VOper:=⟨o.dst,o.op,o.guard⟩
def Z45 (l:List DOper):Bool:=l.all λo=>!(o.kind==2)&&!(o.op.kind==2)
def gd1 (C:Cx) (o:DOper) (s:St) (K:St->Prop):Prop :=
 match o.guard with
 |none=>(match o.op with
  |.pick c a b=>(match Q6d [] s.env c a b with
   |some v=>gnm C (.pick c a b) (gev [] s.env) v λv=>K (s.put o.dst v)
   |none=>False)
  |op=>(match gq C.kt (C.raw.contains (o.dst.getD 0)) op (gev [] s.env) s.own with
   |some (cs,v)=>Q2l [] cs (gnm C op (gev [] s.env) v λv=>K (s.put o.dst v))
   |none=>False))
 |some (j,want)=>(match Ss s j want with
  |none=>False
  |some (gs,s)=>(match o.op with
   |.pick c a b=>(match Q6d gs s.env c a b with
    |some v=>gnm C (.pick c a b) (gev gs s.env) v λv=>K (s.put o.dst (.grd gs (RE v)))
    |none=>False)
   |op=>(match gq C.kt (C.raw.contains (o.dst.getD 0)) op (gev gs s.env) s.own with
    |some (cs,v)=>Q2l gs cs (gnm C op (gev gs s.env) v λv=>K (s.put o.dst (.grd gs (RE v))))
    |none=>False)))
def OB.wf:OB->Prop
 |.lst _ _ xs nl=>nl=true->xs=[]
 |_=>True
def Q9y:List OB->Prop->Prop
 |[],q=>q
 |b::r,q=>b.wf/\Q9y r q
def Pj (C:Cx) (d:Nat) (f:SV) (args:List SV) (s:St) (K:List Nat->SV->St->Prop):Prop :=
 match NR C.cs f args with
 |some (c,v,bs)=>bif v.ret bs.length&&(bs.all OB.ret&&(Nat.blt 0 C.nt&&(bs.all OB.isL&&NU v))) then c/\Q9y bs (K ((List.range bs.length).map λj=>d+j*C.nt) (v.ren d C.nt) (s.makes d C.nt 0 bs)) else False
 |none=>False
def An:VOp->Bool
 |.alloc ..|.box ..|.buildSlice ..|.makeSlice ..=>true
 |_=>false
def Z2 (d:Nat) (o:VOp) (ev:Operand->SV):Nat:=match o with
 |.append _ _ x _=>(match ev x with|.lst q=>q|_=>d)
 |.store _ a _=>(match ev a with|.box q _=>q|.elp q _ _ _=>q|_=>d)
 |.ext (.mapUpdate _ m _ _)=>(match ev m with|.map q=>q|_=>d)
 |.ext (.delete _ m _)=>(match ev m with|.map q=>q|_=>d)
 |.ext (.mapEntry _ _ m _)=>(match ev m with|.map q=>q|_=>d)
 |.ext (.entryStore m _ _)=>(match ev m with|.map q=>q|_=>d)
 |.ext (.copy _ a _)=>(match ev a with|.lst q=>q|.sub q _ _ _=>q|_=>d)
 |.ext (.unsafeStr _ a _)=>(match ev a with|.dd q _=>q|_=>d)
 |_=>d
def OB.here:OB->Bool
 |.dead=>false
 |.stk _ _=>false
 |.deep _ _ _ _ _ _=>false
 |.iter _ _ _ _=>false
 |.mapE _ _ _ _ _=>false
 |.lpf _ _ _=>false
 |_=>true
def stP:MK->Value->Bool
 |.agg [.int .i64,.int .i64],.int .i64 n=>n==0
 |_,_=>false
def Bw (o:VOp) (ev:Operand->SV) (own:Own):Option Nat:=match o with
 |.load _ _ a=>(match ev a with
  |.box q _=>bif (Qe own q).here then some (2*q) else none
  |.elp q _ _ _=>bif (Qe own q).here then some (2*q) else none
  |_=>none)
 |.ext (.lookup mk z false x _)=>bif stP mk z then (match ev x with
  |.map q=>(match Qe own q with|.map _ _ _=>some (2*q+1)|_=>none)
  |_=>none) else none
 |.slice _ x _ _ none=>(match ev x with
  |.lst q=>(match Qe own q with
   |.lst _ _ _ nl=>bif nl then none else some (2*q)
   |_=>none)
  |_=>none)
 |_=>none
def It:VOp->Bool
 |.ext (.mapEntry mk z _ _)=>stP mk z
 |_=>false
def ZM (A:List (Nat×Option Nat)) (j q:Nat):Bool:=A.all λa=>Nat.blt a.1 j||(match a.2 with|some t=>!(Nat.beq t q)|none=>false)
def AM (A:List (Nat×Option Nat)) (j:Nat) (q:Option Nat):Bool:=match q with|some q=>ZM A j (q / 2)|none=>false
def Ik (R:List (Nat×Option Nat)) (hl t:Nat):Bool:=R.all λr=>Nat.blt r.1 hl||(match r.2 with|some q=>!(Nat.beq (q / 2) t)|none=>false)
def Q0c (R:List (Nat×Option Nat)) (hl t:Nat):Bool:=R.all λr=>Nat.blt r.1 hl||(match r.2 with|some q=>!(Nat.beq (q / 2) t)|none=>true)
def Z67 (R:List (Nat×Option Nat)) (hl t:Nat):Bool:=R.all λr=>Nat.blt r.1 hl||(match r.2 with|some q=>!(Nat.beq (q / 2) t)||Nat.beq (q % 2) 1|none=>false)
def Q5z (mk:Bool) (R:List (Nat×Option Nat)) (hl:Nat) (ts:List Nat):Bool:=R.all λr=>Nat.blt r.1 hl||(match r.2 with|some q=>ts.all (λt=>!(Nat.beq (q / 2) t))|none=>mk)
def Z68 (o:VOp) (ev:Operand->SV):Bool:=match o with
 |.load _ _ a=>(match ev a with|.rop _ _ _ _=>true|.cp _ _=>true|_=>false)
 |_=>false
def Z03 (s:St) (j:Nat) (want:Bool) (o:VOp):Bool:=match Ss s j want with
 |some (gs,s1)=>Z68 o (gev gs s1.env)
 |none=>false
def TG (A:List (Nat×Option Nat)) (j:Nat):Bool:=A.all λa=>Nat.blt a.1 j||a.2.isSome
def Q9a (C:Cx) (f:SV) (args:List SV):Option (List Prop×SV):=match NR C.cs f args with
 |some (c,v,bs)=>(match v,bs with
  |.lst 0,[.lst _ k xs nl]=>bif k.flat&&Nat.blt 0 C.nt then some ([c,nl=true->xs=[]],.val (.list k) xs) else none
  |_,_=>none)
 |none=>none
def Q5q (env:List SV) (o:DOper):DOper:=match Z0y env o.guard with
 |some true=>{o with guard:=none}
 |_=>o
def Q8c (own:Own):SV->Option (List SV)
 |.box o off=>bif Nat.beq off 0 then (match Qe own o with|.cells l _=>some l|_=>none) else none
 |.cp l off=>bif Nat.beq off 0 then some l else none
 |_=>none
def Q11 (own:Own) (j:Nat):List SV->Option Nat
 |a::_=>(match Q8c own a with
  |some l=>(match l[j]? with
   |some (.map o)=>some o
   |_=>none)
  |none=>(match a with|.map o=>some o|_=>none))
 |[]=>none
def Cx.nx (C:Cx):Cx:={C with xs:=[]}
def Ww (C:Cx):List DOper->St->Nat->Nat->List (Nat×Option Nat)->List (Nat×Option Nat)->(St->Prop)->Prop
 |[],s,_,_,_,_,K=>K s
 |o0::r,s,hl,chg,A,R,K=>match Z0y s.env o0.guard with
  |some false=>if o0.kind=2 then Ww C r (s.put o0.dst .any) (hl+1) chg A R K else Ww C r (s.put o0.dst .any) hl chg A R K
  |_=>(λo:DOper =>
  if o.kind=2 then
   (match o.op with
   |.callF f args=>(match o.guard with
    |none=>(match Qw C.xs f with
     |some x=>(match Qw C.xf f with
      |some j=>(match Q11 s.own j (args.map (gev [] s.env)) with
       |some t=>bif waits o.dst.toList r&&Q5z false R hl [t] then
         x (C.off+o.dst.getD 0) (args.map (gev [] s.env)) s λv s'=>Ww C r (s'.put o.dst v) (hl+1) hl ((hl-1,some t)::A) R K else False
       |none=>False)
      |none=>bif waits o.dst.toList r&&R.all (λq=>Nat.blt q.1 hl) then
       x (C.off+o.dst.getD 0) (args.map (gev [] s.env)) s λv s'=>Ww C r (s'.put o.dst v) (hl+1) hl ((hl-1,none)::A) [] K
      else Pj C (C.off+o.dst.getD 0) (.fn f [] []) (RF s.own (args.map (gev [] s.env))) s λts v s'=>Ww C r (s'.put o.dst v) (hl+1) (bif ts.isEmpty then chg else hl) (ts.map (λt=>(hl-1,some t))++A) (bif ts.isEmpty then R else R.map λr=>(r.1,none)) K)
     |none=>Pj C (C.off+o.dst.getD 0) (.fn f [] []) (RF s.own (args.map (gev [] s.env))) s λts v s'=>Ww C r (s'.put o.dst v) (hl+1) (bif ts.isEmpty then chg else hl) (ts.map (λt=>(hl-1,some t))++A) (bif ts.isEmpty then R else R.map λr=>(r.1,none)) K)
    |some (j,want)=>(match Ss s j want with
     |none=>False
     |some (gs,s)=>(match gqc C false (.callF f args) (gev gs s.env) s.own with
      |some (cs,v)=>bif NU v then Q2l gs cs (gnm C (.callF f args) (gev gs s.env) v λv=>Ww C r (s.put o.dst (.grd gs (RE v))) (hl+1) chg A R K) else False
      |none=>(match Q9a C (.fn f [] []) (RF s.own (args.map (gev gs s.env))) with
       |some (cs,v)=>Q2l gs cs (Ww C r ((s.make (C.off+o.dst.getD 0) .dead).put o.dst (.grd gs v)) (hl+1) hl ((hl-1,none)::A) (R.map λr=>(r.1,none)) K)
       |none=>False))))
   |.callV f args=>(match o.guard with
    |none=>Pj C (C.off+o.dst.getD 0) ((RF s.own [gev [] s.env f]).getD 0 .any) (RF s.own (args.map (gev [] s.env))) s λts v s'=>Ww C r (s'.put o.dst v) (hl+1) (bif ts.isEmpty then chg else hl) (ts.map (λt=>(hl-1,some t))++A) (bif ts.isEmpty then R else R.map λr=>(r.1,none)) K
    |some _=>False)
   |.ext (.rangeMap _)=>False
   |.ext (.nextMap _)=>False
   |op=>(match o.guard with
    |none=>bif Q23 C (o.dst.getD 0) op (gev [] s.env) then
      (bif Q5z (An op) R hl (Q1h (C.off+o.dst.getD 0) op (gev [] s.env)) then
       gnd C (C.off+o.dst.getD 0) op (gev [] s.env) s λv s'=>Ww C r (s'.put o.dst v) (hl+1) hl ((Q1h (C.off+o.dst.getD 0) op (gev [] s.env)).map (λt=>(hl-1,some t))++A) R K else False)
     else bif (An op&&Q0c R hl (Z2 (C.off+o.dst.getD 0) op (gev [] s.env)))||Ik R hl (Z2 (C.off+o.dst.getD 0) op (gev [] s.env))||(It op&&Z67 R hl (Z2 (C.off+o.dst.getD 0) op (gev [] s.env))) then
      gn C (C.off+o.dst.getD 0) op (gev [] s.env) s λv s'=>Ww C r (s'.put o.dst v) (hl+1) hl ((hl-1,some (Z2 (C.off+o.dst.getD 0) op (gev [] s.env)))::A) R K else False
    |some _=>False))
  else if o.kind=1 then
   (match o.guard with
   |none=>bif Z68 o.op (gev [] s.env)&&TG A o.kmin then gd1 C o s λs'=>Ww C r s' hl chg A R K
    else bif Nat.ble chg o.kmin||AM A o.kmin (Bw o.op (gev [] s.env) s.own) then gd1 C o s λs'=>Ww C r s' hl chg A ((o.kmax,Bw o.op (gev [] s.env) s.own)::R) K else False
   |some (j,want)=>bif Z03 s j want o.op&&TG A o.kmin then gd1 C o s λs'=>Ww C r s' hl chg A R K
    else bif Nat.ble chg o.kmin then gd1 C o s λs'=>Ww C r s' hl chg A ((o.kmax,none)::R) K else False)
  else gd1 C o s λs'=>Ww C r s' hl chg A R K) (Q5q s.env o0)
inductive Src where
 |slot (j:Nat)
 |cell (t off:Nat)
 |key (k:Nat)
structure LoopAnn where
 E:Type
 D:Type
 sl:List Nat
 vs:E->D->List SV
 own:E->D->List (Nat×Src×OB)
def Z62:List Nat->List SV->List (Nat×SV)
 |[],_=>[]
 |j::js,[]=>(j,.any)::Z62 js []
 |j::js,v::vs=>(j,v)::Z62 js vs
def LoopAnn.st (A:LoopAnn) (p:A.E) (d:A.D):List (Nat×SV):=Z62 A.sl (A.vs p d)
def LoopP {D:Type}(F:D->(D->Prop)->Prop) (d0:D):Prop :=
 ∃ (I:D->Prop) (μ:D->Nat),I d0/\∀ d,I d->F d λd'=>I d'/\μ d'<μ d
def J1m (s:St) (mp:List (Nat×Option Nat)):Src->Option (Option Nat)
 |.slot j=>match s.env.getD j .any with
  |.lst a=>some (some a)
  |.sub a _ _ _=>some (some a)
  |.dd a _=>some (some a)
  |.box a _=>some (some a)
  |.map a=>some (some a)
  |.nilS=>some none
  |_=>none
 |.cell t off=>match Qw mp t with
  |some (some a)=>(match Qe s.own a with
   |.cells l _=>(match l.getD off .any with
    |.lst a=>some (some a)
    |.box a _=>some (some a)
    |.map a=>some (some a)
    |.nilS=>some none
    |_=>none)
   |_=>none)
  |_=>none
 |.key k=>some (some k)
def Z7q (s:St):List (Nat×Src)->List (Nat×Option Nat)->Option (List (Nat×Option Nat))
 |[],mp=>some mp
 |(t,src)::r,mp=>match J1m s mp src with
  |some (some a)=>if (mp.any λp=>p.2==some a)||(Qw mp t).isSome then none else Z7q s r (mp++[(t,some a)])
  |some none=>if (Qw mp t).isSome then none else Z7q s r (mp++[(t,none)])
  |none=>none
def Pg {k:Kind}(x:k.T) {k':Kind}(y:k'.T):Prop:=match Q81 y k with|some y=>y=x|none=>False
mutual
def SV.pure:SV->Bool
 |.lst _|.sub _ _ _ _|.elp _ _ _ _|.box _ _|.map _|.grd _ _|.bid _ _|.dd _ _=>false
 |.agg l=>SVs.pure l
 |.tup l=>SVs.pure l
 |.cp l _=>SVs.pure l
 |.fn _ a b=>SVs.pure a&&SVs.pure b
 |.any|.val _ _|.nilS|.nilP|.nilM|.nilF|.rop _ _ _ _|.pf _ _ _ _=>true
def SVs.pure:List SV->Bool
 |[]=>true
 |s::ss=>SV.pure s&&SVs.pure ss
end
mutual
def Sv (mp:List (Nat×Option Nat)):SV->SV->Prop
 |.any,_=>True
 |.val k x,v=>match v with
  |.val _k' y=>Pg x y
  |.bid _ c=>Pg (k:=k) x (k':=.bo) c
  |.nilS=>match k,x with|.list _,x=>x=[]|_,_=>False
  |_=>False
 |.lst t,v=>match v with
  |.lst a=>if Qw mp t=some (some a) then True else False
  |.nilS=>if Qw mp t=some none then True else False
  |_=>False
 |.box t off,v=>match v with
  |.box a dm=>if Qw mp t=some (some a)/\off=dm then True else False
  |_=>False
 |.map t,v=>match v with
  |.map a=>if Qw mp t=some (some a) then True else False
  |_=>False
 |.dd t w,v=>(match w with
  |.obx c=>(match v with
   |.nilP=>c=false
   |.box a f=>if Qw mp t=some (some a)/\f=0 then c=true else False
   |.dd a w'=>(match w' with|.obx c'=>if Qw mp t=some (some a) then c'=c else False|_=>False)
   |_=>False)
  |.yv=>(match v with
   |.dd a w'=>(match w' with|.yv=>if Qw mp t=some (some a) then True else False|_=>False)
   |_=>False)
  |.out=>(match v with
   |.dd a w'=>(match w' with|.out=>if Qw mp t=some (some a) then True else False|_=>False)
   |.nilS=>if Qw mp t=some none then True else False
   |_=>False)
  |_=>False)
 |.agg l,v=>match v with|.agg l'=>NS mp l l'|_=>False
 |.tup l,v=>match v with|.tup l'=>NS mp l l'|_=>False
 |.fn f a b,v=>match v with|.fn f' a' b'=>if f=f' then NS mp a a'/\NS mp b b' else False|_=>False
 |.nilS,v=>match v with|.nilS=>True|_=>False
 |.nilP,v=>match v with|.nilP=>True|_=>False
 |.nilM,v=>match v with|.nilM=>True|_=>False
 |.nilF,v=>match v with|.nilF=>True|_=>False
 |.cp l off,v=>bif SVs.pure l then .cp l off=v/\SVs.pure l=true else match v with|.cp l' dm=>if off=dm then NS mp l l' else False|_=>False
 |.pf ks r cE p,v=>.pf ks r cE p=v
 |.sub t lo n sz,v=>match v with
  |.sub a tK n' tL=>if Qw mp t=some (some a) then tK=lo/\n'=n/\tL=sz else False
  |_=>False
 |.elp _ _ _ _,_|.grd _ _,_|.bid _ _,_|.rop _ _ _ _,_=>False
def NS (mp:List (Nat×Option Nat)):List SV->List SV->Prop
 |[],l=>l=[]
 |s::ss,l=>match l with|v::vs=>Sv mp s v/\NS mp ss vs|[]=>False
end
def Z0b (s:St) (mp:List (Nat×Option Nat)) (t:Nat) (b:OB):Prop :=
 match Qw mp t with
 |some (some a)=>(match b,Qe s.own a with
  |.dead,_=>True
  |.lst ty k xs nl,.lst iL k' b_ jL=>if ty=iL then Pg (k:=.list k) xs (k':=.list k') b_/\jL=nl else False
  |.cells l u,.cells l' u'=>if u=u' then NS mp l l' else False
  |.map kk vk m,.map jk kH m'=>if kk=jk then Pg (k:=.list (.pair kk vk)) m (k':=.list (.pair jk kH)) m' else False
  |.stk l vals,.stk l' jM=>vals=jM/\NS mp l l'
  |.lpf l q u,.lpf l' q' u'=>(match u,u' with|.rdy,.rdy=>q=q'/\NS mp l l'|.busy,.busy=>q=q'/\NS mp l l'|_,_=>False)
  |.iter kk vk m dn,.iter jk kH m' rM=>if kk=jk then Pg (k:=.list (.pair kk vk)) m (k':=.list (.pair jk kH)) m'/\rM=dn else False
  |.deep ty q k xs nl h,.deep iL q' k' b_ jL h'=>if ty=iL/\q=q' then (match h,h' with|none,none=>Pg (k:=.list k) xs (k':=.list k') b_/\jL=nl|_,_=>False) else False
  |_,_=>False)
 |some none=>(match b with
  |.lst _ _ xs nl=>xs=[]/\nl=true
  |.deep _ _ _ xs nl h=>(match h with|none=>xs=[]/\nl=true|some _=>False)
  |_=>False)
 |none=>False
def gmatch (s:St) (st:List (Nat×SV)) (ow:List (Nat×Src×OB)):Prop :=
 match Z7q s (ow.map λp=>(p.1,p.2.1)) [] with
 |some mp=>slots mp st/\obs mp ow
 |none=>False
 where
 slots (mp:List (Nat×Option Nat)):List (Nat×SV)->Prop
  |[]=>True
  |(j,v)::r=>Sv mp v (s.env.getD j .any)/\slots mp r
 obs (mp:List (Nat×Option Nat)):List (Nat×Src×OB)->Prop
  |[]=>True
  |(t,_,b)::r=>Z0b s mp t b/\obs mp r
def ZF (len:Nat) (st:List (Nat×SV)) (ow:List (Nat×Src×OB)):St :=
 ⟨st.foldl (λe p=>e.set p.1 p.2) (List.replicate len .any),ow.foldl (λo p=>oset o p.1 p.2.2) [],0⟩
def J1u:SV->SV
 |.bid _ c=>.val .bo c
 |.grd _ _=>.any
 |.elp _ _ _ _=>.any
 |.rop _ _ _ _=>.any
 |.dd o w=>(match w with|.out=>.dd o .out|.obx c=>.dd o (.obx c)|.yv=>.dd o .yv|_=>.any)
 |v=>v
def Z8m (jn:List Nat) (s:St):List (Nat×SV):=jn.map λj=>(j,J1u (s.env.getD j .any))
def Z7a:Own->List (Nat×Src×OB)
 |[]=>[]
 |(t,b)::r=>(match b with|.dead=>Z7a r|b=>(t,.key t,b)::Z7a r)
def RG (n:Nat) (s:St) (st:List (Nat×SV)) (ow:List (Nat×Src×OB)):Prop:=bif Nat.beq s.env.length n then gmatch s st ow else False
def Z4l (C:Cx):List (List DOper)->St->List (Nat×SV)->List (Nat×Src×OB)->Prop->Prop
 |[],_,_,_,Q=>Q
 |l::ls,s,st,ow,Q=>(Ww C.nx l s 1 0 [] [] λs'=>RG s.env.length s' st ow)/\Z4l C ls s st ow Q
def OJ (C:Cx):List DSeg->St->(St->Prop)->Prop
 |[],s,K=>K s
 |.one o::r,s,K=>gop C o s (Z7v C o.dst λs'=>OJ C r s' K)
 |.alts [l]::r,s,K=>bif Z45 l then Z7t C (l.map dv) s λs'=>OJ C r s' K else bif l.all (λo=>o.kind==o.op.kind) then Ww C l s 1 0 [] [] λs'=>OJ C r s' K else False
 |.alts (l::l2::ls)::r,s,K=>bif (l::l2::ls).all (λl=>l.all λo=>o.kind==o.op.kind) then
   Ww C.nx l s 1 0 [] [] λs0=>RG s.env.length s0 (Z8m C.jn s0) (Z7a s0.own)/\Z4l C (l2::ls) s (Z8m C.jn s0) (Z7a s0.own) (OJ C r (ZF s.env.length (Z8m C.jn s0) (Z7a s0.own)) K) else False
 |.alts []::_,_,_=>False
def Z2a (R:St->Prop) (K:Exit->St->Prop):Exit->St->Prop
 |.normal,s=>R s
 |e,s=>K e s
def Q8n (id:Nat) (K:Exit->St->Prop):Exit->St->Prop
 |.exit j6,s=>if j6=id then K .normal s else K (.exit j6) s
 |e,s=>K e s
def J10:Own->Bool
 |[]=>true
 |(_,b)::r=>(match b with|.lpf _ _ .ret=>false|.lpf _ _ (.exit _)=>false|_=>true)&&J10 r
def Z3t (A:LoopAnn) (p:A.E) (next:A.D->Prop) (K:Exit->St->Prop):Exit->St->Prop
 |.normal,s=>bif J10 s.own then ∃ d,gmatch s (A.st p d) (A.own p d)/\next d else False
 |e,s=>K e s
def J15 {D:Type}(F:(D->Prop)->Prop) (hZ:D->Prop):Prop:=∃ I:D->Prop,F I/\∀ d,I d->hZ d
def Z8y (L:List (Nat×LoopAnn)) (c:Operand):Option LoopAnn:=match c with
 |.tmp j=>Qw L (3000000+j)
 |_=>none
def Z4k (n:Nat) (A:LoopAnn) (p:A.E) (next:A.D->Prop) (K:Exit->St->Prop):Exit->St->Prop
 |.normal,s=>∃ d,RG n s (A.st p d) (A.own p d)/\next d
 |e,s=>K e s
def Z6s {D:Type}(m:Nat) (F:Nat->D->(D->Prop)->Prop) (hZ:D->Prop) (d0:D):Prop :=
 ∃ I:Nat->D->Prop,I 0 d0/\(∀ k d,k<m->I k d->F k d λd'=>I (k+1) d')/\∀ d,I m d->hZ d
def Z4g:St->List SV->Option (St×List SV)
 |s,[]=>some (s,[])
 |s,v::vs=>match v with
  |.box o 0=>(match Qe s.own o with
   |.cells l _=>bif SVs.pure l then (match Z4g ⟨s.env,oset s.own o .dead,s.nx⟩ vs with|some (s',r)=>some (s',.cp l 0::r)|none=>none) else none
   |_=>none)
  |v=>bif v.pure then (match Z4g s vs with|some (s',r)=>some (s',v::r)|none=>none) else none
def Q2m (key:Nat) (vals:List Value) (s:St):St:=s.make key (.stk (SVs.kill key s.env) vals)
def TN:List SV->List Nat->List SV->List SV
 |env,p::ps,v::vs=>TN (env.set p v) ps vs
 |env,_,_=>env
def Z0r (key:Nat) (A:LoopAnn) (p:A.E) (vals:List Value) (next:A.D->Prop) (K:Exit->St->Prop) (e:Exit) (s:St):Prop :=
 match Qe s.own key with
 |.stk l vs=>vs=vals/\(match e with
  |.normal=>∃ d,gmatch ⟨l,s.own,s.nx⟩ (A.st p d) (A.own p d)/\next d
  |.ret=>K .ret ⟨l,s.own,s.nx⟩
  |.exit id=>K (.exit id) ⟨l,s.own,s.nx⟩
  |_=>False)
 |_=>False
def J1a (o:Nat) (q:LpD) (s:St):St:=s.make o (.lpf (SVs.kill o s.env) q .rdy)
def gyK (o aO:Nat) (ga:List Value) (q:LpD) (K:SV->St->Prop) (e:Exit) (s:St):Prop :=
 match Qe s.own aO,Qe s.own o with
 |.stk l2 jN,.lpf l q' u=>(match u with
  |.busy=>jN=ga/\q'=q/\(match e with
   |.normal=>K (.val .bo true) ⟨l2,oset (oset s.own aO .dead) o (.lpf l q' .rdy),s.nx⟩
   |.ret=>K (.val .bo false) ⟨l2,oset (oset s.own aO .dead) o (.lpf l q' .ret),s.nx⟩
   |.exit id=>K (.val .bo false) ⟨l2,oset (oset s.own aO .dead) o (.lpf l q' (.exit id)),s.nx⟩
   |_=>False)
  |_=>False)
 |_,_=>False
def Z4u (o:Nat) (q:LpD) (K:Exit->St->Prop) (s:St):Prop :=
 match Qe s.own o with
 |.lpf l q' u=>(match u with
  |.busy=>False
  |.rdy=>q'=q/\K .normal ⟨l,oset s.own o .dead,s.nx⟩
  |.ret=>q'=q/\K .ret ⟨l,oset s.own o .dead,s.nx⟩
  |.exit id=>q'=q/\K (.exit id) ⟨l,oset s.own o .dead,s.nx⟩)
 |_=>False
def Z0d (o aO np:Nat) (q:LpD) (W:(Exit->St->Prop)->St->Prop) (ps:List Nat):YSp:=λargs s K =>
 match Qe s.own o with
 |.lpf l q' u=>(match u with
  |.rdy=>bif Nat.beq args.length np then q'=q/\∀ ga,W (gyK o aO ga q K) ⟨TN (SVs.kill aO l) ps (SVs.kill aO args),oset (Q2m aO ga s).own o (.lpf (SVs.kill aO l) q' .busy),s.nx⟩ else False
  |_=>False)
 |_=>False
def gwp (C:Cx) (L:List (Nat×LoopAnn)):VCode->Nat->(Exit->St->Prop)->St->Prop
 |.skip,_,K,s=>K .normal s
 |.region ops,_,K,s=>Z7t C ops s λs'=>K .normal s'
 |.regionD bk,_,K,s=>OJ C bk s λs'=>K .normal s'
 |.seq a b,n,K,s=>gwp C L a n (Z2a (λs'=>gwp C L b n K s') K) s
 |.cond c a b,n,K,s=>match Q1o s.env c with
  |some t=>bif t then gwp C L a n K s else gwp C L b n K s
  |none=>(match asB (gev [] s.env c) with
   |some t=>(match Z8y L c with
    |some A=>∃ p:A.E,J15 (λnext=>(t=true->gwp C L a n (Z4k s.env.length A p next K) s)/\(t=false->gwp C L b n (Z4k s.env.length A p next K) s)) (λd=>K .normal (ZF s.env.length (A.st p d) (A.own p d)))
    |none=>(t=true->gwp C L a n K s)/\(t=false->gwp C L b n K s))
   |none=>False)
 |.block id b,_,K,s=>gwp C L b id (Q8n id K) s
 |.loop b,n,K,s=>match Qw L n with
  |some A=>∃ (p:A.E) (d0:A.D),gmatch s (A.st p d0) (A.own p d0)/\LoopP (λd next=>gwp C L b n (Z3t A p next K) (ZF s.env.length (A.st p d) (A.own p d))) d0
  |none=>False
 |.rangeF g ps a b,n,K,s=>match gev [] s.env g with
  |.fn f first dk=>(match Qw C.iy f with
   |some x=>∀ q:LpD,x (C.off+2000000+n) (SVs.kill (C.off+2000000+n) first++(.dd (C.off+2000000+n) .yv::SVs.kill (C.off+2000000+n) dk))
     (C.off+2000000+n,Z0d (C.off+2000000+n) (100000*(C.off+2000000+n+1)-1) ps.length q (λK' s'=>gwp C L a n (Z2a (λs3=>gwp C L b n K' s3) λ_ _=>False) s') ps)
     (J1a (C.off+2000000+n) q s) (Z4u (C.off+2000000+n) q K)
   |none=>(match first with
   |[]=>(match Qw C.it f,Z4g s dk,Qw L n with
    |some it,some (s1,cm),some A=>(match it cm with
     |some (c,m,ar,xs)=>(bif Nat.beq ps.length ar then c/\∃ (p:A.E) (d0:A.D),gmatch s1 (A.st p d0) (A.own p d0) /\
      Z6s m (λk d next=>∀ vals,gwp C L a n (Z2a (λs3=>gwp C L b n (Z0r (2000000+n) A p vals next K) s3) λ_ _=>False)
       ⟨TN (Q2m (2000000+n) vals (ZF s.env.length (A.st p d) (A.own p d))).env ps (xs k),(Q2m (2000000+n) vals (ZF s.env.length (A.st p d) (A.own p d))).own,0⟩)
       (λd=>K .normal (ZF s.env.length (A.st p d) (A.own p d))) d0 else False)
     |none=>False)
    |_,_,_=>False)
   |_=>False))
  |_=>False
 |.exit id,_,K,s=>K (.exit id) s
 |.ret,_,K,s=>K .ret s
 |.bad,_,_,_=>False
section
variable {P:Program}
theorem Zs {a b:Nat}(h:¬ a=b):Nat.beq a b=false:=by
 grind [Nat.eq_of_beq_eq_true]
theorem PfRel.mono {B B':Heap}(hB:B.Le B') {ks:List Kind}{r:Kind}{cE:AT ks->Prop}{p:AT ks->r.T}{v:Value}(h:PfRel P B ks r cE p v):PfRel P B' ks r cE p v:=by obtain⟨g,first,cap,hv,hx⟩:=h;exact⟨g,first,cap,hv,λx hd U vs hs ha=>hx x hd U vs (hB.trans hs) ha⟩
theorem Z2u {tb tb':Nat->Option Bool}(ht:∀ n c,tb n=some c->tb' n=some c) {v:SV}(h:gtb tb v):gtb tb' v:=by cases v<;>first|trivial|exact ht _ _ h
theorem Z24 {tb tb':Nat->Option Bool}{o:Nat}(ht:∀ n c,tb n=some c->tb' n=some c) {v:SV}(h:gtb tb v):gtb tb' (v.kill o):=by
 cases v
 case bid n c=>exact ht _ _ h
 all_goals (simp only[SV.kill];first|trivial|(split<;>trivial)|(cases Nat.beq _ _<;>trivial))
mutual
theorem SR.upd {B B':Heap}{pl pl':Nat->Value}{tb tb':Nat->Option Bool}{o:Nat}(hB:B.Le B') (ht:∀ n c,tb n=some c->tb' n=some c) (hp:∀ d,d≠o->pl' d=pl d) :
  ∀ (s:SV) (v:Value),SR P B pl tb s v->SR P B' pl' tb' (s.kill o) v
 |.any,_,_=>trivial
 |.val k x,v,h=>by simp only[SV.kill,SR] at h |-;exact KC.mono hB h
 |.bid n c,v,h=>by simp only[SV.kill,SR] at h |-;exact⟨h.1,ht _ _ h.2⟩
 |.grd gs s,v,h=>by simp only[SV.kill,SR] at h |-;exact⟨⟨λg hg=>ht _ _ (h.1.1 g hg),Z24 ht h.1.2⟩,λhg=>SR.upd hB ht hp s v (h.2.1 hg),h.2.2⟩
 |.nilS,v,h=>h
 |.nilP,v,h=>h
 |.nilM,v,h=>h
 |.nilF,v,h=>h
 |.lst o',v,h=>by
  by_cases e:o'=o
  .subst e;simp[SV.kill,SR]
  .simp only[SV.kill,Zs e,cond_false];simp only[SR] at h |-;rw[hp _ e];exact h
 |.sub o' lo n sz,v,h=>by
  by_cases e:o'=o
  .subst e;simp[SV.kill,SR]
  .simp only[SV.kill,Zs e,cond_false];simp only[SR] at h |-;rw[hp _ e];exact h
 |.elp o' i off sz,v,h=>by
  by_cases e:o'=o
  .subst e;simp[SV.kill,SR]
  .simp only[SV.kill,Zs e,cond_false];simp only[SR] at h |-;rw[hp _ e];exact h
 |.box o' off,v,h=>by
  by_cases e:o'=o
  .subst e;simp[SV.kill,SR]
  .simp only[SV.kill,Zs e,cond_false];simp only[SR] at h |-;rw[hp _ e];exact h
 |.map o',v,h=>by
  by_cases e:o'=o
  .subst e;simp[SV.kill,SR]
  .simp only[SV.kill,Zs e,cond_false];simp only[SR] at h |-;rw[hp _ e];exact h
 |.dd o' w,v,h=>by
  by_cases e:o'=o
  .subst e;simp[SV.kill,SR]
  .simp only[SV.kill,Zs e,cond_false];simp only[SR] at h |-;rw[hp _ e];exact h
 |.rop k l i off,v,h=>by simp only[SV.kill,SR] at h |-;obtain⟨b,o,c,e,wr,t,h1,h2,h3,h4,h5,h6⟩:=h;exact⟨b,o,c,e,wr,t,h1,h2,hB.2 _ _ h3,h4,h5,h6.mono λ_ _=>KC.mono hB⟩
 |.cp l off,v,h=>by simp only[SV.kill,SR] at h |-;obtain⟨b,c,e,wr,t,h1,h2,h3⟩:=h;exact⟨b,c,e,wr,t,hB.2 _ _ h1,h2,SRs.upd hB ht hp l c h3⟩
 |.agg l,v,h=>by simp only[SV.kill,SR] at h |-;obtain⟨cs,h1,h2⟩:=h;exact⟨cs,h1,SRs.upd hB ht hp l cs h2⟩
 |.tup l,v,h=>by simp only[SV.kill,SR] at h |-;obtain⟨cs,h1,h2⟩:=h;exact⟨cs,h1,SRs.upd hB ht hp l cs h2⟩
 |.fn f a b,v,h=>by simp only[SV.kill,SR] at h |-;obtain⟨x,y,h1,h2,h3⟩:=h;exact⟨x,y,h1,SRs.upd hB ht hp a x h2,SRs.upd hB ht hp b y h3⟩
 |.pf ks r cE p,v,h=>by simp only[SV.kill,SR] at h |-;exact h.mono hB
theorem SRs.upd {B B':Heap}{pl pl':Nat->Value}{tb tb':Nat->Option Bool}{o:Nat}(hB:B.Le B') (ht:∀ n c,tb n=some c->tb' n=some c) (hp:∀ d,d≠o->pl' d=pl d) :
  ∀ (s:List SV) (v:List Value),SRs P B pl tb s v->SRs P B' pl' tb' (SVs.kill o s) v
 |[],v,h=>h
 |s::ss,v,h=>by simp only[SVs.kill,SRs] at h |-;obtain⟨x,y,h1,h2,h3⟩:=h;exact⟨x,y,h1,SR.upd hB ht hp s x h2,SRs.upd hB ht hp ss y h3⟩
end
mutual
theorem SR.mono {B B':Heap}{pl:Nat->Value}{tb tb':Nat->Option Bool}(hB:B.Le B') (ht:∀ n c,tb n=some c->tb' n=some c) :
  ∀ (s:SV) (v:Value),SR P B pl tb s v->SR P B' pl tb' s v
 |.any,_,_=>trivial
 |.val k x,v,h=>by simp only[SR] at h |-;exact KC.mono hB h
 |.bid n c,v,h=>by simp only[SR] at h |-;exact⟨h.1,ht _ _ h.2⟩
 |.grd gs s,v,h=>by simp only[SR] at h |-;exact⟨⟨λg hg=>ht _ _ (h.1.1 g hg),Z2u ht h.1.2⟩,λhg=>SR.mono hB ht s v (h.2.1 hg),h.2.2⟩
 |.nilS,v,h|.nilP,v,h|.nilM,v,h|.nilF,v,h=>by simp only[SR] at h |-;exact h
 |.lst _,v,h|.sub _ _ _ _,v,h|.elp _ _ _ _,v,h|.box _ _,v,h|.map _,v,h|.dd _ _,v,h=>by simp only[SR] at h |-;exact h
 |.rop k l i off,v,h=>by simp only[SR] at h |-;obtain⟨b,o,c,e,wr,t,h1,h2,h3,h4,h5,h6⟩:=h;exact⟨b,o,c,e,wr,t,h1,h2,hB.2 _ _ h3,h4,h5,h6.mono λ_ _=>KC.mono hB⟩
 |.cp l off,v,h=>by simp only[SR] at h |-;obtain⟨b,c,e,wr,t,h1,h2,h3⟩:=h;exact⟨b,c,e,wr,t,hB.2 _ _ h1,h2,SRs.mono hB ht l c h3⟩
 |.agg l,v,h=>by simp only[SR] at h |-;obtain⟨cs,h1,h2⟩:=h;exact⟨cs,h1,SRs.mono hB ht l cs h2⟩
 |.tup l,v,h=>by simp only[SR] at h |-;obtain⟨cs,h1,h2⟩:=h;exact⟨cs,h1,SRs.mono hB ht l cs h2⟩
 |.fn f a b,v,h=>by simp only[SR] at h |-;obtain⟨x,y,h1,h2,h3⟩:=h;exact⟨x,y,h1,SRs.mono hB ht a x h2,SRs.mono hB ht b y h3⟩
 |.pf ks r cE p,v,h=>by simp only[SR] at h |-;exact h.mono hB
theorem SRs.mono {B B':Heap}{pl:Nat->Value}{tb tb':Nat->Option Bool}(hB:B.Le B') (ht:∀ n c,tb n=some c->tb' n=some c) :
  ∀ (s:List SV) (v:List Value),SRs P B pl tb s v->SRs P B' pl tb' s v
 |[],v,h=>h
 |s::ss,v,h=>by simp only[SRs] at h |-;obtain⟨x,y,h1,h2,h3⟩:=h;exact⟨x,y,h1,SR.mono hB ht s x h2,SRs.mono hB ht ss y h3⟩
end
mutual
theorem SR.frz {B:Heap}{pl:Nat->Value}{tb:Nat->Option Bool}{o:Nat}{k:Kind}{xs:List k.T}(hk:KC B (.list k) xs [pl o]) :
  ∀ (s:SV) (v:Value),SR P B pl tb s v->SR P B pl tb (s.frz o k xs) v
 |.any,_,_=>trivial
 |.val k' x,v,h=>by simp only[SV.frz];exact h
 |.bid n c,v,h=>by simp only[SV.frz];exact h
 |.grd gs s,v,h=>by simp only[SV.frz,SR] at h |-;refine⟨⟨h.1.1,?_⟩,λhg=>SR.frz hk s v (h.2.1 hg),h.2.2⟩;have h2:=h.1.2;cases s<;>first|exact h2|trivial|(simp only[SV.frz];cases Nat.beq _ _<;>trivial)
 |.nilS,v,h|.nilP,v,h|.nilM,v,h|.nilF,v,h=>h
 |.lst o',v,h=>by
  by_cases e:o'=o
  .subst e;simp only[SV.frz,Nat.beq_refl,zd];simp only[SR] at h |-;rw[h.1];exact hk
  .simp only[SV.frz,Zs e,cond_false];exact h
 |.sub o' lo n sz,v,h=>by
  simp only[SV.frz];cases Nat.beq o' o with
  |true=>trivial
  |false=>exact h
 |.elp o' i off sz,v,h=>by
  simp only[SV.frz];cases Nat.beq o' o with
  |true=>trivial
  |false=>exact h
 |.box o' off,v,h=>by
  simp only[SV.frz];cases Nat.beq o' o with
  |true=>trivial
  |false=>exact h
 |.map o',v,h=>by
  simp only[SV.frz];cases Nat.beq o' o with
  |true=>trivial
  |false=>exact h
 |.dd o' w,v,h=>by
  simp only[SV.frz];cases Nat.beq o' o with
  |true=>trivial
  |false=>exact h
 |.rop k l i off,v,h=>by simp only[SV.frz];exact h
 |.cp l off,v,h=>by simp only[SV.frz,SR] at h |-;obtain⟨b,c,e,wr,t,h1,h2,h3⟩:=h;exact⟨b,c,e,wr,t,h1,h2,SRs.frz hk l c h3⟩
 |.agg l,v,h=>by simp only[SV.frz,SR] at h |-;obtain⟨cs,h1,h2⟩:=h;exact⟨cs,h1,SRs.frz hk l cs h2⟩
 |.tup l,v,h=>by simp only[SV.frz,SR] at h |-;obtain⟨cs,h1,h2⟩:=h;exact⟨cs,h1,SRs.frz hk l cs h2⟩
 |.fn f a b,v,h=>by simp only[SV.frz,SR] at h |-;obtain⟨x,y,h1,h2,h3⟩:=h;exact⟨x,y,h1,SRs.frz hk a x h2,SRs.frz hk b y h3⟩
 |.pf ks r cE p,v,h=>by simp only[SV.frz];exact h
theorem SRs.frz {B:Heap}{pl:Nat->Value}{tb:Nat->Option Bool}{o:Nat}{k:Kind}{xs:List k.T}(hk:KC B (.list k) xs [pl o]) :
  ∀ (s:List SV) (v:List Value),SRs P B pl tb s v->SRs P B pl tb (SVs.frz o k xs s) v
 |[],v,h=>h
 |s::ss,v,h=>by simp only[SVs.frz,SRs] at h |-;obtain⟨x,y,h1,h2,h3⟩:=h;exact⟨x,y,h1,SR.frz hk s x h2,SRs.frz hk ss y h3⟩
end
theorem SRs.length {B:Heap}{pl:Nat->Value}{tb:Nat->Option Bool}:∀ {s:List SV}{v:List Value},SRs P B pl tb s v->s.length=v.length
 |[],v,h=>by simp only[SRs] at h;subst h;rfl
 |s::ss,v,h=>by simp only[SRs] at h;obtain⟨x,y,rfl,_,h3⟩:=h;simp[SRs.length h3]
theorem SRs.get {B:Heap}{pl:Nat->Value}{tb:Nat->Option Bool}:∀ {s:List SV}{v:List Value},SRs P B pl tb s v->∀ {i:Nat}{a:SV},s[i]?=some a->∃ c,v[i]?=some c/\SR P B pl tb a c
 |[],v,h,i,a,hi=>by simp at hi
 |s::ss,v,h,i,a,hi=>by
  simp only[SRs] at h;obtain⟨x,y,rfl,h2,h3⟩:=h;cases i with
  |zero=>simp at hi;subst hi;exact⟨x,rfl,h2⟩
  |succ i=>simp at hi;simpa using SRs.get h3 hi
theorem SRs.of {B:Heap}{pl:Nat->Value}{tb:Nat->Option Bool}:∀ {s:List SV}{v:List Value},s.length=v.length->(∀ (i:Nat) (a:SV) (c:Value),s[i]?=some a->v[i]?=some c->SR P B pl tb a c)->SRs P B pl tb s v
 |[],v,hl,_=>by simp only[SRs];grind
 |s::ss,[],hl,_=>by simp at hl
 |s::ss,x::y,hl,h=>by simp only[SRs];exact⟨x,y,rfl,h 0 s x rfl rfl,SRs.of (by simpa using hl) λi a c ha hc=>h (i+1) a c (by simpa using ha) (by simpa using hc)⟩
theorem SRs.getD {B:Heap}{pl:Nat->Value}{tb:Nat->Option Bool}{s:List SV}{v:List Value}(h:SRs P B pl tb s v) (i:Nat) (d:Value):SR P B pl tb (s.getD i .any) (v.getD i d):=by
 by_cases hi:i<s.length
 .obtain⟨c,h1,h2⟩:=h.get (z3 hi);simp_all
 .rw[z9,xb (by omega)];simp[SR]
theorem SRs.set {B:Heap}{pl:Nat->Value}{tb:Nat->Option Bool}{s:List SV}{v:List Value}(h:SRs P B pl tb s v) (i:Nat) {a:SV}{c:Value}(ha:SR P B pl tb a c):SRs P B pl tb (s.set i a) (v.set i c):=by
 refine SRs.of (by simp[h.length]) λj a' c' h1 h2=>?_;rw[xt] at h1 h2;by_cases cB:i=j
 .simp_all
 .simp only[cB,if_false] at h1 h2;obtain⟨c,h3,h4⟩:=h.get h1;simp_all
theorem SRs.append {B:Heap}{pl:Nat->Value}{tb:Nat->Option Bool}:∀ {s:List SV}{v:List Value}{s':List SV}{v':List Value},SRs P B pl tb s v->SRs P B pl tb s' v'->SRs P B pl tb (s++s') (v++v')
 |[],v,s',v',h,h'=>by simp only[SRs] at h;subst h;exact h'
 |s::ss,v,s',v',h,h'=>by simp only[SRs,x7] at h |-;obtain⟨x,y,rfl,h2,h3⟩:=h;exact⟨x,y++v',rfl,h2,SRs.append h3 h'⟩
theorem SRs.take {B:Heap}{pl:Nat->Value}{tb:Nat->Option Bool}:∀ {s:List SV}{v:List Value},SRs P B pl tb s v->∀ n,SRs P B pl tb (s.take n) (v.take n)
 |[],v,h,n=>by simp only[SRs] at h;subst h;simp[SRs]
 |s::ss,v,h,0=>by simp[SRs]
 |s::ss,v,h,n+1=>by simp only[SRs] at h;obtain⟨x,y,rfl,h2,h3⟩:=h;simp only[xO,SRs];exact⟨x,_,rfl,h2,SRs.take h3 n⟩
theorem SRs.drop {B:Heap}{pl:Nat->Value}{tb:Nat->Option Bool}:∀ {s:List SV}{v:List Value},SRs P B pl tb s v->∀ n,SRs P B pl tb (s.drop n) (v.drop n)
 |[],v,h,n=>by simp only[SRs] at h;subst h;simp[SRs]
 |s::ss,v,h,0=>by simpa using h
 |s::ss,v,h,n+1=>by simp only[SRs] at h;obtain⟨x,y,rfl,h2,h3⟩:=h;simpa using SRs.drop h3 n
theorem SRs.map {B:Heap}{pl:Nat->Value}{tb:Nat->Option Bool}{α:Type}{f:α->SV}{g:α->Value}:∀ {l:List α},(∀ x∈l,SR P B pl tb (f x) (g x))->SRs P B pl tb (l.map f) (l.map g)
 |[],_=>by simp[SRs]
 |x::l,h=>by simp only[zx,SRs];exact⟨_,_,rfl,h x (by simp),SRs.map λy hy=>h y (by simp[hy])⟩
def OB.live:OB->Bool
 |.dead=>false
 |.stk _ _=>false
 |.lpf _ _ s=>s.live
 |_=>true
def oid:Value->Option Nat
 |.slice (some a) _ _=>some a.block
 |.pointer (some a)=>some a.block
 |.map m=>m
 |_=>none
def Oid (p:Value) (i:Nat):Prop:=match p with
 |.tuple l=>∃ b,(Wn (.tuple l)).get i=some b
 |v=>oid v=some i
theorem RX {p:Value}{i:Nat}(h:oid p=some i):Oid p i:=by cases p<;>first|exact h|cases h
theorem Z0h {p:Value}{n i:Nat}(hp:oid p=some n) (hi:Oid p i):i=n:=by cases p<;>first|exact osj (hi.symm.trans hp)|cases hp
def RowsH {α:Type}(R:α->List Value->List Nat->Prop) (sz:Nat) (h:Option Nat):Nat->List α->List Value->List Nat->Prop
 |_,[],cs,is=>cs=[]/\is=[]
 |j,x::xs,cs,is=>∃ c cs' i1 i2,cs=c++cs'/\is=i1++i2/\(if h=some j then c.length=sz/\i1=[] else R x c i1)/\RowsH R sz h (j+1) xs cs' i2
def DO (H:Heap) (ty:Nat) (q:Option Nat) (k:Kind) (xs:List k.T) (h:Option Nat) (v:Value) (is:List Nat):Prop :=
 (xs=[]/\v=.slice none 0 0/\is=[])\/∃ i cap c t js,v=.slice (some ⟨i,0,none⟩) xs.length cap/\is=i::js/\xs.length<=cap/\H.get i=some (.cells c ⟨k.size,ty⟩ true t)/\cap*k.size<=c.length /\
  RowsH (KO H q k) k.size h 0 xs (c.take (xs.length*k.size)) js
def DP (U:Heap) (p:Value) (ty:Nat) (q:Option Nat) (k:Kind) (xs:List k.T) (nl:Bool) (h:Option Nat):Prop :=
 ∃ is,(∀ i,Oid p i<->∃ b,(Wn p).get i=some b)/\is.Nodup/\DO (Wn p) ty q k xs h (phd p) is/\(∀ i,(∃ b,(Wn p).get i=some b)<->i∈is)/\(∀ i b,(Wn p).get i=some b->U.get i=some b)/\(nl=true<->phd p=.slice none 0 0)
theorem DP.mono {U U':Heap}{p:Value}{ty:Nat}{q:Option Nat}{k:Kind}{xs:List k.T}{nl:Bool}{h:Option Nat}(hd:DP U p ty q k xs nl h) (hg:∀ i,Oid p i->U'.get i=U.get i):DP U' p ty q k xs nl h:=by obtain⟨is,hO,h1,h2,h3,h4,h5⟩:=hd;exact⟨is,hO,h1,h2,h3,(by grind),h5⟩
def MR (B:Heap) (kk vk:Kind):List (kk.T×vk.T)->List XY->Prop
 |[],es=>es=[]
 |m::ms,es=>∃ e bV,es=e::bV/\KV B kk m.1 e.1/\KV B vk m.2 e.2.1/\MR B kk vk ms bV
def SOk (es:List XY) (clock:Nat):Prop:=(es.map λe=>e.2.2).Nodup/\∀ e∈es,e.2.2<clock
def MC (B:Heap) (kk vk:Kind) (m:List (kk.T×vk.T)) (es:List XY) (clock:Nat):Prop:=MR B kk vk m es/\SOk es clock
def DN (es:List XY) (dn seen:List Nat):Prop:=seen.length=dn.length/\∀ (t r:Nat),dn[t]?=some r->∃ e,es[r]?=some e/\seen[t]?=some e.2.2
def OR (P:Program) (B:Heap) (pl:Nat->Value) (tb:Nat->Option Bool) (U:Heap) (p:Value):OB->Prop
 |.dead=>True
 |.lst ty k xs nl=>(nl=true/\xs=[]/\p=.slice none 0 0)\/(nl=false/\∃ i cap c t,p=.slice (some ⟨i,0,none⟩) xs.length cap/\xs.length<=cap/\U.get i=some (.cells c ⟨k.size,ty⟩ true t)/\cap*k.size<=c.length/\Rows (KC B k) xs (c.take (xs.length*k.size)))
 |.cells l u=>∃ i c e t,p=.pointer (some ⟨i,0,none⟩)/\U.get i=some (.cells c e true t)/\SRs P B pl tb l c/\(∀ y,u=some y->e.ty=y/\t=true)
 |.map kk vk m=>∃ i es clock,p=.map (some i)/\U.get i=some (.obj (.map es clock) true)/\MC B kk vk m es clock
 |.iter kk vk m dn=>∃ j i es clock wr seen,p=.pointer (some ⟨j,0,none⟩)/\U.get j=some (.obj (.iter i clock seen clock) true)/\B.get i=some (.obj (.map es clock) wr)/\MC B kk vk m es clock/\DN es dn seen
 |.mapE kk vk m key n=>∃ i es clock,∃ r:Nat,∃ e:XY,p=.map (some i)/\U.get i=some (.obj (.map es clock) true)/\MC B kk vk m es clock/\es[r]?=some e/\KV B kk key e.1/\Qq e.1 es=some e/\(e.2.2:Int)=n/\∃ mk,gq.mkOk mk kk=true
 |.stk l vals=>SRs P B pl tb l vals
 |.deep ty q k xs nl h=>DP U p ty q k xs nl h
 |.lpf l q s=>p=.pointer (some ⟨q.i,0,none⟩)/\SRs P B pl tb l q.vals/\(s.live=true->U.get q.i=some (.obj (.lp q.vals q.r s.st s.pend) true))
theorem MR.mono {B B':Heap}(hB:B.Le B') {kk vk:Kind}:∀ {m:List (kk.T×vk.T)}{es:List XY},MR B kk vk m es->MR B' kk vk m es
 |[],es,h=>h
 |m::ms,es,h=>by obtain⟨e,bV,h1,h2,h3,h4⟩:=h;exact⟨e,bV,h1,h2.mono hB,h3.mono hB,h4.mono hB⟩
theorem MC.mono {B B':Heap}(hB:B.Le B') {kk vk:Kind}{m:List (kk.T×vk.T)}{es:List XY}{clock:Nat}(h:MC B kk vk m es clock):MC B' kk vk m es clock:=⟨h.1.mono hB,h.2⟩
theorem OR.upd {B B':Heap}{pl pl':Nat->Value}{tb tb':Nat->Option Bool}{o:Nat}(hB:B.Le B') (ht:∀ n c,tb n=some c->tb' n=some c) (hp:∀ d,d≠o->pl' d=pl d) {U U':Heap}{p:Value}{b:OB}
  (h:OR P B pl tb U p b) (hg:b.live=true->∀ i,Oid p i->U'.get i=U.get i):OR P B' pl' tb' U' p (b.kill o):=by
 cases b with
 |dead=>trivial
 |lst ty k xs nl =>
  rcases h with h|⟨h0,i,cap,c,t,h1,h2,h3,h4,h5⟩
  .exact .inl h
  .exact .inr ⟨h0,i,cap,c,t,h1,h2,by rw[hg rfl i (by rw[h1];rfl)];exact h3,h4,h5.mono λ_ _=>KC.mono hB⟩
 |cells l u =>obtain⟨i,c,e,t,h1,h2,h3,h4⟩:=h;exact⟨i,c,e,t,h1,by rw[hg rfl i (by rw[h1];rfl)];exact h2,SRs.upd hB ht hp l c h3,h4⟩
 |map kk vk m =>obtain⟨i,es,clock,h1,h2,h3⟩:=h;exact⟨i,es,clock,h1,by rw[hg rfl i (by rw[h1];rfl)];exact h2,h3.mono hB⟩
 |mapE kk vk m key n =>obtain⟨i,es,clock,r,e,h1,h2,h3,h4,h5,h6⟩:=h;exact⟨i,es,clock,r,e,h1,by rw[hg rfl i (by rw[h1];rfl)];exact h2,h3.mono hB,h4,h5.mono hB,h6⟩
 |stk l vals=>exact SRs.upd hB ht hp l vals h
 |deep ty q k xs nl hh=>exact DP.mono h (hg rfl)
 |iter kk vk m dn =>obtain⟨j,i,es,clock,wr,seen,h1,h2,h3,h4,h5⟩:=h;exact⟨j,i,es,clock,wr,seen,h1,by rw[hg rfl j (by rw[h1];rfl)];exact h2,hB.2 _ _ h3,h4.mono hB,h5⟩
 |lpf l q s=>exact⟨h.1,SRs.upd hB ht hp l q.vals h.2.1,λhl=>by rw[hg hl q.i (by rw[h.1];rfl)];exact h.2.2 hl⟩
theorem OR.mono {B B':Heap}{pl:Nat->Value}{tb tb':Nat->Option Bool}(hB:B.Le B') (ht:∀ n c,tb n=some c->tb' n=some c) {U U':Heap}{p:Value}{b:OB}
  (h:OR P B pl tb U p b) (hg:b.live=true->∀ i,Oid p i->U'.get i=U.get i):OR P B' pl tb' U' p b:=by
 cases b with
 |dead=>trivial
 |lst ty k xs nl =>
  rcases h with h|⟨h0,i,cap,c,t,h1,h2,h3,h4,h5⟩
  .exact .inl h
  .exact .inr ⟨h0,i,cap,c,t,h1,h2,by rw[hg rfl i (by rw[h1];rfl)];exact h3,h4,h5.mono λ_ _=>KC.mono hB⟩
 |cells l u =>obtain⟨i,c,e,t,h1,h2,h3,h4⟩:=h;exact⟨i,c,e,t,h1,by rw[hg rfl i (by rw[h1];rfl)];exact h2,SRs.mono hB ht l c h3,h4⟩
 |map kk vk m =>obtain⟨i,es,clock,h1,h2,h3⟩:=h;exact⟨i,es,clock,h1,by rw[hg rfl i (by rw[h1];rfl)];exact h2,h3.mono hB⟩
 |mapE kk vk m key n =>obtain⟨i,es,clock,r,e,h1,h2,h3,h4,h5,h6⟩:=h;exact⟨i,es,clock,r,e,h1,by rw[hg rfl i (by rw[h1];rfl)];exact h2,h3.mono hB,h4,h5.mono hB,h6⟩
 |stk l vals=>exact SRs.mono hB ht l vals h
 |deep ty q k xs nl hh=>exact DP.mono h (hg rfl)
 |iter kk vk m dn =>obtain⟨j,i,es,clock,wr,seen,h1,h2,h3,h4,h5⟩:=h;exact⟨j,i,es,clock,wr,seen,h1,by rw[hg rfl j (by rw[h1];rfl)];exact h2,hB.2 _ _ h3,h4.mono hB,h5⟩
 |lpf l q s=>exact⟨h.1,SRs.mono hB ht l q.vals h.2.1,λhl=>by rw[hg hl q.i (by rw[h.1];rfl)];exact h.2.2 hl⟩
theorem Qn (own:Own) (d:Nat) (b:OB) (d':Nat):Qe (oset own d b) d'=if d'=d then b else Qe own d':=by
 induction own with
 |nil =>
  simp only[oset,Qe];by_cases h:d'=d
  .subst h;simp
  .rw[z0 h,Zs λe=>h e.symm];rfl
 |cons p r ih =>
  obtain⟨k,c⟩:=p;simp only[oset];by_cases h1:k=d
  .subst h1;simp only[Nat.beq_refl,zd,Qe];by_cases h:d'=k
   .subst h;simp
   .rw[z0 h,Zs λe=>h e.symm];rfl
  .rw[Zs h1,cond_false];cases Nat.blt d k with
   |true =>
    simp only[zd,Qe];by_cases h:d'=d
    .subst h;simp
    .rw[z0 h,Zs λe=>h e.symm];rfl
   |false =>
    simp only[cond_false,Qe,ih];by_cases h:k=d'
    .subst h;simp[h1]
    .rw[Zs h];rfl
theorem Mt (own:Own) (o d:Nat):Qe (Q66 o own) d=if d=o then .dead else (Qe own d).kill o:=by
 induction own with
 |nil=>simp[Q66,Qe,OB.kill]
 |cons p r ih =>
  obtain⟨k,c⟩:=p;simp only[Q66];by_cases h1:k=o
  .subst h1;simp only[Nat.beq_refl,zd,ih,Qe];by_cases h:d=k
   .simp[h]
   .rw[z0 h,z0 h,Zs λe=>h e.symm];rfl
  .rw[Zs h1,cond_false];simp only[Qe,ih]
   grind [Zs]
theorem OR.frz {B:Heap}{pl:Nat->Value}{tb:Nat->Option Bool}{o:Nat}{k:Kind}{xs:List k.T}(hk:KC B (.list k) xs [pl o]) {U:Heap}{p:Value}{b:OB}
  (h:OR P B pl tb U p b):OR P B pl tb U p (b.frz o k xs):=by
 cases b with
 |cells l u =>obtain⟨i,c,e,t,h1,h2,h3,h4⟩:=h;exact⟨i,c,e,t,h1,h2,SRs.frz hk l c h3,h4⟩
 |stk l vals=>exact SRs.frz hk l vals h
 |lpf l q s=>exact⟨h.1,SRs.frz hk l q.vals h.2.1,h.2.2⟩
 |_=>exact h
theorem Z00 (own:Own) (o:Nat) (k:Kind) (xs:List k.T) (d:Nat):Qe (Z2s o k xs own) d=if d=o then .dead else (Qe own d).frz o k xs:=by
 induction own with
 |nil=>simp[Z2s,Qe,OB.frz]
 |cons p r ih =>
  obtain⟨j,c⟩:=p;simp only[Z2s];by_cases h1:j=o
  .subst h1;simp only[Nat.beq_refl,zd,ih,Qe];by_cases h:d=j
   .simp[h]
   .rw[z0 h,z0 h,Zs λe=>h e.symm];rfl
  .rw[Zs h1,cond_false];simp only[Qe,ih]
   grind [Zs]
theorem OB.q1y (b:OB) (o:Nat) (k:Kind) (xs:List k.T):(b.frz o k xs).live=b.live:=by cases b<;>rfl
structure Gam (P:Program) (B F:Heap) (pl:Nat->Value) (tb:Nat->Option Bool) (s:St) (env:Env) (U:Heap):Prop where
 bf:B.Le F
 le:F.Le U
 env:SRs P B pl tb s.env env
 obj:∀ d,OR P B pl tb U (pl d) (Qe s.own d)
 fresh:∀ d i,(Qe s.own d).live=true->Oid (pl d) i->F.get i=none
 sep:∀ d d' i,d≠d'->(Qe s.own d).live=true->(Qe s.own d').live=true->Oid (pl d) i->Oid (pl d') i->False
 free:∀ n,s.nx<=n->tb n=none
theorem Gam.leB {B F:Heap}{pl:Nat->Value}{tb:Nat->Option Bool}{s:St}{env:Env}{U:Heap}(h:Gam P B F pl tb s env U):B.Le U:=h.bf.trans h.le
def Xd (pl:Nat->Value) (d:Nat) (p:Value):Nat->Value:=λj=>if j=d then p else pl j
theorem OB.q0t (b:OB) (o:Nat):(b.kill o).live=b.live:=by cases b<;>rfl
theorem Gam.make {B F:Heap}{pl:Nat->Value}{tb:Nat->Option Bool}{s:St}{env:Env}{U U':Heap}(h:Gam P B F pl tb s env U) (d:Nat) (b:OB) (p:Value) (hle:F.Le U')
  (dz:∀ j i,j≠d->(Qe s.own j).live=true->Oid (pl j) i->U'.get i=U.get i) (hb:OR P B (Xd pl d p) tb U' p b)
  (bD:∀ i,b.live=true->Oid p i->F.get i=none/\∀ j,j≠d->(Qe s.own j).live=true->¬ Oid (pl j) i):Gam P B F (Xd pl d p) tb (s.make d b) env U':=by
 have hp:∀ j,j≠d->Xd pl d p j=pl j:=λj hj=>by simp[Xd,hj]
 have hg:∀ j,Qe (s.make d b).own j=if j=d then b else (Qe s.own j).kill d:=λj=>by simp only[St.make,St.kill,Qn,Mt];split<;>rfl
 refine⟨h.bf,hle,SRs.upd (Heap.Le.refl B) (λ_ _ h=>h) hp _ _ h.env,λj=>?_,λj i hl hi=>?_,λj j' i aK hl cF hi dj=>?_,h.free⟩
 .rw[hg];by_cases hj:j=d
  .subst hj;rw[z2 rfl];simpa [Xd] using hb
  .rw[z0 hj,hp j hj];exact(h.obj j).upd (Heap.Le.refl B) (λ_ _ h=>h) hp λhl i hi=>dz j i hj hl hi
 .rw[hg] at hl;by_cases hj:j=d
  .subst hj;rw[z2 rfl] at hl;simp only[Xd,zn] at hi;exact(bD i hl hi).1
  .rw[z0 hj,OB.q0t] at hl;rw[hp j hj] at hi;exact h.fresh j i hl hi
 .rw[hg] at hl cF;by_cases hj:j=d
  .subst hj;rw[z2 rfl] at hl;have di:j'≠j:=λe=>aK e.symm;rw[z0 di,OB.q0t] at cF;rw[hp j' di] at dj;simp only[Xd,zn] at hi;exact(bD i hl hi).2 j' di cF dj
  .rw[z0 hj,OB.q0t] at hl;rw[hp j hj] at hi;by_cases di:j'=d
   .subst di;rw[z2 rfl] at cF;simp only[Xd,zn] at dj;exact(bD i cF dj).2 j hj hl hi
   .rw[z0 di,OB.q0t] at cF;rw[hp j' di] at dj;exact h.sep j j' i aK hl cF hi dj
theorem Gam.write {B F:Heap}{pl:Nat->Value}{tb:Nat->Option Bool}{s:St}{env:Env}{U U':Heap}(h:Gam P B F pl tb s env U) (d:Nat) (b:OB) (hle:F.Le U') (aq:(Qe s.own d).live=true)
  (dz:∀ j i,j≠d->(Qe s.own j).live=true->Oid (pl j) i->U'.get i=U.get i) (hb:OR P B pl tb U' (pl d) b):Gam P B F pl tb ⟨s.env,oset s.own d b,s.nx⟩ env U':=by
 refine⟨h.bf,hle,h.env,λj=>?_,λj i hl hi=>?_,λj j' i aK hl cF hi dj=>?_,h.free⟩
 .simp only[Qn];by_cases hj:j=d
  .subst hj;rw[z2 rfl];exact hb
  .rw[z0 hj];exact(h.obj j).mono (Heap.Le.refl B) (λ_ _ h=>h) λhl i hi=>dz j i hj hl hi
 .simp only[Qn] at hl;by_cases hj:j=d
  .subst hj;exact h.fresh j i aq hi
  .rw[z0 hj] at hl;exact h.fresh j i hl hi
 .simp only[Qn] at hl cF;have k1:(Qe s.own j).live=true:=by
   grind
  have k2:(Qe s.own j').live=true:=by
   grind
  exact h.sep j j' i aK k1 k2 hi dj
theorem Gam.put {B F:Heap}{pl:Nat->Value}{tb:Nat->Option Bool}{s:St}{env:Env}{U:Heap}(h:Gam P B F pl tb s env U) (d:Option Nat) {v:SV}{u:Value}(hv:SR P B pl tb v u):Gam P B F pl tb (s.put d v) (Wg env d u) U:=by
 cases d with
 |none=>exact h
 |some d=>exact⟨h.bf,h.le,h.env.set d hv,h.obj,h.fresh,h.sep,h.free⟩
end
end Go.V