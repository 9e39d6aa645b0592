/- A framework for walks, contracts of functions, and their proofs: part 12. -/
import Derived.ProofKit
import Derived.OpenShut
import Derived.LaidMore
import Derived.Carry
import Derived.Lib.SmallJoins
import Derived.Deep.Slices
import Derived.Test.YtfblnfcecfjbpaaGreatQ11
set_option linter.unusedVariables false
namespace Go.V
open Go Go.ChangeShapes Go.WideShapes Go.RowKit Go.Deep Go.Joins
def Heap.RO (U:Heap):Prop:=∀ i b,U.get i=some b->b.wr=false
structure View (w:World) (ρ:Plc) (U:Heap):Prop where
 rel:HRel ρ U w
 ro:U.RO
structure More (ρ:Plc) (U:Heap) (ρ':Plc) (U':Heap):Prop where
 n:U.n<=U'.n
 pl:∀ i,i<U.n->∀ p,ρ' i=some p->ρ i=some p
 ag:Agree U U'
theorem More.refl (ρ:Plc) (U:Heap):More ρ U ρ U:=⟨zf _,λ_ _ _ h=>h,Agree.refl _⟩
theorem More.trans {ρ ρ' fc:Plc}{U U' aE:Heap}(h:More ρ U ρ' U') (k:More ρ' U' fc aE):More ρ U fc aE :=
 ⟨zX h.n k.n,λi hi p hp=>h.pl i hi p (k.pl i (xj hi h.n) p hp),h.ag.trans k.ag h.n⟩
def Z45 (w:World):Prop:=∀ g cs,Q0a g=some cs->∃ e f,w.heap[g]?=some (.cells cs.toArray e f)
theorem View.emptyT (w:World) (ht:Z45 w):View w (λ_=>none) Heap.empty where
 rel:=⟨⟨λi b h=>(by cases h),λ_ _=>rfl,λi p h=>(by cases h),λi j p q b _ h=>(by cases h)⟩,λg cs hg=>⟨ht g cs hg,λ⟨_,_,_,h,_⟩=>by cases h⟩⟩
 ro:=λi b h=>by cases h
theorem View.add {w:World}{ρ:Plc}{U:Heap}(h:View w ρ U) (p:Pl) (c:List Value) {C:Array Value}{e:TypeId}{f:Nat×Nat}(hb:w.heap[p.blk]?=some (.cells C e f)) (hs:p.shift+p.ext<=C.size) (hl:c.length<=p.ext) (ht:e=p.esz.ty)
  (hc:∀ (k:Nat) (v:Value),c[k]?=some v->∃ u,w.cell? ⟨p.blk,p.shift+k,none⟩=some u/\VRel ρ U.n v u) :
  View w (ρ.put U.n (some p)) (U.push (.cells c p.esz false p.tight))/\More ρ U (ρ.put U.n (some p)) (U.push (.cells c p.esz false p.tight)):=by
 have aQ:∀ i,i<U.n->∀ q,(ρ.put U.n (some p)) i=some q->ρ i=some q:=λi hi q hq=>by unfold Plc.put at hq;rwa [zd (by omega)] at hq
 have bQ:(U.push (.cells c p.esz false p.tight)).RO:=λi b hi=>by
  by_cases e:i=U.n
  .subst e;rw[Heap.q0a] at hi;obtain rfl:=osj hi;rfl
  .rw[Heap.q0e _ _ e] at hi;exact h.ro i b hi
 refine⟨⟨⟨⟨?_,?_,?_,?_⟩,λg cs hg=>⟨(h.rel.tab g cs hg).1,λ⟨i,_,b,_,hi,hw,_⟩=>by rw[bQ i b hi] at hw;cases hw⟩⟩,bQ⟩,⟨by simp,aQ,λi hi=>Heap.q0i _ _ hi⟩⟩
 .intro i b hi;by_cases aO:i=U.n
  .subst aO;rw[Heap.q0a] at hi;obtain rfl:=osj hi;refine⟨p,by simp[Plc.put],rfl,rfl,hl,⟨C,e,f,hb,hs,ht⟩,λk v hk=>?_,λh=>by cases h⟩;obtain⟨u,hu,hv⟩:=hc k v hk;exact⟨u,hu,hv.mono (by simp) aQ⟩
  .rw[Heap.q0e _ _ aO] at hi;obtain⟨q,hq,hB⟩:=h.rel.live i b hi;exact⟨q,by simp[Plc.put,aO,hq],hB.mono (by simp) aQ rfl⟩
 .intro i hi;by_cases aO:i=U.n
  .subst aO;rw[Heap.q0a] at hi;cases hi
  .rw[Heap.q0e _ _ aO] at hi;simp[Plc.put,aO,h.rel.dead i hi]
 .intro i q hq;by_cases aO:i=U.n
  .subst aO;simp[Plc.put] at hq;subst hq;exact(x8.1 hb).1
  .simp[Plc.put,aO] at hq;exact h.rel.lt i q hq
 .intro i j q r b _ _ _ bP hw _;rw[bQ i b bP] at hw;cases hw
theorem IA {P:Program}{fits:TypeId->Bool}{d:Nat}{e:TypeId}{count off n:Nat}(h:rowAt P fits d e count off n=true):off<=count*P.cellsOf e:=by
 cases d with
 |zero=>cases h
 |succ d =>
  unfold rowAt at h;by_cases hs:P.cellsOf e=0
  .simp[hs] at h
  .have bk:0<P.cellsOf e:=Nat.pos_of_ne_zero hs;simp only[hs,if_false,zC,z7,zT,zk] at h;have hd:=Nat.div_add_mod off (P.cellsOf e);have hm:=wA off bk;rcases h with⟨⟨h1,h2⟩,_⟩|⟨h1,_⟩
   .have:P.cellsOf e*(off / P.cellsOf e)<=P.cellsOf e*count:=Nat.mul_le_mul_left _ (by omega);rw[w5 count];omega
   .have:P.cellsOf e*(off / P.cellsOf e+1)<=P.cellsOf e*count:=Nat.mul_le_mul_left _ (by omega);rw[wO] at this;rw[w5 count];omega
theorem TT {P:Program}:∀ {d:Nat}{e:TypeId}{count off:Nat}{u:TypeId}{n:Nat},liesAt P d e count off u n=true->off<=count*P.cellsOf e
 |0,_,_,_,_,_,h=>by cases h
 |d+1,e,count,off,u,n,h=>by
  unfold liesAt at h;rw[zC] at h;rcases h with h|h
  .exact IA h
  .split at h
   .exact TT h
   .cases h
theorem SQ {P:Program}{w:World}{r:Reach}{base:Nat}{a:Addr}{e:TypeId}{n:Nat}(h:w.has P r base a e n):∃ C row f,w.heap[a.block]?=some (.cells C row f)/\a.off<=C.size/\a.spot=none:=by
 obtain⟨_,hs,row,cells,fj,hl⟩:=h;unfold World.shape? at fj;split at fj
 .rename_i C e' f hb;obtain⟨rfl,rfl⟩:=(by simpa using fj:e'=row/\C.size=cells);exact⟨C,e',f,hb,zX (TT hl) (Nat.div_mul_le_self _ _),hs⟩
 .cases fj
theorem BD {P:Program}{w:World}{r:Reach}{base:Nat}{t e:TypeId}{v:Value}(ht:P.underlying t=some (.slice e)) (h:Cell.okWide P w r base t v) :
  v=.slice none 0 0\/∃ a len cap,v=.slice (some a) len cap/\w.has P r base a e cap:=by
 unfold Cell.okWide at h;rw[ht] at h;have h':Cell.ok P w r base t v:=by split at h<;>first|exact h|simp_all
 unfold Cell.ok at h';rw[ht] at h';split at h'<;>first|exact .inl rfl|(cases h';done)|skip
 all_goals first|(rename_i h1 h2;simp_all;done)|skip
 all_goals first|(simp_all;exact⟨_,_,_,⟨rfl,rfl,rfl⟩,h'.2.2⟩)|(simp_all)
theorem Q76 {k:IntKind}{x:Int}(h:(Lit.int k x).wf=true):k.min<=x/\x<=k.max:=by simpa [Lit.wf] using h
theorem View.calls {P:Program}{f:FuncId}{w:World}{ρ:Plc}{U:Heap}(h:View w ρ U) {args:List Value}{aw:Array Value}(hl:LRel ρ U.n args aw.toList) (hc:VCallsTo P f args U λv _=>v=.bool true) :
  Calls P f aw w λe w'=>e=.returned (.bool true)/\Below w.heap.size w w':=by
 refine (hc ρ w aw h.rel hl).mono λe w' ⟨c,he,v,ρ',U',hv,hr,_,hx⟩=>?_;subst hv;have:c=.bool true:=by cases hr;rfl
 subst this;exact⟨he,hx.os,hx.tape,hx.output,hx.size,λB hB=>hx.keep B hB λ⟨i,p,b,_,hi,hw,_⟩=>by rw[h.ro i b hi] at hw;cases hw⟩
theorem GA {H:Type}{enc:TypeId×Value->H}{P:Program}(hl:laidOutB P=true) {W W':World}{sp:Nat->Bool}(hb:Below W.heap.size W W') :
  ∀ {ts:List TypeId}{vs:List Value}{ds:List (DataW H)}{ps:List MemPlace},(∀ t∈ts,P.readableRec t=true/\t<P.types.size)->DataW.TrodAll enc P W 0 (λ_=>true) true ts vs ds ps->(∀ p∈ps,p.block<W.heap.size)->(∀ p∈ps,sp p.block=true) ->
   DataW.TrodAll enc P W' 0 sp true ts vs ds ps
 |[],vs,ds,ps,_,h,_,_=>by obtain⟨rfl,rfl,rfl⟩:=trodAll_nil h;rfl
 |t::ts,vs,ds,ps,ht,h,ah,hs=>by
  obtain⟨v,cW,d,ds',p,q,rfl,rfl,rfl,h1,h2⟩:=trodAll_cons h;obtain⟨r1,r2⟩:=ht t (by simp);exact⟨p,q,WideElems.Trod_stays hl r1 r2 h1 (λx hx=>hb.same (ah x (by simp[hx]))) (λx hx=>hs x (by simp[hx])),
   GA hl hb (λt mW=>ht t (by simp[mW])) h2 (λx hx=>ah x (by simp[hx])) (λx hx=>hs x (by simp[hx])),rfl⟩
theorem FZ {H:Type}{enc:TypeId×Value->H}{P:Program}{f:Func}{s:ChangeSpec}{apart fresh handsOn again:Bool}{W W':World}{args:Array Value}{ds gs:List (DataW H)}{before:List MemPlace}{tb:TypeId}
  (hl:laidOutB P=true) (hp:f.params.toList.all (λt=>P.readableRec t&&decide (t<P.types.size))=true) (lM:s.vars=[]) (hr:f.resultTypes=#[tb]) (bB:P.underlying tb=some .bool) (hs:s.fn H ds={results:=[.lit (.bool true)],args:=ds})
  (hW:DataW.Whole enc P f.params.toList s.vars apart W args.toList ds gs before) (hb:Below W.heap.size W W'):s.post enc P f apart fresh handsOn again W args (.bool true) W':=by
 have ah:∀ p∈before,p.block<W.heap.size:=λp hp=>hW.lt p hp;have vB:=hW;obtain⟨p,q,hA,hV,rfl,hz,hn⟩:=hW;rw[lM] at hV;obtain⟨rfl,rfl⟩:=trodVars_none hV;have bA:∀ t∈f.params.toList,P.readableRec t=true/\t<P.types.size:=λt ht=>by have:=zg.1 hp t ht;simpa using this
 have fl:s.fn H (ds++[])={results:=[.lit (.bool true)],args:=ds}:=by rw[xJ];exact hs
 have dp:∀ (b:Nat) (sp:Nat->Bool) (hd:Bool),DataW.TrodAll enc P W' b sp hd f.resultTypes.toList ((Value.bool true).resultList f.resultTypes.size) (s.fn H (ds++[])).results []:=λb sp hd=>by rw[fl,hr];exact trodAll_mk1 (shut_bool bB _)
 have ax:∀ sp:Nat->Bool,(∀ x∈p++[],sp x.block=true)->DataW.TrodAll enc P W' 0 sp true f.params.toList args.toList (s.fn H (ds++[])).args p:=λsp cy=>by rw[fl];exact GA hl hb bA hA (λx hx=>ah x (by simp[hx])) (λx hx=>cy x (by simp[hx]))
 have cN:∀ sp:Nat->Bool,DataW.TrodVars enc P W' sp s.vars (s.fn H (ds++[])).vars []:=λsp=>by rw[fl,lM];rfl
 have hold:∀ x∈p++[],(λb=>decide (b<W.heap.size)) x.block=true:=λx hx=>by simpa using ah x hx
 refine⟨ds,[],p++[],[],p,[],vB,dp _ _ _,ax _ hold,cN _,World.keptBut_mono (λx hx=>⟨hx,?_⟩) (hb.frame (·∈p++[])),λ_=>?_⟩
 .exact .inr (by simpa using hx)
 .refine⟨ok_one hr rfl (okWide_bool_mk bB _),_,_,([]++p)++[],⟨[]++p,[],trodAll_append (ax _ (λ_ _=>rfl)) (dp _ _ _),cN _,rfl,?_,?_⟩,?_⟩
  .intro b off hx;have aO:MemPlace.cell b off∈p++[]:=by simpa using hx
   rw[hb.frozen (ah _ aO)];exact hz b off aO
  .intro ha;simpa using hn ha
  .intro x hx _;simpa using hx
def KFs (T:Kind->TypeId->Bool) (sz:TypeId->Nat):Kind->List (TypeId×Nat)->Nat->Bool
 |_,[],_=>false
 |k,[p],off=>p.2==off&&(sz p.1==k.size&&T k p.1)
 |.pair a b,p::q::r,off=>p.2==off&&(sz p.1==a.size&&(T a p.1&&KFs T sz b (q::r) (off+a.size)))
 |_,_::_::_,_=>false
def Kind.row:Kind->Bool
 |.list k=>k.flat
 |_=>false
def Z3r (P:Program) (t:TypeId):Bool:=match P.underlying t with|some (.slice _)=>true|_=>false
def KTy (P:Program):Nat->Kind->TypeId->Bool
 |0,_,_=>false
 |n+1,k,t=>match P.underlying t with
  |some (.struct fs)=>P.cellsOf t==k.size&&KFs (KTy P n) P.cellsOf k (fs.toList.map λf=>(f.type,f.offset)) 0
  |some (.array m e)=>P.cellsOf t==k.size&&KFs (KTy P n) P.cellsOf k ((List.range m).map λi=>(e,i*P.cellsOf e)) 0
  |some (.int ik)=>(match k with|.i k'=>decide (k'=ik)|_=>false)
  |some .bool=>(match k with|.bo=>true|_=>false)
  |some .string=>(match k with|.st=>true|_=>false)
  |some (.slice e)=>(match k with|.list k'=>P.cellsOf e==k'.size&&((k'.flat||(k'.row&&Z3r P e))&&KTy P n k' e)|_=>false)
  |_=>false
def KWf:(k:Kind)->k.T->Prop
 |.i ik,x=>InK ik x
 |.bo,_=>True
 |.st,s=>s.length<=maxLen
 |.list k,l=>l.length<=maxLen/\∀ x∈l,KWf k x
 |.pair a b,x=>KWf a x.1/\KWf b x.2
theorem More.le {ρ ρ':Plc}{U U':Heap}(h:More ρ U ρ' U'):U.Le U':=⟨h.n,λi b hb=>by rw[h.ag i (U.lt hb)];exact hb⟩
def ArgIs (w:World) (ρ:Plc) (U:Heap) (k:Kind) (cs:List Value):Prop :=
 ∃ ρ' U' vs x,View w ρ' U'/\More ρ U ρ' U'/\LRel ρ' U'.n vs cs/\KC U' k x vs/\KWf k x
theorem ArgIs.pair {w:World}{ρ:Plc}{U:Heap}{a b:Kind}{cs ds:List Value}(h1:ArgIs w ρ U a cs) (h2:∀ ρ U,View w ρ U->ArgIs w ρ U b ds):ArgIs w ρ U (.pair a b) (cs++ds):=by obtain⟨ρ1,σ1,tg,x1,k1,k2,k3,k4,k5⟩:=h1;obtain⟨ρ2,σ2,lA,x2,m1,m2,m3,m4,m5⟩:=h2 ρ1 σ1 k1;exact⟨ρ2,σ2,tg++lA,(x1,x2),m1,k2.trans m2,(k3.mono m2.n m2.pl).append m3,⟨tg,lA,rfl,k4.mono m2.le,m4⟩,k5,m5⟩
section
variable {H:Type}{enc:TypeId×Value->H}{P:Program}{w:World}{r:Reach}{base:Nat}
def okc (P:Program) (w:World) (r:Reach) (base:Nat) (ts:List TypeId) (cs:List Value):Prop:=∀ (i:Nat) v u,cs[i]?=some v->ts[i]?=some u->Cell.okWide P w r base u v
theorem LW {T:Kind->TypeId->Bool}{sz:TypeId->Nat}{g:TypeId->Option (List TypeId)}(hT:∀ k t ts,T k t=true->g t=some ts->ts.length=k.size) :
  ∀ {k:Kind}{L:List (TypeId×Nat)}{off:Nat}{iL:List (List TypeId)},KFs T sz k L off=true->L.mapM (λp=>g p.1)=some iL->iL.flatten.length=k.size
 |k,[],_,_,h,_=>by simp[KFs] at h
 |k,[p],off,iL,h,hm=>by
  simp only[KFs,z7] at h;cases hg:g p.1 with
  |none=>simp[hg] at hm
  |some ts =>simp[hg] at hm;subst hm;simpa using hT _ _ _ h.2.2 hg
 |.pair a b,p::q::r,off,iL,h,hm=>by
  simp only[KFs,z7] at h;rw[xt] at hm;cases hg:g p.1 with
  |none=>simp[hg] at hm
  |some ts =>
   cases hr:(q::r).mapM (λp=>g p.1) with
   |none=>simp[hg,hr] at hm
   |some tr =>simp[hg,hr] at hm;subst hm;have:=LW hT h.2.2.2 hr;simp only[List.flatten_cons,zJ,this,hT _ _ _ h.2.2.1 hg,Kind.size]
 |.i _,_::_::_,_,_,h,_|.bo,_::_::_,_,_,h,_|.st,_::_::_,_,_,h,_|.list _,_::_::_,_,_,h,_=>by cases h
theorem Dq {α β γ:Type}{f:α->β}{g:β->Option γ}:∀ (l:List α),(l.map f).mapM g=l.mapM (λx=>g (f x))
 |[]=>rfl
 |a::l=>by simp only[zE,xt,Dq l]
theorem DV {β:Type}{x:β}{f:Nat->Option β}(h:∀ i,f i=some x):∀ l:List Nat,l.mapM f=some (List.replicate l.length x)
 |[]=>rfl
 |a::l=>by simp[xt,h,DV h l,xw]
theorem Cf:∀ {n:Nat}{k:Kind}{t:TypeId}{d:Nat}{ts:List TypeId},KTy P n k t=true->P.cellTypes d t=some ts->ts.length=k.size
 |0,_,_,_,_,h,_=>by cases h
 |_+1,_,_,0,_,_,h=>by cases h
 |n+1,k,t,d+1,ts,h,ht=>by
  have ih:∀ k t ts,KTy P n k t=true->P.cellTypes d t=some ts->ts.length=k.size:=λk t ts h1 h2=>Cf h1 h2;unfold Program.cellTypes at ht;unfold KTy at h;cases hu:P.underlying t with
  |none=>rw[hu] at h;cases h
  |some u =>
   rw[hu] at h ht;cases u<;>first|(cases h;done)|skip
   all_goals simp only at h ht
   .split at h<;>first|(cases h;done)|(obtain rfl:=osj ht;rfl)
   .split at h<;>first|(cases h;done)|(obtain rfl:=osj ht;rfl)
   .split at h<;>first|(cases h;done)|(obtain rfl:=osj ht;rfl)
   .split at h<;>first|(cases h;done)|(obtain rfl:=osj ht;rfl)
   .rename_i m e;rw[z7] at h;cases hc:P.cellTypes d e with
    |none=>rw[hc] at ht;cases ht
    |some te =>rw[hc] at ht;obtain rfl:=osj ht;refine LW (g:=λt=>P.cellTypes d t) ih h.2 ?_;rw[Dq,DV (x:=te) (λ_=>hc)];simp
   .rename_i fs;rw[z7] at h;cases hc:fs.toList.mapM λf=>P.cellTypes d f.type with
    |none=>rw[hc] at ht;cases ht
    |some iL =>rw[hc] at ht;obtain rfl:=osj ht;refine LW (g:=λt=>P.cellTypes d t) ih h.2 ?_;rw[Dq];exact hc
theorem GP {T:Kind->TypeId->Bool}{sz:TypeId->Nat}{Q:TypeId->List Value->Prop}{R:Kind->List Value->Prop}(hT:∀ k t cs,T k t=true->Q t cs->R k cs) (hR:∀ a b cs ds,R a cs->R b ds->R (.pair a b) (cs++ds)) (cs:List Value) :
  ∀ {k:Kind}{L:List (TypeId×Nat)}{off:Nat},KFs T sz k L off=true->(∀ p∈L,Q p.1 ((cs.drop p.2).take (sz p.1)))->R k ((cs.drop off).take k.size)
 |k,[],_,h,_=>by simp[KFs] at h
 |k,[p],off,h,hq=>by simp only[KFs,z7,zT] at h;have:=hq p (by simp);rw[h.1,h.2.1] at this;exact hT _ _ _ h.2.2 this
 |.pair a b,p::q::r,off,h,hq=>by
  simp only[KFs,z7,zT] at h;have h1:=hq p (by simp);rw[h.1,h.2.1] at h1;have h2:=GP hT hR cs h.2.2.2 λx hx=>hq x (zi _ hx);have e:(cs.drop off).take (Kind.pair a b).size=(cs.drop off).take a.size++(cs.drop (off+a.size)).take b.size:=by rw[Kind.size,List.take_add,List.drop_drop]
  rw[e];exact hR _ _ _ _ (hT _ _ _ h.2.2.1 h1) h2
 |.i _,_::_::_,_,h,_|.bo,_::_::_,_,h,_|.st,_::_::_,_,h,_|.list _,_::_::_,_,h,_=>by cases h
def FlatIs (k:Kind) (cs:List Value):Prop:=∃ y:k.T,(∀ h,KC h k y cs)/\KWf k y/\∀ ρ m,LRel ρ m cs cs
theorem FlatIs.pair {a b:Kind}{cs ds:List Value}(h1:FlatIs a cs) (h2:FlatIs b ds):FlatIs (.pair a b) (cs++ds):=by obtain⟨x,k1,k2,k3⟩:=h1;obtain⟨y,m1,m2,m3⟩:=h2;exact⟨(x,y),λh=>⟨cs,ds,rfl,k1 h,m1 h⟩,⟨k2,m2⟩,fun ρ m=>(k3 ρ m).append (m3 ρ m)⟩
theorem LRel.one {ρ:Plc}{n:Nat}{v c:Value}(h:VRel ρ n v c):LRel ρ n [v] [c]:=.cons h (.nil _ _)
theorem Dn {fs:Array Field}{f:Field}(h:f∈fs.toList):∃ i:Nat,fs[i]?=some f:=by obtain⟨i,hi,rfl⟩:=List.mem_iff_getElem.1 h;exact⟨i,by simp at hi;simp[hi]⟩
theorem H5 {sp:Nat->Bool}{held:Bool}:∀ {n:Nat}{k:Kind}{t:TypeId}{fuel:Nat}{cs:List Value}{x:DataW H×List MemPlace},KTy P n k t=true->k.flat=true->DataW.trod enc P w base sp held fuel t cs=some x->FlatIs k cs
 |0,_,_,_,_,_,h,_,_=>by cases h
 |n+1,k,t,fuel,cs,x,h,hf,hx=>by
  unfold KTy at h;cases hu:P.underlying t with
  |none=>rw[hu] at h;cases h
  |some u =>
   rw[hu] at h;have hR:∀ a b cs ds,((a.flat=true->FlatIs a cs)/\True)->((b.flat=true->FlatIs b ds)/\True)->(((Kind.pair a b).flat=true->FlatIs (.pair a b) (cs++ds))/\True):=λa b cs ds h1 h2=>⟨λhf=>by
    simp only[Kind.flat,z7] at hf;exact(h1.1 hf.1).pair (h2.1 hf.2),trivial⟩
   have hT:∀ k t cs,KTy P n k t=true->(∃ fuel x,DataW.trod enc P w base sp held fuel t cs=some x)->((k.flat=true->FlatIs k cs)/\True):=λk t cs h1 ⟨fuel,x,h2⟩=>⟨λhf=>H5 h1 hf h2,trivial⟩;cases u<;>first|(cases h;done)|skip
   all_goals simp only at h
   .split at h<;>first|(cases h;done)|skip
    obtain⟨b,rfl,_⟩:=DataW.trod_bool hu hx;exact⟨b,λ_=>rfl,trivial,λ_ _=>.one (.bool _)⟩
   .split at h<;>first|(cases h;done)|skip
    obtain rfl:=xh h;obtain⟨z,rfl,_,hw⟩:=DataW.trod_int hu hx;exact⟨z,λ_=>rfl,Q76 hw,λ_ _=>.one (.int _ _)⟩
   .split at h<;>first|(cases h;done)|skip
    obtain⟨s,rfl,_,hs⟩:=DataW.trod_string hu hx;exact⟨s.data.toList,λ_=>rfl,hs,λ_ _=>.one (.string _)⟩
   .split at h<;>first|(cases h;done)|(cases hf;done)
   .rename_i m e;simp only[z7,zT] at h;obtain⟨xs,m',_,_,hl,fC,hx⟩:=DataW.trod_array hu hx;have:=(GP (R:=λk cs=>(k.flat=true->FlatIs k cs)/\True) hT hR cs h.2 λp hp=>by
     simp only[zI,zF] at hp;obtain⟨i,hi,rfl⟩:=hp;have:=hx i hi;rw[z6 (by omega)] at this;exact⟨_,_,this⟩).1 hf
    rwa [x5,zy (by omega)] at this
   .rename_i fs;simp only[z7,zT] at h;obtain⟨xs,m',_,_,hl,fC,hx⟩:=DataW.trod_struct hu hx;have:=(GP (R:=λk cs=>(k.flat=true->FlatIs k cs)/\True) hT hR cs h.2 λp hp=>by
     simp only[zI] at hp;obtain⟨f,ma,rfl⟩:=hp;obtain⟨i,hi⟩:=Dn ma;have:=hx i f hi;have ic:i<fs.size:=(x8.1 hi).1;rw[z6 (by omega)] at this;exact⟨_,_,this⟩).1 hf
    rwa [x5,zy (by omega)] at this
theorem Rows.range {α:Type}{R:α->List Value->Prop}{n:Nat}{c:List Value}{x:Nat->α}:∀ (m:Nat),(∀ i,i<m->R (x i) ((c.drop (i*n)).take n))->Rows R ((List.range m).map x) (c.take (m*n))
 |0,_=>by simp;exact .nil
 |m+1,h=>by
  have e:c.take ((m+1)*n)=c.take (m*n)++(c.drop (m*n)).take n:=by rw[zK,xG,List.take_add]
  rw[List.range_succ,xQ,e];exact(Rows.range m λi hi=>h i (by omega)).append (by simpa using Rows.cons (h m (by omega)) .nil)
theorem Bz {α:Type}[Inhabited α] {m:Nat}{p:Nat->α->Prop}(h:∀ i,i<m->∃ x,p i x):∃ f:Nat->α,∀ i,i<m->p i (f i) :=
 ⟨λi=>if hi:i<m then (h i hi).choose else default,λi hi=>by simp only[hi,dif_pos];exact(h i hi).choose_spec⟩
instance KInh (k:Kind):Inhabited k.T:=⟨k.dflt⟩
theorem View.list {ρ:Plc}{U:Heap}(h:View w ρ U) {n:Nat}{k:Kind}{t e:TypeId}{fuel:Nat}{cs:List Value}{x:DataW H×List MemPlace}(hu:P.underlying t=some (.slice e)) (hs:P.cellsOf e=k.size) (hf:k.flat=true) (hk:KTy P n k e=true)
  (hx:DataW.trod enc P w 0 (λ_=>true) true fuel t cs=some x) (ai:okc P w r base [t] cs):ArgIs w ρ U (.list k) cs:=by
 rcases open_slice hu hx with⟨rfl,_⟩|⟨a,len,cap,m,fu,D,Pl,rfl,hb,hl,hm,fP,_,hel⟩
 .exact⟨ρ,U,[.slice none 0 0],[],h,More.refl _ _,.one .nilSl,⟨_,rfl,.inl ⟨rfl,rfl⟩⟩,by simp[maxLen],λ_ hx=>by cases hx⟩
 simp only[zB] at fP;subst fP;rw[hs] at hel;have mR:w.has P r base a e m:=by
  rcases BD hu (ai 0 _ t rfl rfl) with hh|⟨a',rZ,au,hh,h2⟩
  .cases hh
  .cases hh;exact h2
 obtain⟨C,row,f,aC,bE,cy⟩:=SQ mR;obtain⟨blk,off,spot⟩:=a;simp only at aC bE cy;subst cy;have gC:∀ i,(⟨blk,off,none⟩:Addr).add i=⟨blk,off+i,none⟩:=λi=>by unfold Addr.add;split<;>simp_all
 obtain⟨X,hX⟩:=Bz (α:=k.T×List Value) (m:=m) (p:=λi p=>p.2.length=k.size/\(∀ j,j<k.size->w.cell? ⟨blk,off+i*k.size+j,none⟩=p.2[j]?)/\(∀ h,KC h k p.1 p.2)/\KWf k p.1/\∀ ρ m,LRel ρ m p.2 p.2) λi hi=>by
  obtain⟨cs',h1,h2⟩:=hel i hi;obtain⟨_,k1,k2⟩:=World.cells?_some h1;obtain⟨y,m1,m2,m3⟩:=H5 hk hf h2;refine⟨(y,cs'),k1,λj hj=>?_,m1,m2,m3⟩;have:=k2 j hj;rw[gC] at this;have e2:(⟨blk,off+i*k.size,none⟩:Addr).add j=⟨blk,off+i*k.size+j,none⟩:=by unfold Addr.add;split<;>simp_all
  rw[e2] at this;exact this
 have bk:=k.size_pos;let c:List Value:=(List.range (m*k.size)).map λj=>((X (j / k.size)).2[j % k.size]?).getD undef;have cg:c.length=m*k.size:=by simp[c]
 have hdiv:∀ j,j<m*k.size->j / k.size<m:=λj hj=>Nat.div_lt_of_lt_mul (by rw[w5];exact hj);have bc:∀ j,j<m*k.size->∃ v,c[j]?=some v/\w.cell? ⟨blk,off+j,none⟩=some v/\∀ ρ m,VRel ρ m v v:=λj hj=>by
  have h1:=hX (j / k.size) (hdiv j hj);have fE:j % k.size<k.size:=wA _ bk;have h2:=h1.2.1 _ fE;have e:off+j / k.size*k.size+j % k.size=off+j:=by rw[zu,Nat.div_add_mod']
  rw[e] at h2;have h3:j % k.size<(X (j / k.size)).2.length:=by rw[h1.1];exact fE
  refine⟨(X (j / k.size)).2[j % k.size],?_,?_,fun ρ m=>(h1.2.2.2.2 ρ m).2 _ _ _ (z6 h3) (z6 h3)⟩
  .simp only[c,zU,List.getElem?_range hj,z_,z6 h3,Option.getD_some]
  .rw[h2,z6 h3]
 have mS:∀ i,i<m->(c.drop (i*k.size)).take k.size=(X i).2:=λi hi=>by
  have h1:=hX i hi;have hle:i*k.size+k.size<=m*k.size:=by have:(i+1)*k.size<=m*k.size:=zt _ hi;rw[zK] at this;omega
  apply zV;intro j;by_cases hj:j<k.size
  .rw[List.getElem?_take_of_lt hj,zz];have dD:i*k.size+j<m*k.size:=by omega
   have e1:(i*k.size+j) / k.size=i:=by rw[w5,Nat.mul_add_div bk,Nat.div_eq_of_lt hj,zL]
   have e2:(i*k.size+j) % k.size=j:=by rw[w5,Nat.mul_add_mod,xS hj]
   have h3:j<(X i).2.length:=by rw[h1.1];exact hj
   simp only[c,zU,List.getElem?_range dD,z_,e1,e2,z6 h3,Option.getD_some]
  .rw[zm (by simp;omega),zm (by omega)]
 have aF:off+m*k.size<=C.size:=by
  rcases Nat.eq_zero_or_pos (m*k.size) with h0|h0
  .omega
  .obtain⟨v,_,h2,_⟩:=bc (m*k.size-1) (by omega);unfold World.cell? at h2;simp only[aC] at h2;have:=(x8.1 (by simpa using h2)).1;omega
 obtain⟨hv,iw⟩:=h.add ⟨blk,off,m*k.size,⟨k.size,row⟩,false⟩ c aC aF (by simp[cg]) rfl (λj v hj=>by
  have bX:j<m*k.size:=by rw[<-cg];exact(zh.1 hj).1
  obtain⟨v',h1,h2,h3⟩:=bc j bX;obtain rfl:=osj (hj.symm.trans h1);exact⟨v,h2,h3 _ _⟩)
 have hlen:((List.range len).map λi=>(X i).1).length=len:=by simp
 refine⟨_,_,[.slice (some ⟨U.n,0,none⟩) len m],(List.range len).map λi=>(X i).1,hv,iw,.one ?_,⟨_,rfl,.inr ⟨U.n,0,m,c,⟨k.size,row⟩,false,false,by rw[hlen],by rw[hlen];exact hl,Heap.q0a _ _,rfl,?_,?_⟩⟩,?_,λy hy=>?_⟩
 .refine .sl _ _ _ _ _ _ (by simp) λp hp=>?_;simp[Plc.put] at hp;subst hp;exact⟨zf _,(λh=>by cases h),.inr ⟨0,by simp,by simp,.inl rfl⟩⟩
 .rw[hlen,cg,x3];exact zt _ hl
 .rw[hlen,x5];refine Rows.range len λi hi=>?_;rw[mS i (by omega)];exact(hX i (by omega)).2.2.1 _
 .rw[hlen];exact zX hl hm
 .obtain⟨i,hi,rfl⟩:=zI.1 hy;exact(hX i (by have:=zF.1 hi;omega)).2.2.2.1
theorem View.listH {ρ:Plc}{U:Heap}(h:View w ρ U) {n:Nat}{k:Kind}{t e:TypeId}{fuel:Nat}{cs:List Value}{x:DataW H×List MemPlace}(hu:P.underlying t=some (.slice e)) (hs:P.cellsOf e=k.size) (hf:k.flat=true) (hk:KTy P n k e=true)
  (hx:DataW.trod enc P w 0 (λ_=>true) true fuel t cs=some x) (hA:∃ (b:Nat) (C:Array Value) (e:TypeId) (f:Nat×Nat),w.heap[b]?=some (Obj.cells C e f)):ArgIs w ρ U (.list k) cs:=by
 rcases open_slice hu hx with⟨rfl,_⟩|⟨a,len,cap,m,fu,D,Pl,rfl,hb,hl,hm,fP,_,hel⟩
 .exact⟨ρ,U,[.slice none 0 0],[],h,More.refl _ _,.one .nilSl,⟨_,rfl,.inl ⟨rfl,rfl⟩⟩,by simp[maxLen],λ_ hx=>by cases hx⟩
 simp only[zB] at fP;subst fP;rw[hs] at hel;have bk:=k.size_pos;by_cases cQ:m=0
 .
  subst cQ;obtain rfl:len=0:=by omega
  obtain⟨b0,C0,e0,f0,p_⟩:=hA;obtain⟨hv,iw⟩:=h.add ⟨b0,0,0,⟨k.size,e0⟩,false⟩ [] p_ (Nat.zero_le _) (zf _) rfl (λj v hj=>by simp at hj);refine⟨_,_,[.slice (some ⟨U.n,0,none⟩) 0 0],[],hv,iw,.one ?_,⟨_,rfl,.inr ⟨U.n,0,0,[],⟨k.size,e0⟩,false,false,rfl,zf _,Heap.q0a _ _,rfl,?_,?_⟩⟩,by simp[KWf],λy hy=>by cases hy⟩
  .refine .sl _ _ _ _ _ _ (by simp) λp hp=>⟨zf _,λ_=>rfl,.inl ⟨rfl,rfl⟩⟩
  .simp
  .simpa using Rows.nil
 obtain⟨C,row,f,aC,bE,cy⟩:∃ C row f,w.heap[a.block]?=some (Obj.cells C row f)/\a.off<=C.size/\a.spot=none:=by
  obtain⟨cs',h1,_⟩:=hel 0 (by omega);obtain⟨_,c1,c2⟩:=World.cells?_some h1;have c3:=c2 0 bk;have e0:(a.add (0*k.size)).add 0=a:=by simp[Addr.add]
  rw[e0,z6 (by omega)] at c3;unfold World.cell? at c3;split at c3
  .rename_i C row f aC;split at c3
   .cases c3
   .rename_i hs;exact⟨C,row,f,aC,Nat.le_of_lt (x8.1 c3).1,by simpa using hs⟩
  .cases c3
 obtain⟨blk,off,spot⟩:=a;simp only at aC bE cy;subst cy;have gC:∀ i,(⟨blk,off,none⟩:Addr).add i=⟨blk,off+i,none⟩:=λi=>by unfold Addr.add;split<;>simp_all
 obtain⟨X,hX⟩:=Bz (α:=k.T×List Value) (m:=m) (p:=λi p=>p.2.length=k.size/\(∀ j,j<k.size->w.cell? ⟨blk,off+i*k.size+j,none⟩=p.2[j]?)/\(∀ h,KC h k p.1 p.2)/\KWf k p.1/\∀ ρ m,LRel ρ m p.2 p.2) λi hi=>by
  obtain⟨cs',h1,h2⟩:=hel i hi;obtain⟨_,k1,k2⟩:=World.cells?_some h1;obtain⟨y,m1,m2,m3⟩:=H5 hk hf h2;refine⟨(y,cs'),k1,λj hj=>?_,m1,m2,m3⟩;have:=k2 j hj;rw[gC] at this;have e2:(⟨blk,off+i*k.size,none⟩:Addr).add j=⟨blk,off+i*k.size+j,none⟩:=by unfold Addr.add;split<;>simp_all
  rw[e2] at this;exact this
 let c:List Value:=(List.range (m*k.size)).map λj=>((X (j / k.size)).2[j % k.size]?).getD undef;have cg:c.length=m*k.size:=by simp[c]
 have hdiv:∀ j,j<m*k.size->j / k.size<m:=λj hj=>Nat.div_lt_of_lt_mul (by rw[w5];exact hj);have bc:∀ j,j<m*k.size->∃ v,c[j]?=some v/\w.cell? ⟨blk,off+j,none⟩=some v/\∀ ρ m,VRel ρ m v v:=λj hj=>by
  have h1:=hX (j / k.size) (hdiv j hj);have fE:j % k.size<k.size:=wA _ bk;have h2:=h1.2.1 _ fE;have e:off+j / k.size*k.size+j % k.size=off+j:=by rw[zu,Nat.div_add_mod']
  rw[e] at h2;have h3:j % k.size<(X (j / k.size)).2.length:=by rw[h1.1];exact fE
  refine⟨(X (j / k.size)).2[j % k.size],?_,?_,fun ρ m=>(h1.2.2.2.2 ρ m).2 _ _ _ (z6 h3) (z6 h3)⟩
  .simp only[c,zU,List.getElem?_range hj,z_,z6 h3,Option.getD_some]
  .rw[h2,z6 h3]
 have mS:∀ i,i<m->(c.drop (i*k.size)).take k.size=(X i).2:=λi hi=>by
  have h1:=hX i hi;have hle:i*k.size+k.size<=m*k.size:=by have:(i+1)*k.size<=m*k.size:=zt _ hi;rw[zK] at this;omega
  apply zV;intro j;by_cases hj:j<k.size
  .rw[List.getElem?_take_of_lt hj,zz];have dD:i*k.size+j<m*k.size:=by omega
   have e1:(i*k.size+j) / k.size=i:=by rw[w5,Nat.mul_add_div bk,Nat.div_eq_of_lt hj,zL]
   have e2:(i*k.size+j) % k.size=j:=by rw[w5,Nat.mul_add_mod,xS hj]
   have h3:j<(X i).2.length:=by rw[h1.1];exact hj
   simp only[c,zU,List.getElem?_range dD,z_,e1,e2,z6 h3,Option.getD_some]
  .rw[zm (by simp;omega),zm (by omega)]
 have aF:off+m*k.size<=C.size:=by
  rcases Nat.eq_zero_or_pos (m*k.size) with h0|h0
  .omega
  .obtain⟨v,_,h2,_⟩:=bc (m*k.size-1) (by omega);unfold World.cell? at h2;simp only[aC] at h2;have:=(x8.1 (by simpa using h2)).1;omega
 obtain⟨hv,iw⟩:=h.add ⟨blk,off,m*k.size,⟨k.size,row⟩,false⟩ c aC aF (by simp[cg]) rfl (λj v hj=>by
  have bX:j<m*k.size:=by rw[<-cg];exact(zh.1 hj).1
  obtain⟨v',h1,h2,h3⟩:=bc j bX;obtain rfl:=osj (hj.symm.trans h1);exact⟨v,h2,h3 _ _⟩)
 have hlen:((List.range len).map λi=>(X i).1).length=len:=by simp
 refine⟨_,_,[.slice (some ⟨U.n,0,none⟩) len m],(List.range len).map λi=>(X i).1,hv,iw,.one ?_,⟨_,rfl,.inr ⟨U.n,0,m,c,⟨k.size,row⟩,false,false,by rw[hlen],by rw[hlen];exact hl,Heap.q0a _ _,rfl,?_,?_⟩⟩,?_,λy hy=>?_⟩
 .refine .sl _ _ _ _ _ _ (by simp) λp hp=>?_;simp[Plc.put] at hp;subst hp;exact⟨zf _,(λh=>by cases h),.inr ⟨0,by simp,by simp,.inl rfl⟩⟩
 .rw[hlen,cg,x3];exact zt _ hl
 .rw[hlen,x5];refine Rows.range len λi hi=>?_;rw[mS i (by omega)];exact(hX i (by omega)).2.2.1 _
 .rw[hlen];exact zX hl hm
 .obtain⟨i,hi,rfl⟩:=zI.1 hy;exact(hX i (by have:=zF.1 hi;omega)).2.2.2.1
theorem View.list2 {ρ:Plc}{U:Heap}(h:View w ρ U) {n:Nat}{k:Kind}{t e e2:TypeId}{fuel:Nat}{cs:List Value}{x:DataW H×List MemPlace}(hu:P.underlying t=some (.slice e)) (hs:P.cellsOf e=1)
  (kW:P.underlying e=some (.slice e2)) (dL:P.cellsOf e2=k.size) (hf:k.flat=true) (hk:KTy P n k e2=true)
  (hx:DataW.trod enc P w 0 (λ_=>true) true fuel t cs=some x) (ai:okc P w r base [t] cs):ArgIs w ρ U (.list (.list k)) cs:=by
 rcases open_slice hu hx with⟨rfl,_⟩|⟨a,len,cap,m,fu,D,Pl,rfl,hb,hl,hm,fP,_,hel⟩
 .exact⟨ρ,U,[.slice none 0 0],[],h,More.refl _ _,.one .nilSl,⟨_,rfl,.inl ⟨rfl,rfl⟩⟩,by simp[maxLen],λ_ hx=>by cases hx⟩
 simp only[zB] at fP;subst fP;rw[hs] at hel;have mR:w.has P r base a e m:=by
  rcases BD hu (ai 0 _ t rfl rfl) with hh|⟨a',rZ,au,hh,h2⟩
  .cases hh
  .cases hh;exact h2
 obtain⟨C,row,f,aC,bE,cy⟩:=SQ mR;obtain⟨blk,off,spot⟩:=a;simp only at aC bE cy;subst cy;have gC:∀ i,(⟨blk,off,none⟩:Addr).add i=⟨blk,off+i,none⟩:=λi=>by unfold Addr.add;split<;>simp_all
 have rows:∀ j,j<=m->∃ ρ' U',∃ vs:List Value,∃ xs:List (List k.T),View w ρ' U'/\More ρ U ρ' U'/\vs.length=j/\xs.length=j/\(∀ (i:Nat) v,vs[i]?=some v->∃ u,w.cell? ⟨blk,off+i,none⟩=some u/\VRel ρ' U'.n v u) /\
   Rows (KC U' (.list k)) xs vs/\∀ y∈xs,KWf (.list k) y:=by
  intro j;induction j with
  |zero=>exactλ_=>⟨ρ,U,[],[],h,More.refl _ _,rfl,rfl,λi v hi=>by simp at hi,.nil,λy hy=>by cases hy⟩
  |succ j ih =>
   intro hj;obtain⟨ρ1,σ1,vs,xs,k1,k2,k3,k4,k5,k6,k7⟩:=ih (by omega);obtain⟨cs',h1,h2⟩:=hel j (by omega);obtain⟨_,c1,c2⟩:=World.cells?_some h1;have c3:=c2 0 (by omega);obtain⟨u,rfl⟩:=x7.1 c1;have jI:((⟨blk,off,none⟩:Addr).add (j*1)).add 0=⟨blk,off+j,none⟩:=by rw[gC,wP];unfold Addr.add;split<;>simp_all
   rw[jI] at c3;have c4:w.cell? ⟨blk,off+j,none⟩=some u:=c3;obtain⟨ρ2,σ2,vv,y,m1,m2,m3,m4,m5⟩:=k1.listH kW dL hf hk h2 ⟨blk,C,row,f,aC⟩;have nH:vv.length=1:=by obtain⟨v,rfl,_⟩:=m4;rfl
   obtain⟨v,rfl⟩:=x7.1 nH;refine⟨ρ2,σ2,vs++[v],xs++[y],m1,k2.trans m2,by rw[zJ,k3];rfl,by rw[zJ,k4];rfl,λi v' hi=>?_,?_,λz hz=>?_⟩
   .by_cases cq:i<vs.length
    .rw[xe cq] at hi;obtain⟨u',g1,g2⟩:=k5 i v' hi;exact⟨u',g1,g2.mono m2.n m2.pl⟩
    .have ic:i<(vs++[v]).length:=(zh.1 hi).1;rw[zJ,xp] at ic;have vC:i=j:=by omega
     subst vC;rw[xk (by omega),k3,xP] at hi;obtain rfl:=osj hi;exact⟨u,c4,m3.2 0 _ _ rfl rfl⟩
   .exact(k6.mono λ_ _ hc=>KC.mono m2.le hc).append (by simpa using Rows.cons m4 .nil)
   .rcases zQ.1 hz with hz|hz
    .exact k7 z hz
    .rw[zp.1 hz];exact m5
 obtain⟨ρ1,σ1,vs,xs,k1,k2,k3,k4,k5,k6,k7⟩:=rows m (zf _);have aF:off+m<=C.size:=by
  rcases Nat.eq_zero_or_pos m with h0|h0
  .omega
  .obtain⟨u,h2,_⟩:=k5 (m-1) _ (z6 (by omega));unfold World.cell? at h2;simp only[aC] at h2;have:=(x8.1 (by simpa using h2)).1;omega
 obtain⟨hv,iw⟩:=k1.add ⟨blk,off,m,⟨1,row⟩,false⟩ vs aC aF (by simp[k3]) rfl (λj v hj=>k5 j v hj);have hR:Rows (KC (σ1.push (.cells vs ⟨1,row⟩ false false)) (.list k)) xs vs:=k6.mono λ_ _ hc=>KC.mono iw.le hc;have hlen:(xs.take len).length=len:=by rw[xE,k4];omega
 have pr:(Kind.list k).size=1:=rfl;refine⟨_,_,[.slice (some ⟨σ1.n,0,none⟩) len m],xs.take len,hv,k2.trans iw,.one ?_,⟨_,rfl,.inr ⟨σ1.n,0,m,vs,⟨1,row⟩,false,false,by rw[hlen],by rw[hlen];exact hl,Heap.q0a _ _,rfl,?_,?_⟩⟩,?_,λy hy=>?_⟩
 .refine .sl _ _ _ _ _ _ (by simp) λp hp=>?_;simp[Plc.put] at hp;subst hp;exact⟨zf _,(λh=>by cases h),.inr ⟨0,by simp,by simp,.inl rfl⟩⟩
 .rw[pr,k3];omega
 .rw[hlen,pr,x5];exact Rows.take (λ_ _ hc=>KC.length hc) hR len
 .rw[hlen];exact zX hl hm
 .exact k7 y (List.mem_of_mem_take hy)
def Kind.lev1:Kind->Bool
 |.list k=>k.flat||k.row
 |.pair a b=>a.lev1&&b.lev1
 |_=>true
theorem CZ {ts:List TypeId}{cs:List Value}(h:okc P w r base ts cs) (o n:Nat):okc P w r base ((ts.drop o).take n) ((cs.drop o).take n):=λi v u h1 h2=>by
 have hi:i<n:=by have:=(zh.1 h1).1;rw[xE] at this;omega
 rw[List.getElem?_take_of_lt hi,zz] at h1 h2;exact h _ v u h1 h2
theorem HF {T:Kind->TypeId->Bool}{sz:TypeId->Nat}{g:TypeId->Option (List TypeId)}(hT:∀ k t ts,T k t=true->g t=some ts->ts.length=k.size) :
  ∀ {k:Kind}{L:List (TypeId×Nat)}{off:Nat}{iL:List (List TypeId)},KFs T sz k L off=true->L.mapM (λp=>g p.1)=some iL->∀ p∈L,off<=p.2/\g p.1=some ((iL.flatten.drop (p.2-off)).take (sz p.1))
 |k,[],_,_,h,_=>by simp[KFs] at h
 |k,[p],off,iL,h,hm=>by
  simp only[KFs,z7,zT] at h;intro p' hp;obtain rfl:=zp.1 hp;cases hg:g p'.1 with
  |none=>simp[hg] at hm
  |some ts =>
   simp[hg] at hm;subst hm;refine⟨by omega,?_⟩;rw[h.1,xP,x5,h.2.1,zy]
   .simp
   .simp[hT _ _ _ h.2.2 hg]
 |.pair a b,p::q::r,off,iL,h,hm=>by
  simp only[KFs,z7,zT] at h;rw[xt] at hm;intro p' hp;cases hg:g p.1 with
  |none=>simp[hg] at hm
  |some ts =>
   cases hr:(q::r).mapM (λp=>g p.1) with
   |none=>simp[hg,hr] at hm
   |some tr =>
    simp[hg,hr] at hm;subst hm;have hlen:=hT _ _ _ h.2.2.1 hg;rcases zo.1 hp with rfl|hp
    .refine⟨by omega,?_⟩;rw[hg,h.1,xP,x5,h.2.1,List.flatten_cons,List.take_append,<-hlen,xP,wB,xJ,List.take_length]
    .obtain⟨h1,h2⟩:=HF hT h.2.2.2 hr p' hp;refine⟨by omega,?_⟩;have e1:ts.drop (p'.2-off)=[]:=List.drop_eq_nil_of_le (by omega);have e2:p'.2-off-a.size=p'.2-(off+a.size):=by omega
     rw[h2,List.flatten_cons,List.drop_append,hlen,e1,e2,xl]
 |.i _,_::_::_,_,_,h,_|.bo,_::_::_,_,_,h,_|.st,_::_::_,_,_,h,_|.list _,_::_::_,_,_,h,_=>by cases h
theorem RC:∀ {n:Nat}{k:Kind}{t:TypeId}{d:Nat}{ts:List TypeId}{fuel:Nat}{cs:List Value}{x:DataW H×List MemPlace},KTy P n k t=true->k.lev1=true->P.cellTypes d t=some ts->okc P w r base ts cs->DataW.trod enc P w 0 (λ_=>true) true fuel t cs=some x->∀ ρ U,View w ρ U->ArgIs w ρ U k cs
 |0,_,_,_,_,_,_,_,h,_,_,_,_=>by cases h
 |_+1,_,_,0,_,_,_,_,_,_,h,_,_=>by cases h
 |n+1,k,t,d+1,ts,fuel,cs,x,h,hf,fA,ai,hx=>by
  intro ρ U hv;by_cases bH:k.flat=true
  .obtain⟨y,h1,h2,h3⟩:=H5 h bH hx;exact⟨ρ,U,cs,y,hv,More.refl _ _,h3 _ _,h1 _,h2⟩
  unfold KTy at h;cases hu:P.underlying t with
  |none=>rw[hu] at h;cases h
  |some u =>
   rw[hu] at h;let Q:TypeId->List Value->Prop:=λt cs=>(∃ fuel x,DataW.trod enc P w 0 (λ_=>true) true fuel t cs=some x)/\∃ ts,P.cellTypes d t=some ts/\okc P w r base ts cs;let R:Kind->List Value->Prop:=λk cs=>k.lev1=true->∀ ρ U,View w ρ U->ArgIs w ρ U k cs;have hR:∀ a b cs ds,R a cs->R b ds->R (.pair a b) (cs++ds):=λa b cs ds h1 h2 hl ρ U hv=>by simp only[Kind.lev1,z7] at hl;exact(h1 hl.1 ρ U hv).pair fun ρ U hv=>h2 hl.2 ρ U hv
   have hT:∀ k t cs,KTy P n k t=true->Q t cs->R k cs:=λk t cs h1 ⟨⟨fuel,x,h2⟩,ts,h3,h4⟩ hl=>RC h1 hl h3 h4 h2;have hlen:∀ k t ts,KTy P n k t=true->P.cellTypes d t=some ts->ts.length=k.size:=λk t ts h1 h2=>Cf h1 h2;unfold Program.cellTypes at fA;rw[hu] at fA;cases u<;>first|(cases h;done)|skip
   all_goals simp only at h
   .split at h<;>first|(cases h;done)|(exact absurd rfl bH)
   .split at h<;>first|(cases h;done)|(exact absurd rfl bH)
   .split at h<;>first|(cases h;done)|(exact absurd rfl bH)
   .rename_i e;split at h<;>first|(cases h;done)|skip
    simp only[z7,zT] at h;simp only[x6] at fA;subst fA;rcases zC _ _▸h.2.1 with hk|hk
    .exact hv.list hu h.1 hk h.2.2 hx ai
    .rename_i k';rw[z7] at hk;obtain⟨hk,fh⟩:=hk;cases k'<;>first|(cases hk;done)|skip
     rename_i k2;have h3:=h.2.2;unfold Z3r at fh;split at fh<;>first|(cases fh;done)|skip
     rename_i e2 kW;cases n with
     |zero=>cases h3
     |succ n =>unfold KTy at h3;rw[kW] at h3;simp only[z7,zT] at h3;exact hv.list2 hu h.1 kW h3.1 hk h3.2.2 hx ai
   .rename_i m e;simp only[z7,zT] at h;obtain⟨xs,m',_,_,hl,fC,hx⟩:=DataW.trod_array hu hx;simp only at fA;cases hc:P.cellTypes d e with
    |none=>rw[hc] at fA;cases fA
    |some te =>
     rw[hc] at fA;obtain rfl:=osj fA;have od:((List.range m).map λi=>(e,i*P.cellsOf e)).mapM (λp:TypeId×Nat=>P.cellTypes d p.1)=some (List.replicate m te):=by rw[Dq,DV (x:=te) (λ_=>hc)];simp
     have:=GP (Q:=Q) (R:=R) hT hR cs h.2 (λp hp=>by
      have kS:=HF (g:=λt=>P.cellTypes d t) hlen h.2 od p hp;simp only[zI,zF] at hp;obtain⟨i,hi,rfl⟩:=hp;have:=hx i hi;rw[z6 (by omega)] at this;exact⟨⟨_,_,this⟩,_,kS.2,CZ ai _ _⟩) hf ρ U hv
     rwa [x5,zy (by omega)] at this
   .rename_i fs;simp only[z7,zT] at h;obtain⟨xs,m',_,_,hl,fC,hx⟩:=DataW.trod_struct hu hx;simp only at fA;cases hc:fs.toList.mapM λf=>P.cellTypes d f.type with
    |none=>rw[hc] at fA;cases fA
    |some iL =>
     rw[hc] at fA;obtain rfl:=osj fA;have od:(fs.toList.map λf=>(f.type,f.offset)).mapM (λp:TypeId×Nat=>P.cellTypes d p.1)=some iL:=by rw[Dq];exact hc
     have:=GP (Q:=Q) (R:=R) hT hR cs h.2 (λp hp=>by
      have kS:=HF (g:=λt=>P.cellTypes d t) hlen h.2 od p hp;simp only[zI] at hp;obtain⟨f,ma,rfl⟩:=hp;obtain⟨i,hi⟩:=Dn ma;have:=hx i f hi;have ic:i<fs.size:=(x8.1 hi).1;rw[z6 (by omega)] at this;exact⟨⟨_,_,this⟩,_,kS.2,CZ ai _ _⟩) hf ρ U hv
     rwa [x5,zy (by omega)] at this
def isAgg (P:Program) (t:TypeId):Bool:=match P.underlying t with
 |some (.struct _)=>true
 |some (.array _ _)=>true
 |_=>false
theorem View.arg {ρ:Plc}{U:Heap}(h:View w ρ U) {n:Nat}{k:Kind}{t:TypeId}{v:Value}{d:DataW H}{p:List MemPlace}(hk:KTy P n k t=true) (hl:k.lev1=true) (ha:isAgg P t=!k.one) (ai:Value.okWide P w r base t v) (hd:DataW.Trod enc P w 0 (λ_=>true) true t v d p) :
  ∃ ρ' U' vv x,View w ρ' U'/\More ρ U ρ' U'/\VRel ρ' U'.n vv v/\KV U' k x vv/\KWf k x:=by
 obtain⟨fuel,hd⟩:=hd;by_cases eN:isAgg P t=true
 .have bF:k.one=false:=by rw[eN] at ha;simpa using ha.symm
  have:∃ cs,v=.agg cs/\cs.size=P.cellsOf t/\Row.okWide P w r base t cs:=by
   unfold isAgg at eN;unfold Value.okWide at ai;split at eN<;>first|(cases eN;done)|skip
   .rename_i hu;rw[hu] at ai;exact ai
   .rename_i hu;rw[hu] at ai;exact ai
  obtain⟨cs,rfl,aF,ts,fA,_,cU⟩:=this;have hlen:=Cf hk fA;have aA:P.cellsOf t=k.size:=by
   unfold isAgg at eN;cases n with
   |zero=>cases hk
   |succ n =>
    unfold KTy at hk;split at eN<;>first|(cases eN;done)|skip
    all_goals
     rename_i hu;rw[hu] at hk;simp only[z7,zT] at hk;exact hk.1
  have mT:okc P w r base ts cs.toList:=λi v u h1 h2=>by have hi:i<ts.length:=(zh.1 h2).1;obtain⟨u',h3,h4⟩:=cU i v (by simpa using h1);rw[xS hi] at h3;obtain rfl:=osj (h2.symm.trans h3);exact h4
  obtain⟨ρ',U',vs,x,k1,k2,k3,k4,k5⟩:=RC hk hl fA mT (show DataW.trod enc P w 0 _ true fuel t cs.toList=_ from hd) ρ U h;exact⟨ρ',U',.agg vs.toArray,x,k1,k2,VRel.q1n (ds:=cs.toList) k3,.inr ⟨bF,vs,rfl,k4⟩,k5⟩
 .have bF:k.one=true:=by
   have:isAgg P t=false:=by simpa using eN
   rw[this] at ha;simpa using ha.symm
  have ji:=Kind.q1o bF;have bc:Cell.okWide P w r base t v/\v.cells.toList=[v]:=by
   have h1:isAgg P t=false:=by simpa using eN
   unfold isAgg at h1;have h2:Cell.okWide P w r base t v:=by
    unfold Value.okWide at ai;split at ai
    .rename_i hu;rw[hu] at h1;cases h1
    .rename_i hu;rw[hu] at h1;cases h1
    .exact ai
   refine⟨h2,?_⟩;cases v<;>first|rfl|skip
   all_goals
    exfalso;cases n with
    |zero=>cases hk
    |succ n =>
     unfold KTy at hk;unfold Cell.okWide Cell.ok at h2;cases hu:P.underlying t with
     |none=>rw[hu] at hk;cases hk
     |some u =>rw[hu] at hk h2 h1;cases u<;>first|(cases hk;done)|(cases h1;done)|(cases h2;done)|(simp at h2;done)
  have fA:P.cellTypes 1 t=some [t]:=by
   have h1:isAgg P t=false:=by simpa using eN
   unfold isAgg at h1;unfold Program.cellTypes;cases n with
   |zero=>cases hk
   |succ n =>
    unfold KTy at hk;cases hu:P.underlying t with
    |none=>rw[hu] at hk;cases hk
    |some u =>rw[hu] at h1;cases u<;>first|rfl|(cases h1;done)
  rw[bc.2] at hd;have mT:okc P w r base [t] [v]:=λi v' u h1 h2=>by
   cases i with
   |zero=>cases h1;cases h2;exact bc.1
   |succ i=>simp at h1
  obtain⟨ρ',U',vs,x,k1,k2,k3,k4,k5⟩:=RC hk hl fA mT hd ρ U h;have:vs.length=1:=by rw[KC.length k4];exact ji
  obtain⟨vv,rfl⟩:=x7.1 this;exact⟨ρ',U',vv,x,k1,k2,k3.2 0 _ _ rfl rfl,.inl ⟨bF,k4⟩,k5⟩
def AWf:(ks:List Kind)->AT ks->Prop
 |[],_=>True
 |[k],x=>KWf k x
 |k::k'::ks,x=>KWf k x.1/\AWf (k'::ks) x.2
def Q64 (P:Program):List Kind->List TypeId->Bool
 |[],[]=>true
 |k::ks,t::ts=>(KTy P 8 k t&&(k.lev1&&(isAgg P t==!k.one)))&&Q64 P ks ts
 |_,_=>false
theorem View.args:∀ {ks:List Kind}{ts:List TypeId}{vs:List Value}{ds:List (DataW H)}{ps:List MemPlace}{ρ:Plc}{U:Heap},View w ρ U->Q64 P ks ts=true->(∀ (j:Nat) t v,ts[j]?=some t->vs[j]?=some v->Value.okWide P w r base t v)->DataW.TrodAll enc P w 0 (λ_=>true) true ts vs ds ps ->
  ∃ ρ' U' ny x,View w ρ' U'/\More ρ U ρ' U'/\LRel ρ' U'.n ny vs/\TH U' ks x ny/\AWf ks x
 |[],[],vs,ds,ps,ρ,U,h,_,_,hA=>by obtain⟨rfl,rfl,rfl⟩:=trodAll_nil hA;exact⟨ρ,U,[],(),h,More.refl _ _,.nil _ _,rfl,trivial⟩
 |[k],[t],vs,ds,ps,ρ,U,h,hk,hv,hA=>by obtain⟨v,cW,d,ds',p,q,rfl,rfl,rfl,h1,h2⟩:=trodAll_cons hA;obtain⟨rfl,rfl,rfl⟩:=trodAll_nil h2;simp only[Q64,z7,zT] at hk;obtain⟨ρ',U',vv,x,k1,k2,k3,k4,k5⟩:=h.arg hk.1.1 hk.1.2.1 hk.1.2.2 (hv 0 t v rfl rfl) h1;exact⟨ρ',U',[vv],x,k1,k2,.one k3,⟨vv,rfl,k4⟩,k5⟩
 |k::k'::ks,t::ts,vs,ds,ps,ρ,U,h,hk,hv,hA=>by obtain⟨v,cW,d,ds',p,q,rfl,rfl,rfl,h1,h2⟩:=trodAll_cons hA;simp only[Q64,z7,zT] at hk;obtain⟨ρ1,σ1,vv,x,k1,k2,k3,k4,k5⟩:=h.arg hk.1.1 hk.1.2.1 hk.1.2.2 (hv 0 t v rfl rfl) h1;obtain⟨ρ2,σ2,ny,y,m1,m2,m3,m4,m5⟩:=k1.args (ks:=k'::ks) hk.2 (λj t v h1 h2=>hv (j+1) t v h1 h2) h2;exact⟨ρ2,σ2,vv::ny,(x,y),m1,k2.trans m2,.cons (k3.mono m2.n m2.pl) m3,⟨vv,ny,rfl,k4.vcall m2.le,m4⟩,k5,m5⟩
 |[],_::_,_,_,_,_,_,_,hk,_,_|_::_,[],_,_,_,_,_,_,hk,_,_|[_],_::_::_,_,_,_,_,_,_,hk,_,_=>by simp[Q64] at hk
theorem Ij (hT:Z45 w) {f:Nat}{sp:CSp}(cy:OkC P f sp) (he:J8 P f) {ks:List Kind}{ts:List TypeId}{args:Array Value}{ds:List (DataW H)}{ps:List MemPlace}(hk:Q64 P ks ts=true)
  (hv:∀ (j:Nat) t v,ts[j]?=some t->args.toList[j]?=some v->Value.okWide P w r base t v) (hA:DataW.TrodAll enc P w 0 (λ_=>true) true ts args.toList ds ps)
  (hs:∀ x:AT ks,AWf ks x->∃ c,sp (λ_ _=>none) (RP ks x)=some (c,.val .bo true,[])/\c):Calls P f args w λe w'=>e=.returned (.bool true)/\Below w.heap.size w w':=by
 obtain⟨ρ,U,ny,x,k1,k2,k3,k4,k5⟩:=(View.emptyT w hT).args hk hv hA;obtain⟨c,h1,h2⟩:=hs x k5;exact k1.calls k3 (cy.true he (Gl k4) h1 h2)
end
end Go.V
namespace Go.V
open Go
theorem PF {H:Type}{enc:TypeId×Value->H}{P:Program}{w:World}{b:Nat}{sp:Nat->Bool}{hd:Bool}:∀ {ts:List TypeId}{vs:List Value}{ds:List (DataW H)}{ps:List MemPlace},DataW.TrodAll enc P w b sp hd ts vs ds ps->ds.length=ts.length
 |[],[],[],_,_=>rfl
 |t::ts,v::vs,d::ds,ps,h=>by obtain⟨p,q,_,h2,_⟩:=h;simp[PF h2]
 |[],[],_::_,_,h|[],_::_,_,_,h|_::_,[],_,_,h|_::_,_::_,[],_,h=>h.elim
end Go.V
namespace Go.Proofs.Tryz
open Go Go.V Go.Proofs
theorem Hp {n mo:Nat}{wv:Nat->Int->Bool}{k:Nat}{L L':List ((Int×Int)×Int)}(h:(Z3 n mo).map (λq=>(q,wyK n mo wv k q))=L)
  (h':(Z3 n mo).map (λq=>(q,((Z3 n mo).map λp=>BE n mo (wv k) p (XA L p) q).sum))=L'):(Z3 n mo).map (λq=>(q,wyK n mo wv (k+1) q))=L':=by
 have hL:∀ p∈Z3 n mo,XA L p=wyK n mo wv k p:=λp hp=>by
  have hn:(L.map (·.1)).Nodup:=by
   rw[<-h,wM];have:((λx:(Int×Int)×Int=>x.1) ∘ λq=>(q,wyK n mo wv k q))=id:=rfl;rw[this,List.map_id];exact K0 n mo
  have hm:(p,wyK n mo wv k p)∈L:=by rw[<-h];exact zI.2 ⟨p,hp,rfl⟩
  exact FU hn hm
 rw[<-h'];refine x9 λq _=>?_;have:((Z3 n mo).map λp=>BE n mo (wv k) p (XA L p) q)=(Z3 n mo).map λp=>BE n mo (wv k) p (wyK n mo wv k p) q:=x9 λp hp=>by rw[hL p hp]
 rw[this];rfl
def five:List UC:=[(0,1,false),(3,8,false),(1,2,false),(2,4,false),(4,15,false)]
def clo5:List Int:=[8,2,2,-1,1]
theorem Q8n:(Z3 5 2).map (λq=>(q,wyK 5 2 (λk=>wvB 4 five clo5 k) 0 q))=[((0,0),1),((0,1),0),((0,2),0),((1,0),1),((1,1),0),((1,2),0),((2,0),1),((2,1),0),((2,2),0),((3,0),1),((3,1),0),((3,2),0),((4,0),1),((4,1),0),((4,2),0)]:=by kernel_rfl
theorem Q9q:(Z3 5 2).map (λq=>(q,wyK 5 2 (λk=>wvB 4 five clo5 k) 1 q))=[((0,0),0),((0,1),0),((0,2),0),((1,0),0),((1,1),1),((1,2),0),((2,0),1),((2,1),0),((2,2),0),((3,0),0),((3,1),1),((3,2),0),((4,0),0),((4,1),0),((4,2),0)]:=Hp Q8n (by kernel_rfl)
theorem Q8t:(Z3 5 2).map (λq=>(q,wyK 5 2 (λk=>wvB 4 five clo5 k) 2 q))=[((0,0),0),((0,1),0),((0,2),0),((1,0),0),((1,1),0),((1,2),0),((2,0),0),((2,1),1),((2,2),0),((3,0),1),((3,1),0),((3,2),0),((4,0),0),((4,1),1),((4,2),0)]:=Hp Q9q (by kernel_rfl)
theorem Q82:(Z3 5 2).map (λq=>(q,wyK 5 2 (λk=>wvB 4 five clo5 k) 3 q))=[((0,0),0),((0,1),0),((0,2),0),((1,0),0),((1,1),0),((1,2),0),((2,0),0),((2,1),0),((2,2),1),((3,0),0),((3,1),1),((3,2),0),((4,0),0),((4,1),0),((4,2),1)]:=Hp Q8t (by kernel_rfl)
theorem Q8d:(Z3 5 2).map (λq=>(q,wyK 5 2 (λk=>wvB 4 five clo5 k) 4 q))=[((0,0),0),((0,1),0),((0,2),2),((1,0),0),((1,1),0),((1,2),0),((2,0),0),((2,1),0),((2,2),0),((3,0),0),((3,1),0),((3,2),2),((4,0),0),((4,1),1),((4,2),0)]:=Hp Q82 (by kernel_rfl)
theorem FW:(Z3 5 2).map (λq=>(q,wyK 5 2 (λk=>wvB 4 five clo5 k) 5 q))=[((0,0),0),((0,1),0),((0,2),0),((1,0),0),((1,1),0),((1,2),2),((2,0),0),((2,1),0),((2,2),0),((3,0),0),((3,1),0),((3,2),0),((4,0),0),((4,1),0),((4,2),0)]:=Hp Q8d (by kernel_rfl)
theorem It:Jd 4 five clo5 2=2:=by
 have h:(((Z3 5 2).map (λq=>(q,wyK 5 2 (λk=>wvB 4 five clo5 k) 5 q))).map λx=>x.2).sum=2:=by rw[FW];rfl
 rw[wM] at h;exact h
theorem Az:Zj 4 five clo5 2=[1]:=by
 refine DF (Ul ..) (by simp) λz=>?_;rw[YV (by decide)];have ae:∀ q∈Z3 5 2,(q,wyK 5 2 (λk=>wvB 4 five clo5 k) 5 q)∈([((0,0),0),((0,1),0),((0,2),0),((1,0),0),((1,1),0),((1,2),2),((2,0),0),((2,1),0),((2,2),0),((3,0),0),((3,1),0),((3,2),0),((4,0),0),((4,1),0),((4,2),0)]:List ((Int×Int)×Int)):=λq hq=>by rw[<-FW];exact zI.2 ⟨q,hq,rfl⟩
 constructor
 .rintro⟨f,hf⟩;have hg:=H7 5 2 (λk=>wvB 4 five clo5 k) (by decide) 5 (z,f) hf;have h:=ae _ hg;have hf:wyK 5 2 (λk=>wvB 4 five clo5 k) 5 (z,f)≠0:=hf;generalize wyK 5 2 (λk=>wvB 4 five clo5 k) 5 (z,f)=w at h hf;simp only[zo,List.not_mem_nil,or_false,Prod.mk.injEq] at h;simp only[zo,List.not_mem_nil,or_false];omega
 .intro hz;simp only[zo,List.not_mem_nil,or_false] at hz;rcases hz with rfl
  .refine⟨2,?_⟩;have hm:(((1,2),2):(Int×Int)×Int)∈(Z3 5 2).map (λq=>(q,wyK 5 2 (λk=>wvB 4 five clo5 k) 5 q)):=by rw[FW];simp
   obtain⟨q,_,hq⟩:=zI.1 hm;have h1:q=(1,2):=congrArg (λx:(Int×Int)×Int=>x.1) hq;have h2:wyK 5 2 (λk=>wvB 4 five clo5 k) 5 q=2:=congrArg (λx:(Int×Int)×Int=>x.2) hq;rw[h1] at h2;show wyK 5 2 (λk=>wvB 4 five clo5 k) 5 (1,2)≠0;rw[h2];decide
theorem TD {bl:List PB}{i:Nat}{k:Kind}(hk:k.flat=true) (xs:List k.T) {b:PB}(hb:bl[i]?=some b) (hc:b.c=(xs.map (R_ k)).flatten) (hs:b.esz.sz=k.size):SlRel (Qt bl []) k.size (λx c=>KC (Qt bl []) k x c) xs (.slice (some ⟨i,0,none⟩) xs.length xs.length):=by
 have hr:=Rows.ofEnc (h:=Qt bl []) hk xs;have hl:=hr.length KC.q0f;refine .inr ⟨i,0,xs.length,b.c,b.esz,false,b.tight,rfl,zf _,?_,hs,?_,?_⟩
 .have hi:=(zh.1 hb).1;show (if i<bl.length then (bl[i]?).map (PB.blk false) else _)=_;rw[z8 hi,hb];rfl
 .rw[hc,hl];omega
 .rw[x5,hc,zy (by rw[hl];exact zf _)];exact hr
theorem TQ {bl fr:List PB}{bs:List OB}(h:bs.map IG=fr.map λb=>some (b.blk true)):BW (Qt bl []) bs=Qt bl fr:=by
 have hl:bs.length=fr.length:=by have:=congrArg List.length h;simpa using this
 have hg:(BW (Qt bl []) bs).get=(Qt bl fr).get:=by
  funext i
  show (if i<(Qt bl []).n then (Qt bl []).get i else (bs[i-(Qt bl []).n]?).bind IG)=if i<bl.length then (bl[i]?).map (PB.blk false) else (fr[i-bl.length]?).map (PB.blk true)
  have hn:(Qt bl []).n=bl.length:=by show bl.length+0=_;omega
  rw[hn];by_cases hi:i<bl.length
  .rw[z8 hi,z8 hi];show (if i<bl.length then (bl[i]?).map (PB.blk false) else _)=_;rw[z8 hi]
  .rw[zd hi,zd hi];have:=congrArg (λl:List (Option Blk)=>l[i-bl.length]?) h;simp only[zU] at this;cases e1:bs[i-bl.length]? with
   |none =>
    rw[e1] at this;cases e2:fr[i-bl.length]? with
    |none=>rfl
    |some b=>rw[e2] at this;simp at this
   |some b =>
    rw[e1] at this;cases e2:fr[i-bl.length]? with
    |none=>rw[e2] at this;simp at this
    |some b2 =>rw[e2] at this;simp only[z_,x6] at this;simp only[xu,z_];exact this
 have hn:(BW (Qt bl []) bs).n=(Qt bl fr).n:=by show bl.length+0+bs.length=bl.length+fr.length;omega
 cases hA:BW (Qt bl []) bs with
 |mk g n w =>
  cases hB:Qt bl fr with
  |mk g' n' w' =>rw[hA,hB] at hg hn;subst hg;subst hn;rfl
abbrev Q6c:Kind:=.pair (.i .i64) (.pair (.i .i64) .bo)
def HB5:List PB:=[⟨[.int .i64 0,.int .i64 1,.bool false,.int .i64 3,.int .i64 8,.bool false,.int .i64 1,.int .i64 2,.bool false,.int .i64 2,.int .i64 4,.bool false,.int .i64 4,.int .i64 15,.bool false],⟨3,87⟩,true⟩,⟨[.int .i64 8,.int .i64 2,.int .i64 2,.int .i64 (-1),.int .i64 1],⟨1,3⟩,true⟩]
def FJ:List Value:=[.agg #[.int .i64 4,.slice (some ⟨0,0,none⟩) 5 5],.slice (some ⟨1,0,none⟩) 5 5,.int .i64 2]
def SI:List SV:=[.agg [.val (.i .i64) (4:Int),.val (.list Q6c) five],.val (.list (.i .i64)) clo5,.val (.i .i64) (2:Int)]
theorem P7:SRs Tryz.prog (Qt HB5 []) Jg Zh SI FJ:=by
 have h1:SlRel (Qt HB5 []) (Kind.size Q6c) (λx c=>KC (Qt HB5 []) Q6c x c) five (.slice (some ⟨0,0,none⟩) 5 5):=TD (bl:=HB5) (i:=0) (k:=Q6c) rfl five (b:=HB5[0]'(by decide)) rfl rfl rfl;have h2:SlRel (Qt HB5 []) (Kind.size (.i .i64)) (λx c=>KC (Qt HB5 []) (.i .i64) x c) clo5 (.slice (some ⟨1,0,none⟩) 5 5):=TD (bl:=HB5) (i:=1) (k:=.i .i64) rfl clo5 (b:=HB5[1]'(by decide)) rfl rfl rfl;have s1:SR Tryz.prog (Qt HB5 []) Jg Zh (.val (.list Q6c) five) (.slice (some ⟨0,0,none⟩) 5 5):=by simp only[SR,KC];exact⟨_,rfl,h1⟩
 have s2:SR Tryz.prog (Qt HB5 []) Jg Zh (.val (.list (.i .i64)) clo5) (.slice (some ⟨1,0,none⟩) 5 5):=by simp only[SR,KC];exact⟨_,rfl,h2⟩
 have s3:∀ n:Int,SR Tryz.prog (Qt HB5 []) Jg Zh (.val (.i .i64) n) (.int .i64 n):=λn=>JR _ _;have s0:SR Tryz.prog (Qt HB5 []) Jg Zh (.agg [.val (.i .i64) (4:Int),.val (.list Q6c) five]) (.agg #[.int .i64 4,.slice (some ⟨0,0,none⟩) 5 5]):=by simp only[SR,SRs];exact⟨_,rfl,_,_,rfl,s3 4,_,_,rfl,s1,rfl⟩
 show SRs Tryz.prog (Qt HB5 []) Jg Zh [_,_,_] [_,_,_];simp only[SRs];exact⟨_,_,rfl,s0,_,_,rfl,s2,_,_,rfl,s3 2,rfl⟩
theorem Mq:Z1 4 five=0/\clo5.length<=60/\(∀ r∈clo5,-1<=r/\r<2 ^ (4:Int).toNat)/\(0:Int)<=2/\(2:Int)<=6:=by refine⟨by decide,by decide,λr hr=>?_,by decide,by decide⟩;simp only[clo5,zo,List.not_mem_nil,or_false] at hr;have:(2:Int) ^ (4:Int).toNat=16:=rfl;omega
def Q7a:Memo:=⟨FJ,HB5,.tuple #[.int .i64 2,.int .i64 0],[]⟩
def Q2y:Memo:=⟨FJ,HB5,.tuple #[.slice (some ⟨2,0,none⟩) 1 1,.int .i64 0],[⟨[.int .i64 1],⟨1,3⟩,false⟩]⟩
theorem OG:NX Tryz.prog 27 Q7a:=by refine⟨?_,by decide⟩;have h:=(GS Nj Ku (Qt HB5 []) SI FJ _ _ [] P7 (show V5 Nj SI=some (_,.tup [.val (.i .i64) (Jd 4 five clo5 2),.val (.i .i64) (0:Int)],[]) from rfl) rfl rfl Mq).2 rfl rfl;refine VCalled.mono h λu Z hu=>?_;obtain⟨rfl,rfl⟩:=hu;rw[It];exact⟨rfl,TQ (bl:=HB5) (fr:=[]) rfl⟩
theorem F7:NX Tryz.prog 28 Q2y:=by refine⟨?_,by decide⟩;have h:=(MY Nj Ku (Qt HB5 []) SI FJ _ _ [.lst 3 (.i .i64) (Zj 4 five clo5 2) (Zj 4 five clo5 2).isEmpty] P7 (show YE Nj SI=some (_,.tup [.lst 0,.val (.i .i64) (0:Int)],_) from rfl) rfl rfl ⟨Mq.1,Mq.2.1,Mq.2.2.1,Mq.2.2.2.1,Mq.2.2.2.2⟩).2 rfl rfl;refine VCalled.mono h λu Z hu=>?_;obtain⟨rfl,rfl⟩:=hu;rw[Az];exact⟨rfl,TQ (bl:=HB5) (fr:=[⟨[.int .i64 1],⟨1,3⟩,false⟩]) rfl⟩
end Go.Proofs.Tryz