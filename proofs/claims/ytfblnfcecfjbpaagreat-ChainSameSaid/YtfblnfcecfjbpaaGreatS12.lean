/- A framework for walks, contracts of functions, and their proofs: part 12. -/
import Derived.ProofKit
import Derived.OpenShut
import Derived.LaidMore
import Derived.Carry
import Derived.Lib.SmallJoins
import Derived.Deep.Slices
import Derived.Test.YtfblnfcecfjbpaaGreatS11
set_option linter.unusedVariables false
set_option maxRecDepth 100000
namespace Go.V
open Go Go.ChangeShapes Go.WideShapes Go.RowKit Go.Deep Go.Joins
def Heap.RO (U:Heap):Prop:=∀ i b,U.get i=some b->b.wr=false
structure View (w:World) (ρ:Plc) (U:Heap):Prop where
 rel:HRel ρ U w
 ro:U.RO
structure More (ρ:Plc) (U:Heap) (ρ':Plc) (U':Heap):Prop where
 n:U.n<=U'.n
 pl:∀ i,i<U.n->∀ p,ρ' i=some p->ρ i=some p
 ag:Agree U U'
theorem More.refl (ρ:Plc) (U:Heap):More ρ U ρ U:=⟨ze _,λ_ _ _ h=>h,Agree.refl _⟩
theorem More.trans {ρ ρ' eS:Plc}{U U' aH:Heap}(h:More ρ U ρ' U') (k:More ρ' U' eS aH):More ρ U eS aH :=
 ⟨x4 h.n k.n,λi hi p hp=>h.pl i hi p (k.pl i (xj hi h.n) p hp),h.ag.trans k.ag h.n⟩
def Z5m (w:World):Prop:=∀ g cs,Q0h g=some cs->∃ e f,w.heap[g]?=some (.cells cs.toArray e f)
theorem View.emptyT (w:World) (ht:Z5m w):View w (λ_=>none) Heap.empty where
 rel:=⟨⟨λi b h=>(by cases h),λ_ _=>rfl,λi p h=>(by cases h),λi j p q b _ h=>(by cases h)⟩,λg cs hg=>⟨ht g cs hg,λ⟨_,_,_,h,_⟩=>by cases h⟩⟩
 ro:=λi b h=>by cases h
theorem View.add {w:World}{ρ:Plc}{U:Heap}(h:View w ρ U) (p:Pl) (c:List Value) {C:Array Value}{e:TypeId}{f:Nat×Nat}(hb:w.heap[p.blk]?=some (.cells C e f)) (hs:p.shift+p.ext<=C.size) (hl:c.length<=p.ext) (ht:e=p.esz.ty)
  (hc:∀ (k:Nat) (v:Value),c[k]?=some v->∃ u,w.cell? ⟨p.blk,p.shift+k,none⟩=some u/\VRel ρ U.n v u) :
  View w (ρ.put U.n (some p)) (U.push (.cells c p.esz false p.tight))/\More ρ U (ρ.put U.n (some p)) (U.push (.cells c p.esz false p.tight)):=by
 have aQ:∀ i,i<U.n->∀ q,(ρ.put U.n (some p)) i=some q->ρ i=some q:=λi hi q hq=>by unfold Plc.put at hq;rwa [z1 (by omega)] at hq
 have bO:(U.push (.cells c p.esz false p.tight)).RO:=λi b hi=>by
  by_cases e:i=U.n
  .subst e;rw[Heap.q0a] at hi;obtain rfl:=osj hi;rfl
  .rw[Heap.q0e _ _ e] at hi;exact h.ro i b hi
 refine⟨⟨⟨⟨?_,?_,?_,?_⟩,λg cs hg=>⟨(h.rel.tab g cs hg).1,λ⟨i,_,b,_,hi,hw,_⟩=>by rw[bO i b hi] at hw;cases hw⟩⟩,bO⟩,⟨by simp,aQ,λi hi=>Heap.q0i _ _ hi⟩⟩
 .intro i b hi;by_cases aP:i=U.n
  .subst aP;rw[Heap.q0a] at hi;obtain rfl:=osj hi;refine⟨p,by simp[Plc.put],rfl,rfl,hl,⟨C,e,f,hb,hs,ht⟩,λk v hk=>?_,λh=>by cases h⟩;obtain⟨u,hu,hv⟩:=hc k v hk;exact⟨u,hu,hv.mono (by simp) aQ⟩
  .rw[Heap.q0e _ _ aP] at hi;obtain⟨q,hq,hB⟩:=h.rel.live i b hi;exact⟨q,by simp[Plc.put,aP,hq],hB.mono (by simp) aQ rfl⟩
 .intro i hi;by_cases aP:i=U.n
  .subst aP;rw[Heap.q0a] at hi;cases hi
  .rw[Heap.q0e _ _ aP] at hi;simp[Plc.put,aP,h.rel.dead i hi]
 .intro i q hq;by_cases aP:i=U.n
  .subst aP;simp[Plc.put] at hq;subst hq;exact(xc.1 hb).1
  .simp[Plc.put,aP] at hq;exact h.rel.lt i q hq
 .intro i j q r b _ _ _ cy hw _;rw[bO i b cy] at hw;cases hw
theorem OF {P:Program}{fits:TypeId->Bool}{d:Nat}{e:TypeId}{count off n:Nat}(h:rowAt P fits d e count off n=true):off<=count*P.cellsOf e:=by
 cases d with
 |zero=>cases h
 |succ d =>
  unfold rowAt at h;by_cases hs:P.cellsOf e=0
  .simp[hs] at h
  .have bc:0<P.cellsOf e:=Nat.pos_of_ne_zero hs;simp only[hs,if_false,zy,z8,z_,zC] at h;have hd:=Nat.div_add_mod off (P.cellsOf e);have hm:=w5 off bc;rcases h with⟨⟨h1,h2⟩,_⟩|⟨h1,_⟩
   .have:P.cellsOf e*(off / P.cellsOf e)<=P.cellsOf e*count:=Nat.mul_le_mul_left _ (by omega);rw[wa count];omega
   .have:P.cellsOf e*(off / P.cellsOf e+1)<=P.cellsOf e*count:=Nat.mul_le_mul_left _ (by omega);rw[Nat.mul_add] at this;rw[wa count];omega
theorem TQ {P:Program}:∀ {d:Nat}{e:TypeId}{count off:Nat}{u:TypeId}{n:Nat},liesAt P d e count off u n=true->off<=count*P.cellsOf e
 |0,_,_,_,_,_,h=>by cases h
 |d+1,e,count,off,u,n,h=>by
  unfold liesAt at h;rw[zy] at h;rcases h with h|h
  .exact OF h
  .split at h
   .exact TQ h
   .cases h
theorem Lc {P:Program}{w:World}{r:Reach}{base:Nat}{a:Addr}{e:TypeId}{n:Nat}(h:w.has P r base a e n):∃ C row f,w.heap[a.block]?=some (.cells C row f)/\a.off<=C.size/\a.spot=none:=by
 obtain⟨_,hs,row,cells,eE,hl⟩:=h;unfold World.shape? at eE;split at eE
 .rename_i C e' f hb;obtain⟨rfl,rfl⟩:=(by simpa using eE:e'=row/\C.size=cells);exact⟨C,e',f,hb,x4 (TQ hl) (Nat.div_mul_le_self _ _),hs⟩
 .cases eE
theorem Br {P:Program}{w:World}{r:Reach}{base:Nat}{t e:TypeId}{v:Value}(ht:P.underlying t=some (.slice e)) (h:Cell.okWide P w r base t v) :
  v=.slice none 0 0\/∃ a len cap,v=.slice (some a) len cap/\w.has P r base a e cap:=by
 unfold Cell.okWide at h;rw[ht] at h;have h':Cell.ok P w r base t v:=by split at h<;>first|exact h|simp_all
 unfold Cell.ok at h';rw[ht] at h';split at h'<;>first|exact .inl rfl|(cases h';done)|skip
 all_goals first|(rename_i h1 h2;simp_all;done)|skip
 all_goals first|(simp_all;exact⟨_,_,_,⟨rfl,rfl,rfl⟩,h'.2.2⟩)|(simp_all)
theorem Q8m {k:IntKind}{x:Int}(h:(Lit.int k x).wf=true):k.min<=x/\x<=k.max:=by simpa [Lit.wf] using h
theorem View.calls {P:Program}{f:FuncId}{w:World}{ρ:Plc}{U:Heap}(h:View w ρ U) {args:List Value}{ax:Array Value}(hl:LRel ρ U.n args ax.toList) (hc:VCallsTo P f args U λv _=>v=.bool true) :
  Calls P f ax w λe w'=>e=.returned (.bool true)/\Below w.heap.size w w':=by
 refine (hc ρ w ax h.rel hl).mono λe w' ⟨c,he,v,ρ',U',hv,hr,_,hx⟩=>?_;subst hv;have:c=.bool true:=by cases hr;rfl
 subst this;exact⟨he,hx.os,hx.tape,hx.output,hx.size,λB hB=>hx.keep B hB λ⟨i,p,b,_,hi,hw,_⟩=>by rw[h.ro i b hi] at hw;cases hw⟩
theorem Dd {H:Type}{enc:TypeId×Value->H}{P:Program}(hl:laidOutB P=true) {W W':World}{sp:Nat->Bool}(hb:Below W.heap.size W W') :
  ∀ {ts:List TypeId}{vs:List Value}{ds:List (DataW H)}{ps:List MemPlace},(∀ t∈ts,P.readableRec t=true/\t<P.types.size)->DataW.TrodAll enc P W 0 (λ_=>true) true ts vs ds ps->(∀ p∈ps,p.block<W.heap.size)->(∀ p∈ps,sp p.block=true) ->
   DataW.TrodAll enc P W' 0 sp true ts vs ds ps
 |[],vs,ds,ps,_,h,_,_=>by obtain⟨rfl,rfl,rfl⟩:=trodAll_nil h;rfl
 |t::ts,vs,ds,ps,ht,h,ah,hs=>by
  obtain⟨v,vs',d,ds',p,q,rfl,rfl,rfl,h1,h2⟩:=trodAll_cons h;obtain⟨r1,r2⟩:=ht t (by simp);exact⟨p,q,WideElems.Trod_stays hl r1 r2 h1 (λx hx=>hb.same (ah x (by simp[hx]))) (λx hx=>hs x (by simp[hx])),
   Dd hl hb (λt mG=>ht t (by simp[mG])) h2 (λx hx=>ah x (by simp[hx])) (λx hx=>hs x (by simp[hx])),rfl⟩
theorem O_ {H:Type}{enc:TypeId×Value->H}{P:Program}{f:Func}{s:ChangeSpec}{apart fresh handsOn again:Bool}{W W':World}{args:Array Value}{ds gs:List (DataW H)}{before:List MemPlace}{tb:TypeId}
  (hl:laidOutB P=true) (hp:f.params.toList.all (λt=>P.readableRec t&&decide (t<P.types.size))=true) (lk:s.vars=[]) (hr:f.resultTypes=#[tb]) (br:P.underlying tb=some .bool) (hs:s.fn H ds={results:=[.lit (.bool true)],args:=ds})
  (hW:DataW.Whole enc P f.params.toList s.vars apart W args.toList ds gs before) (hb:Below W.heap.size W W'):s.post enc P f apart fresh handsOn again W args (.bool true) W':=by
 have ah:∀ p∈before,p.block<W.heap.size:=λp hp=>hW.lt p hp;have vh:=hW;obtain⟨p,q,hA,hV,rfl,hz,hn⟩:=hW;rw[lk] at hV;obtain⟨rfl,rfl⟩:=trodVars_none hV;have bt:∀ t∈f.params.toList,P.readableRec t=true/\t<P.types.size:=λt ht=>by have:=zf.1 hp t ht;simpa using this
 have eZ:s.fn H (ds++[])={results:=[.lit (.bool true)],args:=ds}:=by rw[xL];exact hs
 have dI:∀ (b:Nat) (sp:Nat->Bool) (hd:Bool),DataW.TrodAll enc P W' b sp hd f.resultTypes.toList ((Value.bool true).resultList f.resultTypes.size) (s.fn H (ds++[])).results []:=λb sp hd=>by rw[eZ,hr];exact trodAll_mk1 (shut_bool br _)
 have aB:∀ sp:Nat->Bool,(∀ x∈p++[],sp x.block=true)->DataW.TrodAll enc P W' 0 sp true f.params.toList args.toList (s.fn H (ds++[])).args p:=λsp bM=>by rw[eZ];exact Dd hl hb bt hA (λx hx=>ah x (by simp[hx])) (λx hx=>bM x (by simp[hx]))
 have cH:∀ sp:Nat->Bool,DataW.TrodVars enc P W' sp s.vars (s.fn H (ds++[])).vars []:=λsp=>by rw[eZ,lk];rfl
 have hold:∀ x∈p++[],(λb=>decide (b<W.heap.size)) x.block=true:=λx hx=>by simpa using ah x hx
 refine⟨ds,[],p++[],[],p,[],vh,dI _ _ _,aB _ hold,cH _,World.keptBut_mono (λx hx=>⟨hx,?_⟩) (hb.frame (·∈p++[])),λ_=>?_⟩
 .exact .inr (by simpa using hx)
 .refine⟨ok_one hr rfl (okWide_bool_mk br _),_,_,([]++p)++[],⟨[]++p,[],trodAll_append (aB _ (λ_ _=>rfl)) (dI _ _ _),cH _,rfl,?_,?_⟩,?_⟩
  .intro b off hx;have aP:MemPlace.cell b off∈p++[]:=by simpa using hx
   rw[hb.frozen (ah _ aP)];exact hz b off aP
  .intro ha;simpa using hn ha
  .intro x hx _;simpa using hx
def KFs (T:Kind->TypeId->Bool) (sz:TypeId->Nat):Kind->List (TypeId×Nat)->Nat->Bool
 |_,[],_=>false
 |k,[p],off=>p.2==off&&(sz p.1==k.size&&T k p.1)
 |.pair a b,p::q::r,off=>p.2==off&&(sz p.1==a.size&&(T a p.1&&KFs T sz b (q::r) (off+a.size)))
 |_,_::_::_,_=>false
def Kind.row:Kind->Bool
 |.list k=>k.flat
 |_=>false
def Z5g (P:Program) (t:TypeId):Bool:=match P.underlying t with|some (.slice _)=>true|_=>false
def KTy (P:Program):Nat->Kind->TypeId->Bool
 |0,_,_=>false
 |n+1,k,t=>match P.underlying t with
  |some (.struct fs)=>P.cellsOf t==k.size&&KFs (KTy P n) P.cellsOf k (fs.toList.map λf=>(f.type,f.offset)) 0
  |some (.array m e)=>P.cellsOf t==k.size&&KFs (KTy P n) P.cellsOf k ((List.range m).map λi=>(e,i*P.cellsOf e)) 0
  |some (.int ik)=>(match k with|.i k'=>decide (k'=ik)|_=>false)
  |some .bool=>(match k with|.bo=>true|_=>false)
  |some .string=>(match k with|.st=>true|_=>false)
  |some (.slice e)=>(match k with|.list k'=>P.cellsOf e==k'.size&&((k'.flat||(k'.row&&Z5g P e))&&KTy P n k' e)|_=>false)
  |_=>false
def KWf:(k:Kind)->k.T->Prop
 |.i ik,x=>InK ik x
 |.bo,_=>True
 |.st,s=>s.length<=maxLen
 |.list k,l=>l.length<=maxLen/\∀ x∈l,KWf k x
 |.pair a b,x=>KWf a x.1/\KWf b x.2
theorem More.le {ρ ρ':Plc}{U U':Heap}(h:More ρ U ρ' U'):U.Le U':=⟨h.n,λi b hb=>by rw[h.ag i (U.lt hb)];exact hb⟩
def ArgIs (w:World) (ρ:Plc) (U:Heap) (k:Kind) (cs:List Value):Prop :=
 ∃ ρ' U' vs x,View w ρ' U'/\More ρ U ρ' U'/\LRel ρ' U'.n vs cs/\KC U' k x vs/\KWf k x
theorem ArgIs.pair {w:World}{ρ:Plc}{U:Heap}{a b:Kind}{cs ds:List Value}(h1:ArgIs w ρ U a cs) (h2:∀ ρ U,View w ρ U->ArgIs w ρ U b ds):ArgIs w ρ U (.pair a b) (cs++ds):=by obtain⟨ρ1,σ1,sD,x1,k1,k2,k3,k4,k5⟩:=h1;obtain⟨ρ2,σ2,kT,x2,m1,m2,m3,m4,m5⟩:=h2 ρ1 σ1 k1;exact⟨ρ2,σ2,sD++kT,(x1,x2),m1,k2.trans m2,(k3.mono m2.n m2.pl).append m3,⟨sD,kT,rfl,k4.mono m2.le,m4⟩,k5,m5⟩
section
variable {H:Type}{enc:TypeId×Value->H}{P:Program}{w:World}{r:Reach}{base:Nat}
def okc (P:Program) (w:World) (r:Reach) (base:Nat) (ts:List TypeId) (cs:List Value):Prop:=∀ (i:Nat) v u,cs[i]?=some v->ts[i]?=some u->Cell.okWide P w r base u v
theorem Cq {T:Kind->TypeId->Bool}{sz:TypeId->Nat}{g:TypeId->Option (List TypeId)}(hT:∀ k t ts,T k t=true->g t=some ts->ts.length=k.size) :
  ∀ {k:Kind}{L:List (TypeId×Nat)}{off:Nat}{iC:List (List TypeId)},KFs T sz k L off=true->L.mapM (λp=>g p.1)=some iC->iC.flatten.length=k.size
 |k,[],_,_,h,_=>by simp[KFs] at h
 |k,[p],off,iC,h,hm=>by
  simp only[KFs,z8] at h;cases hg:g p.1 with
  |none=>simp[hg] at hm
  |some ts =>simp[hg] at hm;subst hm;simpa using hT _ _ _ h.2.2 hg
 |.pair a b,p::q::r,off,iC,h,hm=>by
  simp only[KFs,z8] at h;rw[xx] at hm;cases hg:g p.1 with
  |none=>simp[hg] at hm
  |some ts =>
   cases hr:(q::r).mapM (λp=>g p.1) with
   |none=>simp[hg,hr] at hm
   |some tr =>simp[hg,hr] at hm;subst hm;have:=Cq hT h.2.2.2 hr;simp only[List.flatten_cons,zJ,this,hT _ _ _ h.2.2.1 hg,Kind.size]
 |.i _,_::_::_,_,_,h,_|.bo,_::_::_,_,_,h,_|.st,_::_::_,_,_,h,_|.list _,_::_::_,_,_,h,_=>by cases h
theorem Du {α β γ:Type}{f:α->β}{g:β->Option γ}:∀ (l:List α),(l.map f).mapM g=l.mapM (λx=>g (f x))
 |[]=>rfl
 |a::l=>by simp only[zG,xx,Du l]
theorem DE {β:Type}{x:β}{f:Nat->Option β}(h:∀ i,f i=some x):∀ l:List Nat,l.mapM f=some (List.replicate l.length x)
 |[]=>rfl
 |a::l=>by simp[xx,h,DE h l,xC]
theorem CI:∀ {n:Nat}{k:Kind}{t:TypeId}{d:Nat}{ts:List TypeId},KTy P n k t=true->P.cellTypes d t=some ts->ts.length=k.size
 |0,_,_,_,_,h,_=>by cases h
 |_+1,_,_,0,_,_,h=>by cases h
 |n+1,k,t,d+1,ts,h,ht=>by
  have ih:∀ k t ts,KTy P n k t=true->P.cellTypes d t=some ts->ts.length=k.size:=λk t ts h1 h2=>CI h1 h2;unfold Program.cellTypes at ht;unfold KTy at h;cases hu:P.underlying t with
  |none=>rw[hu] at h;cases h
  |some u =>
   rw[hu] at h ht;cases u<;>first|(cases h;done)|skip
   all_goals simp only at h ht
   .split at h<;>first|(cases h;done)|(obtain rfl:=osj ht;rfl)
   .split at h<;>first|(cases h;done)|(obtain rfl:=osj ht;rfl)
   .split at h<;>first|(cases h;done)|(obtain rfl:=osj ht;rfl)
   .split at h<;>first|(cases h;done)|(obtain rfl:=osj ht;rfl)
   .rename_i m e;rw[z8] at h;cases hc:P.cellTypes d e with
    |none=>rw[hc] at ht;cases ht
    |some te =>rw[hc] at ht;obtain rfl:=osj ht;refine Cq (g:=λt=>P.cellTypes d t) ih h.2 ?_;rw[Du,DE (x:=te) (λ_=>hc)];simp
   .rename_i fs;rw[z8] at h;cases hc:fs.toList.mapM λf=>P.cellTypes d f.type with
    |none=>rw[hc] at ht;cases ht
    |some iC =>rw[hc] at ht;obtain rfl:=osj ht;refine Cq (g:=λt=>P.cellTypes d t) ih h.2 ?_;rw[Du];exact hc
theorem Dm {T:Kind->TypeId->Bool}{sz:TypeId->Nat}{Q:TypeId->List Value->Prop}{R:Kind->List Value->Prop}(hT:∀ k t cs,T k t=true->Q t cs->R k cs) (hR:∀ a b cs ds,R a cs->R b ds->R (.pair a b) (cs++ds)) (cs:List Value) :
  ∀ {k:Kind}{L:List (TypeId×Nat)}{off:Nat},KFs T sz k L off=true->(∀ p∈L,Q p.1 ((cs.drop p.2).take (sz p.1)))->R k ((cs.drop off).take k.size)
 |k,[],_,h,_=>by simp[KFs] at h
 |k,[p],off,h,hq=>by simp only[KFs,z8,z_] at h;have:=hq p (by simp);rw[h.1,h.2.1] at this;exact hT _ _ _ h.2.2 this
 |.pair a b,p::q::r,off,h,hq=>by
  simp only[KFs,z8,z_] at h;have h1:=hq p (by simp);rw[h.1,h.2.1] at h1;have h2:=Dm hT hR cs h.2.2.2 λx hx=>hq x (zi _ hx);have e:(cs.drop off).take (Kind.pair a b).size=(cs.drop off).take a.size++(cs.drop (off+a.size)).take b.size:=by rw[Kind.size,List.take_add,List.drop_drop]
  rw[e];exact hR _ _ _ _ (hT _ _ _ h.2.2.1 h1) h2
 |.i _,_::_::_,_,h,_|.bo,_::_::_,_,h,_|.st,_::_::_,_,h,_|.list _,_::_::_,_,h,_=>by cases h
def FlatIs (k:Kind) (cs:List Value):Prop:=∃ y:k.T,(∀ h,KC h k y cs)/\KWf k y/\∀ ρ m,LRel ρ m cs cs
theorem FlatIs.pair {a b:Kind}{cs ds:List Value}(h1:FlatIs a cs) (h2:FlatIs b ds):FlatIs (.pair a b) (cs++ds):=by obtain⟨x,k1,k2,k3⟩:=h1;obtain⟨y,m1,m2,m3⟩:=h2;exact⟨(x,y),λh=>⟨cs,ds,rfl,k1 h,m1 h⟩,⟨k2,m2⟩,fun ρ m=>(k3 ρ m).append (m3 ρ m)⟩
theorem LRel.one {ρ:Plc}{n:Nat}{v c:Value}(h:VRel ρ n v c):LRel ρ n [v] [c]:=.cons h (.nil _ _)
theorem Df {fs:Array Field}{f:Field}(h:f∈fs.toList):∃ i:Nat,fs[i]?=some f:=by obtain⟨i,hi,rfl⟩:=List.mem_iff_getElem.1 h;exact⟨i,by simp at hi;simp[hi]⟩
theorem Hb {sp:Nat->Bool}{held:Bool}:∀ {n:Nat}{k:Kind}{t:TypeId}{fuel:Nat}{cs:List Value}{x:DataW H×List MemPlace},KTy P n k t=true->k.flat=true->DataW.trod enc P w base sp held fuel t cs=some x->FlatIs k cs
 |0,_,_,_,_,_,h,_,_=>by cases h
 |n+1,k,t,fuel,cs,x,h,hf,hx=>by
  unfold KTy at h;cases hu:P.underlying t with
  |none=>rw[hu] at h;cases h
  |some u =>
   rw[hu] at h;have hR:∀ a b cs ds,((a.flat=true->FlatIs a cs)/\True)->((b.flat=true->FlatIs b ds)/\True)->(((Kind.pair a b).flat=true->FlatIs (.pair a b) (cs++ds))/\True):=λa b cs ds h1 h2=>⟨λhf=>by
    simp only[Kind.flat,z8] at hf;exact(h1.1 hf.1).pair (h2.1 hf.2),trivial⟩
   have hT:∀ k t cs,KTy P n k t=true->(∃ fuel x,DataW.trod enc P w base sp held fuel t cs=some x)->((k.flat=true->FlatIs k cs)/\True):=λk t cs h1 ⟨fuel,x,h2⟩=>⟨λhf=>Hb h1 hf h2,trivial⟩;cases u<;>first|(cases h;done)|skip
   all_goals simp only at h
   .split at h<;>first|(cases h;done)|skip
    obtain⟨b,rfl,_⟩:=DataW.trod_bool hu hx;exact⟨b,λ_=>rfl,trivial,λ_ _=>.one (.bool _)⟩
   .split at h<;>first|(cases h;done)|skip
    obtain rfl:=zo h;obtain⟨z,rfl,_,hw⟩:=DataW.trod_int hu hx;exact⟨z,λ_=>rfl,Q8m hw,λ_ _=>.one (.int _ _)⟩
   .split at h<;>first|(cases h;done)|skip
    obtain⟨s,rfl,_,hs⟩:=DataW.trod_string hu hx;exact⟨s.data.toList,λ_=>rfl,hs,λ_ _=>.one (.string _)⟩
   .split at h<;>first|(cases h;done)|(cases hf;done)
   .rename_i m e;simp only[z8,z_] at h;obtain⟨xs,m',_,_,hl,gf,hx⟩:=DataW.trod_array hu hx;have:=(Dm (R:=λk cs=>(k.flat=true->FlatIs k cs)/\True) hT hR cs h.2 λp hp=>by
     simp only[zu,zz] at hp;obtain⟨i,hi,rfl⟩:=hp;have:=hx i hi;rw[z6 (by omega)] at this;exact⟨_,_,this⟩).1 hf
    rwa [x8,zN (by omega)] at this
   .rename_i fs;simp only[z8,z_] at h;obtain⟨xs,m',_,_,hl,gf,hx⟩:=DataW.trod_struct hu hx;have:=(Dm (R:=λk cs=>(k.flat=true->FlatIs k cs)/\True) hT hR cs h.2 λp hp=>by
     simp only[zu] at hp;obtain⟨f,lR,rfl⟩:=hp;obtain⟨i,hi⟩:=Df lR;have:=hx i f hi;have gW:i<fs.size:=(xc.1 hi).1;rw[z6 (by omega)] at this;exact⟨_,_,this⟩).1 hf
    rwa [x8,zN (by omega)] at this
theorem Rows.range {α:Type}{R:α->List Value->Prop}{n:Nat}{c:List Value}{x:Nat->α}:∀ (m:Nat),(∀ i,i<m->R (x i) ((c.drop (i*n)).take n))->Rows R ((List.range m).map x) (c.take (m*n))
 |0,_=>by simp;exact .nil
 |m+1,h=>by
  have e:c.take ((m+1)*n)=c.take (m*n)++(c.drop (m*n)).take n:=by rw[zO,xJ,List.take_add]
  rw[List.range_succ,xI,e];exact(Rows.range m λi hi=>h i (by omega)).append (by simpa using Rows.cons (h m (by omega)) .nil)
theorem Bw {α:Type}[Inhabited α] {m:Nat}{p:Nat->α->Prop}(h:∀ i,i<m->∃ x,p i x):∃ f:Nat->α,∀ i,i<m->p i (f i) :=
 ⟨λi=>if hi:i<m then (h i hi).choose else default,λi hi=>by simp only[hi,dif_pos];exact(h i hi).choose_spec⟩
instance KInh (k:Kind):Inhabited k.T:=⟨k.dflt⟩
theorem View.list {ρ:Plc}{U:Heap}(h:View w ρ U) {n:Nat}{k:Kind}{t e:TypeId}{fuel:Nat}{cs:List Value}{x:DataW H×List MemPlace}(hu:P.underlying t=some (.slice e)) (hs:P.cellsOf e=k.size) (hf:k.flat=true) (hk:KTy P n k e=true)
  (hx:DataW.trod enc P w 0 (λ_=>true) true fuel t cs=some x) (ai:okc P w r base [t] cs):ArgIs w ρ U (.list k) cs:=by
 rcases open_slice hu hx with⟨rfl,_⟩|⟨a,len,cap,m,fu,D,Pl,rfl,hb,hl,hm,fE,_,hel⟩
 .exact⟨ρ,U,[.slice none 0 0],[],h,More.refl _ _,.one .nilSl,⟨_,rfl,.inl ⟨rfl,rfl⟩⟩,by simp[maxLen],λ_ hx=>by cases hx⟩
 simp only[zI] at fE;subst fE;rw[hs] at hel;have mA:w.has P r base a e m:=by
  rcases Br hu (ai 0 _ t rfl rfl) with hh|⟨a',rE,aw,hh,h2⟩
  .cases hh
  .cases hh;exact h2
 obtain⟨C,row,f,hblk,bg,bM⟩:=Lc mA;obtain⟨blk,off,spot⟩:=a;simp only at hblk bg bM;subst bM;have gm:∀ i,(⟨blk,off,none⟩:Addr).add i=⟨blk,off+i,none⟩:=λi=>by unfold Addr.add;split<;>simp_all
 obtain⟨X,hX⟩:=Bw (α:=k.T×List Value) (m:=m) (p:=λi p=>p.2.length=k.size/\(∀ j,j<k.size->w.cell? ⟨blk,off+i*k.size+j,none⟩=p.2[j]?)/\(∀ h,KC h k p.1 p.2)/\KWf k p.1/\∀ ρ m,LRel ρ m p.2 p.2) λi hi=>by
  obtain⟨cs',h1,h2⟩:=hel i hi;obtain⟨_,k1,k2⟩:=World.cells?_some h1;obtain⟨y,m1,m2,m3⟩:=Hb hk hf h2;refine⟨(y,cs'),k1,λj hj=>?_,m1,m2,m3⟩;have:=k2 j hj;rw[gm] at this;have e2:(⟨blk,off+i*k.size,none⟩:Addr).add j=⟨blk,off+i*k.size+j,none⟩:=by unfold Addr.add;split<;>simp_all
  rw[e2] at this;exact this
 have bc:=k.size_pos;let c:List Value:=(List.range (m*k.size)).map λj=>((X (j / k.size)).2[j % k.size]?).getD undef;have cq:c.length=m*k.size:=by simp[c]
 have hdiv:∀ j,j<m*k.size->j / k.size<m:=λj hj=>Nat.div_lt_of_lt_mul (by rw[wa];exact hj);have bj:∀ j,j<m*k.size->∃ v,c[j]?=some v/\w.cell? ⟨blk,off+j,none⟩=some v/\∀ ρ m,VRel ρ m v v:=λj hj=>by
  have h1:=hX (j / k.size) (hdiv j hj);have fw:j % k.size<k.size:=w5 _ bc;have h2:=h1.2.1 _ fw;have e:off+j / k.size*k.size+j % k.size=off+j:=by rw[zt,Nat.div_add_mod']
  rw[e] at h2;have h3:j % k.size<(X (j / k.size)).2.length:=by rw[h1.1];exact fw
  refine⟨(X (j / k.size)).2[j % k.size],?_,?_,fun ρ m=>(h1.2.2.2.2 ρ m).2 _ _ _ (z6 h3) (z6 h3)⟩
  .simp only[c,zY,List.getElem?_range hj,x6,z6 h3,Option.getD_some]
  .rw[h2,z6 h3]
 have mB:∀ i,i<m->(c.drop (i*k.size)).take k.size=(X i).2:=λi hi=>by
  have h1:=hX i hi;have hle:i*k.size+k.size<=m*k.size:=by have:(i+1)*k.size<=m*k.size:=zx _ hi;rw[zO] at this;omega
  apply x3;intro j;by_cases hj:j<k.size
  .rw[List.getElem?_take_of_lt hj,zH];have dN:i*k.size+j<m*k.size:=by omega
   have e1:(i*k.size+j) / k.size=i:=by rw[wa,Nat.mul_add_div bc,Nat.div_eq_of_lt hj,zU]
   have e2:(i*k.size+j) % k.size=j:=by rw[wa,Nat.mul_add_mod,xu hj]
   have h3:j<(X i).2.length:=by rw[h1.1];exact hj
   simp only[c,zY,List.getElem?_range dN,x6,e1,e2,z6 h3,Option.getD_some]
  .rw[zr (by simp;omega),zr (by omega)]
 have aG:off+m*k.size<=C.size:=by
  rcases Nat.eq_zero_or_pos (m*k.size) with h0|h0
  .omega
  .obtain⟨v,_,h2,_⟩:=bj (m*k.size-1) (by omega);unfold World.cell? at h2;simp only[hblk] at h2;have:=(xc.1 (by simpa using h2)).1;omega
 obtain⟨hv,hZ⟩:=h.add ⟨blk,off,m*k.size,⟨k.size,row⟩,false⟩ c hblk aG (by simp[cq]) rfl (λj v hj=>by
  have cm:j<m*k.size:=by rw[<-cq];exact(zg.1 hj).1
  obtain⟨v',h1,h2,h3⟩:=bj j cm;obtain rfl:=osj (hj.symm.trans h1);exact⟨v,h2,h3 _ _⟩)
 have hlen:((List.range len).map λi=>(X i).1).length=len:=by simp
 refine⟨_,_,[.slice (some ⟨U.n,0,none⟩) len m],(List.range len).map λi=>(X i).1,hv,hZ,.one ?_,⟨_,rfl,.inr ⟨U.n,0,m,c,⟨k.size,row⟩,false,false,by rw[hlen],by rw[hlen];exact hl,Heap.q0a _ _,rfl,?_,?_⟩⟩,?_,λy hy=>?_⟩
 .refine .sl _ _ _ _ _ _ (by simp) λp hp=>?_;simp[Plc.put] at hp;subst hp;exact⟨ze _,(λh=>by cases h),.inr ⟨0,by simp,by simp,.inl rfl⟩⟩
 .rw[hlen,cq,xl];exact zx _ hl
 .rw[hlen,x8];refine Rows.range len λi hi=>?_;rw[mB i (by omega)];exact(hX i (by omega)).2.2.1 _
 .rw[hlen];exact x4 hl hm
 .obtain⟨i,hi,rfl⟩:=zu.1 hy;exact(hX i (by have:=zz.1 hi;omega)).2.2.2.1
theorem View.listH {ρ:Plc}{U:Heap}(h:View w ρ U) {n:Nat}{k:Kind}{t e:TypeId}{fuel:Nat}{cs:List Value}{x:DataW H×List MemPlace}(hu:P.underlying t=some (.slice e)) (hs:P.cellsOf e=k.size) (hf:k.flat=true) (hk:KTy P n k e=true)
  (hx:DataW.trod enc P w 0 (λ_=>true) true fuel t cs=some x) (hA:∃ (b:Nat) (C:Array Value) (e:TypeId) (f:Nat×Nat),w.heap[b]?=some (Obj.cells C e f)):ArgIs w ρ U (.list k) cs:=by
 rcases open_slice hu hx with⟨rfl,_⟩|⟨a,len,cap,m,fu,D,Pl,rfl,hb,hl,hm,fE,_,hel⟩
 .exact⟨ρ,U,[.slice none 0 0],[],h,More.refl _ _,.one .nilSl,⟨_,rfl,.inl ⟨rfl,rfl⟩⟩,by simp[maxLen],λ_ hx=>by cases hx⟩
 simp only[zI] at fE;subst fE;rw[hs] at hel;have bc:=k.size_pos;by_cases cu:m=0
 .
  subst cu;obtain rfl:len=0:=by omega
  obtain⟨b0,C0,e0,f0,pc⟩:=hA;obtain⟨hv,hZ⟩:=h.add ⟨b0,0,0,⟨k.size,e0⟩,false⟩ [] pc (Nat.zero_le _) (ze _) rfl (λj v hj=>by simp at hj);refine⟨_,_,[.slice (some ⟨U.n,0,none⟩) 0 0],[],hv,hZ,.one ?_,⟨_,rfl,.inr ⟨U.n,0,0,[],⟨k.size,e0⟩,false,false,rfl,ze _,Heap.q0a _ _,rfl,?_,?_⟩⟩,by simp[KWf],λy hy=>by cases hy⟩
  .refine .sl _ _ _ _ _ _ (by simp) λp hp=>⟨ze _,λ_=>rfl,.inl ⟨rfl,rfl⟩⟩
  .simp
  .simpa using Rows.nil
 obtain⟨C,row,f,hblk,bg,bM⟩:∃ C row f,w.heap[a.block]?=some (Obj.cells C row f)/\a.off<=C.size/\a.spot=none:=by
  obtain⟨cs',h1,_⟩:=hel 0 (by omega);obtain⟨_,c1,c2⟩:=World.cells?_some h1;have c3:=c2 0 bc;have e0:(a.add (0*k.size)).add 0=a:=by simp[Addr.add]
  rw[e0,z6 (by omega)] at c3;unfold World.cell? at c3;split at c3
  .rename_i C row f hblk;split at c3
   .cases c3
   .rename_i hs;exact⟨C,row,f,hblk,wE (xc.1 c3).1,by simpa using hs⟩
  .cases c3
 obtain⟨blk,off,spot⟩:=a;simp only at hblk bg bM;subst bM;have gm:∀ i,(⟨blk,off,none⟩:Addr).add i=⟨blk,off+i,none⟩:=λi=>by unfold Addr.add;split<;>simp_all
 obtain⟨X,hX⟩:=Bw (α:=k.T×List Value) (m:=m) (p:=λi p=>p.2.length=k.size/\(∀ j,j<k.size->w.cell? ⟨blk,off+i*k.size+j,none⟩=p.2[j]?)/\(∀ h,KC h k p.1 p.2)/\KWf k p.1/\∀ ρ m,LRel ρ m p.2 p.2) λi hi=>by
  obtain⟨cs',h1,h2⟩:=hel i hi;obtain⟨_,k1,k2⟩:=World.cells?_some h1;obtain⟨y,m1,m2,m3⟩:=Hb hk hf h2;refine⟨(y,cs'),k1,λj hj=>?_,m1,m2,m3⟩;have:=k2 j hj;rw[gm] at this;have e2:(⟨blk,off+i*k.size,none⟩:Addr).add j=⟨blk,off+i*k.size+j,none⟩:=by unfold Addr.add;split<;>simp_all
  rw[e2] at this;exact this
 let c:List Value:=(List.range (m*k.size)).map λj=>((X (j / k.size)).2[j % k.size]?).getD undef;have cq:c.length=m*k.size:=by simp[c]
 have hdiv:∀ j,j<m*k.size->j / k.size<m:=λj hj=>Nat.div_lt_of_lt_mul (by rw[wa];exact hj);have bj:∀ j,j<m*k.size->∃ v,c[j]?=some v/\w.cell? ⟨blk,off+j,none⟩=some v/\∀ ρ m,VRel ρ m v v:=λj hj=>by
  have h1:=hX (j / k.size) (hdiv j hj);have fw:j % k.size<k.size:=w5 _ bc;have h2:=h1.2.1 _ fw;have e:off+j / k.size*k.size+j % k.size=off+j:=by rw[zt,Nat.div_add_mod']
  rw[e] at h2;have h3:j % k.size<(X (j / k.size)).2.length:=by rw[h1.1];exact fw
  refine⟨(X (j / k.size)).2[j % k.size],?_,?_,fun ρ m=>(h1.2.2.2.2 ρ m).2 _ _ _ (z6 h3) (z6 h3)⟩
  .simp only[c,zY,List.getElem?_range hj,x6,z6 h3,Option.getD_some]
  .rw[h2,z6 h3]
 have mB:∀ i,i<m->(c.drop (i*k.size)).take k.size=(X i).2:=λi hi=>by
  have h1:=hX i hi;have hle:i*k.size+k.size<=m*k.size:=by have:(i+1)*k.size<=m*k.size:=zx _ hi;rw[zO] at this;omega
  apply x3;intro j;by_cases hj:j<k.size
  .rw[List.getElem?_take_of_lt hj,zH];have dN:i*k.size+j<m*k.size:=by omega
   have e1:(i*k.size+j) / k.size=i:=by rw[wa,Nat.mul_add_div bc,Nat.div_eq_of_lt hj,zU]
   have e2:(i*k.size+j) % k.size=j:=by rw[wa,Nat.mul_add_mod,xu hj]
   have h3:j<(X i).2.length:=by rw[h1.1];exact hj
   simp only[c,zY,List.getElem?_range dN,x6,e1,e2,z6 h3,Option.getD_some]
  .rw[zr (by simp;omega),zr (by omega)]
 have aG:off+m*k.size<=C.size:=by
  rcases Nat.eq_zero_or_pos (m*k.size) with h0|h0
  .omega
  .obtain⟨v,_,h2,_⟩:=bj (m*k.size-1) (by omega);unfold World.cell? at h2;simp only[hblk] at h2;have:=(xc.1 (by simpa using h2)).1;omega
 obtain⟨hv,hZ⟩:=h.add ⟨blk,off,m*k.size,⟨k.size,row⟩,false⟩ c hblk aG (by simp[cq]) rfl (λj v hj=>by
  have cm:j<m*k.size:=by rw[<-cq];exact(zg.1 hj).1
  obtain⟨v',h1,h2,h3⟩:=bj j cm;obtain rfl:=osj (hj.symm.trans h1);exact⟨v,h2,h3 _ _⟩)
 have hlen:((List.range len).map λi=>(X i).1).length=len:=by simp
 refine⟨_,_,[.slice (some ⟨U.n,0,none⟩) len m],(List.range len).map λi=>(X i).1,hv,hZ,.one ?_,⟨_,rfl,.inr ⟨U.n,0,m,c,⟨k.size,row⟩,false,false,by rw[hlen],by rw[hlen];exact hl,Heap.q0a _ _,rfl,?_,?_⟩⟩,?_,λy hy=>?_⟩
 .refine .sl _ _ _ _ _ _ (by simp) λp hp=>?_;simp[Plc.put] at hp;subst hp;exact⟨ze _,(λh=>by cases h),.inr ⟨0,by simp,by simp,.inl rfl⟩⟩
 .rw[hlen,cq,xl];exact zx _ hl
 .rw[hlen,x8];refine Rows.range len λi hi=>?_;rw[mB i (by omega)];exact(hX i (by omega)).2.2.1 _
 .rw[hlen];exact x4 hl hm
 .obtain⟨i,hi,rfl⟩:=zu.1 hy;exact(hX i (by have:=zz.1 hi;omega)).2.2.2.1
theorem View.list2 {ρ:Plc}{U:Heap}(h:View w ρ U) {n:Nat}{k:Kind}{t e e2:TypeId}{fuel:Nat}{cs:List Value}{x:DataW H×List MemPlace}(hu:P.underlying t=some (.slice e)) (hs:P.cellsOf e=1)
  (ij:P.underlying e=some (.slice e2)) (dm:P.cellsOf e2=k.size) (hf:k.flat=true) (hk:KTy P n k e2=true)
  (hx:DataW.trod enc P w 0 (λ_=>true) true fuel t cs=some x) (ai:okc P w r base [t] cs):ArgIs w ρ U (.list (.list k)) cs:=by
 rcases open_slice hu hx with⟨rfl,_⟩|⟨a,len,cap,m,fu,D,Pl,rfl,hb,hl,hm,fE,_,hel⟩
 .exact⟨ρ,U,[.slice none 0 0],[],h,More.refl _ _,.one .nilSl,⟨_,rfl,.inl ⟨rfl,rfl⟩⟩,by simp[maxLen],λ_ hx=>by cases hx⟩
 simp only[zI] at fE;subst fE;rw[hs] at hel;have mA:w.has P r base a e m:=by
  rcases Br hu (ai 0 _ t rfl rfl) with hh|⟨a',rE,aw,hh,h2⟩
  .cases hh
  .cases hh;exact h2
 obtain⟨C,row,f,hblk,bg,bM⟩:=Lc mA;obtain⟨blk,off,spot⟩:=a;simp only at hblk bg bM;subst bM;have gm:∀ i,(⟨blk,off,none⟩:Addr).add i=⟨blk,off+i,none⟩:=λi=>by unfold Addr.add;split<;>simp_all
 have rows:∀ j,j<=m->∃ ρ' U',∃ vs:List Value,∃ xs:List (List k.T),View w ρ' U'/\More ρ U ρ' U'/\vs.length=j/\xs.length=j/\(∀ (i:Nat) v,vs[i]?=some v->∃ u,w.cell? ⟨blk,off+i,none⟩=some u/\VRel ρ' U'.n v u) /\
   Rows (KC U' (.list k)) xs vs/\∀ y∈xs,KWf (.list k) y:=by
  intro j;induction j with
  |zero=>exactλ_=>⟨ρ,U,[],[],h,More.refl _ _,rfl,rfl,λi v hi=>by simp at hi,.nil,λy hy=>by cases hy⟩
  |succ j ih =>
   intro hj;obtain⟨ρ1,σ1,vs,xs,k1,k2,k3,k4,k5,k6,k7⟩:=ih (by omega);obtain⟨cs',h1,h2⟩:=hel j (by omega);obtain⟨_,c1,c2⟩:=World.cells?_some h1;have c3:=c2 0 (by omega);obtain⟨u,rfl⟩:=x9.1 c1;have kR:((⟨blk,off,none⟩:Addr).add (j*1)).add 0=⟨blk,off+j,none⟩:=by rw[gm,wG];unfold Addr.add;split<;>simp_all
   rw[kR] at c3;have c4:w.cell? ⟨blk,off+j,none⟩=some u:=c3;obtain⟨ρ2,σ2,vv,y,m1,m2,m3,m4,m5⟩:=k1.listH ij dm hf hk h2 ⟨blk,C,row,f,hblk⟩;have mL:vv.length=1:=by obtain⟨v,rfl,_⟩:=m4;rfl
   obtain⟨v,rfl⟩:=x9.1 mL;refine⟨ρ2,σ2,vs++[v],xs++[y],m1,k2.trans m2,by rw[zJ,k3];rfl,by rw[zJ,k4];rfl,λi v' hi=>?_,?_,λz hz=>?_⟩
   .by_cases bN:i<vs.length
    .rw[xg bN] at hi;obtain⟨u',g1,g2⟩:=k5 i v' hi;exact⟨u',g1,g2.mono m2.n m2.pl⟩
    .have gW:i<(vs++[v]).length:=(zg.1 hi).1;rw[zJ,xq] at gW;have vi:i=j:=by omega
     subst vi;rw[xm (by omega),k3,wh] at hi;obtain rfl:=osj hi;exact⟨u,c4,m3.2 0 _ _ rfl rfl⟩
   .exact(k6.mono λ_ _ hc=>KC.mono m2.le hc).append (by simpa using Rows.cons m4 .nil)
   .rcases zF.1 hz with hz|hz
    .exact k7 z hz
    .rw[zh.1 hz];exact m5
 obtain⟨ρ1,σ1,vs,xs,k1,k2,k3,k4,k5,k6,k7⟩:=rows m (ze _);have aG:off+m<=C.size:=by
  rcases Nat.eq_zero_or_pos m with h0|h0
  .omega
  .obtain⟨u,h2,_⟩:=k5 (m-1) _ (z6 (by omega));unfold World.cell? at h2;simp only[hblk] at h2;have:=(xc.1 (by simpa using h2)).1;omega
 obtain⟨hv,hZ⟩:=k1.add ⟨blk,off,m,⟨1,row⟩,false⟩ vs hblk aG (by simp[k3]) rfl (λj v hj=>k5 j v hj);have hR:Rows (KC (σ1.push (.cells vs ⟨1,row⟩ false false)) (.list k)) xs vs:=k6.mono λ_ _ hc=>KC.mono hZ.le hc;have hlen:(xs.take len).length=len:=by rw[wg,k4];omega
 have o6:(Kind.list k).size=1:=rfl;refine⟨_,_,[.slice (some ⟨σ1.n,0,none⟩) len m],xs.take len,hv,k2.trans hZ,.one ?_,⟨_,rfl,.inr ⟨σ1.n,0,m,vs,⟨1,row⟩,false,false,by rw[hlen],by rw[hlen];exact hl,Heap.q0a _ _,rfl,?_,?_⟩⟩,?_,λy hy=>?_⟩
 .refine .sl _ _ _ _ _ _ (by simp) λp hp=>?_;simp[Plc.put] at hp;subst hp;exact⟨ze _,(λh=>by cases h),.inr ⟨0,by simp,by simp,.inl rfl⟩⟩
 .rw[o6,k3];omega
 .rw[hlen,o6,x8];exact Rows.take (λ_ _ hc=>KC.length hc) hR len
 .rw[hlen];exact x4 hl hm
 .exact k7 y (List.mem_of_mem_take hy)
def Kind.lev1:Kind->Bool
 |.list k=>k.flat||k.row
 |.pair a b=>a.lev1&&b.lev1
 |_=>true
theorem A4 {ts:List TypeId}{cs:List Value}(h:okc P w r base ts cs) (o n:Nat):okc P w r base ((ts.drop o).take n) ((cs.drop o).take n):=λi v u h1 h2=>by
 have hi:i<n:=by have:=(zg.1 h1).1;rw[wg] at this;omega
 rw[List.getElem?_take_of_lt hi,zH] at h1 h2;exact h _ v u h1 h2
theorem PE {T:Kind->TypeId->Bool}{sz:TypeId->Nat}{g:TypeId->Option (List TypeId)}(hT:∀ k t ts,T k t=true->g t=some ts->ts.length=k.size) :
  ∀ {k:Kind}{L:List (TypeId×Nat)}{off:Nat}{iC:List (List TypeId)},KFs T sz k L off=true->L.mapM (λp=>g p.1)=some iC->∀ p∈L,off<=p.2/\g p.1=some ((iC.flatten.drop (p.2-off)).take (sz p.1))
 |k,[],_,_,h,_=>by simp[KFs] at h
 |k,[p],off,iC,h,hm=>by
  simp only[KFs,z8,z_] at h;intro p' hp;obtain rfl:=zh.1 hp;cases hg:g p'.1 with
  |none=>simp[hg] at hm
  |some ts =>
   simp[hg] at hm;subst hm;refine⟨by omega,?_⟩;rw[h.1,wh,x8,h.2.1,zN]
   .simp
   .simp[hT _ _ _ h.2.2 hg]
 |.pair a b,p::q::r,off,iC,h,hm=>by
  simp only[KFs,z8,z_] at h;rw[xx] at hm;intro p' hp;cases hg:g p.1 with
  |none=>simp[hg] at hm
  |some ts =>
   cases hr:(q::r).mapM (λp=>g p.1) with
   |none=>simp[hg,hr] at hm
   |some tr =>
    simp[hg,hr] at hm;subst hm;have hlen:=hT _ _ _ h.2.2.1 hg;rcases zk.1 hp with rfl|hp
    .refine⟨by omega,?_⟩;rw[hg,h.1,wh,x8,h.2.1,List.flatten_cons,List.take_append,<-hlen,wh,wk,xL,List.take_length]
    .obtain⟨h1,h2⟩:=PE hT h.2.2.2 hr p' hp;refine⟨by omega,?_⟩;have e1:ts.drop (p'.2-off)=[]:=List.drop_eq_nil_of_le (by omega);have e2:p'.2-off-a.size=p'.2-(off+a.size):=by omega
     rw[h2,List.flatten_cons,List.drop_append,hlen,e1,e2,xk]
 |.i _,_::_::_,_,_,h,_|.bo,_::_::_,_,_,h,_|.st,_::_::_,_,_,h,_|.list _,_::_::_,_,_,h,_=>by cases h
theorem Sf:∀ {n:Nat}{k:Kind}{t:TypeId}{d:Nat}{ts:List TypeId}{fuel:Nat}{cs:List Value}{x:DataW H×List MemPlace},KTy P n k t=true->k.lev1=true->P.cellTypes d t=some ts->okc P w r base ts cs->DataW.trod enc P w 0 (λ_=>true) true fuel t cs=some x->∀ ρ U,View w ρ U->ArgIs w ρ U k cs
 |0,_,_,_,_,_,_,_,h,_,_,_,_=>by cases h
 |_+1,_,_,0,_,_,_,_,_,_,h,_,_=>by cases h
 |n+1,k,t,d+1,ts,fuel,cs,x,h,hf,ff,ai,hx=>by
  intro ρ U hv;by_cases bF:k.flat=true
  .obtain⟨y,h1,h2,h3⟩:=Hb h bF hx;exact⟨ρ,U,cs,y,hv,More.refl _ _,h3 _ _,h1 _,h2⟩
  unfold KTy at h;cases hu:P.underlying t with
  |none=>rw[hu] at h;cases h
  |some u =>
   rw[hu] at h;let Q:TypeId->List Value->Prop:=λt cs=>(∃ fuel x,DataW.trod enc P w 0 (λ_=>true) true fuel t cs=some x)/\∃ ts,P.cellTypes d t=some ts/\okc P w r base ts cs;let R:Kind->List Value->Prop:=λk cs=>k.lev1=true->∀ ρ U,View w ρ U->ArgIs w ρ U k cs;have hR:∀ a b cs ds,R a cs->R b ds->R (.pair a b) (cs++ds):=λa b cs ds h1 h2 hl ρ U hv=>by simp only[Kind.lev1,z8] at hl;exact(h1 hl.1 ρ U hv).pair fun ρ U hv=>h2 hl.2 ρ U hv
   have hT:∀ k t cs,KTy P n k t=true->Q t cs->R k cs:=λk t cs h1 ⟨⟨fuel,x,h2⟩,ts,h3,h4⟩ hl=>Sf h1 hl h3 h4 h2;have hlen:∀ k t ts,KTy P n k t=true->P.cellTypes d t=some ts->ts.length=k.size:=λk t ts h1 h2=>CI h1 h2;unfold Program.cellTypes at ff;rw[hu] at ff;cases u<;>first|(cases h;done)|skip
   all_goals simp only at h
   .split at h<;>first|(cases h;done)|(exact absurd rfl bF)
   .split at h<;>first|(cases h;done)|(exact absurd rfl bF)
   .split at h<;>first|(cases h;done)|(exact absurd rfl bF)
   .rename_i e;split at h<;>first|(cases h;done)|skip
    simp only[z8,z_] at h;simp only[xi] at ff;subst ff;rcases zy _ _▸h.2.1 with hk|hk
    .exact hv.list hu h.1 hk h.2.2 hx ai
    .rename_i k';rw[z8] at hk;obtain⟨hk,gO⟩:=hk;cases k'<;>first|(cases hk;done)|skip
     rename_i k2;have h3:=h.2.2;unfold Z5g at gO;split at gO<;>first|(cases gO;done)|skip
     rename_i e2 ij;cases n with
     |zero=>cases h3
     |succ n =>unfold KTy at h3;rw[ij] at h3;simp only[z8,z_] at h3;exact hv.list2 hu h.1 ij h3.1 hk h3.2.2 hx ai
   .rename_i m e;simp only[z8,z_] at h;obtain⟨xs,m',_,_,hl,gf,hx⟩:=DataW.trod_array hu hx;simp only at ff;cases hc:P.cellTypes d e with
    |none=>rw[hc] at ff;cases ff
    |some te =>
     rw[hc] at ff;obtain rfl:=osj ff;have nX:((List.range m).map λi=>(e,i*P.cellsOf e)).mapM (λp:TypeId×Nat=>P.cellTypes d p.1)=some (List.replicate m te):=by rw[Du,DE (x:=te) (λ_=>hc)];simp
     have:=Dm (Q:=Q) (R:=R) hT hR cs h.2 (λp hp=>by
      have kz:=PE (g:=λt=>P.cellTypes d t) hlen h.2 nX p hp;simp only[zu,zz] at hp;obtain⟨i,hi,rfl⟩:=hp;have:=hx i hi;rw[z6 (by omega)] at this;exact⟨⟨_,_,this⟩,_,kz.2,A4 ai _ _⟩) hf ρ U hv
     rwa [x8,zN (by omega)] at this
   .rename_i fs;simp only[z8,z_] at h;obtain⟨xs,m',_,_,hl,gf,hx⟩:=DataW.trod_struct hu hx;simp only at ff;cases hc:fs.toList.mapM λf=>P.cellTypes d f.type with
    |none=>rw[hc] at ff;cases ff
    |some iC =>
     rw[hc] at ff;obtain rfl:=osj ff;have nX:(fs.toList.map λf=>(f.type,f.offset)).mapM (λp:TypeId×Nat=>P.cellTypes d p.1)=some iC:=by rw[Du];exact hc
     have:=Dm (Q:=Q) (R:=R) hT hR cs h.2 (λp hp=>by
      have kz:=PE (g:=λt=>P.cellTypes d t) hlen h.2 nX p hp;simp only[zu] at hp;obtain⟨f,lR,rfl⟩:=hp;obtain⟨i,hi⟩:=Df lR;have:=hx i f hi;have gW:i<fs.size:=(xc.1 hi).1;rw[z6 (by omega)] at this;exact⟨⟨_,_,this⟩,_,kz.2,A4 ai _ _⟩) hf ρ U hv
     rwa [x8,zN (by omega)] at this
def isAgg (P:Program) (t:TypeId):Bool:=match P.underlying t with
 |some (.struct _)=>true
 |some (.array _ _)=>true
 |_=>false
theorem View.arg {ρ:Plc}{U:Heap}(h:View w ρ U) {n:Nat}{k:Kind}{t:TypeId}{v:Value}{d:DataW H}{p:List MemPlace}(hk:KTy P n k t=true) (hl:k.lev1=true) (ha:isAgg P t=!k.one) (ai:Value.okWide P w r base t v) (hd:DataW.Trod enc P w 0 (λ_=>true) true t v d p) :
  ∃ ρ' U' vv x,View w ρ' U'/\More ρ U ρ' U'/\VRel ρ' U'.n vv v/\KV U' k x vv/\KWf k x:=by
 obtain⟨fuel,hd⟩:=hd;by_cases eG:isAgg P t=true
 .have bT:k.one=false:=by rw[eG] at ha;simpa using ha.symm
  have:∃ cs,v=.agg cs/\cs.size=P.cellsOf t/\Row.okWide P w r base t cs:=by
   unfold isAgg at eG;unfold Value.okWide at ai;split at eG<;>first|(cases eG;done)|skip
   .rename_i hu;rw[hu] at ai;exact ai
   .rename_i hu;rw[hu] at ai;exact ai
  obtain⟨cs,rfl,aG,ts,ff,_,cN⟩:=this;have hlen:=CI hk ff;have aC:P.cellsOf t=k.size:=by
   unfold isAgg at eG;cases n with
   |zero=>cases hk
   |succ n =>
    unfold KTy at hk;split at eG<;>first|(cases eG;done)|skip
    all_goals
     rename_i hu;rw[hu] at hk;simp only[z8,z_] at hk;exact hk.1
  have mC:okc P w r base ts cs.toList:=λi v u h1 h2=>by have hi:i<ts.length:=(zg.1 h2).1;obtain⟨u',h3,h4⟩:=cN i v (by simpa using h1);rw[xu hi] at h3;obtain rfl:=osj (h2.symm.trans h3);exact h4
  obtain⟨ρ',U',vs,x,k1,k2,k3,k4,k5⟩:=Sf hk hl ff mC (show DataW.trod enc P w 0 _ true fuel t cs.toList=_ from hd) ρ U h;exact⟨ρ',U',.agg vs.toArray,x,k1,k2,VRel.q1m (ds:=cs.toList) k3,.inr ⟨bT,vs,rfl,k4⟩,k5⟩
 .have bT:k.one=true:=by
   have:isAgg P t=false:=by simpa using eG
   rw[this] at ha;simpa using ha.symm
  have jb:=Kind.q1s bT;have bj:Cell.okWide P w r base t v/\v.cells.toList=[v]:=by
   have h1:isAgg P t=false:=by simpa using eG
   unfold isAgg at h1;have h2:Cell.okWide P w r base t v:=by
    unfold Value.okWide at ai;split at ai
    .rename_i hu;rw[hu] at h1;cases h1
    .rename_i hu;rw[hu] at h1;cases h1
    .exact ai
   refine⟨h2,?_⟩;cases v<;>first|rfl|skip
   all_goals
    exfalso;cases n with
    |zero=>cases hk
    |succ n =>
     unfold KTy at hk;unfold Cell.okWide Cell.ok at h2;cases hu:P.underlying t with
     |none=>rw[hu] at hk;cases hk
     |some u =>rw[hu] at hk h2 h1;cases u<;>first|(cases hk;done)|(cases h1;done)|(cases h2;done)|(simp at h2;done)
  have ff:P.cellTypes 1 t=some [t]:=by
   have h1:isAgg P t=false:=by simpa using eG
   unfold isAgg at h1;unfold Program.cellTypes;cases n with
   |zero=>cases hk
   |succ n =>
    unfold KTy at hk;cases hu:P.underlying t with
    |none=>rw[hu] at hk;cases hk
    |some u =>rw[hu] at h1;cases u<;>first|rfl|(cases h1;done)
  rw[bj.2] at hd;have mC:okc P w r base [t] [v]:=λi v' u h1 h2=>by
   cases i with
   |zero=>cases h1;cases h2;exact bj.1
   |succ i=>simp at h1
  obtain⟨ρ',U',vs,x,k1,k2,k3,k4,k5⟩:=Sf hk hl ff mC hd ρ U h;have:vs.length=1:=by rw[KC.length k4];exact jb
  obtain⟨vv,rfl⟩:=x9.1 this;exact⟨ρ',U',vv,x,k1,k2,k3.2 0 _ _ rfl rfl,.inl ⟨bT,k4⟩,k5⟩
def AWf:(ks:List Kind)->AT ks->Prop
 |[],_=>True
 |[k],x=>KWf k x
 |k::k'::ks,x=>KWf k x.1/\AWf (k'::ks) x.2
def Q7v (P:Program):List Kind->List TypeId->Bool
 |[],[]=>true
 |k::ks,t::ts=>(KTy P 8 k t&&(k.lev1&&(isAgg P t==!k.one)))&&Q7v P ks ts
 |_,_=>false
theorem View.args:∀ {ks:List Kind}{ts:List TypeId}{vs:List Value}{ds:List (DataW H)}{ps:List MemPlace}{ρ:Plc}{U:Heap},View w ρ U->Q7v P ks ts=true->(∀ (j:Nat) t v,ts[j]?=some t->vs[j]?=some v->Value.okWide P w r base t v)->DataW.TrodAll enc P w 0 (λ_=>true) true ts vs ds ps ->
  ∃ ρ' U' m_ x,View w ρ' U'/\More ρ U ρ' U'/\LRel ρ' U'.n m_ vs/\Rg U' ks x m_/\AWf ks x
 |[],[],vs,ds,ps,ρ,U,h,_,_,hA=>by obtain⟨rfl,rfl,rfl⟩:=trodAll_nil hA;exact⟨ρ,U,[],(),h,More.refl _ _,.nil _ _,rfl,trivial⟩
 |[k],[t],vs,ds,ps,ρ,U,h,hk,hv,hA=>by obtain⟨v,vs',d,ds',p,q,rfl,rfl,rfl,h1,h2⟩:=trodAll_cons hA;obtain⟨rfl,rfl,rfl⟩:=trodAll_nil h2;simp only[Q7v,z8,z_] at hk;obtain⟨ρ',U',vv,x,k1,k2,k3,k4,k5⟩:=h.arg hk.1.1 hk.1.2.1 hk.1.2.2 (hv 0 t v rfl rfl) h1;exact⟨ρ',U',[vv],x,k1,k2,.one k3,⟨vv,rfl,k4⟩,k5⟩
 |k::k'::ks,t::ts,vs,ds,ps,ρ,U,h,hk,hv,hA=>by obtain⟨v,vs',d,ds',p,q,rfl,rfl,rfl,h1,h2⟩:=trodAll_cons hA;simp only[Q7v,z8,z_] at hk;obtain⟨ρ1,σ1,vv,x,k1,k2,k3,k4,k5⟩:=h.arg hk.1.1 hk.1.2.1 hk.1.2.2 (hv 0 t v rfl rfl) h1;obtain⟨ρ2,σ2,m_,y,m1,m2,m3,m4,m5⟩:=k1.args (ks:=k'::ks) hk.2 (λj t v h1 h2=>hv (j+1) t v h1 h2) h2;exact⟨ρ2,σ2,vv::m_,(x,y),m1,k2.trans m2,.cons (k3.mono m2.n m2.pl) m3,⟨vv,m_,rfl,k4.vcall m2.le,m4⟩,k5,m5⟩
 |[],_::_,_,_,_,_,_,_,hk,_,_|_::_,[],_,_,_,_,_,_,hk,_,_|[_],_::_::_,_,_,_,_,_,_,hk,_,_=>by simp[Q7v] at hk
theorem O9 (hT:Z5m w) {f:Nat}{sp:CSp}(bM:OkC P f sp) (he:ZI P f) {ks:List Kind}{ts:List TypeId}{args:Array Value}{ds:List (DataW H)}{ps:List MemPlace}(hk:Q7v P ks ts=true)
  (hv:∀ (j:Nat) t v,ts[j]?=some t->args.toList[j]?=some v->Value.okWide P w r base t v) (hA:DataW.TrodAll enc P w 0 (λ_=>true) true ts args.toList ds ps)
  (hs:∀ x:AT ks,AWf ks x->∃ c,sp (λ_ _=>none) (Sn ks x)=some (c,.val .bo true,[])/\c):Calls P f args w λe w'=>e=.returned (.bool true)/\Below w.heap.size w w':=by
 obtain⟨ρ,U,m_,x,k1,k2,k3,k4,k5⟩:=(View.emptyT w hT).args hk hv hA;obtain⟨c,h1,h2⟩:=hs x k5;exact k1.calls k3 (bM.true he (G8 k4) h1 h2)
end
end Go.V
namespace Go.V
open Go
theorem HD {H:Type}{enc:TypeId×Value->H}{P:Program}{w:World}{b:Nat}{sp:Nat->Bool}{hd:Bool}:∀ {ts:List TypeId}{vs:List Value}{ds:List (DataW H)}{ps:List MemPlace},DataW.TrodAll enc P w b sp hd ts vs ds ps->ds.length=ts.length
 |[],[],[],_,_=>rfl
 |t::ts,v::vs,d::ds,ps,h=>by obtain⟨p,q,_,h2,_⟩:=h;simp[HD h2]
 |[],[],_::_,_,h|[],_::_,_,_,h|_::_,[],_,_,h|_::_,_::_,[],_,h=>h.elim
end Go.V
namespace Go.Proofs.Tryz
open Go Go.V Go.Proofs
abbrev Q9z (l:List Int):List Int:=l.mergeSort λx y=>decide (x<=y)
def Wb (hk:Int) (cs:List Wn) (cl:List Int) (fa:Int):List Int :=
 ((List.range cs.length).map λ(a:Nat)=>(a:Int)).filter λa=>(List.range (fa.toNat+1)).any λf=>!(wyK cs.length fa.toNat (λk=>wvB hk cs cl k) cl.length (a,(f:Int))==0)
theorem TI {hk:Int}{cs:List Wn}{cl:List Int}{fa:Int}(hn:0<cs.length) {a:Int}:a∈Wb hk cs cl fa<->∃ f,wyK cs.length fa.toNat (λk=>wvB hk cs cl k) cl.length (a,f)≠0:=by
 unfold Wb;rw[zL,zu,xD];constructor
 .rintro⟨_,f,_,h⟩;exact⟨(f:Int),by simpa using h⟩
 .rintro⟨f,h⟩;have hg:=XM.1 (Sm _ _ _ hn _ _ h);dsimp only at hg;refine⟨⟨a.toNat,zz.2 (by omega),by omega⟩,f.toNat,zz.2 (by omega),?_⟩;rw[show ((f.toNat:Nat):Int)=f by omega];simpa using h
theorem Da (hk:Int) (cs:List Wn) (cl:List Int) (fa:Int):(Wb hk cs cl fa).Pairwise (·<·):=by
 unfold Wb;refine List.Pairwise.filter _ (xG.2 (List.pairwise_lt_range.imp λh=>by omega))
theorem DJ:∀ {l m:List Int},l.Pairwise (·<·)->m.Pairwise (·<·)->(∀ x,x∈l<->x∈m)->l=m
 |[],[],_,_,_=>rfl
 |[],y::m,_,_,h=>by have:=(h y).2 (zl ..);cases this
 |x::l,[],_,_,h=>by have:=(h x).1 (zl ..);cases this
 |x::l,y::m,hl,hm,h=>by
  rw[xU] at hl hm;have e:x=y:=by
   rcases zk.1 ((h x).1 (zl ..)) with e|e
   .exact e
   .rcases zk.1 ((h y).2 (zl ..)) with e2|e2
    .exact e2.symm
    .have:=hm.1 x e;have:=hl.1 y e2;omega
  subst e;have:l=m:=DJ hl.2 hm.2 λz=>by
   have hz:=h z;rw[zk,zk] at hz;constructor
   .intro fB;rcases hz.1 (.inr fB) with e|e
    .have:=hl.1 z fB;omega
    .exact e
   .intro sE;rcases hz.2 (.inr sE) with e|e
    .have:=hm.1 z sE;omega
    .exact e
  rw[this]
theorem L_ (k:Int):∀ (m:List (Int×Bool)),(m.map (·.1)).Nodup->((Uo (.i .i64) m k true).map (·.1)).Nodup/\∀ x,x∈(Uo (.i .i64) m k true).map (·.1)<->x=k\/x∈m.map (·.1)
 |[],_=>⟨List.pairwise_singleton _ _,λx=>by show x∈[k]<->_;simp⟩
 |(a,b)::m,hn=>by
  rw[zG,xn] at hn;obtain⟨h1,h2⟩:=L_ k m hn.2;by_cases hk:k=a
  .subst hk;have e:Uo (.i .i64) ((k,b)::m) k true=(k,true)::m:=by
    show (if gq.keq (.i .i64) k k=true then (k,true)::m else _)=_;rw[z7 (show gq.keq (.i .i64) k k=true from by show ((k:Int)==k)=true;simp)]
   rw[e,zG,zG];refine⟨xn.2 hn,λx=>?_⟩;simp only[zk];constructor
   .rintro (h|h)
    .exact .inl h
    .exact .inr (.inr h)
   .rintro (h|h|h)
    .exact .inl h
    .exact .inl h
    .exact .inr h
  .have e:Uo (.i .i64) ((a,b)::m) k true=(a,b)::Uo (.i .i64) m k true:=by
    show (if gq.keq (.i .i64) k a=true then _ else (a,b)::Uo (.i .i64) m k true)=_;rw[z1 (show ¬ gq.keq (.i .i64) k a=true from λh=>hk (by have h:((k:Int)==a)=true:=h;exact eq_of_beq h))]
   rw[e,zG,zG];refine⟨xn.2 ⟨λhm=>?_,h1⟩,λx=>?_⟩
   .rcases (h2 a).1 hm with h|h
    .exact hk h.symm
    .exact hn.1 h
   .rw[zk,h2 x,zk];constructor
    .rintro (h|h|h)
     .exact .inr (.inl h)
     .exact .inl h
     .exact .inr (.inr h)
    .rintro (h|h|h)
     .exact .inr (.inl h)
     .exact .inl h
     .exact .inr (.inr h)
theorem Rb {α:Type}[BEq α] [LawfulBEq α]:∀ {l m:List α},l.Nodup->(∀ x∈l,x∈m)->l.length<=m.length
 |[],_,_,_=>Nat.zero_le _
 |x::l,m,hn,hs=>by rw[xn] at hn;have hx:x∈m:=hs x (zl ..);have:=Rb (l:=l) (m:=m.erase x) hn.2 λy hy=>(List.mem_erase_of_ne (by rintro rfl;exact hn.1 hy)).2 (hs y (zi _ hy));rw[List.length_erase_of_mem hx] at this;have:=List.length_pos_of_mem hx;rw[zS];omega
theorem LoopP.rng2 {X:Type}{F:List Nat×X->(List Nat×X->Prop)->Prop}(n:Nat) (J:X->List Nat->Prop) {x0:X}(h0:J x0 [])
  (hr:∀ (x:X) (dn:List Nat),dn.Nodup->(∀ r∈dn,r<n)->J x dn->∀ q:List Nat×X->Prop,(∀ (r:Nat) (x':X),r<n->r∉dn->J x' (dn++[r])->q (dn++[r],x'))->F (dn,x) q):LoopP F ([],x0):=by
 refine⟨λd=>d.1.Nodup/\(∀ r∈d.1,r<n)/\J d.2 d.1,λd=>n-d.1.length,⟨List.nodup_nil,(λr hr=>by cases hr),h0⟩,λ⟨dn,x⟩ ⟨h1,h2,h3⟩=>?_⟩;have h1:dn.Nodup:=h1;have h2:∀ r∈dn,r<n:=h2;refine hr x dn h1 h2 h3 _ λr x' ah gd hJ=>?_;have hn:=DD h1 gd;have hb:∀ y∈dn++[r],y<n:=λy hy=>by
  rcases zF.1 hy with h|h
  .exact h2 y h
  .rw[zh] at h;omega
 refine⟨⟨hn,hb,hJ⟩,?_⟩;have:=Mq hn (m:=List.range n) λy hy=>zz.2 (hb y hy);rw[wz,zJ,xq] at this;have e:(dn++[r]).length=dn.length+1:=by simp
 show n-(dn++[r]).length<n-dn.length;omega
def KeyW (n:Nat) (m:List ((Int×Int)×Int)) (x:List (Int×Bool)) (dn:List Nat):Prop:=(x.map (·.1)).Nodup/\∀ a,a∈x.map (·.1)<->∃ r∈dn,(m.getD r ((0,0),0)).1.1=a
theorem KeyW.snoc {n:Nat}{m:List ((Int×Int)×Int)}{x:List (Int×Bool)}{dn:List Nat}(h:KeyW n m x dn) (r:Nat):KeyW n m (Uo (.i .i64) x (m.getD r ((0,0),0)).1.1 true) (dn++[r]):=by
 obtain⟨h1,h2⟩:=L_ (m.getD r ((0,0),0)).1.1 x h.1;refine⟨h1,λa=>?_⟩;rw[h2 a,h.2 a];constructor
 .rintro (rfl|⟨s,hs,rfl⟩)
  .exact⟨r,by simp,rfl⟩
  .exact⟨s,xE _ hs,rfl⟩
 .rintro⟨s,hs,rfl⟩;rcases zF.1 hs with hs|hs
  .exact .inr ⟨s,hs,rfl⟩
  .rw[zh] at hs;subst hs;exact .inl rfl
theorem KeyW.len {n mo:Nat}{m:List ((Int×Int)×Int)}{W:Int×Int->Int}(hm:MapW n mo m W) {x:List (Int×Bool)}{dn:List Nat}(ah:∀ r∈dn,r<m.length) (h:KeyW n m x dn):x.length<=n:=by
 have:=Rb (l:=x.map (·.1)) (m:=(List.range n).map λ(a:Nat)=>(a:Int)) h.1 λa ha=>by
  obtain⟨r,hr,rfl⟩:=(h.2 a).1 ha;have dp:=ah r hr;rw[Qg dp];have hg:=XM.1 (hm.2.1 _ (zp dp)).2.2;exact zu.2 ⟨(m[r].1.1).toNat,zz.2 (by omega),by omega⟩
 simpa using this
theorem KeyW.all {hk:Int}{cs:List Wn}{cl:List Int}{fa:Int}(hn:0<cs.length) {m:List ((Int×Int)×Int)}(hm:MapW cs.length fa.toNat m (wyK cs.length fa.toNat (λk=>wvB hk cs cl k) cl.length)) {x:List (Int×Bool)}{dn:List Nat}(ah:∀ r∈dn,r<m.length) (h:KeyW cs.length m x dn) (ae:∀ r,r<m.length->r∈dn) (a:Int):a∈x.map (·.1)<->a∈Wb hk cs cl fa:=by
 rw[h.2 a,TI hn];constructor
 .rintro⟨r,hr,rfl⟩;have dp:=ah r hr;rw[Qg dp];have he:=hm.2.1 _ (zp dp);refine⟨m[r].1.2,?_⟩;have:(m[r].1.1,m[r].1.2)=m[r].1:=rfl;rw[this,<-he.1];omega
 .rintro⟨f,hf⟩;obtain⟨e,he,hq⟩:=hm.2.2 (a,f) hf;obtain⟨r,hr,rfl⟩:=List.getElem_of_mem he;exact⟨r,ae r hr,by rw[Qg hr,hq]⟩
theorem ES {l:List Int}(h:l.Nodup):(l.mergeSort λx y=>decide (x<=y)).Pairwise (·<·):=by
 have h1:=List.pairwise_mergeSort (le:=λx y:Int=>decide (x<=y)) (λa b c h1 h2=>by simp at *;omega) (λa b=>by simp;omega) l;have h2:=(List.mergeSort_perm l λx y:Int=>decide (x<=y)).nodup_iff.2 h;exact List.Pairwise.imp₂ (λa b (h1:decide (a<=b)=true) (h2:a≠b)=>by simp at h1;omega) h1 h2
theorem KeyW.sorted {hk:Int}{cs:List Wn}{cl:List Int}{fa:Int}(hn:0<cs.length) {m:List ((Int×Int)×Int)}(hm:MapW cs.length fa.toNat m (wyK cs.length fa.toNat (λk=>wvB hk cs cl k) cl.length)) {x:List (Int×Bool)}{dn:List Nat}(ah:∀ r∈dn,r<m.length) (h:KeyW cs.length m x dn) (ae:∀ r,r<m.length->r∈dn)
  {d2:List Nat}(pL:d2.Nodup) (ll:∀ r∈d2,r<x.length) (rF:∀ r,r<x.length->r∈d2):(d2.map λr=>(x.getD r (0,false)).1).mergeSort (λx y=>decide (x<=y))=Wb hk cs cl fa:=by
 have hx:∀ r,r<x.length->(x.getD r (0,false)).1=(x.map (·.1)).getD r 0:=λr hr=>by
  rw[Qg hr,Qg (by simpa using hr),xw]
 have o7:(d2.map λr=>(x.getD r (0,false)).1).Nodup:=xG.2 (List.Pairwise.imp_of_mem (λ{a b} ha hb az e=>by
  rw[hx a (ll a ha),hx b (ll b hb)] at e;have la:a<(x.map (·.1)).length:=by simpa using ll a ha
  have lb:b<(x.map (·.1)).length:=by simpa using ll b hb
  rw[Qg la,Qg lb] at e;exact az ((List.getElem_inj h.1).1 e)) pL)
 refine DJ (ES o7) (Da ..) λz=>?_;rw[(List.mergeSort_perm _ _).mem_iff,<-KeyW.all hn hm ah h ae z,zu,zu];constructor
 .rintro⟨r,hr,rfl⟩;have:=ll r hr;exact⟨x[r],zp this,by rw[Qg this]⟩
 .rintro⟨e,he,rfl⟩;obtain⟨r,hr,rfl⟩:=List.getElem_of_mem he;exact⟨r,rF r hr,by rw[Qg hr]⟩
def UT:AL (Unit):=.nil
def Ue (xs:List Int) (nl:Bool) (d:Unit):Prop:=(nl=false->0<xs.length)/\xs.length<=1000000
def Ui (xs:List Int) (nl:Bool) (d:Unit):SV:=.tup []
def Vt (xs:List Int) (nl:Bool) (d:Unit):List Int:=(Q9z xs)
def Yl:XSp:=Fb Nd (Fq 3 (.i .i64) UT Ue Ui Vt)
abbrev UQ:Prop:=XOk Tryz.prog 120 Yl
theorem U6:UQ:=Q1s Tryz.lays189 fun120.enterable rfl rfl λ_ _ _ h=>h
def G0:AL ((Int×List (Int×Int×Bool))×List Int×Int):=(.cons (.agg (.cons (.k (.i .i64)) (.one (.k (.list (.pair (.i .i64) (.pair (.i .i64) .bo))))))) (.cons (.k (.list (.i .i64))) (.one (.k (.i .i64)))))
def HM (d:(Int×List (Int×Int×Bool))×List Int×Int):Prop:=Qv d.1.1 d.1.2=0/\d.2.1.length<=60/\(∀ r∈d.2.1,-1<=r/\r<2 ^ d.1.1.toNat)/\0<=d.2.2/\d.2.2<=6
def Nf (d:(Int×List (Int×Int×Bool))×List Int×Int):SV:=.tup [.lst 0,.val (.i .i64) (0:Int)]
def ND (d:(Int×List (Int×Int×Bool))×List Int×Int):List OB:=[.lst 3 (.i .i64) (Wb d.1.1 d.1.2 d.2.1 d.2.2) ((Wb d.1.1 d.1.2 d.2.1 d.2.2).isEmpty)]
def U2:CSp:=VU G0 HM Nf ND
abbrev LC:=λ(fg:List (Int×Bool)) (fN:List Nat) ia (fZ:List Value) (fh:Int) (ic:Bool) (j8:List ((Int×Int)×Int)) (jD:List Nat) (j9:List Value) (jE:List Value) (fj:LpD) (fk:List Int) (fO:_->Prop)=>(( ∃ pM:( List Nat )×( List Int ) ,( ( True/\True/\True )/\( ( fg=fg/\( fN++[ ia ] )=pM.1 )/\( fZ=fZ/\( True/\True/\True/\True/\True/\True/\True/\True/\True/\fh=fh/\True/\True/\True/\True/\True/\True/\True/\True/\True/\True/\True/\True/\True/\ic=ic/\True/\True/\True/\True/\True/\True/\( ( ( ( [ ]:List SV )=[ ] ) )/\( True/\( ( [ ]:List SV )=[ ] ) ) )/\True/\True/\( ( [ ]:List SV )=[ ] ) ) )/\( j8=j8/\jD=jD )/\( True/\( ( [ ]:List SV )=[ ] ) )/\( j9=j9/\( ( ( ( ( [ ]:List SV )=[ ] ) )/\( True/\( ( [ ]:List SV )=[ ] ) ) )/\True/\True/\True/\( ( ( ( [ ]:List SV )=[ ] ) )/\( True/\( ( [ ]:List SV )=[ ] ) ) )/\True/\True/\True/\True/\( ( [ ]:List SV )=[ ] ) ) )/\( jE=jE/\( ( ( ( ( [ ]:List SV )=[ ] ) )/\( True/\( ( [ ]:List SV )=[ ] ) ) )/\True/\True/\( ( ( ( [ ]:List SV )=[ ] ) )/\( True/\( ( [ ]:List SV )=[ ] ) ) )/\True/\( ( [ ]:List SV )=[ ] ) ) )/\( fj=fj/\( True/\( ( ( ( [ ]:List SV )=[ ] ) )/\( True/\( ( [ ]:List SV )=[ ] ) ) )/\True/\True/\True/\True/\( ( ( ( [ ]:List SV )=[ ] ) )/\( True/\( ( [ ]:List SV )=[ ] ) ) )/\True/\True/\True/\True/\True/\True/\( ( [ ]:List SV )=[ ] ) ) )/\( True/\( ( [ ]:List SV )=[ ] ) )/\( ( fk++[ ( List.getD fg ( List.getLastD ( fN++[ ia ] ) 0 ) ( 0 ,false ) ).1 ] )=pM.2/\false=( List.isEmpty pM.2 ) )/\True ) )/\fO pM ):Prop)
abbrev HX:=λ(hk:Int) (cs:List (Int×Int×Bool)) (cl:List Int) (fa:Int) fg (fN:List Nat) (ia:LpD) (fZ:LpD) (fh:List Int) (ic:List (Int×Bool)) (j8:List Value) (jD:List Value) (j9:List Value) (jE:List Value) (fj:List Value) (fk:List Value) (fO:Int) (j_:Bool) (ka:List ((Int×Int)×Int)) (mD:List Nat) (ke:_->Prop) (o8:Nat)=>(fg∉fN->( true=true->( ( fN++[ fg ] )≠[ ] )/\ia=fZ/\∀ o9:List Value ,( ( ( List.length fh )+( List.length [ ( List.getD ic ( List.getLastD ( fN++[ fg ] ) 0 ) ( 0 ,false ) ).1 ] ) )*8<=70368744177664 )/\o9=o9/\ia=fZ/\( ( ! true )=true->ia=fZ/\j8=jD/\j9=jE/\( ( false=false->0<( fh++[ ( List.getD ic ( List.getLastD ( fN++[ fg ] ) 0 ) ( 0 ,false ) ).1 ] ).length )/\( fh++[ ( List.getD ic ( List.getLastD ( fN++[ fg ] ) 0 ) ( 0 ,false ) ).1 ] ).length<=1000000 )/\fj=fk/\( ( True/\fO=( 0:Int )/\( ( [ ]:List SV )=[ ] ) )/\( ( ( Q9z ( fh++[ ( List.getD ic ( List.getLastD ( fN++[ fg ] ) 0 ) ( 0 ,false ) ).1 ] ) )=( Wb hk cs cl fa )/\false=( Wb hk cs cl fa ).isEmpty )/\True ) ) )/\( ( ! true )=false->( LC ic fN fg fj fO j_ ka mD j9 j8 ia fh ke ) ) )/\( true=false->ia=fZ/\j8=jD/\j9=jE/\( ( ( List.isEmpty fh )=false->0<o8 )/\o8<=1000000 )/\fj=fk/\( ( True/\fO=( 0:Int )/\( ( [ ]:List SV )=[ ] ) )/\( ( ( Q9z fh )=( Wb hk cs cl fa )/\( List.isEmpty fh )=( Wb hk cs cl fa ).isEmpty )/\True ) ) ):Prop)
abbrev Pa:=λ(hk:Int) (cs:List (Int×Int×Bool)) (cl:List Int) (fa:Int) (fg:List Nat) (fN:LpD) (ia:LpD) (fZ:List Int) (fh:List (Int×Bool)) (ic:List Value) (j8:List Value) (jD:List Value) (j9:List Value) (jE:List Value) (fj:List Value) (fk:Int) (fO:Bool) (j_:List ((Int×Int)×Int)) (ka:List Nat) (mD:_->Prop) (ke:Nat)=>(( false=true->( fg≠[ ] )/\fN=ia/\∀ o9:List Value ,( ( ( List.length fZ )+( List.length [ ( List.getD fh ( List.getLastD fg 0 ) ( 0 ,false ) ).1 ] ) )*8<=70368744177664 )/\o9=o9/\fN=ia/\( ( ! true )=true->fN=ia/\ic=j8/\jD=j9/\( ( false=false->0<( fZ++[ ( List.getD fh ( List.getLastD fg 0 ) ( 0 ,false ) ).1 ] ).length )/\( fZ++[ ( List.getD fh ( List.getLastD fg 0 ) ( 0 ,false ) ).1 ] ).length<=1000000 )/\jE=fj/\( ( True/\fk=( 0:Int )/\( ( [ ]:List SV )=[ ] ) )/\( ( ( Q9z ( fZ++[ ( List.getD fh ( List.getLastD fg 0 ) ( 0 ,false ) ).1 ] ) )=( Wb hk cs cl fa )/\false=( Wb hk cs cl fa ).isEmpty )/\True ) ) )/\( ( ! true )=false->( ∃ pN:( List Nat )×( List Int ) ,( ( True/\True/\True )/\( ( fh=fh/\fg=pN.1 )/\( jE=jE/\( True/\True/\True/\True/\True/\True/\True/\True/\True/\fk=fk/\True/\True/\True/\True/\True/\True/\True/\True/\True/\True/\True/\True/\True/\fO=fO/\True/\True/\True/\True/\True/\True/\( ( ( ( [ ]:List SV )=[ ] ) )/\( True/\( ( [ ]:List SV )=[ ] ) ) )/\True/\True/\( ( [ ]:List SV )=[ ] ) ) )/\( j_=j_/\ka=ka )/\( True/\( ( [ ]:List SV )=[ ] ) )/\( jD=jD/\( ( ( ( ( [ ]:List SV )=[ ] ) )/\( True/\( ( [ ]:List SV )=[ ] ) ) )/\True/\True/\True/\( ( ( ( [ ]:List SV )=[ ] ) )/\( True/\( ( [ ]:List SV )=[ ] ) ) )/\True/\True/\True/\True/\( ( [ ]:List SV )=[ ] ) ) )/\( ic=ic/\( ( ( ( ( [ ]:List SV )=[ ] ) )/\( True/\( ( [ ]:List SV )=[ ] ) ) )/\True/\True/\( ( ( ( [ ]:List SV )=[ ] ) )/\( True/\( ( [ ]:List SV )=[ ] ) ) )/\True/\( ( [ ]:List SV )=[ ] ) ) )/\( fN=fN/\( True/\( ( ( ( [ ]:List SV )=[ ] ) )/\( True/\( ( [ ]:List SV )=[ ] ) ) )/\True/\True/\True/\True/\( ( ( ( [ ]:List SV )=[ ] ) )/\( True/\( ( [ ]:List SV )=[ ] ) ) )/\True/\True/\True/\True/\True/\True/\( ( [ ]:List SV )=[ ] ) ) )/\( True/\( ( [ ]:List SV )=[ ] ) )/\( ( fZ++[ ( List.getD fh ( List.getLastD fg 0 ) ( 0 ,false ) ).1 ] )=pN.2/\false=( List.isEmpty pN.2 ) )/\True ) )/\mD pN ) ) )/\( false=false->fN=ia/\ic=j8/\jD=j9/\( ( ( List.isEmpty fZ )=false->0<ke )/\ke<=1000000 )/\jE=fj/\( ( True/\fk=( 0:Int )/\( ( [ ]:List SV )=[ ] ) )/\( ( ( Q9z fZ )=( Wb hk cs cl fa )/\( List.isEmpty fZ )=( Wb hk cs cl fa ).isEmpty )/\True ) ) ):Prop)
abbrev YS :=(((([]:List SV)=[]))/\(True/\(([]:List SV)=[])))
abbrev RS :=(True/\YS/\True/\True/\True/\True/\YS/\True/\True/\True/\True/\True/\True/\(([]:List SV)=[]))
abbrev Sy :=(YS/\True/\True/\True/\YS/\True/\True/\True/\True/\(([]:List SV)=[]))
abbrev Hm :=((0:Int)=(0:Int)/\True/\True/\True)
abbrev GL :=(True/\(([]:List SV)=[]))
abbrev SE :=(YS/\True/\True/\YS/\True/\(([]:List SV)=[]))
def Yf (hk:Int) (cs:List (Int × Int × Bool)) (cl:List Int) (fa:Int):Prop :=
  (Qv hk cs = 0 /\ cl.length <= 60 /\ (∀ r ∈ cl, -1 <= r /\ r < 2 ^ hk.toNat) /\ 0 <= fa /\ fa <= 6) /\ (∀ m1:List ((Int × Int) × Int), (MapW cs.length fa.toNat m1 (wyK cs.length fa.toNat (λk => wvB hk cs cl k) cl.length)) -> ∃ (e4:(List ((Int × Int) × Int))) (d40:(List (Int × Bool)) × (List Nat)), (Hm /\ ((([]:List (Int × Bool)) = d40.1) /\ (m1 = e4 /\ ([]:List Nat) = d40.2) /\ True)) /\
  LoopP (λ(d4:(List (Int × Bool)) × (List Nat)) (q4:((List (Int × Bool)) × (List Nat)) -> Prop) =>
    ((∀ r:Nat, r < (List.length e4) -> r ∈ d4.2) ->
      (false = true ->
        (d4.2 ≠ []) /\ (∃ d6:(List (Int × Bool)) × (List Nat), (Hm /\ (((Uo (.i .i64) d4.1 (List.getD e4 (List.getLastD d4.2 0) ((0, 0), 0)).1.1 true) = d6.1) /\ (e4 = e4 /\ d4.2 = d6.2) /\ True)) /\ q4 d6)) /\
      (false = false ->
        ∀ w7:List Value, w7 = w7 /\ ∀ w8:List Value, ∀ w9:List Value, ∀ jk:List Value, ∀ h_:LpD, ∃ (au:(List (Int × Bool)) × Int × (List ((Int × Int) × Int)) × (List Nat) × Bool × (List Value) × (List Value) × (List Value) × LpD) (d150:(List Nat) × (List Int)), ((True /\ True /\ True) /\ ((d4.1 = au.1 /\ ([]:List Nat) = d150.1) /\ ((pj4 au).2.1 = w8 /\ (True /\ True /\ True /\ True /\ True /\ True /\ True /\ True /\ True /\ (0:Int) = au.2.1 /\ True /\ True /\ True /\ True /\ True /\ True /\ True /\ True /\ True /\ True /\ True /\ True /\ True /\ false = (pj4 au).1 /\ True /\ True /\ True /\ True /\ True /\ True /\ YS /\ True /\ True /\ (([]:List SV) = []))) /\ (e4 = au.2.2.1 /\ d4.2 = au.2.2.2.1) /\ GL /\ ((pj4 au).2.2.1 = w9 /\ Sy) /\ ((pj4 au).2.2.2.1 = jk /\ SE) /\ ((pj8 au) = h_ /\ RS) /\ GL /\ (d150.2 = [] /\ (List.isEmpty d150.2) = true) /\ True)) /\
        LoopP (λ(d15:(List Nat) × (List Int)) (j7:((List Nat) × (List Int)) -> Prop) =>
          ((∀ r:Nat, r < (List.length au.1) -> r ∈ d15.1) ->
             (Pa hk cs cl fa d15.1 (pj8 au) h_ d15.2 au.1 (pj4 au).2.2.2.1 jk (pj4 au).2.2.1 w9 (pj4 au).2.1 w8 au.2.1 (pj4 au).1 au.2.2.1 au.2.2.2.1 j7 d15.2.length)) /\
          (∀ sF:Nat, sF < (List.length au.1) ->  (HX hk cs cl fa sF d15.1 (pj8 au) h_ d15.2 au.1 (pj4 au).2.2.2.1 jk (pj4 au).2.2.1 w9 (pj4 au).2.1 w8 au.2.1 (pj4 au).1 au.2.2.1 au.2.2.2.1 j7 d15.2.length))) d150)) /\
    (∀ r5:Nat, r5 < (List.length e4) -> r5 ∉ d4.2 ->
      (true = true ->
        ((d4.2 ++ [r5]) ≠ []) /\ (∃ d21:(List (Int × Bool)) × (List Nat), (Hm /\ (((Uo (.i .i64) d4.1 (List.getD e4 (List.getLastD (d4.2 ++ [r5]) 0) ((0, 0), 0)).1.1 true) = d21.1) /\ (e4 = e4 /\ (d4.2 ++ [r5]) = d21.2) /\ True)) /\ q4 d21)) /\
      (true = false ->
        ∀ sG:List Value, sG = sG /\ ∀ rG:List Value, ∀ rH:List Value, ∀ rI:List Value, ∀ rJ:LpD, ∃ (dh:(List (Int × Bool)) × Int × (List ((Int × Int) × Int)) × (List Nat) × Bool × (List Value) × (List Value) × (List Value) × LpD) (d300:(List Nat) × (List Int)), ((True /\ True /\ True) /\ ((d4.1 = dh.1 /\ ([]:List Nat) = d300.1) /\ ((pj4 dh).2.1 = rG /\ (True /\ True /\ True /\ True /\ True /\ True /\ True /\ True /\ True /\ (0:Int) = dh.2.1 /\ True /\ True /\ True /\ True /\ True /\ True /\ True /\ True /\ True /\ True /\ True /\ True /\ True /\ true = (pj4 dh).1 /\ True /\ True /\ True /\ True /\ True /\ True /\ YS /\ True /\ True /\ (([]:List SV) = []))) /\ (e4 = dh.2.2.1 /\ (d4.2 ++ [r5]) = dh.2.2.2.1) /\ GL /\ ((pj4 dh).2.2.1 = rH /\ Sy) /\ ((pj4 dh).2.2.2.1 = rI /\ SE) /\ ((pj8 dh) = rJ /\ RS) /\ GL /\ (d300.2 = [] /\ (List.isEmpty d300.2) = true) /\ True)) /\
        LoopP (λ(d30:(List Nat) × (List Int)) (sH:((List Nat) × (List Int)) -> Prop) =>
          ((∀ r:Nat, r < (List.length dh.1) -> r ∈ d30.1) ->
             (Pa hk cs cl fa d30.1 (pj8 dh) rJ d30.2 dh.1 (pj4 dh).2.2.2.1 rI (pj4 dh).2.2.1 rH (pj4 dh).2.1 rG dh.2.1 (pj4 dh).1 dh.2.2.1 dh.2.2.2.1 sH d30.2.length)) /\
          (∀ sI:Nat, sI < (List.length dh.1) ->  (HX hk cs cl fa sI d30.1 (pj8 dh) rJ d30.2 dh.1 (pj4 dh).2.2.2.1 rI (pj4 dh).2.2.1 rH (pj4 dh).2.1 rG dh.2.1 (pj4 dh).1 dh.2.2.1 dh.2.2.2.1 sH d30.2.length))) d300))) d40)
def Z4:Cx:=⟨[],[],4,[],0,[],[],[],[],false,[],[],[],[]⟩
def Z3:List (Nat×LoopAnn):=[]
def Q9:Cx:=⟨[],[],14,[],0,[],[],[],[],false,[],[],[],[]⟩
def Qa:List (Nat×LoopAnn):=[(0,⟨(List (Int×Bool))×Int×(List ((Int×Int)×Int))×(List Nat)×Bool×(List Value)×(List Value)×(List Value)×LpD,(List Nat)×(List Int),[0,5],λe x=>[.dd 32000060002500000 .yv,.box 3200006000250000100005 0],λe x=>[(3200006000250000100005,.slot 5,.iter (.i .i64) .bo e.1 x.1),(3199999,.key 3199999,.stk [.any,.any,.any,.any,.any,.any,.any,.any,.any,.val (.i .i64) e.2.1,.any,.any,.any,.any,.any,.any,.any,.any,.any,.any,.any,.box 21 0,.any,.val .bo e.2.2.2.2.1,.any,.any,.any,.any,.any,.any,.fn 121 [] [.box 3100001 0],.any,.any] e.2.2.2.2.2.1),(21,.key 21,.iter (.pair (.i .i64) (.i .i64)) (.i .i64) e.2.2.1 e.2.2.2.1),(3100001,.key 3100001,.cells [.any] (some 122)),(320000599999,.key 320000599999,.stk [.fn 121 [] [.box 3100001 0],.any,.nilS,.any,.fn 121 [] [.box 3100001 0],.any,.any,.any,.any] e.2.2.2.2.2.2.1),(32000060000499999,.key 32000060000499999,.stk [.fn 121 [] [.box 3100001 0],.any,.nilS,.fn 121 [] [.box 3100001 0],.any] e.2.2.2.2.2.2.2.1),(32000060002500000,.key 32000060002500000,.lpf [.nilS,.fn 121 [] [.box 3100001 0],.box 32000060000500002 0,.any,.nilS,.any,.fn 121 [] [.box 3100001 0],.any,.any,.any,.any,.any,.any] e.2.2.2.2.2.2.2.2 .rdy),(32000060000500002,.key 32000060000500002,.cells [.lst 32000060000500011] (some 27)),(32000060000500011,.cell 32000060000500002 0,.lst 3 (.i .i64) x.2 (List.isEmpty x.2))]⟩)]
def Ql:Cx:=⟨[(3,(.i .i64))],[],13,[],0,[],[],[],[],false,[],[(121,Z1l Q9 Qa Z1e 14)],[],[]⟩
def Qk:List (Nat×LoopAnn):=[]
def QL:Cx:=⟨[],[],5,[],0,[(146,An Ql (λ_=>Qk) Z1b [.tmp 4] 13)],[],[],[],false,[],[],[],[]⟩
def QJ:List (Nat×LoopAnn):=[]
def Jg:Cx:=⟨[],[],9,[],0,[(119,An QL (λ_=>QJ) Z1x [.tmp 2] 5),(120,Yl)],[],[],[],false,[],[],[],[]⟩
def Ji:List (Nat×LoopAnn):=[]
def MB:Cx:=⟨[(1000019,(.pair (.i .i64) .bo))],[],33,[],0,[(79,YT),(81,An Z4 (λ_=>Z3) c81 [.tmp 2] 4),(80,An Jg (λ_=>Ji) c80 [.tmp 2] 9)],[],[],[],false,[],[],[],[]⟩
def P_ (hk:Int) (cs:List (Int×Int×Bool)) (cl:List Int) (fa:Int):List (Nat×LoopAnn):=[(0,⟨(List ((Int×Int)×Int)),(List (Int×Bool))×(List Nat),[9,10,21],λe x=>[.val (.i .i64) (0:Int),.map 19,.box 21 0],λe x=>[(19,.slot 10,.map (.i .i64) .bo x.1),(21,.slot 21,.iter (.pair (.i .i64) (.i .i64)) (.i .i64) e x.2)]⟩)]
theorem Tw (d:(Int×List (Int×Int×Bool))×List Int×Int):gwp (MB) (P_ d.1.1 d.1.2 d.2.1 d.2.2) c28 0 (UO [.tmp 6,.tmp 7] (Nf d) (ND d)) (Zd 33 (AL.can G0 d))=Yf d.1.1 d.1.2 d.2.1 d.2.2:=by kernel_rfl
abbrev T8:Prop:=OkC Tryz.prog 28 U2
theorem Tb (h:∀ (hk:Int) (cs:List (Int×Int×Bool)) (cl:List Int) (fa:Int),(Qv hk cs=0/\cl.length<=60/\(∀ r∈cl,-1<=r/\r<2 ^ hk.toNat)/\0<=fa/\fa<=6)->Yf hk cs cl fa):OkC Tryz.prog 28 U2 :=
 Zv Q6p mixed (C:=MB) (V:=λ(d:(Int×List (Int×Int×Bool))×List Int×Int)=>Yf d.1.1 d.1.2 d.2.1 d.2.2) ⟨.nil,(XsOk.cons NQ (XsOk.cons (Y2 Q6e mixed (C:=Z4) ⟨.nil,XsOk.nil,ItsOk.nil,YlOk.nil,IysOk.nil,XfOk.nil⟩ (λ_=>Z3)) (XsOk.cons (Y2 Q7a mixed (C:=Jg) ⟨.nil,(XsOk.cons (Y2 OS mixed (C:=QL) ⟨.nil,(XsOk.cons (Y2 II mixed (C:=Ql) ⟨.nil,XsOk.nil,ItsOk.nil,YlOk.nil,(IysOk.cons (CZ Q04 mixed (C:=Q9) ⟨.nil,XsOk.nil,ItsOk.nil,YlOk.nil,IysOk.nil,XfOk.nil⟩ Qa) IysOk.nil),XfOk.nil⟩ (λ_=>Qk)) XsOk.nil),ItsOk.nil,YlOk.nil,IysOk.nil,XfOk.nil⟩ (λ_=>QJ)) (XsOk.cons U6 XsOk.nil)),ItsOk.nil,YlOk.nil,IysOk.nil,XfOk.nil⟩ (λ_=>Ji)) XsOk.nil))),ItsOk.nil,YlOk.nil,IysOk.nil,XfOk.nil⟩ (Tw) λd hp=>h d.1.1 d.1.2 d.2.1 d.2.2 hp
theorem T3:T8:=Tb λhk cs cl fa h=>by
 obtain⟨h1,h2,h3,h4,h5⟩:=h;obtain⟨hf,cq,az,ai⟩:=GA h1;have bc:=xB.2 az;unfold Yf;(try delta LC HX Pa YS RS Sy Hm GL SE);(try delta lI gD sT I64 W5 pj8 pj4);refine⟨⟨h1,h2,h3,h4,h5⟩,λm hm=>⟨m,([],[]),(by and_intros<;>first|rfl|trivial),?_⟩⟩;refine LoopP.rng m.length (λx dn=>KeyW cs.length m x dn) ⟨List.nodup_nil,λa=>⟨(λh=>by cases h),(λ⟨r,hr,_⟩=>by cases hr)⟩⟩ ?_;intro x dn hn ah hx q hq;dsimp only;refine⟨λae=>⟨(λc=>by cases c),λ_=>?_⟩,λr hr gd=>⟨λ_=>?_,(λc=>by cases c)⟩⟩
 .intro w7;refine⟨rfl,λw8 w9 jk h_=>⟨(x,0,m,dn,false,w8,w9,jk,h_),([],[]),(by and_intros<;>first|rfl|trivial),?_⟩⟩;dsimp only;have gf:=KeyW.len hm ah hx;refine LoopP.rng2 x.length (λys d2=>ys=d2.map λr=>(x.getD r (0,false)).1) rfl ?_;intro ys d2 pL ll o7 q2 qC;dsimp only;have hlen:ys.length=d2.length:=by rw[o7];simp
  have o_:=Mq pL (m:=List.range x.length) λy hy=>zz.2 (ll y hy);rw[wz] at o_;refine⟨λrF=>⟨(λc=>by cases c),λ_=>?_⟩,λr hr gd=>⟨λ_=>?_,(λc=>by cases c)⟩⟩
  .have hs:=KeyW.sorted bc hm ah hx ae pL ll rF;rw[<-o7] at hs;have hl:=(List.mergeSort_perm ys λx y:Int=>decide (x<=y)).length_eq;rw[hs] at hl;refine⟨rfl,rfl,rfl,⟨λe=>by cases ys with|nil=>cases e|cons _ _=>exact Nat.succ_pos _,by omega⟩,rfl,⟨by and_intros<;>first|rfl|trivial,⟨hs,?_⟩,trivial⟩⟩;rw[Bool.eq_iff_iff,List.isEmpty_iff,List.isEmpty_iff,<-zQ,<-zQ,hl]
  .have ep:List.getLastD (d2++[r]) 0=r:=by simp
   rw[ep];refine⟨by simp,rfl,λw=>⟨by simp only[xq];omega,rfl,rfl,(λc=>by cases c),λ_=>?_⟩⟩;refine⟨(d2++[r],ys++[(x.getD r (0,false)).1]),⟨⟨trivial,trivial,trivial⟩,?_⟩,qC r _ hr gd (by rw[o7];simp)⟩;and_intros<;>first|rfl|trivial|simp
 .have ep:List.getLastD (dn++[r]) 0=r:=by simp
  rw[ep];refine⟨by simp,(Uo (.i .i64) x (m.getD r ((0,0),0)).1.1 true,dn++[r]),(by and_intros<;>first|rfl|trivial),hq r _ hr gd (hx.snoc r)⟩
theorem Pn {n mo:Nat}{wv:Nat->Int->Bool}{k:Nat}{L L':List ((Int×Int)×Int)}(h:(Jw n mo).map (λq=>(q,wyK n mo wv k q))=L)
  (h':(Jw n mo).map (λq=>(q,((Jw n mo).map λp=>LL n mo (wv k) p (XS L p) q).sum))=L'):(Jw n mo).map (λq=>(q,wyK n mo wv (k+1) q))=L':=by
 have hL:∀ p∈Jw n mo,XS L p=wyK n mo wv k p:=λp hp=>by
  have hn:(L.map (·.1)).Nodup:=by
   rw[<-h,wA];have:((λx:(Int×Int)×Int=>x.1) ∘ λq=>(q,wyK n mo wv k q))=id:=rfl;rw[this,List.map_id];exact Ml n mo
  have hm:(p,wyK n mo wv k p)∈L:=by rw[<-h];exact zu.2 ⟨p,hp,rfl⟩
  exact Ob hn hm
 rw[<-h'];refine xr λq _=>?_;have:((Jw n mo).map λp=>LL n mo (wv k) p (XS L p) q)=(Jw n mo).map λp=>LL n mo (wv k) p (wyK n mo wv k p) q:=xr λp hp=>by rw[hL p hp]
 rw[this];rfl
def five:List Wn:=[(0,1,false),(3,8,false),(1,2,false),(2,4,false),(4,15,false)]
def clo5:List Int:=[8,2,2,-1,1]
theorem Z0o:(Jw 5 2).map (λq=>(q,wyK 5 2 (λk=>wvB 4 five clo5 k) 0 q))=[((0,0),1),((0,1),0),((0,2),0),((1,0),1),((1,1),0),((1,2),0),((2,0),1),((2,1),0),((2,2),0),((3,0),1),((3,1),0),((3,2),0),((4,0),1),((4,1),0),((4,2),0)]:=by kernel_rfl
theorem Q9s:(Jw 5 2).map (λq=>(q,wyK 5 2 (λk=>wvB 4 five clo5 k) 1 q))=[((0,0),0),((0,1),0),((0,2),0),((1,0),0),((1,1),1),((1,2),0),((2,0),1),((2,1),0),((2,2),0),((3,0),0),((3,1),1),((3,2),0),((4,0),0),((4,1),0),((4,2),0)]:=Pn Z0o (by kernel_rfl)
theorem Q8q:(Jw 5 2).map (λq=>(q,wyK 5 2 (λk=>wvB 4 five clo5 k) 2 q))=[((0,0),0),((0,1),0),((0,2),0),((1,0),0),((1,1),0),((1,2),0),((2,0),0),((2,1),1),((2,2),0),((3,0),1),((3,1),0),((3,2),0),((4,0),0),((4,1),1),((4,2),0)]:=Pn Q9s (by kernel_rfl)
theorem Q93:(Jw 5 2).map (λq=>(q,wyK 5 2 (λk=>wvB 4 five clo5 k) 3 q))=[((0,0),0),((0,1),0),((0,2),0),((1,0),0),((1,1),0),((1,2),0),((2,0),0),((2,1),0),((2,2),1),((3,0),0),((3,1),1),((3,2),0),((4,0),0),((4,1),0),((4,2),1)]:=Pn Q8q (by kernel_rfl)
theorem Q9n:(Jw 5 2).map (λq=>(q,wyK 5 2 (λk=>wvB 4 five clo5 k) 4 q))=[((0,0),0),((0,1),0),((0,2),2),((1,0),0),((1,1),0),((1,2),0),((2,0),0),((2,1),0),((2,2),0),((3,0),0),((3,1),0),((3,2),2),((4,0),0),((4,1),1),((4,2),0)]:=Pn Q93 (by kernel_rfl)
theorem Il:(Jw 5 2).map (λq=>(q,wyK 5 2 (λk=>wvB 4 five clo5 k) 5 q))=[((0,0),0),((0,1),0),((0,2),0),((1,0),0),((1,1),0),((1,2),2),((2,0),0),((2,1),0),((2,2),0),((3,0),0),((3,1),0),((3,2),0),((4,0),0),((4,1),0),((4,2),0)]:=Pn Q9n (by kernel_rfl)
theorem Ij:Cy 4 five clo5 2=2:=by
 have h:(((Jw 5 2).map (λq=>(q,wyK 5 2 (λk=>wvB 4 five clo5 k) 5 q))).map λx=>x.2).sum=2:=by rw[Il];rfl
 rw[wA] at h;exact h
theorem Fo:Wb 4 five clo5 2=[1]:=by
 refine DJ (Da ..) (by simp) λz=>?_;rw[TI (by decide)];have ae:∀ q∈Jw 5 2,(q,wyK 5 2 (λk=>wvB 4 five clo5 k) 5 q)∈([((0,0),0),((0,1),0),((0,2),0),((1,0),0),((1,1),0),((1,2),2),((2,0),0),((2,1),0),((2,2),0),((3,0),0),((3,1),0),((3,2),0),((4,0),0),((4,1),0),((4,2),0)]:List ((Int×Int)×Int)):=λq hq=>by rw[<-Il];exact zu.2 ⟨q,hq,rfl⟩
 constructor
 .rintro⟨f,hf⟩;have hg:=Sm 5 2 (λk=>wvB 4 five clo5 k) (by decide) 5 (z,f) hf;have h:=ae _ hg;have hf:wyK 5 2 (λk=>wvB 4 five clo5 k) 5 (z,f)≠0:=hf;generalize wyK 5 2 (λk=>wvB 4 five clo5 k) 5 (z,f)=w at h hf;simp only[zk,List.not_mem_nil,or_false,Prod.mk.injEq] at h;simp only[zk,List.not_mem_nil,or_false];omega
 .intro hz;simp only[zk,List.not_mem_nil,or_false] at hz;rcases hz with rfl
  .refine⟨2,?_⟩;have hm:(((1,2),2):(Int×Int)×Int)∈(Jw 5 2).map (λq=>(q,wyK 5 2 (λk=>wvB 4 five clo5 k) 5 q)):=by rw[Il];simp
   obtain⟨q,_,hq⟩:=zu.1 hm;have h1:q=(1,2):=congrArg (λx:(Int×Int)×Int=>x.1) hq;have h2:wyK 5 2 (λk=>wvB 4 five clo5 k) 5 q=2:=congrArg (λx:(Int×Int)×Int=>x.2) hq;rw[h1] at h2;show wyK 5 2 (λk=>wvB 4 five clo5 k) 5 (1,2)≠0;rw[h2];decide
theorem TR {bl:List PB}{i:Nat}{k:Kind}(hk:k.flat=true) (xs:List k.T) {b:PB}(hb:bl[i]?=some b) (hc:b.c=(xs.map (Mw k)).flatten) (hs:b.esz.sz=k.size):SlRel (QE bl []) k.size (λx c=>KC (QE bl []) k x c) xs (.slice (some ⟨i,0,none⟩) xs.length xs.length):=by
 have hr:=Rows.ofEnc (h:=QE bl []) hk xs;have hl:=hr.length KC.q0h;refine .inr ⟨i,0,xs.length,b.c,b.esz,false,b.tight,rfl,ze _,?_,hs,?_,?_⟩
 .have hi:=(zg.1 hb).1;show (if i<bl.length then (bl[i]?).map (PB.blk false) else _)=_;rw[z7 hi,hb];rfl
 .rw[hc,hl];omega
 .rw[x8,hc,zN (by rw[hl];exact ze _)];exact hr
theorem TO {bl fr:List PB}{bs:List OB}(h:bs.map FM=fr.map λb=>some (b.blk true)):BQ (QE bl []) bs=QE bl fr:=by
 have hl:bs.length=fr.length:=by have:=congrArg List.length h;simpa using this
 have hg:(BQ (QE bl []) bs).get=(QE bl fr).get:=by
  funext i
  show (if i<(QE bl []).n then (QE bl []).get i else (bs[i-(QE bl []).n]?).bind FM)=if i<bl.length then (bl[i]?).map (PB.blk false) else (fr[i-bl.length]?).map (PB.blk true)
  have hn:(QE bl []).n=bl.length:=by show bl.length+0=_;omega
  rw[hn];by_cases hi:i<bl.length
  .rw[z7 hi,z7 hi];show (if i<bl.length then (bl[i]?).map (PB.blk false) else _)=_;rw[z7 hi]
  .rw[z1 hi,z1 hi];have:=congrArg (λl:List (Option Blk)=>l[i-bl.length]?) h;simp only[zY] at this;cases e1:bs[i-bl.length]? with
   |none =>
    rw[e1] at this;cases e2:fr[i-bl.length]? with
    |none=>rfl
    |some b=>rw[e2] at this;simp at this
   |some b =>
    rw[e1] at this;cases e2:fr[i-bl.length]? with
    |none=>rw[e2] at this;simp at this
    |some b2 =>rw[e2] at this;simp only[x6,xi] at this;simp only[xt,x6];exact this
 have hn:(BQ (QE bl []) bs).n=(QE bl fr).n:=by show bl.length+0+bs.length=bl.length+fr.length;omega
 cases hA:BQ (QE bl []) bs with
 |mk g n w =>
  cases hB:QE bl fr with
  |mk g' n' w' =>rw[hA,hB] at hg hn;subst hg;subst hn;rfl
abbrev Q7i:Kind:=.pair (.i .i64) (.pair (.i .i64) .bo)
def HB5:List PB:=[⟨[.int .i64 0,.int .i64 1,.bool false,.int .i64 3,.int .i64 8,.bool false,.int .i64 1,.int .i64 2,.bool false,.int .i64 2,.int .i64 4,.bool false,.int .i64 4,.int .i64 15,.bool false],⟨3,87⟩,true⟩,⟨[.int .i64 8,.int .i64 2,.int .i64 2,.int .i64 (-1),.int .i64 1],⟨1,3⟩,true⟩]
def I1:List Value:=[.agg #[.int .i64 4,.slice (some ⟨0,0,none⟩) 5 5],.slice (some ⟨1,0,none⟩) 5 5,.int .i64 2]
def L5:List SV:=[.agg [.val (.i .i64) (4:Int),.val (.list Q7i) five],.val (.list (.i .i64)) clo5,.val (.i .i64) (2:Int)]
theorem Hw:SRs Tryz.prog (QE HB5 []) X1 J3 L5 I1:=by
 have h1:SlRel (QE HB5 []) (Kind.size Q7i) (λx c=>KC (QE HB5 []) Q7i x c) five (.slice (some ⟨0,0,none⟩) 5 5):=TR (bl:=HB5) (i:=0) (k:=Q7i) rfl five (b:=HB5[0]'(by decide)) rfl rfl rfl;have h2:SlRel (QE HB5 []) (Kind.size (.i .i64)) (λx c=>KC (QE HB5 []) (.i .i64) x c) clo5 (.slice (some ⟨1,0,none⟩) 5 5):=TR (bl:=HB5) (i:=1) (k:=.i .i64) rfl clo5 (b:=HB5[1]'(by decide)) rfl rfl rfl;have s1:SR Tryz.prog (QE HB5 []) X1 J3 (.val (.list Q7i) five) (.slice (some ⟨0,0,none⟩) 5 5):=by simp only[SR,KC];exact⟨_,rfl,h1⟩
 have s2:SR Tryz.prog (QE HB5 []) X1 J3 (.val (.list (.i .i64)) clo5) (.slice (some ⟨1,0,none⟩) 5 5):=by simp only[SR,KC];exact⟨_,rfl,h2⟩
 have s3:∀ n:Int,SR Tryz.prog (QE HB5 []) X1 J3 (.val (.i .i64) n) (.int .i64 n):=λn=>XH _ _;have s0:SR Tryz.prog (QE HB5 []) X1 J3 (.agg [.val (.i .i64) (4:Int),.val (.list Q7i) five]) (.agg #[.int .i64 4,.slice (some ⟨0,0,none⟩) 5 5]):=by simp only[SR,SRs];exact⟨_,rfl,_,_,rfl,s3 4,_,_,rfl,s1,rfl⟩
 show SRs Tryz.prog (QE HB5 []) X1 J3 [_,_,_] [_,_,_];simp only[SRs];exact⟨_,_,rfl,s0,_,_,rfl,s2,_,_,rfl,s3 2,rfl⟩
theorem Mc:Qv 4 five=0/\clo5.length<=60/\(∀ r∈clo5,-1<=r/\r<2 ^ (4:Int).toNat)/\(0:Int)<=2/\(2:Int)<=6:=by refine⟨by decide,by decide,λr hr=>?_,by decide,by decide⟩;simp only[clo5,zk,List.not_mem_nil,or_false] at hr;have:(2:Int) ^ (4:Int).toNat=16:=rfl;omega
def Q9i:Memo:=⟨I1,HB5,.tuple #[.int .i64 2,.int .i64 0],[]⟩
def Q2h:Memo:=⟨I1,HB5,.tuple #[.slice (some ⟨2,0,none⟩) 1 1,.int .i64 0],[⟨[.int .i64 1],⟨1,3⟩,false⟩]⟩
theorem Q0y:Ny Tryz.prog 27 Q9i:=by refine⟨?_,by decide⟩;have h:=(Sj Nd Kg (QE HB5 []) L5 I1 _ _ [] Hw (show NC Nd L5=some (_,.tup [.val (.i .i64) (Cy 4 five clo5 2),.val (.i .i64) (0:Int)],[]) from rfl) rfl rfl Mc).2 rfl rfl;refine VCalled.mono h λu Z hu=>?_;obtain⟨rfl,rfl⟩:=hu;rw[Ij];exact⟨rfl,TO (bl:=HB5) (fr:=[]) rfl⟩
theorem FJ:Ny Tryz.prog 28 Q2h:=by refine⟨?_,by decide⟩;have h:=(T3 Nd Kg (QE HB5 []) L5 I1 _ _ [.lst 3 (.i .i64) (Wb 4 five clo5 2) (Wb 4 five clo5 2).isEmpty] Hw (show U2 Nd L5=some (_,.tup [.lst 0,.val (.i .i64) (0:Int)],_) from rfl) rfl rfl ⟨Mc.1,Mc.2.1,Mc.2.2.1,Mc.2.2.2.1,Mc.2.2.2.2⟩).2 rfl rfl;refine VCalled.mono h λu Z hu=>?_;obtain⟨rfl,rfl⟩:=hu;rw[Fo];exact⟨rfl,TO (bl:=HB5) (fr:=[⟨[.int .i64 1],⟨1,3⟩,false⟩]) rfl⟩
end Go.Proofs.Tryz