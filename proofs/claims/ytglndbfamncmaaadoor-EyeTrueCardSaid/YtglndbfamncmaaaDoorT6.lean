/- A framework for walks, contracts of functions, and their proofs: part 6. -/
import Derived.Deep.Slices
import Derived.Test.YtglndbfamncmaaaDoorT5
noncomputable section
set_option linter.unusedVariables false
set_option maxRecDepth 100000
namespace Go.V
open Go Go.ChangeShapes Go.WideShapes Go.RowKit Go.Deep Go.Joins
def KFs (T:Kind->TypeId->Bool) (sz:TypeId->Nat):Kind->List (TypeId×Nat)->Nat->Bool
 |_,[],_=>false
 |k,[p],off=>p.2==off&&(sz p.1==k.size&&T k p.1)
 |.pair a b,p::q::r,off=>p.2==off&&(sz p.1==a.size&&(T a p.1&&KFs T sz b (q::r) (off+a.size)))
 |_,_::_::_,_=>false
def Kind.row:Kind->Bool
 |.list k=>k.flat
 |_=>false
def Q8b (P:Program) (t:TypeId):Bool:=match P.underlying t with|some (.slice _)=>true|_=>false
def KTy (P:Program):Nat->Kind->TypeId->Bool
 |0,_,_=>false
 |n+1,k,t=>match P.underlying t with
  |some (.struct fs)=>P.cellsOf t==k.size&&KFs (KTy P n) P.cellsOf k (fs.toList.map λf=>(f.type,f.offset)) 0
  |some (.array m e)=>P.cellsOf t==k.size&&KFs (KTy P n) P.cellsOf k ((List.range m).map λi=>(e,i*P.cellsOf e)) 0
  |some (.int ik)=>(match k with|.i k'=>decide (k'=ik)|_=>false)
  |some .bool=>(match k with|.bo=>true|_=>false)
  |some .string=>(match k with|.st=>true|_=>false)
  |some (.slice e)=>(match k with|.list k'=>P.cellsOf e==k'.size&&((k'.flat||(k'.row&&Q8b P e))&&KTy P n k' e)|_=>false)
  |_=>false
def KWf:(k:Kind)->k.T->Prop
 |.i ik,x=>InK ik x
 |.bo,_=>True
 |.st,s=>s.length<=maxLen
 |.list k,l=>l.length<=maxLen/\∀ x∈l,KWf k x
 |.pair a b,x=>KWf a x.1/\KWf b x.2
theorem More.le {ρ ρ':Plc}{U U':Heap}(h:More ρ U ρ' U'):U.Le U':=⟨h.n,λi b hb=>by rw[h.ag i (U.lt hb)];exact hb⟩
def ArgIs (w:World) (ρ:Plc) (U:Heap) (k:Kind) (cs:List Value):Prop :=
 ∃ ρ' U' vs x,View w ρ' U'/\More ρ U ρ' U'/\LRel ρ' U'.n vs cs/\KC U' k x vs/\KWf k x
theorem ArgIs.pair {w:World}{ρ:Plc}{U:Heap}{a b:Kind}{cs ds:List Value}(h1:ArgIs w ρ U a cs) (h2:∀ ρ U,View w ρ U->ArgIs w ρ U b ds):ArgIs w ρ U (.pair a b) (cs++ds):=by obtain⟨ρ1,σ1,sx,x1,k1,k2,k3,k4,k5⟩:=h1;obtain⟨ρ2,σ2,iR,x2,m1,m2,m3,m4,m5⟩:=h2 ρ1 σ1 k1;exact⟨ρ2,σ2,sx++iR,(x1,x2),m1,k2.trans m2,(k3.mono m2.n m2.pl).append m3,⟨sx,iR,rfl,k4.mono m2.le,m4⟩,k5,m5⟩
section
variable {H:Type}{enc:TypeId×Value->H}{P:Program}{w:World}{r:Reach}{base:Nat}
def okc (P:Program) (w:World) (r:Reach) (base:Nat) (ts:List TypeId) (cs:List Value):Prop:=∀ (i:Nat) v u,cs[i]?=some v->ts[i]?=some u->Cell.okWide P w r base u v
theorem CA {T:Kind->TypeId->Bool}{sz:TypeId->Nat}{g:TypeId->Option (List TypeId)}(hT:∀ k t ts,T k t=true->g t=some ts->ts.length=k.size) :
  ∀ {k:Kind}{L:List (TypeId×Nat)}{off:Nat}{gQ:List (List TypeId)},KFs T sz k L off=true->L.mapM (λp=>g p.1)=some gQ->gQ.flatten.length=k.size
 |k,[],_,_,h,_=>by simp[KFs] at h
 |k,[p],off,gQ,h,hm=>by
  simp only[KFs,z1] at h;cases hg:g p.1 with
  |none=>simp[hg] at hm
  |some ts =>simp[hg] at hm;subst hm;simpa using hT _ _ _ h.2.2 hg
 |.pair a b,p::q::r,off,gQ,h,hm=>by
  simp only[KFs,z1] at h;rw[x6] at hm;cases hg:g p.1 with
  |none=>simp[hg] at hm
  |some ts =>
   cases hr:(q::r).mapM (λp=>g p.1) with
   |none=>simp[hg,hr] at hm
   |some tr =>simp[hg,hr] at hm;subst hm;have:=CA hT h.2.2.2 hr;simp only[List.flatten_cons,zF,this,hT _ _ _ h.2.2.1 hg,Kind.size]
 |.i _,_::_::_,_,_,h,_|.bo,_::_::_,_,_,h,_|.st,_::_::_,_,_,h,_|.list _,_::_::_,_,_,h,_=>by cases h
theorem MO {α β γ:Type}{f:α->β}{g:β->Option γ}:∀ (l:List α),(l.map f).mapM g=l.mapM (λx=>g (f x))
 |[]=>rfl
 |a::l=>by simp only[zW,x6,MO l]
theorem D7 {β:Type}{x:β}{f:Nat->Option β}(h:∀ i,f i=some x):∀ l:List Nat,l.mapM f=some (List.replicate l.length x)
 |[]=>rfl
 |a::l=>by simp[x6,h,D7 h l,xn]
theorem CJ:∀ {n:Nat}{k:Kind}{t:TypeId}{d:Nat}{ts:List TypeId},KTy P n k t=true->P.cellTypes d t=some ts->ts.length=k.size
 |0,_,_,_,_,h,_=>by cases h
 |_+1,_,_,0,_,_,h=>by cases h
 |n+1,k,t,d+1,ts,h,ht=>by
  have ih:∀ k t ts,KTy P n k t=true->P.cellTypes d t=some ts->ts.length=k.size:=λk t ts h1 h2=>CJ h1 h2;unfold Program.cellTypes at ht;unfold KTy at h;cases hu:P.underlying t with
  |none=>rw[hu] at h;cases h
  |some u =>
   rw[hu] at h ht;cases u<;>first|(cases h;done)|skip
   all_goals simp only at h ht
   .split at h<;>first|(cases h;done)|(obtain rfl:=osj ht;rfl)
   .split at h<;>first|(cases h;done)|(obtain rfl:=osj ht;rfl)
   .split at h<;>first|(cases h;done)|(obtain rfl:=osj ht;rfl)
   .split at h<;>first|(cases h;done)|(obtain rfl:=osj ht;rfl)
   .rename_i m e;rw[z1] at h;cases hc:P.cellTypes d e with
    |none=>rw[hc] at ht;cases ht
    |some te =>rw[hc] at ht;obtain rfl:=osj ht;refine CA (g:=λt=>P.cellTypes d t) ih h.2 ?_;rw[MO,D7 (x:=te) (λ_=>hc)];simp
   .rename_i fs;rw[z1] at h;cases hc:fs.toList.mapM λf=>P.cellTypes d f.type with
    |none=>rw[hc] at ht;cases ht
    |some gQ =>rw[hc] at ht;obtain rfl:=osj ht;refine CA (g:=λt=>P.cellTypes d t) ih h.2 ?_;rw[MO];exact hc
theorem MI {T:Kind->TypeId->Bool}{sz:TypeId->Nat}{Q:TypeId->List Value->Prop}{R:Kind->List Value->Prop}(hT:∀ k t cs,T k t=true->Q t cs->R k cs) (hR:∀ a b cs ds,R a cs->R b ds->R (.pair a b) (cs++ds)) (cs:List Value) :
  ∀ {k:Kind}{L:List (TypeId×Nat)}{off:Nat},KFs T sz k L off=true->(∀ p∈L,Q p.1 ((cs.drop p.2).take (sz p.1)))->R k ((cs.drop off).take k.size)
 |k,[],_,h,_=>by simp[KFs] at h
 |k,[p],off,h,hq=>by
  simp only[KFs,z1,zr] at h
  grind
 |.pair a b,p::q::r,off,h,hq=>by
  simp only[KFs,z1,zr] at h;have h1:=hq p (by simp);rw[h.1,h.2.1] at h1;have h2:=MI hT hR cs h.2.2.2 (by simp_all);have e:(cs.drop off).take (Kind.pair a b).size=(cs.drop off).take a.size++(cs.drop (off+a.size)).take b.size:=by rw[Kind.size,List.take_add,List.drop_drop]
  grind
 |.i _,_::_::_,_,h,_|.bo,_::_::_,_,h,_|.st,_::_::_,_,h,_|.list _,_::_::_,_,h,_=>by cases h
def FlatIs (k:Kind) (cs:List Value):Prop:=∃ y:k.T,(∀ h,KC h k y cs)/\KWf k y/\∀ ρ m,LRel ρ m cs cs
theorem FlatIs.pair {a b:Kind}{cs ds:List Value}(h1:FlatIs a cs) (h2:FlatIs b ds):FlatIs (.pair a b) (cs++ds):=by obtain⟨x,k1,k2,k3⟩:=h1;obtain⟨y,m1,m2,m3⟩:=h2;exact⟨(x,y),λh=>⟨cs,ds,rfl,k1 h,m1 h⟩,⟨k2,m2⟩,fun ρ m=>(k3 ρ m).append (m3 ρ m)⟩
theorem LRel.one {ρ:Plc}{n:Nat}{v c:Value}(h:VRel ρ n v c):LRel ρ n [v] [c]:=.cons h (.nil _ _)
theorem MD {fs:Array Field}{f:Field}(h:f∈fs.toList):∃ i:Nat,fs[i]?=some f:=by obtain⟨i,hi,rfl⟩:=List.mem_iff_getElem.1 h;exact⟨i,by simp at hi;simp[hi]⟩
theorem BE {sp:Nat->Bool}{held:Bool}:∀ {n:Nat}{k:Kind}{t:TypeId}{fuel:Nat}{cs:List Value}{x:DataW H×List MemPlace},KTy P n k t=true->k.flat=true->DataW.trod enc P w base sp held fuel t cs=some x->FlatIs k cs
 |0,_,_,_,_,_,h,_,_=>by cases h
 |n+1,k,t,fuel,cs,x,h,hf,hx=>by
  unfold KTy at h;cases hu:P.underlying t with
  |none=>rw[hu] at h;cases h
  |some u =>
   rw[hu] at h;have hR:∀ a b cs ds,((a.flat=true->FlatIs a cs)/\True)->((b.flat=true->FlatIs b ds)/\True)->(((Kind.pair a b).flat=true->FlatIs (.pair a b) (cs++ds))/\True):=λa b cs ds h1 h2=>⟨λhf=>by
    simp only[Kind.flat,z1] at hf;exact(h1.1 hf.1).pair (h2.1 hf.2),trivial⟩
   have hT:∀ k t cs,KTy P n k t=true->(∃ fuel x,DataW.trod enc P w base sp held fuel t cs=some x)->((k.flat=true->FlatIs k cs)/\True):=λk t cs h1 ⟨fuel,x,h2⟩=>⟨λhf=>BE h1 hf h2,trivial⟩;cases u<;>first|(cases h;done)|skip
   all_goals simp only at h
   .split at h<;>first|(cases h;done)|skip
    obtain⟨b,rfl,_⟩:=DataW.trod_bool hu hx;exact⟨b,λ_=>rfl,trivial,λ_ _=>.one (.bool _)⟩
   .split at h<;>first|(cases h;done)|skip
    obtain rfl:=wR h;obtain⟨z,rfl,_,hw⟩:=DataW.trod_int hu hx;exact⟨z,λ_=>rfl,Q4u hw,λ_ _=>.one (.int _ _)⟩
   .split at h<;>first|(cases h;done)|skip
    obtain⟨s,rfl,_,hs⟩:=DataW.trod_string hu hx;exact⟨s.data.toList,λ_=>rfl,hs,λ_ _=>.one (.string _)⟩
   .split at h<;>first|(cases h;done)|(cases hf;done)
   .rename_i m e;simp only[z1,zr] at h;obtain⟨xs,m',_,_,hl,du,hx⟩:=DataW.trod_array hu hx;have:=(MI (R:=λk cs=>(k.flat=true->FlatIs k cs)/\True) hT hR cs h.2 (by grind)).1 hf
    grind
   .rename_i fs;simp only[z1,zr] at h;obtain⟨xs,m',_,_,hl,du,hx⟩:=DataW.trod_struct hu hx;have:=(MI (R:=λk cs=>(k.flat=true->FlatIs k cs)/\True) hT hR cs h.2 (by grind [MD,Array.getElem?_eq_some_iff,List.getElem?_eq_getElem])).1 hf
    grind
theorem Rows.range {α:Type}{R:α->List Value->Prop}{n:Nat}{c:List Value}{x:Nat->α}:∀ (m:Nat),(∀ i,i<m->R (x i) ((c.drop (i*n)).take n))->Rows R ((List.range m).map x) (c.take (m*n))
 |0,_=>by simp;exact .nil
 |m+1,h=>by
  have e:c.take ((m+1)*n)=c.take (m*n)++(c.drop (m*n)).take n:=by rw[zH,xA,List.take_add]
  rw[List.range_succ,xr,e];exact(Rows.range m λi hi=>h i (by omega)).append (by simpa using Rows.cons (h m (by omega)) .nil)
theorem Dp {α:Type}[Inhabited α] {m:Nat}{p:Nat->α->Prop}(h:∀ i,i<m->∃ x,p i x):∃ f:Nat->α,∀ i,i<m->p i (f i) :=
 ⟨λi=>if hi:i<m then (h i hi).choose else default,(by grind)⟩
instance KInh (k:Kind):Inhabited k.T:=⟨k.dflt⟩
theorem View.list {ρ:Plc}{U:Heap}(h:View w ρ U) {n:Nat}{k:Kind}{t e:TypeId}{fuel:Nat}{cs:List Value}{x:DataW H×List MemPlace}(hu:P.underlying t=some (.slice e)) (hs:P.cellsOf e=k.size) (hf:k.flat=true) (hk:KTy P n k e=true)
  (hx:DataW.trod enc P w 0 (λ_=>true) true fuel t cs=some x) (aj:okc P w r base [t] cs):ArgIs w ρ U (.list k) cs:=by
 rcases open_slice hu hx with⟨rfl,_⟩|⟨a,len,cap,m,fu,D,Pl,rfl,hb,hl,hm,fD,_,hel⟩
 .exact⟨ρ,U,[.slice none 0 0],[],h,More.refl _ _,.one .nilSl,⟨_,rfl,.inl ⟨rfl,rfl⟩⟩,by simp[maxLen],λ_ hx=>by cases hx⟩
 simp only[zB] at fD;subst fD;rw[hs] at hel;have lP:w.has P r base a e m:=by
  rcases Du hu (aj 0 _ t rfl rfl) with hh|⟨a',sC,al,hh,h2⟩
  .cases hh
  .cases hh;exact h2
 obtain⟨C,row,f,aB,bq,eJ⟩:=Ss lP;obtain⟨blk,off,spot⟩:=a;simp only at aB bq eJ;subst eJ;have fy:∀ i,(⟨blk,off,none⟩:Addr).add i=⟨blk,off+i,none⟩:=λi=>by unfold Addr.add;split<;>simp_all
 obtain⟨X,hX⟩:=Dp (α:=k.T×List Value) (m:=m) (p:=λi p=>p.2.length=k.size/\(∀ j,j<k.size->w.cell? ⟨blk,off+i*k.size+j,none⟩=p.2[j]?)/\(∀ h,KC h k p.1 p.2)/\KWf k p.1/\∀ ρ m,LRel ρ m p.2 p.2) λi hi=>by
  obtain⟨cs',h1,h2⟩:=hel i hi;obtain⟨_,k1,k2⟩:=World.cells?_some h1;obtain⟨y,m1,m2,m3⟩:=BE hk hf h2;refine⟨(y,cs'),k1,λj hj=>?_,m1,m2,m3⟩;have:=k2 j hj;rw[fy] at this;have e2:(⟨blk,off+i*k.size,none⟩:Addr).add j=⟨blk,off+i*k.size+j,none⟩:=by unfold Addr.add;split<;>simp_all
  rw[e2] at this;exact this
 have dh:=k.size_pos;let c:List Value:=(List.range (m*k.size)).map λj=>((X (j / k.size)).2[j % k.size]?).getD undef;have cf:c.length=m*k.size:=by simp[c]
 have hdiv:∀ j,j<m*k.size->j / k.size<m:=λj hj=>Nat.div_lt_of_lt_mul (by rw[wU];exact hj);have br:∀ j,j<m*k.size->∃ v,c[j]?=some v/\w.cell? ⟨blk,off+j,none⟩=some v/\∀ ρ m,VRel ρ m v v:=λj hj=>by
  have h1:=hX (j / k.size) (hdiv j hj);have fS:j % k.size<k.size:=wP _ dh;have h2:=h1.2.1 _ fS;have e:off+j / k.size*k.size+j % k.size=off+j:=by rw[zz,Nat.div_add_mod']
  rw[e] at h2;have h3:j % k.size<(X (j / k.size)).2.length:=by rw[h1.1];exact fS
  refine⟨(X (j / k.size)).2[j % k.size],?_,?_,fun ρ m=>(h1.2.2.2.2 ρ m).2 _ _ _ (z8 h3) (z8 h3)⟩
  .grind
  .rw[h2,z8 h3]
 have sD:∀ i,i<m->(c.drop (i*k.size)).take k.size=(X i).2:=λi hi=>by
  have h1:=hX i hi;have hle:i*k.size+k.size<=m*k.size:=by have:(i+1)*k.size<=m*k.size:=zp _ hi;rw[zH] at this;omega
  apply zK
  grind
 have aC:off+m*k.size<=C.size:=by
  rcases Nat.eq_zero_or_pos (m*k.size) with h0|h0
  .omega
  .obtain⟨v,_,h2,_⟩:=br (m*k.size-1) (by omega);unfold World.cell? at h2
   grind
 obtain⟨hv,kn⟩:=h.add ⟨blk,off,m*k.size,⟨k.size,row⟩,false⟩ c aB aC (by simp[cf]) rfl (by grind);have hlen:((List.range len).map λi=>(X i).1).length=len:=by simp
 refine⟨_,_,[.slice (some ⟨U.n,0,none⟩) len m],(List.range len).map λi=>(X i).1,hv,kn,.one ?_,⟨_,rfl,.inr ⟨U.n,0,m,c,⟨k.size,row⟩,false,false,by rw[hlen],by rw[hlen];exact hl,Heap.q0a _ _,rfl,?_,?_⟩⟩,?_,λy hy=>?_⟩
 .refine .sl _ _ _ _ _ _ (by simp) λp hp=>?_;simp[Plc.put] at hp;subst hp;simp_all
 .rw[hlen,cf,x4];exact zp _ hl
 .grind [Rows.range]
 .rw[hlen];exact zJ hl hm
 grind
theorem View.listH {ρ:Plc}{U:Heap}(h:View w ρ U) {n:Nat}{k:Kind}{t e:TypeId}{fuel:Nat}{cs:List Value}{x:DataW H×List MemPlace}(hu:P.underlying t=some (.slice e)) (hs:P.cellsOf e=k.size) (hf:k.flat=true) (hk:KTy P n k e=true)
  (hx:DataW.trod enc P w 0 (λ_=>true) true fuel t cs=some x) (hA:∃ (b:Nat) (C:Array Value) (e:TypeId) (f:Nat×Nat),w.heap[b]?=some (Obj.cells C e f)):ArgIs w ρ U (.list k) cs:=by
 rcases open_slice hu hx with⟨rfl,_⟩|⟨a,len,cap,m,fu,D,Pl,rfl,hb,hl,hm,fD,_,hel⟩
 .exact⟨ρ,U,[.slice none 0 0],[],h,More.refl _ _,.one .nilSl,⟨_,rfl,.inl ⟨rfl,rfl⟩⟩,by simp[maxLen],λ_ hx=>by cases hx⟩
 simp only[zB] at fD;subst fD;rw[hs] at hel;have dh:=k.size_pos;by_cases bZ:m=0
 .
  subst bZ;obtain rfl:len=0:=by omega
  obtain⟨b0,C0,e0,f0,qw⟩:=hA;obtain⟨hv,kn⟩:=h.add ⟨b0,0,0,⟨k.size,e0⟩,false⟩ [] qw (Nat.zero_le _) (zd _) rfl (λj v hj=>by simp at hj);refine⟨_,_,[.slice (some ⟨U.n,0,none⟩) 0 0],[],hv,kn,.one ?_,⟨_,rfl,.inr ⟨U.n,0,0,[],⟨k.size,e0⟩,false,false,rfl,zd _,Heap.q0a _ _,rfl,?_,?_⟩⟩,by simp[KWf],λy hy=>by cases hy⟩
  .refine .sl _ _ _ _ _ _ (by simp) (by omega)
  .simp
  .simpa using Rows.nil
 obtain⟨C,row,f,aB,bq,eJ⟩:∃ C row f,w.heap[a.block]?=some (Obj.cells C row f)/\a.off<=C.size/\a.spot=none:=by
  obtain⟨cs',h1,_⟩:=hel 0 (by omega);obtain⟨_,c1,c2⟩:=World.cells?_some h1;have c3:=c2 0 dh;have e0:(a.add (0*k.size)).add 0=a:=by simp[Addr.add]
  rw[e0,z8 (by omega)] at c3;unfold World.cell? at c3;split at c3
  .rename_i C row f aB;split at c3
   .cases c3
   .rename_i hs;exact⟨C,row,f,aB,(by grind),by simpa using hs⟩
  .cases c3
 obtain⟨blk,off,spot⟩:=a;simp only at aB bq eJ;subst eJ;have fy:∀ i,(⟨blk,off,none⟩:Addr).add i=⟨blk,off+i,none⟩:=λi=>by unfold Addr.add;split<;>simp_all
 obtain⟨X,hX⟩:=Dp (α:=k.T×List Value) (m:=m) (p:=λi p=>p.2.length=k.size/\(∀ j,j<k.size->w.cell? ⟨blk,off+i*k.size+j,none⟩=p.2[j]?)/\(∀ h,KC h k p.1 p.2)/\KWf k p.1/\∀ ρ m,LRel ρ m p.2 p.2) λi hi=>by
  obtain⟨cs',h1,h2⟩:=hel i hi;obtain⟨_,k1,k2⟩:=World.cells?_some h1;obtain⟨y,m1,m2,m3⟩:=BE hk hf h2;refine⟨(y,cs'),k1,λj hj=>?_,m1,m2,m3⟩;have:=k2 j hj;rw[fy] at this;have e2:(⟨blk,off+i*k.size,none⟩:Addr).add j=⟨blk,off+i*k.size+j,none⟩:=by unfold Addr.add;split<;>simp_all
  rw[e2] at this;exact this
 let c:List Value:=(List.range (m*k.size)).map λj=>((X (j / k.size)).2[j % k.size]?).getD undef;have cf:c.length=m*k.size:=by simp[c]
 have hdiv:∀ j,j<m*k.size->j / k.size<m:=λj hj=>Nat.div_lt_of_lt_mul (by rw[wU];exact hj);have br:∀ j,j<m*k.size->∃ v,c[j]?=some v/\w.cell? ⟨blk,off+j,none⟩=some v/\∀ ρ m,VRel ρ m v v:=λj hj=>by
  have h1:=hX (j / k.size) (hdiv j hj);have fS:j % k.size<k.size:=wP _ dh;have h2:=h1.2.1 _ fS;have e:off+j / k.size*k.size+j % k.size=off+j:=by rw[zz,Nat.div_add_mod']
  rw[e] at h2;have h3:j % k.size<(X (j / k.size)).2.length:=by rw[h1.1];exact fS
  refine⟨(X (j / k.size)).2[j % k.size],?_,?_,fun ρ m=>(h1.2.2.2.2 ρ m).2 _ _ _ (z8 h3) (z8 h3)⟩
  .grind
  .rw[h2,z8 h3]
 have sD:∀ i,i<m->(c.drop (i*k.size)).take k.size=(X i).2:=λi hi=>by
  have h1:=hX i hi;have hle:i*k.size+k.size<=m*k.size:=by have:(i+1)*k.size<=m*k.size:=zp _ hi;rw[zH] at this;omega
  apply zK
  grind
 have aC:off+m*k.size<=C.size:=by
  rcases Nat.eq_zero_or_pos (m*k.size) with h0|h0
  .omega
  .obtain⟨v,_,h2,_⟩:=br (m*k.size-1) (by omega);unfold World.cell? at h2
   grind
 obtain⟨hv,kn⟩:=h.add ⟨blk,off,m*k.size,⟨k.size,row⟩,false⟩ c aB aC (by simp[cf]) rfl (by grind);have hlen:((List.range len).map λi=>(X i).1).length=len:=by simp
 refine⟨_,_,[.slice (some ⟨U.n,0,none⟩) len m],(List.range len).map λi=>(X i).1,hv,kn,.one ?_,⟨_,rfl,.inr ⟨U.n,0,m,c,⟨k.size,row⟩,false,false,by rw[hlen],by rw[hlen];exact hl,Heap.q0a _ _,rfl,?_,?_⟩⟩,?_,λy hy=>?_⟩
 .refine .sl _ _ _ _ _ _ (by simp) λp hp=>?_;simp[Plc.put] at hp;subst hp;simp_all
 .rw[hlen,cf,x4];exact zp _ hl
 .grind [Rows.range]
 .rw[hlen];exact zJ hl hm
 grind
theorem View.list2 {ρ:Plc}{U:Heap}(h:View w ρ U) {n:Nat}{k:Kind}{t e e2:TypeId}{fuel:Nat}{cs:List Value}{x:DataW H×List MemPlace}(hu:P.underlying t=some (.slice e)) (hs:P.cellsOf e=1)
  (mg:P.underlying e=some (.slice e2)) (cT:P.cellsOf e2=k.size) (hf:k.flat=true) (hk:KTy P n k e2=true)
  (hx:DataW.trod enc P w 0 (λ_=>true) true fuel t cs=some x) (aj:okc P w r base [t] cs):ArgIs w ρ U (.list (.list k)) cs:=by
 rcases open_slice hu hx with⟨rfl,_⟩|⟨a,len,cap,m,fu,D,Pl,rfl,hb,hl,hm,fD,_,hel⟩
 .exact⟨ρ,U,[.slice none 0 0],[],h,More.refl _ _,.one .nilSl,⟨_,rfl,.inl ⟨rfl,rfl⟩⟩,by simp[maxLen],λ_ hx=>by cases hx⟩
 simp only[zB] at fD;subst fD;rw[hs] at hel;have lP:w.has P r base a e m:=by
  rcases Du hu (aj 0 _ t rfl rfl) with hh|⟨a',sC,al,hh,h2⟩
  .cases hh
  .cases hh;exact h2
 obtain⟨C,row,f,aB,bq,eJ⟩:=Ss lP;obtain⟨blk,off,spot⟩:=a;simp only at aB bq eJ;subst eJ;have fy:∀ i,(⟨blk,off,none⟩:Addr).add i=⟨blk,off+i,none⟩:=λi=>by unfold Addr.add;split<;>simp_all
 have rows:∀ j,j<=m->∃ ρ' U',∃ vs:List Value,∃ xs:List (List k.T),View w ρ' U'/\More ρ U ρ' U'/\vs.length=j/\xs.length=j/\(∀ (i:Nat) v,vs[i]?=some v->∃ u,w.cell? ⟨blk,off+i,none⟩=some u/\VRel ρ' U'.n v u) /\
   Rows (KC U' (.list k)) xs vs/\∀ y∈xs,KWf (.list k) y:=by
  intro j;induction j with
  |zero=>exactλ_=>⟨ρ,U,[],[],h,More.refl _ _,rfl,rfl,λi v hi=>by simp at hi,.nil,λy hy=>by cases hy⟩
  |succ j ih =>
   intro hj;obtain⟨ρ1,σ1,vs,xs,k1,k2,k3,k4,k5,k6,k7⟩:=ih (by omega);obtain⟨cs',h1,h2⟩:=hel j (by omega);obtain⟨_,c1,c2⟩:=World.cells?_some h1;have c3:=c2 0 (by omega);obtain⟨u,rfl⟩:=zS.1 c1;have iQ:((⟨blk,off,none⟩:Addr).add (j*1)).add 0=⟨blk,off+j,none⟩:=by rw[fy,Nat.mul_one];unfold Addr.add;split<;>simp_all
   rw[iQ] at c3;have c4:w.cell? ⟨blk,off+j,none⟩=some u:=c3;obtain⟨ρ2,σ2,vv,y,m1,m2,m3,m4,m5⟩:=k1.listH mg cT hf hk h2 ⟨blk,C,row,f,aB⟩;have mR:vv.length=1:=by obtain⟨v,rfl,_⟩:=m4;rfl
   obtain⟨v,rfl⟩:=zS.1 mR;refine⟨ρ2,σ2,vs++[v],xs++[y],m1,k2.trans m2,by rw[zF,k3];rfl,by rw[zF,k4];rfl,λi v' hi=>?_,?_,λz hz=>?_⟩
   .by_cases cq:i<vs.length
    .rw[x8 cq] at hi;obtain⟨u',g1,g2⟩:=k5 i v' hi;exact⟨u',g1,g2.mono m2.n m2.pl⟩
    .have fz:i<(vs++[v]).length:=(zu.1 hi).1;rw[zF,zl] at fz;have v7:i=j:=by omega
     subst v7;rw[xj (by omega),k3,Nat.sub_self] at hi;obtain rfl:=osj hi;exact⟨u,c4,m3.2 0 _ _ rfl rfl⟩
   .exact(k6.mono λ_ _ hc=>KC.mono m2.le hc).append (by simpa using Rows.cons m4 .nil)
   .grind
 obtain⟨ρ1,σ1,vs,xs,k1,k2,k3,k4,k5,k6,k7⟩:=rows m (zd _);have aC:off+m<=C.size:=by
  rcases Nat.eq_zero_or_pos m with h0|h0
  .omega
  .obtain⟨u,h2,_⟩:=k5 (m-1) _ (z8 (by omega));unfold World.cell? at h2
   grind
 obtain⟨hv,kn⟩:=k1.add ⟨blk,off,m,⟨1,row⟩,false⟩ vs aB aC (by simp[k3]) rfl (λj v hj=>k5 j v hj);have hR:Rows (KC (σ1.push (.cells vs ⟨1,row⟩ false false)) (.list k)) xs vs:=k6.mono λ_ _ hc=>KC.mono kn.le hc;have hlen:(xs.take len).length=len:=by rw[xi,k4];omega
 have sE:(Kind.list k).size=1:=rfl;refine⟨_,_,[.slice (some ⟨σ1.n,0,none⟩) len m],xs.take len,hv,k2.trans kn,.one ?_,⟨_,rfl,.inr ⟨σ1.n,0,m,vs,⟨1,row⟩,false,false,by rw[hlen],by rw[hlen];exact hl,Heap.q0a _ _,rfl,?_,?_⟩⟩,?_,λy hy=>?_⟩
 .refine .sl _ _ _ _ _ _ (by simp) λp hp=>?_;simp[Plc.put] at hp;subst hp;simp_all
 .rw[sE,k3];omega
 .grind [Rows.take,KC.length]
 .rw[hlen];exact zJ hl hm
 .exact k7 y (List.mem_of_mem_take hy)
def Kind.lev1:Kind->Bool
 |.list k=>k.flat||k.row
 |.pair a b=>a.lev1&&b.lev1
 |_=>true
theorem AD {ts:List TypeId}{cs:List Value}(h:okc P w r base ts cs) (o n:Nat):okc P w r base ((ts.drop o).take n) ((cs.drop o).take n):=λi v u h1 h2=>by
 have hi:i<n:=by
  grind
 rw[List.getElem?_take_of_lt hi,zV] at h1 h2;exact h _ v u h1 h2
theorem Pd {T:Kind->TypeId->Bool}{sz:TypeId->Nat}{g:TypeId->Option (List TypeId)}(hT:∀ k t ts,T k t=true->g t=some ts->ts.length=k.size) :
  ∀ {k:Kind}{L:List (TypeId×Nat)}{off:Nat}{gQ:List (List TypeId)},KFs T sz k L off=true->L.mapM (λp=>g p.1)=some gQ->∀ p∈L,off<=p.2/\g p.1=some ((gQ.flatten.drop (p.2-off)).take (sz p.1))
 |k,[],_,_,h,_=>by simp[KFs] at h
 |k,[p],off,gQ,h,hm=>by
  simp only[KFs,z1,zr] at h;intro p' hp;obtain rfl:=zI.1 hp;cases hg:g p'.1 with
  |none=>simp[hg] at hm
  |some ts =>
   simp[hg] at hm;subst hm;refine⟨by omega,?_⟩;rw[h.1,Nat.sub_self,xk,h.2.1,zy]
   .simp
   .simp[hT _ _ _ h.2.2 hg]
 |.pair a b,p::q::r,off,gQ,h,hm=>by
  simp only[KFs,z1,zr] at h;rw[x6] at hm;intro p' hp;cases hg:g p.1 with
  |none=>simp[hg] at hm
  |some ts =>
   cases hr:(q::r).mapM (λp=>g p.1) with
   |none=>simp[hg,hr] at hm
   |some tr =>
    simp[hg,hr] at hm;subst hm;have hlen:=hT _ _ _ h.2.2.1 hg;rcases zG.1 hp with rfl|hp
    .simp_all
    .obtain⟨h1,h2⟩:=Pd hT h.2.2.2 hr p' hp
     grind [List.drop_eq_nil_of_le,List.flatten_cons,List.drop_append]
 |.i _,_::_::_,_,_,h,_|.bo,_::_::_,_,_,h,_|.st,_::_::_,_,_,h,_|.list _,_::_::_,_,_,h,_=>by cases h
theorem TX:∀ {n:Nat}{k:Kind}{t:TypeId}{d:Nat}{ts:List TypeId}{fuel:Nat}{cs:List Value}{x:DataW H×List MemPlace},KTy P n k t=true->k.lev1=true->P.cellTypes d t=some ts->okc P w r base ts cs->DataW.trod enc P w 0 (λ_=>true) true fuel t cs=some x->∀ ρ U,View w ρ U->ArgIs w ρ U k cs
 |0,_,_,_,_,_,_,_,h,_,_,_,_=>by cases h
 |_+1,_,_,0,_,_,_,_,_,_,h,_,_=>by cases h
 |n+1,k,t,d+1,ts,fuel,cs,x,h,hf,en,aj,hx=>by
  intro ρ U hv;by_cases fZ:k.flat=true
  .obtain⟨y,h1,h2,h3⟩:=BE h fZ hx;exact⟨ρ,U,cs,y,hv,More.refl _ _,h3 _ _,h1 _,h2⟩
  unfold KTy at h;cases hu:P.underlying t with
  |none=>rw[hu] at h;cases h
  |some u =>
   rw[hu] at h;let Q:TypeId->List Value->Prop:=λt cs=>(∃ fuel x,DataW.trod enc P w 0 (λ_=>true) true fuel t cs=some x)/\∃ ts,P.cellTypes d t=some ts/\okc P w r base ts cs;let R:Kind->List Value->Prop:=λk cs=>k.lev1=true->∀ ρ U,View w ρ U->ArgIs w ρ U k cs;have hR:∀ a b cs ds,R a cs->R b ds->R (.pair a b) (cs++ds):=λa b cs ds h1 h2 hl ρ U hv=>by simp only[Kind.lev1,z1] at hl;exact(h1 hl.1 ρ U hv).pair fun ρ U hv=>h2 hl.2 ρ U hv
   have hT:∀ k t cs,KTy P n k t=true->Q t cs->R k cs:=λk t cs h1 ⟨⟨fuel,x,h2⟩,ts,h3,h4⟩ hl=>TX h1 hl h3 h4 h2;have hlen:∀ k t ts,KTy P n k t=true->P.cellTypes d t=some ts->ts.length=k.size:=λk t ts h1 h2=>CJ h1 h2;unfold Program.cellTypes at en;rw[hu] at en;cases u<;>first|(cases h;done)|skip
   all_goals simp only at h
   .split at h<;>first|(cases h;done)|(exact absurd rfl fZ)
   .split at h<;>first|(cases h;done)|(exact absurd rfl fZ)
   .split at h<;>first|(cases h;done)|(exact absurd rfl fZ)
   .rename_i e;split at h<;>first|(cases h;done)|skip
    simp only[z1,zr] at h;simp only[xg] at en;subst en;rcases zw _ _▸h.2.1 with hk|hk
    .exact hv.list hu h.1 hk h.2.2 hx aj
    .rename_i k';rw[z1] at hk;obtain⟨hk,gg⟩:=hk;cases k'<;>first|(cases hk;done)|skip
     rename_i k2;have h3:=h.2.2;unfold Q8b at gg;split at gg<;>first|(cases gg;done)|skip
     rename_i e2 mg;cases n with
     |zero=>cases h3
     |succ n =>unfold KTy at h3;rw[mg] at h3;simp only[z1,zr] at h3;exact hv.list2 hu h.1 mg h3.1 hk h3.2.2 hx aj
   .rename_i m e;simp only[z1,zr] at h;obtain⟨xs,m',_,_,hl,du,hx⟩:=DataW.trod_array hu hx;simp only at en;cases hc:P.cellTypes d e with
    |none=>rw[hc] at en;cases en
    |some te =>
     rw[hc] at en;obtain rfl:=osj en;have nE:((List.range m).map λi=>(e,i*P.cellsOf e)).mapM (λp:TypeId×Nat=>P.cellTypes d p.1)=some (List.replicate m te):=by rw[MO,D7 (x:=te) (λ_=>hc)];simp
     have:=MI (Q:=Q) (R:=R) hT hR cs h.2 (λp hp=>by
      have mQ:=Pd (g:=λt=>P.cellTypes d t) hlen h.2 nE p hp
      grind [List.getElem?_eq_getElem,AD]) hf ρ U hv
     rwa [xk,zy (by omega)] at this
   .rename_i fs;simp only[z1,zr] at h;obtain⟨xs,m',_,_,hl,du,hx⟩:=DataW.trod_struct hu hx;simp only at en;cases hc:fs.toList.mapM λf=>P.cellTypes d f.type with
    |none=>rw[hc] at en;cases en
    |some gQ =>
     rw[hc] at en;obtain rfl:=osj en;have nE:(fs.toList.map λf=>(f.type,f.offset)).mapM (λp:TypeId×Nat=>P.cellTypes d p.1)=some gQ:=by rw[MO];exact hc
     have:=MI (Q:=Q) (R:=R) hT hR cs h.2 (λp hp=>by
      have mQ:=Pd (g:=λt=>P.cellTypes d t) hlen h.2 nE p hp
      grind [MD,Array.getElem?_eq_some_iff,List.getElem?_eq_getElem,AD]) hf ρ U hv
     rwa [xk,zy (by omega)] at this
def isAgg (P:Program) (t:TypeId):Bool:=match P.underlying t with
 |some (.struct _)=>true
 |some (.array _ _)=>true
 |_=>false
theorem View.arg {ρ:Plc}{U:Heap}(h:View w ρ U) {n:Nat}{k:Kind}{t:TypeId}{v:Value}{d:DataW H}{p:List MemPlace}(hk:KTy P n k t=true) (hl:k.lev1=true) (ha:isAgg P t=!k.one) (aj:Value.okWide P w r base t v) (hd:DataW.Trod enc P w 0 (λ_=>true) true t v d p) :
  ∃ ρ' U' vv x,View w ρ' U'/\More ρ U ρ' U'/\VRel ρ' U'.n vv v/\KV U' k x vv/\KWf k x:=by
 obtain⟨fuel,hd⟩:=hd;by_cases fL:isAgg P t=true
 .have bA:k.one=false:=by rw[fL] at ha;simpa using ha.symm
  have:∃ cs,v=.agg cs/\cs.size=P.cellsOf t/\Row.okWide P w r base t cs:=by
   unfold isAgg at fL;unfold Value.okWide at aj
   grind
  obtain⟨cs,rfl,aC,ts,en,_,cM⟩:=this;have hlen:=CJ hk en;have az:P.cellsOf t=k.size:=by
   unfold isAgg at fL;cases n with
   |zero=>cases hk
   |succ n =>
    unfold KTy at hk;split at fL<;>first|(cases fL;done)|skip
    all_goals
     rename_i hu;rw[hu] at hk;simp only[z1,zr] at hk;exact hk.1
  have lQ:okc P w r base ts cs.toList:=λi v u h1 h2=>by
   grind [List.getElem?_eq_some_iff,Nat.mod_eq_of_lt,osj]
  obtain⟨ρ',U',vs,x,k1,k2,k3,k4,k5⟩:=TX hk hl en lQ (show DataW.trod enc P w 0 _ true fuel t cs.toList=_ from hd) ρ U h;exact⟨ρ',U',.agg vs.toArray,x,k1,k2,VRel.q1m (ds:=cs.toList) k3,.inr ⟨bA,vs,rfl,k4⟩,k5⟩
 .have bA:k.one=true:=by
   simp_all
  have iB:=Kind.q1p bA;have br:Cell.okWide P w r base t v/\v.cells.toList=[v]:=by
   have h1:isAgg P t=false:=by simpa using fL
   unfold isAgg at h1;have h2:Cell.okWide P w r base t v:=by
    unfold Value.okWide at aj
    grind
   refine⟨h2,?_⟩;cases v<;>first|rfl|skip
   all_goals
    exfalso;cases n with
    |zero=>cases hk
    |succ n =>
     unfold KTy at hk;unfold Cell.okWide Cell.ok at h2;cases hu:P.underlying t with
     |none=>rw[hu] at hk;cases hk
     |some u =>rw[hu] at hk h2 h1;cases u<;>first|(cases hk;done)|(cases h1;done)|(cases h2;done)|(simp at h2;done)
  have en:P.cellTypes 1 t=some [t]:=by
   have h1:isAgg P t=false:=by simpa using fL
   unfold isAgg at h1;unfold Program.cellTypes;cases n with
   |zero=>cases hk
   |succ n =>
    unfold KTy at hk;cases hu:P.underlying t with
    |none=>rw[hu] at hk;cases hk
    |some u =>rw[hu] at h1;cases u<;>first|rfl|(cases h1;done)
  rw[br.2] at hd;have lQ:okc P w r base [t] [v]:=λi v' u h1 h2=>by
   grind
  obtain⟨ρ',U',vs,x,k1,k2,k3,k4,k5⟩:=TX hk hl en lQ hd ρ U h;have:vs.length=1:=by rw[KC.length k4];exact iB
  obtain⟨vv,rfl⟩:=zS.1 this;exact⟨ρ',U',vv,x,k1,k2,k3.2 0 _ _ rfl rfl,.inl ⟨bA,k4⟩,k5⟩
def AWf:(ks:List Kind)->AT ks->Prop
 |[],_=>True
 |[k],x=>KWf k x
 |k::k'::ks,x=>KWf k x.1/\AWf (k'::ks) x.2
def Q36 (P:Program):List Kind->List TypeId->Bool
 |[],[]=>true
 |k::ks,t::ts=>(KTy P 8 k t&&(k.lev1&&(isAgg P t==!k.one)))&&Q36 P ks ts
 |_,_=>false
theorem View.args:∀ {ks:List Kind}{ts:List TypeId}{vs:List Value}{ds:List (DataW H)}{ps:List MemPlace}{ρ:Plc}{U:Heap},View w ρ U->Q36 P ks ts=true->(∀ (j:Nat) t v,ts[j]?=some t->vs[j]?=some v->Value.okWide P w r base t v)->DataW.TrodAll enc P w 0 (λ_=>true) true ts vs ds ps ->
  ∃ ρ' U' mK x,View w ρ' U'/\More ρ U ρ' U'/\LRel ρ' U'.n mK vs/\Tr U' ks x mK/\AWf ks x
 |[],[],vs,ds,ps,ρ,U,h,_,_,hA=>by obtain⟨rfl,rfl,rfl⟩:=trodAll_nil hA;exact⟨ρ,U,[],(),h,More.refl _ _,.nil _ _,rfl,trivial⟩
 |[k],[t],vs,ds,ps,ρ,U,h,hk,hv,hA=>by obtain⟨v,cH,d,ds',p,q,rfl,rfl,rfl,h1,h2⟩:=trodAll_cons hA;obtain⟨rfl,rfl,rfl⟩:=trodAll_nil h2;simp only[Q36,z1,zr] at hk;obtain⟨ρ',U',vv,x,k1,k2,k3,k4,k5⟩:=h.arg hk.1.1 hk.1.2.1 hk.1.2.2 (hv 0 t v rfl rfl) h1;exact⟨ρ',U',[vv],x,k1,k2,.one k3,⟨vv,rfl,k4⟩,k5⟩
 |k::k'::ks,t::ts,vs,ds,ps,ρ,U,h,hk,hv,hA=>by obtain⟨v,cH,d,ds',p,q,rfl,rfl,rfl,h1,h2⟩:=trodAll_cons hA;simp only[Q36,z1,zr] at hk;obtain⟨ρ1,σ1,vv,x,k1,k2,k3,k4,k5⟩:=h.arg hk.1.1 hk.1.2.1 hk.1.2.2 (hv 0 t v rfl rfl) h1;obtain⟨ρ2,σ2,mK,y,m1,m2,m3,m4,m5⟩:=k1.args (ks:=k'::ks) hk.2 (λj t v h1 h2=>hv (j+1) t v h1 h2) h2;exact⟨ρ2,σ2,vv::mK,(x,y),m1,k2.trans m2,.cons (k3.mono m2.n m2.pl) m3,⟨vv,mK,rfl,k4.vcall m2.le,m4⟩,k5,m5⟩
 |[],_::_,_,_,_,_,_,_,hk,_,_|_::_,[],_,_,_,_,_,_,hk,_,_|[_],_::_::_,_,_,_,_,_,_,hk,_,_=>by simp[Q36] at hk
theorem IQ (hT:Q7x w) {f:Nat}{sp:CSp}(eJ:OkC P f sp) (he:Jj P f) {ks:List Kind}{ts:List TypeId}{args:Array Value}{ds:List (DataW H)}{ps:List MemPlace}(hk:Q36 P ks ts=true)
  (hv:∀ (j:Nat) t v,ts[j]?=some t->args.toList[j]?=some v->Value.okWide P w r base t v) (hA:DataW.TrodAll enc P w 0 (λ_=>true) true ts args.toList ds ps)
  (hs:∀ x:AT ks,AWf ks x->∃ c,sp (λ_ _=>none) (S2 ks x)=some (c,.val .bo true,[])/\c):Calls P f args w λe w'=>e=.returned (.bool true)/\Below w.heap.size w w':=by
 obtain⟨ρ,U,mK,x,k1,k2,k3,k4,k5⟩:=(View.emptyT w hT).args hk hv hA;obtain⟨c,h1,h2⟩:=hs x k5;exact k1.calls k3 (eJ.true he (Mi k4) h1 h2)
end
end Go.V
namespace Go.V
open Go
theorem Hy {H:Type}{enc:TypeId×Value->H}{P:Program}{w:World}{b:Nat}{sp:Nat->Bool}{hd:Bool}:∀ {ts:List TypeId}{vs:List Value}{ds:List (DataW H)}{ps:List MemPlace},DataW.TrodAll enc P w b sp hd ts vs ds ps->ds.length=ts.length
 |[],[],[],_,_=>rfl
 |t::ts,v::vs,d::ds,ps,h=>by obtain⟨p,q,_,h2,_⟩:=h;simp[Hy h2]
 |[],[],_::_,_,h|[],_::_,_,_,h|_::_,[],_,_,h|_::_,_::_,[],_,h=>h.elim
end Go.V
namespace Go.Proofs.Tryd
open Go Go.V
def Q89:List (Option FEnt):=[
 none,
 none,
 some (.code c2 [] 1),
 some (.code c3 [.tmp 4] 380),
 some (.code c4 [.cell 2 true 2] 48),
 some (.code c5 [.cell 2 true 2] 51),
 some (.code c6 [.tmp 4] 40),
 some (.codeJ c7 [.tmp 6,.tmp 7] 61),
 some (.code c8 [.cell 2 true 2] 9),
 some (.code c9 [.tmp 2] 6),
 some (.code c10 [.cell 2 true 2] 9),
 some (.codeJ c11 [.tmp 6,.tmp 7,.tmp 8] 97),
 some (.code c12 [.tmp 2] 6),
 some (.code c13 [.tmp 4] 67),
 some (.codeJ c14 [.tmp 6,.tmp 7,.tmp 8] 106),
 some (.codeJ c15 [.tmp 6,.tmp 7] 50),
 some (.codeJ c16 [.tmp 4,.tmp 5] 31),
 some (.code c17 [.tmp 4] 26),
 some (.code c18 [.tmp 0] 240),
 some (.code c19 [.tmp 4] 26),
 some (.code c20 [.tmp 4,.tmp 5] 43),
 some (.code c21 [.tmp 3] 20),
 some (.code c22 [.tmp 6] 11),
 some (.code c23 [.tmp 4] 22),
 some (.code c24 [.tmp 4] 9),
 some (.code c25 [.tmp 4] 48),
 some (.code c26 [.tmp 4] 48),
 some (.code c27 [.cell 6 true 4,.tmp 7] 50),
 some (.codeJ c28 [.tmp 2,.tmp 3] 46),
 some (.code c29 [.tmp 4] 16),
 some (.code c30 [.tmp 9] 45),
 some (.code c31 [.tmp 4] 28),
 some (.code c32 [.cell 0 true 2] 3),
 some (.codeJ c33 [.tmp 2,.tmp 3] 40),
 some (.codeJ c34 [.tmp 2,.tmp 3] 75),
 some (.code c35 [.tmp 2,.tmp 3] 52),
 some (.codeJ c36 [.tmp 2,.tmp 3] 55),
 some (.codeJ c37 [.cell 4 false 1,.tmp 5,.tmp 6] 86),
 some (.code c38 [.tmp 4] 26),
 some (.code c39 [.tmp 2] 27),
 some (.code c40 [.tmp 2] 28),
 some (.code c41 [.tmp 4] 22),
 some (.code c42 [.tmp 4] 9),
 some (.code c43 [.tmp 4] 13),
 some (.code c44 [.tmp 4] 19),
 some (.code c45 [.tmp 4,.tmp 5] 30),
 some (.code c46 [.tmp 3] 15),
 some (.code c47 [.tmp 4] 43),
 some (.code c48 [.tmp 4] 9),
 some (.code c49 [.tmp 4] 30),
 some (.code c50 [.tmp 2] 11),
 some (.code c51 [.tmp 2] 22),
 some (.code c52 [.tmp 4] 10),
 some (.code c53 [.tmp 4] 9),
 some (.code c54 [.tmp 4] 48),
 some (.code c55 [.tmp 2] 7),
 some (.code c56 [.tmp 4] 19),
 some (.code c57 [.tmp 3] 8),
 some (.code c58 [.tmp 2] 8),
 some (.code c59 [.tmp 2] 4),
 some (.code c60 [] 28),
 some (.code c61 [.tmp 6] 11),
 some (.code c62 [.tmp 6] 11),
 some (.code c63 [.tmp 4] 17),
 some (.code c64 [.tmp 2] 4),
 some (.code c65 [.tmp 6] 17),
 some (.code c66 [.tmp 2] 14),
 some (.code c67 [.tmp 4] 19),
 some (.code c68 [.tmp 4,.tmp 5] 17),
 some (.code c69 [.tmp 4,.tmp 5] 51),
 some (.code c70 [.tmp 4] 17),
 some (.code c71 [.tmp 4] 23),
 some (.code c72 [.cell 2 true 256,.tmp 3] 21),
 some (.code c73 [.tmp 4] 16),
 some (.code c74 [.tmp 4] 22),
 some (.code c75 [.tmp 4] 23),
 some (.code c76 [.tmp 4] 34),
 some (.code c77 [.tmp 4] 19),
 some (.code c78 [.tmp 2] 4),
 some (.code c79 [.tmp 2] 25),
 some (.code c80 [] 19),
 some (.code c81 [.tmp 4] 13),
 some (.code c82 [.tmp 4] 13),
 some (.code c83 [] 20),
 some (.code c84 [.tmp 4] 10),
 some (.code c85 [.tmp 2,.tmp 3] 19),
 some (.code c86 [.tmp 4] 9),
 some (.code c87 [.tmp 2,.tmp 3] 51),
 some (.code c88 [] 19),
 some .same,
 some (.code c90 [.tmp 2,.tmp 3] 117),
 some (.code c91 [.tmp 4] 187),
 some (.code c92 [.tmp 2] 6),
 some (.code c93 [.tmp 4] 8),
 some (.code c94 [.tmp 2] 17),
 some (.code c95 [.tmp 2] 6),
 none,
 some (.code c97 [.tmp 4] 8)]
def tab:Tab:=λf=>(Q89[f]?).join
theorem Q1w:EntsOk Tryd.prog 0 Q89:=⟨trivial,trivial,Q90,fun3,Q8k,Q85,Q80,Q8h,Q7v,Q84,Q4q,Q41,Q3j,Q4o,Q55,Q3t,Q40,Q3q,Q5j,Q5n,Q3o,Q4s,Q4r,Q4t,Q54,Q53,Q4x,Q4z,Q20,Q59,Q48,Q3v,Q6u,Q6o,Q7c,Q71,Q6v,Q6p,Q6e,Q4b,Q5i,Q4l,Q3r,Q5g,Q47,Q3l,Q5l,fun47,Q44,Q4j,Q6q,Q73,Q64,Q6x,Q7f,Q6m,Q7j,Q7q,Q6c,Q7a,Q68,Q51,Q4n,Q3y,Q46,Q4y,Q5h,Q5b,Q4i,Q58,Q7t,Q7l,Q7e,Q7s,Q67,Q70,Q77,Q4a,Q6n,Q7i,Q65,Q3z,Q5c,Q4f,Q6i,Q69,Q7d,Q78,Q72,AG,Q76,Q7o,Q7m,Q7u,Q6t,Q74,trivial,Q6z,trivial⟩
theorem Q4c:TabOk Tryd.prog tab:=Q0i Q1w
theorem IZ:LW tab 300 Uo [] c18 none (ET.of [] 240) CH.empty (Q25 false [.tmp 0] λv _=>isTrue v)=true:=by kernel_rfl
theorem OK {U:Heap}{K:Value->Heap->Prop}(hK:K (.bool true) U):VCalled Tryd.prog 18 [] U K:=OQ mixed Q4c 300 Q5j (by decide) IZ hK
end Go.Proofs.Tryd
namespace Go.Proofs.Tryd
open Go Go.V Go.Proofs
def PL:AL (Unit):=.nil
def HZ (d:Unit):Prop:=True
def Pj (d:Unit):SV:=.val .bo true
def BV (d:Unit):List OB:=[]
def Gs:CSp:=W0 PL HZ Pj BV
abbrev T2:Prop:=OkC Tryd.prog 18 Gs
theorem T9:T2:=Q0d λ_ _ h=>OK h
def VJ:AL ((Int×List Int×List Int×List Int)×List (Int×Int)):=(.cons (.agg (.cons (.k (.i .u8)) (.cons (.k (.list (.i .u8))) (.cons (.k (.list (.i .u16))) (.one (.k (.list (.i .u8)))))))) (.one (.k (.list (.pair (.i .u8) (.i .u8))))))
def Db (d:(Int×List Int×List Int×List Int)×List (Int×Int)):Prop:=bOk d.1.1 d.1.2.1 d.1.2.2.1 d.1.2.2.2/\∀ x∈d.2,0<=x.1/\x.1<=255/\0<=x.2/\x.2<=255
def V5 (d:(Int×List Int×List Int×List Int)×List (Int×Int)):SV:=.val .bo true
def KT (d:(Int×List Int×List Int×List Int)×List (Int×Int)):List OB:=[]
def UJ:CSp:=W0 VJ Db V5 KT
def Xg (h8:Int) (ws:List Int) (rs:List Int) (ds:List Int) (lk:List (Int×Int)):Prop :=
 (bOk h8 ws rs ds)/\(false=true->(Q0 h8 ws)=[])/\(bOk h8 ws rs ds)/\(false=true->(Q2 h8 rs)=[])/\((lk=lk/\True/\True/\True/\True/\True/\True/\True/\((bHk h8)=(bHk h8)/\True/\(([]:List SV)=[]))/\((bHk h8)=(bHk h8)/\True/\(([]:List SV)=[]))/\True/\True/\True/\True/\True)/\((h8=h8/\ws=ws/\rs=rs/\ds=ds/\(([]:List SV)=[]))/\((0:Int)=(0:Int)/\True/\(([]:List SV)=[]))/\((0:Int)=(0:Int)/\True/\(([]:List SV)=[]))/\((Q0 h8 ws)=(Q0 h8 ws)/\false=false)/\((Q2 h8 rs)=(Q2 h8 rs)/\false=false)/\True))/\((bOk h8 ws rs ds)/\(false=true->(Q0 h8 ws)=[])/\(bOk h8 ws rs ds)/\(false=true->(Q2 h8 rs)=[])/\((lk=lk/\True/\True/\True/\True/\True/\True/\True/\((bHk h8)=(bHk h8)/\True/\(([]:List SV)=[]))/\((bHk h8)=(bHk h8)/\True/\(([]:List SV)=[]))/\True/\True/\True/\True/\True)/\((h8=h8/\ws=ws/\rs=rs/\ds=ds/\(([]:List SV)=[]))/\((0:Int)=(0:Int)/\True/\(([]:List SV)=[]))/\((0:Int)=(0:Int)/\True/\(([]:List SV)=[]))/\((Q0 h8 ws)=(Q0 h8 ws)/\false=false)/\((Q2 h8 rs)=(Q2 h8 rs)/\false=false)/\True)))/\((bOk h8 ws rs ds)/\(false=true->(Q0 h8 ws)=[])/\(bOk h8 ws rs ds)/\(false=true->(Q2 h8 rs)=[])/\((lk=lk/\True/\True/\True/\True/\True/\True/\True/\((bHk h8)=(bHk h8)/\True/\(([]:List SV)=[]))/\((bHk h8)=(bHk h8)/\True/\(([]:List SV)=[]))/\True/\True/\True/\True/\True)/\((h8=h8/\ws=ws/\rs=rs/\ds=ds/\(([]:List SV)=[]))/\((0:Int)=(0:Int)/\True/\(([]:List SV)=[]))/\((0:Int)=(0:Int)/\True/\(([]:List SV)=[]))/\((Q0 h8 ws)=(Q0 h8 ws)/\false=false)/\((Q2 h8 rs)=(Q2 h8 rs)/\false=false)/\True)))/\((bOk h8 ws rs ds)/\(false=true->(Q0 h8 ws)=[])/\(bOk h8 ws rs ds)/\(false=true->(Q2 h8 rs)=[])/\((lk=lk/\True/\True/\True/\True/\True/\True/\True/\((bHk h8)=(bHk h8)/\True/\(([]:List SV)=[]))/\((bHk h8)=(bHk h8)/\True/\(([]:List SV)=[]))/\True/\True/\True/\True/\True)/\((h8=h8/\ws=ws/\rs=rs/\ds=ds/\(([]:List SV)=[]))/\((0:Int)=(0:Int)/\True/\(([]:List SV)=[]))/\((0:Int)=(0:Int)/\True/\(([]:List SV)=[]))/\((Q0 h8 ws)=(Q0 h8 ws)/\false=false)/\((Q2 h8 rs)=(Q2 h8 rs)/\false=false)/\True)))/\((bOk h8 ws rs ds)/\(false=true->(Q0 h8 ws)=[])/\(bOk h8 ws rs ds)/\(false=true->(Q2 h8 rs)=[])/\((lk=lk/\True/\True/\True/\True/\True/\True/\True/\((bHk h8)=(bHk h8)/\True/\(([]:List SV)=[]))/\((bHk h8)=(bHk h8)/\True/\(([]:List SV)=[]))/\True/\True/\True/\True/\True)/\((h8=h8/\ws=ws/\rs=rs/\ds=ds/\(([]:List SV)=[]))/\((0:Int)=(0:Int)/\True/\(([]:List SV)=[]))/\((0:Int)=(0:Int)/\True/\(([]:List SV)=[]))/\((Q0 h8 ws)=(Q0 h8 ws)/\false=false)/\((Q2 h8 rs)=(Q2 h8 rs)/\false=false)/\True)))/\((bOk h8 ws rs ds)/\(false=true->(Q0 h8 ws)=[])/\(bOk h8 ws rs ds)/\(false=true->(Q2 h8 rs)=[])/\((lk=lk/\True/\True/\True/\True/\True/\True/\True/\((bHk h8)=(bHk h8)/\True/\(([]:List SV)=[]))/\((bHk h8)=(bHk h8)/\True/\(([]:List SV)=[]))/\True/\True/\True/\True/\True)/\((h8=h8/\ws=ws/\rs=rs/\ds=ds/\(([]:List SV)=[]))/\((0:Int)=(0:Int)/\True/\(([]:List SV)=[]))/\((0:Int)=(0:Int)/\True/\(([]:List SV)=[]))/\((Q0 h8 ws)=(Q0 h8 ws)/\false=false)/\((Q2 h8 rs)=(Q2 h8 rs)/\false=false)/\True)))/\((bOk h8 ws rs ds)/\(false=true->(Q0 h8 ws)=[])/\(bOk h8 ws rs ds)/\(false=true->(Q2 h8 rs)=[])/\((lk=lk/\True/\True/\True/\True/\True/\True/\True/\((bHk h8)=(bHk h8)/\True/\(([]:List SV)=[]))/\((bHk h8)=(bHk h8)/\True/\(([]:List SV)=[]))/\True/\True/\True/\True/\True)/\((h8=h8/\ws=ws/\rs=rs/\ds=ds/\(([]:List SV)=[]))/\((0:Int)=(0:Int)/\True/\(([]:List SV)=[]))/\((0:Int)=(0:Int)/\True/\(([]:List SV)=[]))/\((Q0 h8 ws)=(Q0 h8 ws)/\false=false)/\((Q2 h8 rs)=(Q2 h8 rs)/\false=false)/\True)))/\((bOk h8 ws rs ds)/\(false=true->(Q0 h8 ws)=[])/\(bOk h8 ws rs ds)/\(false=true->(Q2 h8 rs)=[])/\((lk=lk/\True/\True/\True/\True/\True/\True/\True/\((bHk h8)=(bHk h8)/\True/\(([]:List SV)=[]))/\((bHk h8)=(bHk h8)/\True/\(([]:List SV)=[]))/\True/\True/\True/\True/\True)/\((h8=h8/\ws=ws/\rs=rs/\ds=ds/\(([]:List SV)=[]))/\((0:Int)=(0:Int)/\True/\(([]:List SV)=[]))/\((0:Int)=(0:Int)/\True/\(([]:List SV)=[]))/\((Q0 h8 ws)=(Q0 h8 ws)/\false=false)/\((Q2 h8 rs)=(Q2 h8 rs)/\false=false)/\True)))/\((bOk h8 ws rs ds)/\(false=true->(Q0 h8 ws)=[])/\(bOk h8 ws rs ds)/\(false=true->(Q2 h8 rs)=[])/\((lk=lk/\True/\True/\True/\True/\True/\True/\True/\((bHk h8)=(bHk h8)/\True/\(([]:List SV)=[]))/\((bHk h8)=(bHk h8)/\True/\(([]:List SV)=[]))/\True/\True/\True/\True/\True)/\((h8=h8/\ws=ws/\rs=rs/\ds=ds/\(([]:List SV)=[]))/\((0:Int)=(0:Int)/\True/\(([]:List SV)=[]))/\((0:Int)=(0:Int)/\True/\(([]:List SV)=[]))/\((Q0 h8 ws)=(Q0 h8 ws)/\false=false)/\((Q2 h8 rs)=(Q2 h8 rs)/\false=false)/\True)))/\((bOk h8 ws rs ds)/\(false=true->(Q0 h8 ws)=[])/\(bOk h8 ws rs ds)/\(false=true->(Q2 h8 rs)=[])/\((lk=lk/\True/\True/\True/\True/\True/\True/\True/\((bHk h8)=(bHk h8)/\True/\(([]:List SV)=[]))/\((bHk h8)=(bHk h8)/\True/\(([]:List SV)=[]))/\True/\True/\True/\True/\True)/\((h8=h8/\ws=ws/\rs=rs/\ds=ds/\(([]:List SV)=[]))/\((0:Int)=(0:Int)/\True/\(([]:List SV)=[]))/\((0:Int)=(0:Int)/\True/\(([]:List SV)=[]))/\((Q0 h8 ws)=(Q0 h8 ws)/\false=false)/\((Q2 h8 rs)=(Q2 h8 rs)/\false=false)/\True)))/\((bOk h8 ws rs ds)/\(false=true->(Q0 h8 ws)=[])/\(bOk h8 ws rs ds)/\(false=true->(Q2 h8 rs)=[])/\((lk=lk/\True/\True/\True/\True/\True/\True/\True/\((bHk h8)=(bHk h8)/\True/\(([]:List SV)=[]))/\((bHk h8)=(bHk h8)/\True/\(([]:List SV)=[]))/\True/\True/\True/\True/\True)/\((h8=h8/\ws=ws/\rs=rs/\ds=ds/\(([]:List SV)=[]))/\((0:Int)=(0:Int)/\True/\(([]:List SV)=[]))/\((0:Int)=(0:Int)/\True/\(([]:List SV)=[]))/\((Q0 h8 ws)=(Q0 h8 ws)/\false=false)/\((Q2 h8 rs)=(Q2 h8 rs)/\false=false)/\True)))/\((bOk h8 ws rs ds)/\(false=true->(Q0 h8 ws)=[])/\(bOk h8 ws rs ds)/\(false=true->(Q2 h8 rs)=[])/\((lk=lk/\True/\True/\True/\True/\True/\True/\True/\((bHk h8)=(bHk h8)/\True/\(([]:List SV)=[]))/\((bHk h8)=(bHk h8)/\True/\(([]:List SV)=[]))/\True/\True/\True/\True/\True)/\((h8=h8/\ws=ws/\rs=rs/\ds=ds/\(([]:List SV)=[]))/\((0:Int)=(0:Int)/\True/\(([]:List SV)=[]))/\((0:Int)=(0:Int)/\True/\(([]:List SV)=[]))/\((Q0 h8 ws)=(Q0 h8 ws)/\false=false)/\((Q2 h8 rs)=(Q2 h8 rs)/\false=false)/\True)))/\(1<=(lI (Q0 h8 ws))/\(lI (Q0 h8 ws))<=24/\bOk h8 ws rs ds)/\((Q0 h8 ws).length<=110)/\(false=true->(Q0 h8 ws)=[])/\((Qm ds (lI (Q0 h8 ws)).toNat).length<=110)/\(false=true->(Qm ds (lI (Q0 h8 ws)).toNat)=[])/\((Q2 h8 rs).length<=110)/\((Q0 h8 ws).length<=110/\(Qm ds (lI (Q0 h8 ws)).toNat).length<=110/\(Q2 h8 rs).length<=110)/\∀ (y1:Bool),y1=(Zp (bHk h8) (Q0 h8 ws) (Qm ds (lI (Q0 h8 ws)).toNat) (bHk h8) (Q2 h8 rs) != (0:Int))->∀ (y2:Bool),y2=((lI (Q9 (bHk h8) (Q0 h8 ws) (Qm ds (lI (Q0 h8 ws)).toNat) (bHk h8) (Q2 h8 rs))) != (lI (Q2 h8 rs)))->∀ (y3:Bool),y3=(y1||y2)->(y3=true ->
  (false=true/\(True))) /\
 (y3=false ->
  ∃ (e3:Unit) (d30:(List (Int×Int×Bool))×(List Int)×(List Bool)×Int),((lk=lk/\True/\True/\True/\(lI (Q0 h8 ws))=(lI (Q0 h8 ws))/\True/\True/\True/\True/\True/\(0:Int)=d30.2.2.2/\True)/\((h8=h8/\ws=ws/\rs=rs/\ds=ds/\(([]:List SV)=[]))/\((bHk h8)=(bHk h8)/\True/\(([]:List SV)=[]))/\((Q0 h8 ws)=(Q0 h8 ws)/\false=false)/\((bHk h8)=(bHk h8)/\True/\(([]:List SV)=[]))/\((Q2 h8 rs)=(Q2 h8 rs)/\false=false)/\((Qm ds (lI (Q0 h8 ws)).toNat)=(Qm ds (lI (Q0 h8 ws)).toNat)/\false=false)/\((Q9 (bHk h8) (Q0 h8 ws) (Qm ds (lI (Q0 h8 ws)).toNat) (bHk h8) (Q2 h8 rs))=(Q9 (bHk h8) (Q0 h8 ws) (Qm ds (lI (Q0 h8 ws)).toNat) (bHk h8) (Q2 h8 rs))/\(Q9 (bHk h8) (Q0 h8 ws) (Qm ds (lI (Q0 h8 ws)).toNat) (bHk h8) (Q2 h8 rs)).isEmpty=(List.isEmpty (Q9 (bHk h8) (Q0 h8 ws) (Qm ds (lI (Q0 h8 ws)).toNat) (bHk h8) (Q2 h8 rs))))/\(([]:List (Int×Int×Bool))=d30.1/\false=false)/\(([]:List Int)=d30.2.1/\false=false)/\(([]:List Bool)=d30.2.2.1/\false=false)/\True)) /\
  LoopP (λ(d3:(List (Int×Int×Bool))×(List Int)×(List Bool)×Int) (q3:((List (Int×Int×Bool))×(List Int)×(List Bool)×Int)->Prop) =>
   ∀ (oN:Bool),oN=(decide (d3.2.2.2<=(lI lk)))->∀ (oO:Bool),oO=(decide (d3.2.2.2<=(20:Int)))->∀ (lR:Bool),lR=(oN&&oO)->(lR=true ->
    ((Q0 h8 ws).length<=110)/\(false=true->(Q0 h8 ws)=[])/\((Q2 h8 rs).length<=110)/\(false=true->(Q2 h8 rs)=[])/\(d3.1.length<=110)/\((Q0 h8 ws).length<=110/\(Q2 h8 rs).length<=110/\d3.1.length<=110)/\∀ (oP:Bool),oP=(ZP (bHk h8) (Q0 h8 ws) (bHk h8) (Q2 h8 rs) d3.1 != (0:Int))->∀ (oQ:Bool),oQ=((lI (XE (bHk h8) (Q0 h8 ws) (bHk h8) (Q2 h8 rs) d3.1)) != (lI (Q0 h8 ws)))->∀ (oR:Bool),oR=(oP||oQ)->∀ (oS:Bool),oS=((lI (XG (bHk h8) (Q0 h8 ws) (bHk h8) (Q2 h8 rs) d3.1)) != (lI (Q0 h8 ws)))->∀ (lS:Bool),lS=(oR||oS)->(lS=true ->
     (false=true/\(True))) /\
    (lS=false ->
     ∃ (e6:(List (Int×Int×Bool))×(List Int)×(List Bool)×Int×(List Int)×(List Bool)) (d60:Int),((lk=lk/\True/\True/\True/\(lI (Q0 h8 ws))=(lI (Q0 h8 ws))/\True/\True/\True/\True/\True/\d3.2.2.2=e6.2.2.2.1/\True/\True/\(0:Int)=d60/\True)/\((h8=h8/\ws=ws/\rs=rs/\ds=ds/\(([]:List SV)=[]))/\((bHk h8)=(bHk h8)/\True/\(([]:List SV)=[]))/\((Q0 h8 ws)=(Q0 h8 ws)/\false=false)/\((bHk h8)=(bHk h8)/\True/\(([]:List SV)=[]))/\((Q2 h8 rs)=(Q2 h8 rs)/\false=false)/\((Qm ds (lI (Q0 h8 ws)).toNat)=(Qm ds (lI (Q0 h8 ws)).toNat)/\false=false)/\((Q9 (bHk h8) (Q0 h8 ws) (Qm ds (lI (Q0 h8 ws)).toNat) (bHk h8) (Q2 h8 rs))=(Q9 (bHk h8) (Q0 h8 ws) (Qm ds (lI (Q0 h8 ws)).toNat) (bHk h8) (Q2 h8 rs))/\(List.isEmpty (Q9 (bHk h8) (Q0 h8 ws) (Qm ds (lI (Q0 h8 ws)).toNat) (bHk h8) (Q2 h8 rs)))=(List.isEmpty (Q9 (bHk h8) (Q0 h8 ws) (Qm ds (lI (Q0 h8 ws)).toNat) (bHk h8) (Q2 h8 rs))))/\(d3.1=e6.1/\false=false)/\(d3.2.1=e6.2.1/\false=false)/\(d3.2.2.1=e6.2.2.1/\false=false)/\((XE (bHk h8) (Q0 h8 ws) (bHk h8) (Q2 h8 rs) d3.1)=(pj4 e6).1/\(XE (bHk h8) (Q0 h8 ws) (bHk h8) (Q2 h8 rs) d3.1).isEmpty=(List.isEmpty (pj4 e6).1))/\((XG (bHk h8) (Q0 h8 ws) (bHk h8) (Q2 h8 rs) d3.1)=(pj4 e6).2/\(XG (bHk h8) (Q0 h8 ws) (bHk h8) (Q2 h8 rs) d3.1).isEmpty=(List.isEmpty (pj4 e6).2))/\True)) /\
     LoopP (λ(d6:Int) (q6:(Int)->Prop) =>
      ∀ (lT:Bool),lT=(decide (d6<(lI (Q0 h8 ws))))->(lT=true ->
       (0<=d6)/\(d6<(List.length (Qm ds (lI (Q0 h8 ws)).toNat)))/\∀ (oT:Int),oT=(gD (Qm ds (lI (Q0 h8 ws)).toNat) d6 0)->∀ (ju:Bool),ju=(decide (oT<(0:Int)))->(ju=true->0<=d6)/\(ju=true->d6<(List.length (pj4 e6).2))/\∀ (oU:Bool),oU=(gD (pj4 e6).2 d6 false)->∀ (oV:Bool),oV=(!oU)->∀ (c_:Bool),c_=(ju&&oV)->(c_=false->0<=d6)/\(c_=false->d6<(List.length (Qm ds (lI (Q0 h8 ws)).toNat)))/\∀ (oW:Int),oW=(gD (Qm ds (lI (Q0 h8 ws)).toNat) d6 0)->∀ (dL:Bool),dL=(decide (oW>=(0:Int)))->(c_=false->dL=true->0<=d6)/\(c_=false->dL=true->d6<(List.length (pj4 e6).1))/\∀ (oX:Int),oX=(gD (pj4 e6).1 d6 0)->(c_=false->dL=true->0<=d6)/\(c_=false->dL=true->d6<(List.length (Qm ds (lI (Q0 h8 ws)).toNat)))/\∀ (oY:Int),oY=(gD (Qm ds (lI (Q0 h8 ws)).toNat) d6 0)->∀ (jv:Int),jv=(FI (0:Int) oY)->(c_=false->dL=true->0<=jv)/\(c_=false->dL=true->jv<(List.length (Q0 h8 ws)))/\∀ (jx:Int),jx=(gD (Q0 h8 ws) jv 0)->(c_=false->dL=true->InK .u64 jx)/\(c_=false->dL=true->0<=jx)/\∀ (oZ:Int),oZ=(Mj .i64 oX jx)->∀ (o3:Int),o3=(ZS .and .i64 oZ (1:Int))->∀ (o4:Bool),o4=(o3==(0:Int))->∀ (o5:Bool),o5=(dL&&o4)->∀ (jy:Bool),jy=(c_||o5)->(jy=false->0<=d6)/\(jy=false->d6<(List.length (pj4 e6).1))/\∀ (o6:Int),o6=(gD (pj4 e6).1 d6 0)->∀ (o7:Bool),o7=(decide (o6<(0:Int)))->∀ (dM:Bool),dM=(jy||o7)->∀ (dN:Bool),dN=(decide (e6.2.2.2.1 > (0:Int)))->(dM=false->dN=true->0<=d6)/\(dM=false->dN=true->d6<(List.length (pj4 e6).1))/\∀ (o8:Int),o8=(gD (pj4 e6).1 d6 0)->(dM=false->dN=true->0<=d6)/\(dM=false->dN=true->d6<(List.length e6.2.1))/\∀ (o9:Int),o9=(gD e6.2.1 d6 0)->∀ (o_:Int),o_=(ZS .andNot .i64 o8 o9)->∀ (gw:Bool),gw=(o_ != (0:Int))->(dM=false->dN=true->gw=false->0<=d6)/\(dM=false->dN=true->gw=false->d6<(List.length (pj4 e6).2))/\∀ (jz:Bool),jz=(gD (pj4 e6).2 d6 false)->(dM=false->dN=true->gw=false->jz=true->0<=d6)/\(dM=false->dN=true->gw=false->jz=true->d6<(List.length e6.2.2.1))/\∀ (pa:Bool),pa=(gD e6.2.2.1 d6 false)->∀ (pb:Bool),pb=(!pa)->∀ (pc:Bool),pc=(jz&&pb)->∀ (pg:Bool),pg=(gw||pc)->∀ (ph:Bool),ph=(dN&&pg)->∀ (lU:Bool),lU=(dM||ph)->(lU=true ->
        (false=true/\(True))) /\
       (lU=false ->
        (I64 (d6+(1:Int)))/\(∃ d7:Int,((lk=lk/\True/\True/\True/\(lI (Q0 h8 ws))=(lI (Q0 h8 ws))/\True/\True/\True/\True/\True/\e6.2.2.2.1=e6.2.2.2.1/\True/\True/\(d6+(1:Int))=d7/\True)/\((h8=h8/\ws=ws/\rs=rs/\ds=ds/\(([]:List SV)=[]))/\((bHk h8)=(bHk h8)/\True/\(([]:List SV)=[]))/\((Q0 h8 ws)=(Q0 h8 ws)/\false=false)/\((bHk h8)=(bHk h8)/\True/\(([]:List SV)=[]))/\((Q2 h8 rs)=(Q2 h8 rs)/\false=false)/\((Qm ds (lI (Q0 h8 ws)).toNat)=(Qm ds (lI (Q0 h8 ws)).toNat)/\false=false)/\((Q9 (bHk h8) (Q0 h8 ws) (Qm ds (lI (Q0 h8 ws)).toNat) (bHk h8) (Q2 h8 rs))=(Q9 (bHk h8) (Q0 h8 ws) (Qm ds (lI (Q0 h8 ws)).toNat) (bHk h8) (Q2 h8 rs))/\(List.isEmpty (Q9 (bHk h8) (Q0 h8 ws) (Qm ds (lI (Q0 h8 ws)).toNat) (bHk h8) (Q2 h8 rs)))=(List.isEmpty (Q9 (bHk h8) (Q0 h8 ws) (Qm ds (lI (Q0 h8 ws)).toNat) (bHk h8) (Q2 h8 rs))))/\(e6.1=e6.1/\false=false)/\(e6.2.1=e6.2.1/\false=false)/\(e6.2.2.1=e6.2.2.1/\false=false)/\((pj4 e6).1=(pj4 e6).1/\(List.isEmpty (pj4 e6).1)=(List.isEmpty (pj4 e6).1))/\((pj4 e6).2=(pj4 e6).2/\(List.isEmpty (pj4 e6).2)=(List.isEmpty (pj4 e6).2))/\True))/\q6 d7))) /\
      (lT=false ->
       ∀ (lX:Bool),lX=(decide (e6.2.2.2.1<(lI lk)))->(lX=true ->
        (0<=e6.2.2.2.1)/\(e6.2.2.2.1<(List.length lk))/\∀ (lY:Int),lY=(gD lk e6.2.2.2.1 (0,0)).1->(I64 lY)/\((lI (Q9 (bHk h8) (Q0 h8 ws) (Qm ds (lI (Q0 h8 ws)).toNat) (bHk h8) (Q2 h8 rs)))≠0)/\∀ (eo:Int),eo=(Int.tmod lY (lI (Q9 (bHk h8) (Q0 h8 ws) (Qm ds (lI (Q0 h8 ws)).toNat) (bHk h8) (Q2 h8 rs))))->(0<=e6.2.2.2.1)/\(e6.2.2.2.1<(List.length lk))/\∀ (lZ:Int),lZ=(gD lk e6.2.2.2.1 (0,0)).2->(I64 lZ)/\((lI (Q0 h8 ws))≠0)/\∀ (gx:Int),gx=(Int.tmod lZ (lI (Q0 h8 ws)))->(0<=eo)/\(eo<(List.length (Q9 (bHk h8) (Q0 h8 ws) (Qm ds (lI (Q0 h8 ws)).toNat) (bHk h8) (Q2 h8 rs))))/\∀ (pj:List UInt8),pj=(gD (Q9 (bHk h8) (Q0 h8 ws) (Qm ds (lI (Q0 h8 ws)).toNat) (bHk h8) (Q2 h8 rs)) eo [])->∀ (l4:Bool),l4=((lI pj) != (lI (Q0 h8 ws)))->(l4=true ->
         (false=true/\(True))) /\
        (l4=false ->
         (0<=eo)/\(eo<(List.length (Q9 (bHk h8) (Q0 h8 ws) (Qm ds (lI (Q0 h8 ws)).toNat) (bHk h8) (Q2 h8 rs))))/\∀ (l5:List UInt8),l5=(gD (Q9 (bHk h8) (Q0 h8 ws) (Qm ds (lI (Q0 h8 ws)).toNat) (bHk h8) (Q2 h8 rs)) eo [])->(0<=gx)/\(gx<(List.length l5))/\∀ (pk:Int),pk=((UInt8.toNat (gD l5 gx 0):Nat):Int)->∀ (l6:Bool),l6=(pk==(120:Int))->(((List.length e6.1)+(List.length [(eo,(gx,l6))]))*24<=70368744177664)/\(I64 (e6.2.2.2.1+(1:Int)))/\(∃ d8:(List (Int×Int×Bool))×(List Int)×(List Bool)×Int,((lk=lk/\True/\True/\True/\(lI (Q0 h8 ws))=(lI (Q0 h8 ws))/\True/\True/\True/\True/\True/\(e6.2.2.2.1+(1:Int))=d8.2.2.2/\True)/\((h8=h8/\ws=ws/\rs=rs/\ds=ds/\(([]:List SV)=[]))/\((bHk h8)=(bHk h8)/\True/\(([]:List SV)=[]))/\((Q0 h8 ws)=(Q0 h8 ws)/\false=false)/\((bHk h8)=(bHk h8)/\True/\(([]:List SV)=[]))/\((Q2 h8 rs)=(Q2 h8 rs)/\false=false)/\((Qm ds (lI (Q0 h8 ws)).toNat)=(Qm ds (lI (Q0 h8 ws)).toNat)/\false=false)/\((Q9 (bHk h8) (Q0 h8 ws) (Qm ds (lI (Q0 h8 ws)).toNat) (bHk h8) (Q2 h8 rs))=(Q9 (bHk h8) (Q0 h8 ws) (Qm ds (lI (Q0 h8 ws)).toNat) (bHk h8) (Q2 h8 rs))/\(List.isEmpty (Q9 (bHk h8) (Q0 h8 ws) (Qm ds (lI (Q0 h8 ws)).toNat) (bHk h8) (Q2 h8 rs)))=(List.isEmpty (Q9 (bHk h8) (Q0 h8 ws) (Qm ds (lI (Q0 h8 ws)).toNat) (bHk h8) (Q2 h8 rs))))/\((e6.1++[(eo,(gx,l6))])=d8.1/\false=false)/\((pj4 e6).1=d8.2.1/\(List.isEmpty (pj4 e6).1)=false)/\((pj4 e6).2=d8.2.2.1/\(List.isEmpty (pj4 e6).2)=false)/\True))/\q3 d8))) /\
       (lX=false ->
        (I64 (e6.2.2.2.1+(1:Int)))/\(∃ d9:(List (Int×Int×Bool))×(List Int)×(List Bool)×Int,((lk=lk/\True/\True/\True/\(lI (Q0 h8 ws))=(lI (Q0 h8 ws))/\True/\True/\True/\True/\True/\(e6.2.2.2.1+(1:Int))=d9.2.2.2/\True)/\((h8=h8/\ws=ws/\rs=rs/\ds=ds/\(([]:List SV)=[]))/\((bHk h8)=(bHk h8)/\True/\(([]:List SV)=[]))/\((Q0 h8 ws)=(Q0 h8 ws)/\false=false)/\((bHk h8)=(bHk h8)/\True/\(([]:List SV)=[]))/\((Q2 h8 rs)=(Q2 h8 rs)/\false=false)/\((Qm ds (lI (Q0 h8 ws)).toNat)=(Qm ds (lI (Q0 h8 ws)).toNat)/\false=false)/\((Q9 (bHk h8) (Q0 h8 ws) (Qm ds (lI (Q0 h8 ws)).toNat) (bHk h8) (Q2 h8 rs))=(Q9 (bHk h8) (Q0 h8 ws) (Qm ds (lI (Q0 h8 ws)).toNat) (bHk h8) (Q2 h8 rs))/\(List.isEmpty (Q9 (bHk h8) (Q0 h8 ws) (Qm ds (lI (Q0 h8 ws)).toNat) (bHk h8) (Q2 h8 rs)))=(List.isEmpty (Q9 (bHk h8) (Q0 h8 ws) (Qm ds (lI (Q0 h8 ws)).toNat) (bHk h8) (Q2 h8 rs))))/\(e6.1=d9.1/\false=false)/\((pj4 e6).1=d9.2.1/\(List.isEmpty (pj4 e6).1)=false)/\((pj4 e6).2=d9.2.2.1/\(List.isEmpty (pj4 e6).2)=false)/\True))/\q3 d9)))) d60)) /\
   (lR=false ->
    (1<=(lI (Q0 h8 ws))/\(lI (Q0 h8 ws))<=24/\bOk h8 ws rs ds)/\((Q0 h8 ws).length<=110)/\(false=true->(Q0 h8 ws)=[])/\((Z8 ds (lI (Q0 h8 ws)).toNat).length<=110)/\(false=true->(Z8 ds (lI (Q0 h8 ws)).toNat)=[])/\((Q2 h8 rs).length<=110)/\((Q0 h8 ws).length<=110/\(Z8 ds (lI (Q0 h8 ws)).toNat).length<=110/\(Q2 h8 rs).length<=110)/\((Q0 h8 ws).length<=110)/\(false=true->(Q0 h8 ws)=[])/\((Q2 h8 rs).length<=110)/\(false=true->(Q2 h8 rs)=[])/\((lk=lk/\True/\True/\True/\(lI (Q0 h8 ws))=(lI (Q0 h8 ws))/\True/\True/\Zp (bHk h8) (Q0 h8 ws) (Z8 ds (lI (Q0 h8 ws)).toNat) (bHk h8) (Q2 h8 rs)=Zp (bHk h8) (Q0 h8 ws) (Z8 ds (lI (Q0 h8 ws)).toNat) (bHk h8) (Q2 h8 rs)/\True/\True/\((bHk h8)=(bHk h8)/\True/\(([]:List SV)=[]))/\((bHk h8)=(bHk h8)/\True/\(([]:List SV)=[]))/\True/\True/\True)/\((h8=h8/\ws=ws/\rs=rs/\ds=ds/\(([]:List SV)=[]))/\((bHk h8)=(bHk h8)/\True/\(([]:List SV)=[]))/\((bHk h8)=(bHk h8)/\True/\(([]:List SV)=[]))/\((Q0 h8 ws)=(Q0 h8 ws)/\false=false)/\((Q2 h8 rs)=(Q2 h8 rs)/\false=false)/\((Qm ds (lI (Q0 h8 ws)).toNat)=(Qm ds (lI (Q0 h8 ws)).toNat)/\false=false)/\((Q9 (bHk h8) (Q0 h8 ws) (Qm ds (lI (Q0 h8 ws)).toNat) (bHk h8) (Q2 h8 rs))=(Q9 (bHk h8) (Q0 h8 ws) (Qm ds (lI (Q0 h8 ws)).toNat) (bHk h8) (Q2 h8 rs))/\(List.isEmpty (Q9 (bHk h8) (Q0 h8 ws) (Qm ds (lI (Q0 h8 ws)).toNat) (bHk h8) (Q2 h8 rs)))=(List.isEmpty (Q9 (bHk h8) (Q0 h8 ws) (Qm ds (lI (Q0 h8 ws)).toNat) (bHk h8) (Q2 h8 rs))))/\(d3.1=d3.1/\false=false)/\(d3.2.1=d3.2.1/\false=false)/\(d3.2.2.1=d3.2.2.1/\false=false)/\((Z8 ds (lI (Q0 h8 ws)).toNat)=(Z8 ds (lI (Q0 h8 ws)).toNat)/\false=false)/\((Q0 h8 ws)=(Q0 h8 ws)/\false=false)/\((Z8 ds (lI (Q0 h8 ws)).toNat)=(Z8 ds (lI (Q0 h8 ws)).toNat)/\false=false)/\((Q2 h8 rs)=(Q2 h8 rs)/\false=false)/\((Q9 (bHk h8) (Q0 h8 ws) (Z8 ds (lI (Q0 h8 ws)).toNat) (bHk h8) (Q2 h8 rs))=(Q9 (bHk h8) (Q0 h8 ws) (Z8 ds (lI (Q0 h8 ws)).toNat) (bHk h8) (Q2 h8 rs))/\(Q9 (bHk h8) (Q0 h8 ws) (Z8 ds (lI (Q0 h8 ws)).toNat) (bHk h8) (Q2 h8 rs)).isEmpty=(Q9 (bHk h8) (Q0 h8 ws) (Z8 ds (lI (Q0 h8 ws)).toNat) (bHk h8) (Q2 h8 rs)).isEmpty)/\((Q0 h8 ws)=(Q0 h8 ws)/\false=false)/\((Q2 h8 rs)=(Q2 h8 rs)/\false=false)/\(([]:List (List UInt8))=([]:List (List UInt8))/\false=false)/\True))/\(((Q0 h8 ws).length<=110)/\(false=true->(Q0 h8 ws)=[])/\((Q2 h8 rs).length<=110)/\(false=true->(Q2 h8 rs)=[])/\((lk=lk/\True/\True/\True/\(lI (Q0 h8 ws))=(lI (Q0 h8 ws))/\True/\True/\Zp (bHk h8) (Q0 h8 ws) (Z8 ds (lI (Q0 h8 ws)).toNat) (bHk h8) (Q2 h8 rs)=Zp (bHk h8) (Q0 h8 ws) (Z8 ds (lI (Q0 h8 ws)).toNat) (bHk h8) (Q2 h8 rs)/\True/\True/\((bHk h8)=(bHk h8)/\True/\(([]:List SV)=[]))/\((bHk h8)=(bHk h8)/\True/\(([]:List SV)=[]))/\True/\True/\True)/\((h8=h8/\ws=ws/\rs=rs/\ds=ds/\(([]:List SV)=[]))/\((bHk h8)=(bHk h8)/\True/\(([]:List SV)=[]))/\((bHk h8)=(bHk h8)/\True/\(([]:List SV)=[]))/\((Q0 h8 ws)=(Q0 h8 ws)/\false=false)/\((Q2 h8 rs)=(Q2 h8 rs)/\false=false)/\((Qm ds (lI (Q0 h8 ws)).toNat)=(Qm ds (lI (Q0 h8 ws)).toNat)/\false=false)/\((Q9 (bHk h8) (Q0 h8 ws) (Qm ds (lI (Q0 h8 ws)).toNat) (bHk h8) (Q2 h8 rs))=(Q9 (bHk h8) (Q0 h8 ws) (Qm ds (lI (Q0 h8 ws)).toNat) (bHk h8) (Q2 h8 rs))/\(List.isEmpty (Q9 (bHk h8) (Q0 h8 ws) (Qm ds (lI (Q0 h8 ws)).toNat) (bHk h8) (Q2 h8 rs)))=(List.isEmpty (Q9 (bHk h8) (Q0 h8 ws) (Qm ds (lI (Q0 h8 ws)).toNat) (bHk h8) (Q2 h8 rs))))/\(d3.1=d3.1/\false=false)/\(d3.2.1=d3.2.1/\false=false)/\(d3.2.2.1=d3.2.2.1/\false=false)/\((Z8 ds (lI (Q0 h8 ws)).toNat)=(Z8 ds (lI (Q0 h8 ws)).toNat)/\false=false)/\((Q0 h8 ws)=(Q0 h8 ws)/\false=false)/\((Z8 ds (lI (Q0 h8 ws)).toNat)=(Z8 ds (lI (Q0 h8 ws)).toNat)/\false=false)/\((Q2 h8 rs)=(Q2 h8 rs)/\false=false)/\((Q9 (bHk h8) (Q0 h8 ws) (Z8 ds (lI (Q0 h8 ws)).toNat) (bHk h8) (Q2 h8 rs))=(Q9 (bHk h8) (Q0 h8 ws) (Z8 ds (lI (Q0 h8 ws)).toNat) (bHk h8) (Q2 h8 rs))/\(Q9 (bHk h8) (Q0 h8 ws) (Z8 ds (lI (Q0 h8 ws)).toNat) (bHk h8) (Q2 h8 rs)).isEmpty=(Q9 (bHk h8) (Q0 h8 ws) (Z8 ds (lI (Q0 h8 ws)).toNat) (bHk h8) (Q2 h8 rs)).isEmpty)/\((Q0 h8 ws)=(Q0 h8 ws)/\false=false)/\((Q2 h8 rs)=(Q2 h8 rs)/\false=false)/\(([]:List (List UInt8))=([]:List (List UInt8))/\false=false)/\True)))/\(((Q0 h8 ws).length<=110)/\(false=true->(Q0 h8 ws)=[])/\((Q2 h8 rs).length<=110)/\(false=true->(Q2 h8 rs)=[])/\((lk=lk/\True/\True/\True/\(lI (Q0 h8 ws))=(lI (Q0 h8 ws))/\True/\True/\Zp (bHk h8) (Q0 h8 ws) (Z8 ds (lI (Q0 h8 ws)).toNat) (bHk h8) (Q2 h8 rs)=Zp (bHk h8) (Q0 h8 ws) (Z8 ds (lI (Q0 h8 ws)).toNat) (bHk h8) (Q2 h8 rs)/\True/\True/\((bHk h8)=(bHk h8)/\True/\(([]:List SV)=[]))/\((bHk h8)=(bHk h8)/\True/\(([]:List SV)=[]))/\True/\True/\True)/\((h8=h8/\ws=ws/\rs=rs/\ds=ds/\(([]:List SV)=[]))/\((bHk h8)=(bHk h8)/\True/\(([]:List SV)=[]))/\((bHk h8)=(bHk h8)/\True/\(([]:List SV)=[]))/\((Q0 h8 ws)=(Q0 h8 ws)/\false=false)/\((Q2 h8 rs)=(Q2 h8 rs)/\false=false)/\((Qm ds (lI (Q0 h8 ws)).toNat)=(Qm ds (lI (Q0 h8 ws)).toNat)/\false=false)/\((Q9 (bHk h8) (Q0 h8 ws) (Qm ds (lI (Q0 h8 ws)).toNat) (bHk h8) (Q2 h8 rs))=(Q9 (bHk h8) (Q0 h8 ws) (Qm ds (lI (Q0 h8 ws)).toNat) (bHk h8) (Q2 h8 rs))/\(List.isEmpty (Q9 (bHk h8) (Q0 h8 ws) (Qm ds (lI (Q0 h8 ws)).toNat) (bHk h8) (Q2 h8 rs)))=(List.isEmpty (Q9 (bHk h8) (Q0 h8 ws) (Qm ds (lI (Q0 h8 ws)).toNat) (bHk h8) (Q2 h8 rs))))/\(d3.1=d3.1/\false=false)/\(d3.2.1=d3.2.1/\false=false)/\(d3.2.2.1=d3.2.2.1/\false=false)/\((Z8 ds (lI (Q0 h8 ws)).toNat)=(Z8 ds (lI (Q0 h8 ws)).toNat)/\false=false)/\((Q0 h8 ws)=(Q0 h8 ws)/\false=false)/\((Z8 ds (lI (Q0 h8 ws)).toNat)=(Z8 ds (lI (Q0 h8 ws)).toNat)/\false=false)/\((Q2 h8 rs)=(Q2 h8 rs)/\false=false)/\((Q9 (bHk h8) (Q0 h8 ws) (Z8 ds (lI (Q0 h8 ws)).toNat) (bHk h8) (Q2 h8 rs))=(Q9 (bHk h8) (Q0 h8 ws) (Z8 ds (lI (Q0 h8 ws)).toNat) (bHk h8) (Q2 h8 rs))/\(Q9 (bHk h8) (Q0 h8 ws) (Z8 ds (lI (Q0 h8 ws)).toNat) (bHk h8) (Q2 h8 rs)).isEmpty=(Q9 (bHk h8) (Q0 h8 ws) (Z8 ds (lI (Q0 h8 ws)).toNat) (bHk h8) (Q2 h8 rs)).isEmpty)/\((Q0 h8 ws)=(Q0 h8 ws)/\false=false)/\((Q2 h8 rs)=(Q2 h8 rs)/\false=false)/\(([]:List (List UInt8))=([]:List (List UInt8))/\false=false)/\True)))/\(((List.length ([]:List (List UInt8)))+(List.length (Q9 (bHk h8) (Q0 h8 ws) (Z8 ds (lI (Q0 h8 ws)).toNat) (bHk h8) (Q2 h8 rs))))*16<=70368744177664)/\((Q0 h8 ws).length<=110/\(Q2 h8 rs).length<=110/\(([]:List (List UInt8))++(Q9 (bHk h8) (Q0 h8 ws) (Z8 ds (lI (Q0 h8 ws)).toNat) (bHk h8) (Q2 h8 rs))).length<=110/\∀ s∈(([]:List (List UInt8))++(Q9 (bHk h8) (Q0 h8 ws) (Z8 ds (lI (Q0 h8 ws)).toNat) (bHk h8) (Q2 h8 rs))),s.length<=1000000)/\((Q0 h8 ws).length<=110)/\(false=true->(Q0 h8 ws)=[])/\((Q2 h8 rs).length<=110)/\(false=true->(Q2 h8 rs)=[])/\((Q0 h8 ws).length<=110/\(Q2 h8 rs).length<=110/\(Q9 (bHk h8) (Q0 h8 ws) (Z8 ds (lI (Q0 h8 ws)).toNat) (bHk h8) (Q2 h8 rs)).length<=110/\∀ s∈(Q9 (bHk h8) (Q0 h8 ws) (Z8 ds (lI (Q0 h8 ws)).toNat) (bHk h8) (Q2 h8 rs)),s.length<=1000000)/\((Q0 h8 ws).length<=110)/\((Z8 ds (lI (Q0 h8 ws)).toNat).length<=110)/\((Q0 h8 ws).length<=110/\(Z8 ds (lI (Q0 h8 ws)).toNat).length<=110)/\∀ (pn:Bool),pn=(Zp (bHk h8) (Q0 h8 ws) (Z8 ds (lI (Q0 h8 ws)).toNat) (bHk h8) (Q2 h8 rs) != (0:Int))->∀ (po:Bool),po=((X9 (bHk h8) (Q0 h8 ws) (bHk h8) (Q2 h8 rs) (([]:List (List UInt8))++(Q9 (bHk h8) (Q0 h8 ws) (Z8 ds (lI (Q0 h8 ws)).toNat) (bHk h8) (Q2 h8 rs)))) != (0:Int))->∀ (pq:Bool),pq=(pn||po)->∀ (pr:Bool),pr=(ZD (bHk h8) (Q0 h8 ws) (Z8 ds (lI (Q0 h8 ws)).toNat) != (0:Int))->∀ (pw:Bool),pw=(pq||pr)->∀ (px:Bool),px=((Ja (bHk h8) (Q0 h8 ws) (bHk h8) (Q2 h8 rs) (Q9 (bHk h8) (Q0 h8 ws) (Z8 ds (lI (Q0 h8 ws)).toNat) (bHk h8) (Q2 h8 rs))) != (0:Int))->∀ (py:Bool),py=((Ja (bHk h8) (Q0 h8 ws) (bHk h8) (Q2 h8 rs) (Q9 (bHk h8) (Q0 h8 ws) (Z8 ds (lI (Q0 h8 ws)).toNat) (bHk h8) (Q2 h8 rs))) != (8:Int))->∀ (pz:Bool),pz=(px&&py)->∀ (pA:Bool),pA=(pw||pz)->∀ (pB:Bool),pB=((Ja (bHk h8) (Q0 h8 ws) (bHk h8) (Q2 h8 rs) (Q9 (bHk h8) (Q0 h8 ws) (Z8 ds (lI (Q0 h8 ws)).toNat) (bHk h8) (Q2 h8 rs)))==(0:Int))->∀ (pC:Bool),pC=(decide ((CX (bHk h8) (Q0 h8 ws) (bHk h8) (Q2 h8 rs) (Q9 (bHk h8) (Q0 h8 ws) (Z8 ds (lI (Q0 h8 ws)).toNat) (bHk h8) (Q2 h8 rs)))<(1:Int)))->∀ (pD:Bool),pD=(pB&&pC)->∀ (pE:Bool),pE=(pA||pD)->∀ (pF:Bool),pF=((lI (Kn (bHk h8) (Q0 h8 ws) (bHk h8) (Q2 h8 rs) (([]:List (List UInt8))++(Q9 (bHk h8) (Q0 h8 ws) (Z8 ds (lI (Q0 h8 ws)).toNat) (bHk h8) (Q2 h8 rs))))) != (lI (Q0 h8 ws)))->∀ (pG:Bool),pG=(pE||pF)->∀ (pH:Bool),pH=(decide ((GK (bHk h8) (Q0 h8 ws) (bHk h8) (Q2 h8 rs) (([]:List (List UInt8))++(Q9 (bHk h8) (Q0 h8 ws) (Z8 ds (lI (Q0 h8 ws)).toNat) (bHk h8) (Q2 h8 rs)))) > (lI (WU (bHk h8) (Q0 h8 ws) (Z8 ds (lI (Q0 h8 ws)).toNat)))))->∀ (pJ:Bool),pJ=(pG||pH)->∀ (pK:Bool),pK=(decide ((GK (bHk h8) (Q0 h8 ws) (bHk h8) (Q2 h8 rs) (([]:List (List UInt8))++(Q9 (bHk h8) (Q0 h8 ws) (Z8 ds (lI (Q0 h8 ws)).toNat) (bHk h8) (Q2 h8 rs))))<(0:Int)))->∀ (l7:Bool),l7=(pJ||pK)->(l7=true ->
     (false=true/\(True))) /\
    (l7=false ->
     ∃ (kg:Unit) (d120:(List (Int×Bool))×Int),((True/\True/\(lI (Q0 h8 ws))=(lI (Q0 h8 ws))/\True/\True/\(GK (bHk h8) (Q0 h8 ws) (bHk h8) (Q2 h8 rs) (([]:List (List UInt8))++(Q9 (bHk h8) (Q0 h8 ws) (Z8 ds (lI (Q0 h8 ws)).toNat) (bHk h8) (Q2 h8 rs))))=(GK (bHk h8) (Q0 h8 ws) (bHk h8) (Q2 h8 rs) (([]:List (List UInt8))++(Q9 (bHk h8) (Q0 h8 ws) (Z8 ds (lI (Q0 h8 ws)).toNat) (bHk h8) (Q2 h8 rs))))/\True/\(0:Int)=d120.2/\True)/\(((bHk h8)=(bHk h8)/\True/\(([]:List SV)=[]))/\((Q0 h8 ws)=(Q0 h8 ws)/\false=false)/\((bHk h8)=(bHk h8)/\True/\(([]:List SV)=[]))/\((Q2 h8 rs)=(Q2 h8 rs)/\false=false)/\((Q9 (bHk h8) (Q0 h8 ws) (Z8 ds (lI (Q0 h8 ws)).toNat) (bHk h8) (Q2 h8 rs))=(Q9 (bHk h8) (Q0 h8 ws) (Z8 ds (lI (Q0 h8 ws)).toNat) (bHk h8) (Q2 h8 rs))/\(Q9 (bHk h8) (Q0 h8 ws) (Z8 ds (lI (Q0 h8 ws)).toNat) (bHk h8) (Q2 h8 rs)).isEmpty=(List.isEmpty (Q9 (bHk h8) (Q0 h8 ws) (Z8 ds (lI (Q0 h8 ws)).toNat) (bHk h8) (Q2 h8 rs))))/\((Kn (bHk h8) (Q0 h8 ws) (bHk h8) (Q2 h8 rs) (([]:List (List UInt8))++(Q9 (bHk h8) (Q0 h8 ws) (Z8 ds (lI (Q0 h8 ws)).toNat) (bHk h8) (Q2 h8 rs))))=(Kn (bHk h8) (Q0 h8 ws) (bHk h8) (Q2 h8 rs) (([]:List (List UInt8))++(Q9 (bHk h8) (Q0 h8 ws) (Z8 ds (lI (Q0 h8 ws)).toNat) (bHk h8) (Q2 h8 rs))))/\(Kn (bHk h8) (Q0 h8 ws) (bHk h8) (Q2 h8 rs) (([]:List (List UInt8))++(Q9 (bHk h8) (Q0 h8 ws) (Z8 ds (lI (Q0 h8 ws)).toNat) (bHk h8) (Q2 h8 rs)))).isEmpty=(List.isEmpty (Kn (bHk h8) (Q0 h8 ws) (bHk h8) (Q2 h8 rs) (([]:List (List UInt8))++(Q9 (bHk h8) (Q0 h8 ws) (Z8 ds (lI (Q0 h8 ws)).toNat) (bHk h8) (Q2 h8 rs))))))/\(([]:List (Int×Bool))=d120.1)/\True)) /\
     LoopP (λ(d12:(List (Int×Bool))×Int) (mI:((List (Int×Bool))×Int)->Prop) =>
      ∀ (l8:Bool),l8=(decide (d12.2<(lI (Q0 h8 ws))))->(l8=true ->
       (0<=d12.2)/\(d12.2<(List.length (Kn (bHk h8) (Q0 h8 ws) (bHk h8) (Q2 h8 rs) (([]:List (List UInt8))++(Q9 (bHk h8) (Q0 h8 ws) (Z8 ds (lI (Q0 h8 ws)).toNat) (bHk h8) (Q2 h8 rs))))))/\∀ (pL:Int),pL=(gD (Kn (bHk h8) (Q0 h8 ws) (bHk h8) (Q2 h8 rs) (([]:List (List UInt8))++(Q9 (bHk h8) (Q0 h8 ws) (Z8 ds (lI (Q0 h8 ws)).toNat) (bHk h8) (Q2 h8 rs)))) d12.2 0)->∀ (jA:Bool),jA=(decide (pL<(0:Int)))->(jA=false->0<=d12.2)/\(jA=false->d12.2<(List.length (Kn (bHk h8) (Q0 h8 ws) (bHk h8) (Q2 h8 rs) (([]:List (List UInt8))++(Q9 (bHk h8) (Q0 h8 ws) (Z8 ds (lI (Q0 h8 ws)).toNat) (bHk h8) (Q2 h8 rs))))))/\∀ (pM:Int),pM=(gD (Kn (bHk h8) (Q0 h8 ws) (bHk h8) (Q2 h8 rs) (([]:List (List UInt8))++(Q9 (bHk h8) (Q0 h8 ws) (Z8 ds (lI (Q0 h8 ws)).toNat) (bHk h8) (Q2 h8 rs)))) d12.2 0)->∀ (pN:Bool),pN=(decide (pM>=(lI (Q0 h8 ws))))->∀ (jB:Bool),jB=(jA||pN)->(jB=false->0<=d12.2)/\(jB=false->d12.2<(List.length (Kn (bHk h8) (Q0 h8 ws) (bHk h8) (Q2 h8 rs) (([]:List (List UInt8))++(Q9 (bHk h8) (Q0 h8 ws) (Z8 ds (lI (Q0 h8 ws)).toNat) (bHk h8) (Q2 h8 rs))))))/\∀ (pO:Int),pO=(gD (Kn (bHk h8) (Q0 h8 ws) (bHk h8) (Q2 h8 rs) (([]:List (List UInt8))++(Q9 (bHk h8) (Q0 h8 ws) (Z8 ds (lI (Q0 h8 ws)).toNat) (bHk h8) (Q2 h8 rs)))) d12.2 0)->∀ (pP:Bool),pP=(gq.aget (.i .i64) d12.1 pO false)->∀ (l9:Bool),l9=(jB||pP)->(l9=true ->
        (false=true/\(True))) /\
       (l9=false ->
        (0<=d12.2)/\(d12.2<(List.length (Kn (bHk h8) (Q0 h8 ws) (bHk h8) (Q2 h8 rs) (([]:List (List UInt8))++(Q9 (bHk h8) (Q0 h8 ws) (Z8 ds (lI (Q0 h8 ws)).toNat) (bHk h8) (Q2 h8 rs))))))/\∀ (pQ:Int),pQ=(gD (Kn (bHk h8) (Q0 h8 ws) (bHk h8) (Q2 h8 rs) (([]:List (List UInt8))++(Q9 (bHk h8) (Q0 h8 ws) (Z8 ds (lI (Q0 h8 ws)).toNat) (bHk h8) (Q2 h8 rs)))) d12.2 0)->(I64 (d12.2+(1:Int)))/\(∃ d13:(List (Int×Bool))×Int,((True/\True/\(lI (Q0 h8 ws))=(lI (Q0 h8 ws))/\True/\True/\(GK (bHk h8) (Q0 h8 ws) (bHk h8) (Q2 h8 rs) (([]:List (List UInt8))++(Q9 (bHk h8) (Q0 h8 ws) (Z8 ds (lI (Q0 h8 ws)).toNat) (bHk h8) (Q2 h8 rs))))=(GK (bHk h8) (Q0 h8 ws) (bHk h8) (Q2 h8 rs) (([]:List (List UInt8))++(Q9 (bHk h8) (Q0 h8 ws) (Z8 ds (lI (Q0 h8 ws)).toNat) (bHk h8) (Q2 h8 rs))))/\True/\(d12.2+(1:Int))=d13.2/\True)/\(((bHk h8)=(bHk h8)/\True/\(([]:List SV)=[]))/\((Q0 h8 ws)=(Q0 h8 ws)/\false=false)/\((bHk h8)=(bHk h8)/\True/\(([]:List SV)=[]))/\((Q2 h8 rs)=(Q2 h8 rs)/\false=false)/\((Q9 (bHk h8) (Q0 h8 ws) (Z8 ds (lI (Q0 h8 ws)).toNat) (bHk h8) (Q2 h8 rs))=(Q9 (bHk h8) (Q0 h8 ws) (Z8 ds (lI (Q0 h8 ws)).toNat) (bHk h8) (Q2 h8 rs))/\(List.isEmpty (Q9 (bHk h8) (Q0 h8 ws) (Z8 ds (lI (Q0 h8 ws)).toNat) (bHk h8) (Q2 h8 rs)))=(List.isEmpty (Q9 (bHk h8) (Q0 h8 ws) (Z8 ds (lI (Q0 h8 ws)).toNat) (bHk h8) (Q2 h8 rs))))/\((Kn (bHk h8) (Q0 h8 ws) (bHk h8) (Q2 h8 rs) (([]:List (List UInt8))++(Q9 (bHk h8) (Q0 h8 ws) (Z8 ds (lI (Q0 h8 ws)).toNat) (bHk h8) (Q2 h8 rs))))=(Kn (bHk h8) (Q0 h8 ws) (bHk h8) (Q2 h8 rs) (([]:List (List UInt8))++(Q9 (bHk h8) (Q0 h8 ws) (Z8 ds (lI (Q0 h8 ws)).toNat) (bHk h8) (Q2 h8 rs))))/\(List.isEmpty (Kn (bHk h8) (Q0 h8 ws) (bHk h8) (Q2 h8 rs) (([]:List (List UInt8))++(Q9 (bHk h8) (Q0 h8 ws) (Z8 ds (lI (Q0 h8 ws)).toNat) (bHk h8) (Q2 h8 rs)))))=(List.isEmpty (Kn (bHk h8) (Q0 h8 ws) (bHk h8) (Q2 h8 rs) (([]:List (List UInt8))++(Q9 (bHk h8) (Q0 h8 ws) (Z8 ds (lI (Q0 h8 ws)).toNat) (bHk h8) (Q2 h8 rs))))))/\((XZ (.i .i64) d12.1 pQ true)=d13.1)/\True))/\mI d13))) /\
      (l8=false ->
       ((Q0 h8 ws).length<=110)/\(false=true->(Q0 h8 ws)=[])/\((Kn (bHk h8) (Q0 h8 ws) (bHk h8) (Q2 h8 rs) (([]:List (List UInt8))++(Q9 (bHk h8) (Q0 h8 ws) (Z8 ds (lI (Q0 h8 ws)).toNat) (bHk h8) (Q2 h8 rs)))).length<=110)/\(false=true->(Kn (bHk h8) (Q0 h8 ws) (bHk h8) (Q2 h8 rs) (([]:List (List UInt8))++(Q9 (bHk h8) (Q0 h8 ws) (Z8 ds (lI (Q0 h8 ws)).toNat) (bHk h8) (Q2 h8 rs))))=[])/\((Q2 h8 rs).length<=110)/\((Q0 h8 ws).length<=110/\(Kn (bHk h8) (Q0 h8 ws) (bHk h8) (Q2 h8 rs) (([]:List (List UInt8))++(Q9 (bHk h8) (Q0 h8 ws) (Z8 ds (lI (Q0 h8 ws)).toNat) (bHk h8) (Q2 h8 rs)))).length<=110/\(Q2 h8 rs).length<=110)/\((Q0 h8 ws).length<=110)/\((Q0 h8 ws).length<=110/\(Kn (bHk h8) (Q0 h8 ws) (bHk h8) (Q2 h8 rs) (([]:List (List UInt8))++(Q9 (bHk h8) (Q0 h8 ws) (Z8 ds (lI (Q0 h8 ws)).toNat) (bHk h8) (Q2 h8 rs)))).length<=110)/\∀ (pR:Bool),pR=(Zp (bHk h8) (Q0 h8 ws) (Kn (bHk h8) (Q0 h8 ws) (bHk h8) (Q2 h8 rs) (([]:List (List UInt8))++(Q9 (bHk h8) (Q0 h8 ws) (Z8 ds (lI (Q0 h8 ws)).toNat) (bHk h8) (Q2 h8 rs)))) (bHk h8) (Q2 h8 rs)==(0:Int))->∀ (pS:Bool),pS=(ZD (bHk h8) (Q0 h8 ws) (Kn (bHk h8) (Q0 h8 ws) (bHk h8) (Q2 h8 rs) (([]:List (List UInt8))++(Q9 (bHk h8) (Q0 h8 ws) (Z8 ds (lI (Q0 h8 ws)).toNat) (bHk h8) (Q2 h8 rs))))==(0:Int))->∀ (l_:Bool),l_=(pR&&pS)->(l_=true->(Q9 (bHk h8) (Q0 h8 ws) (Kn (bHk h8) (Q0 h8 ws) (bHk h8) (Q2 h8 rs) (([]:List (List UInt8))++(Q9 (bHk h8) (Q0 h8 ws) (Z8 ds (lI (Q0 h8 ws)).toNat) (bHk h8) (Q2 h8 rs)))) (bHk h8) (Q2 h8 rs)).length<=1000/\(Q9 (bHk h8) (Q0 h8 ws) (Z8 ds (lI (Q0 h8 ws)).toNat) (bHk h8) (Q2 h8 rs)).length<=1000)/\∀ (pT:Bool),pT=(l_&&(decide ((Q9 (bHk h8) (Q0 h8 ws) (Kn (bHk h8) (Q0 h8 ws) (bHk h8) (Q2 h8 rs) (([]:List (List UInt8))++(Q9 (bHk h8) (Q0 h8 ws) (Z8 ds (lI (Q0 h8 ws)).toNat) (bHk h8) (Q2 h8 rs)))) (bHk h8) (Q2 h8 rs))=(Q9 (bHk h8) (Q0 h8 ws) (Z8 ds (lI (Q0 h8 ws)).toNat) (bHk h8) (Q2 h8 rs)))))->∀ (pU:Bool),pU=((lI (WU (bHk h8) (Q0 h8 ws) (Kn (bHk h8) (Q0 h8 ws) (bHk h8) (Q2 h8 rs) (([]:List (List UInt8))++(Q9 (bHk h8) (Q0 h8 ws) (Z8 ds (lI (Q0 h8 ws)).toNat) (bHk h8) (Q2 h8 rs))))))==(GK (bHk h8) (Q0 h8 ws) (bHk h8) (Q2 h8 rs) (([]:List (List UInt8))++(Q9 (bHk h8) (Q0 h8 ws) (Z8 ds (lI (Q0 h8 ws)).toNat) (bHk h8) (Q2 h8 rs)))))->∀ (ma:Bool),ma=(pT&&pU)->(ma=true->True)/\∀ (pV:Bool),pV=(ma&&true)->(pV=true/\(True)))) d120))) d30)
def VD:Cx:=⟨[(3,(.i .i64)),(4,.bo),(9,.st),(50,(.pair (.i .i64) (.pair (.i .i64) .bo))),(1000311,(.pair (.i .i64) .bo))],[(4,Jy),(5,JT),(6,JG),(8,M0),(9,WS),(10,UD),(7,Me),(12,Ky),(11,M4),(13,Xk),(14,GY),(15,NS),(16,Mh),(17,U3),(18,Gs)],380,[],0,[],[],[],[1,2,5,6,7,21,22,23,38,40,242,244,245,246],true,[],[],[],[]⟩
def Bu (h8:Int) (ws:List Int) (rs:List Int) (ds:List Int) (lk:List (Int×Int)):List (Nat×LoopAnn):=[(0,⟨Unit,(List (Int×Int×Bool))×(List Int)×(List Bool)×Int,[1,2,5,6,7,8,9,11,12,13,14],λe x=>[.val (.list (.pair (.i .u8) (.i .u8))) lk,.box 2 0,.box 5 0,.box 6 0,.val (.i .i64) (((List.length (Q0 h8 ws)):Nat):Int),.lst 46,.lst 54,.lst 67,.lst 68,.lst 69,.val (.i .i64) x.2.2.2],λe x=>[(2,.slot 2,.cells [.val (.i .u8) h8,.val (.list (.i .u8)) ws,.val (.list (.i .u16)) rs,.val (.list (.i .u8)) ds] (some 25)),(5,.slot 5,.cells [.val (.i .i64) (bHk h8),.lst 38] (some 29)),(38,.cell 5 1,.lst 3 (.i .i64) (Q0 h8 ws) false),(6,.slot 6,.cells [.val (.i .i64) (bHk h8),.lst 40] (some 32)),(40,.cell 6 1,.lst 3 (.i .i64) (Q2 h8 rs) false),(46,.slot 8,.lst 3 (.i .i64) (Qm ds (((List.length (Q0 h8 ws)):Nat):Int).toNat) false),(54,.slot 9,.lst 9 .st (Q9 (bHk h8) (Q0 h8 ws) (Qm ds (((List.length (Q0 h8 ws)):Nat):Int).toNat) (bHk h8) (Q2 h8 rs)) (List.isEmpty (Q9 (bHk h8) (Q0 h8 ws) (Qm ds (((List.length (Q0 h8 ws)):Nat):Int).toNat) (bHk h8) (Q2 h8 rs)))),(67,.slot 11,.lst 50 (.pair (.i .i64) (.pair (.i .i64) .bo)) x.1 false),(68,.slot 12,.lst 3 (.i .i64) x.2.1 false),(69,.slot 13,.lst 4 .bo x.2.2.1 false)]⟩),
 (2,⟨(List (Int×Int×Bool))×(List Int)×(List Bool)×Int×(List Int)×(List Bool),Int,[1,2,5,6,7,8,9,11,12,13,14,15,16,18],λe x=>[.val (.list (.pair (.i .u8) (.i .u8))) lk,.box 2 0,.box 5 0,.box 6 0,.val (.i .i64) (((List.length (Q0 h8 ws)):Nat):Int),.lst 46,.lst 54,.lst 67,.lst 68,.lst 69,.val (.i .i64) e.2.2.2.1,.lst 87,.lst 467,.val (.i .i64) x],λe x=>[(2,.slot 2,.cells [.val (.i .u8) h8,.val (.list (.i .u8)) ws,.val (.list (.i .u16)) rs,.val (.list (.i .u8)) ds] (some 25)),(5,.slot 5,.cells [.val (.i .i64) (bHk h8),.lst 38] (some 29)),(38,.cell 5 1,.lst 3 (.i .i64) (Q0 h8 ws) false),(6,.slot 6,.cells [.val (.i .i64) (bHk h8),.lst 40] (some 32)),(40,.cell 6 1,.lst 3 (.i .i64) (Q2 h8 rs) false),(46,.slot 8,.lst 3 (.i .i64) (Qm ds (((List.length (Q0 h8 ws)):Nat):Int).toNat) false),(54,.slot 9,.lst 9 .st (Q9 (bHk h8) (Q0 h8 ws) (Qm ds (((List.length (Q0 h8 ws)):Nat):Int).toNat) (bHk h8) (Q2 h8 rs)) (List.isEmpty (Q9 (bHk h8) (Q0 h8 ws) (Qm ds (((List.length (Q0 h8 ws)):Nat):Int).toNat) (bHk h8) (Q2 h8 rs)))),(67,.slot 11,.lst 50 (.pair (.i .i64) (.pair (.i .i64) .bo)) e.1 false),(68,.slot 12,.lst 3 (.i .i64) e.2.1 false),(69,.slot 13,.lst 4 .bo e.2.2.1 false),(87,.slot 15,.lst 3 (.i .i64) e.2.2.2.2.1 (List.isEmpty e.2.2.2.2.1)),(467,.slot 16,.lst 4 .bo e.2.2.2.2.2 (List.isEmpty e.2.2.2.2.2))]⟩),
 (4,⟨Unit,(List (Int×Bool))×Int,[5,6,7,22,24,25,31,32],λe x=>[.box 5 0,.box 6 0,.val (.i .i64) (((List.length (Q0 h8 ws)):Nat):Int),.lst 237,.lst 248,.val (.i .i64) (GK (bHk h8) (Q0 h8 ws) (bHk h8) (Q2 h8 rs) (([]:List (List UInt8))++(Q9 (bHk h8) (Q0 h8 ws) (Z8 ds (((List.length (Q0 h8 ws)):Nat):Int).toNat) (bHk h8) (Q2 h8 rs)))),.map 311,.val (.i .i64) x.2],λe x=>[(5,.slot 5,.cells [.val (.i .i64) (bHk h8),.lst 38] (some 29)),(38,.cell 5 1,.lst 3 (.i .i64) (Q0 h8 ws) false),(6,.slot 6,.cells [.val (.i .i64) (bHk h8),.lst 40] (some 32)),(40,.cell 6 1,.lst 3 (.i .i64) (Q2 h8 rs) false),(237,.slot 22,.lst 9 .st (Q9 (bHk h8) (Q0 h8 ws) (Z8 ds (((List.length (Q0 h8 ws)):Nat):Int).toNat) (bHk h8) (Q2 h8 rs)) (List.isEmpty (Q9 (bHk h8) (Q0 h8 ws) (Z8 ds (((List.length (Q0 h8 ws)):Nat):Int).toNat) (bHk h8) (Q2 h8 rs)))),(248,.slot 24,.lst 3 (.i .i64) (Kn (bHk h8) (Q0 h8 ws) (bHk h8) (Q2 h8 rs) (([]:List (List UInt8))++(Q9 (bHk h8) (Q0 h8 ws) (Z8 ds (((List.length (Q0 h8 ws)):Nat):Int).toNat) (bHk h8) (Q2 h8 rs)))) (List.isEmpty (Kn (bHk h8) (Q0 h8 ws) (bHk h8) (Q2 h8 rs) (([]:List (List UInt8))++(Q9 (bHk h8) (Q0 h8 ws) (Z8 ds (((List.length (Q0 h8 ws)):Nat):Int).toNat) (bHk h8) (Q2 h8 rs)))))),(311,.slot 31,.map (.i .i64) .bo x.1)]⟩)]
theorem Bo (d:(Int×List Int×List Int×List Int)×List (Int×Int)):gwp (VD) (Bu d.1.1 d.1.2.1 d.1.2.2.1 d.1.2.2.2 d.2) c3 0 (WY [.tmp 4] (V5 d) (KT d)) (Qk 380 (AL.can VJ d))=Xg d.1.1 d.1.2.1 d.1.2.2.1 d.1.2.2.2 d.2:=by kernel_rfl
abbrev Bc:Prop:=OkC Tryd.prog 3 UJ
theorem Bf (h:∀ (h8:Int) (ws:List Int) (rs:List Int) (ds:List Int) (lk:List (Int×Int)),(bOk h8 ws rs ds/\∀ x∈lk,0<=x.1/\x.1<=255/\0<=x.2/\x.2<=255)->Xg h8 ws rs ds lk):OkC Tryd.prog 3 UJ :=
 QF fun3 mixed (C:=VD) (V:=λ(d:(Int×List Int×List Int×List Int)×List (Int×Int))=>Xg d.1.1 d.1.2.1 d.1.2.2.1 d.1.2.2.2 d.2) ⟨(.cons VP (.cons UH (.cons VZ (.cons Sq (.cons Vo (.cons Rc (.cons S_ (.cons Hg (.cons SE (.cons Nc (.cons A4 (.cons Sz (.cons C3 (.cons R8 (.cons T9 .nil))))))))))))))),XsOk.nil,ItsOk.nil,YlOk.nil,IysOk.nil,XfOk.nil⟩ (Bo) λd hp=>h d.1.1 d.1.2.1 d.1.2.2.1 d.1.2.2.2 d.2 hp
theorem ok_law11_EyeTrue:Bc:=Bf λh8 ws rs ds lk hb=>by
 obtain⟨hb,iM⟩:=hb;have tG:bOk h8 ws rs ds=True:=eq_true hb;unfold Xg
 (try delta lI gD sT I64 Q4 pj8 pj4)
 rw[tG];have hn:=Ft (h8:=h8) (ws:=ws);obtain⟨b1,b2,b3,b4,b5⟩:=Cb hb;have hlen:=MH ds (Q0 h8 ws).length;have hval:=FM (n:=(Q0 h8 ws).length) hb.2.2.2.2 hn.1;have pW:=Ir (n:=(Q0 h8 ws).length) hb.2.2.2.2 hn.1;obtain⟨EC,MC,L,R⟩:=Ip b1 b2 b3 b4 b5 hn.1 hn.2 hlen hval pW iM;clear tG b1 b2 b3 b4 b5 hlen hval pW hn;have hl:Qm ds (((Q0 h8 ws).length:Nat):Int).toNat=Qm ds (Q0 h8 ws).length:=rfl;have hm:Z8 ds (((Q0 h8 ws).length:Nat):Int).toNat=Z8 ds (Q0 h8 ws).length:=rfl;generalize Qm ds (((Q0 h8 ws).length:Nat):Int).toNat=l at *
 generalize Z8 ds (((Q0 h8 ws).length:Nat):Int).toNat=m at *
 subst hl hm;generalize Qm ds (Q0 h8 ws).length=l at *
 generalize Z8 ds (Q0 h8 ws).length=m at *
 generalize Q0 h8 ws=lw at *
 generalize Q2 h8 rs=rows at *
 generalize bHk h8=hk at *
 obtain⟨n1,n24,r1,r8,len,val,key,eC,wE,lE,lE1,hE,hW,lW,hA,hB,hC,hD,hF,lM,mC,mE,wM,sM,sM1,fE,fW,f0,ft,fb,fl,fa,fd,LC,LE,wL,cnt⟩:=R;have k1:(((EC.length:Nat):Int) != ((rows.length:Nat):Int))=false:=by rw[bne_eq_false_iff_eq];omega
 simp only[Zs,xq,eC,wE,k1,mC,mE,wM,fE,fW,LC,LE,wL,true_and,and_true,exists_eq_left',exists_const,zg,zk,zr,bne_iff_ne,ne_eq,bne_eq_false_iff_eq,gt_iff_lt,ge_iff_le,forall_eq,false_implies,zq,Bool.and_self,x_,Bool.false_or,xB,implies_true,forall_const,decide_true,false_implies,wV,bne_self_eq_false];have hg:∀ x:Int,0<=x->FI 0 x=x:=λx hx=>by unfold FI;split<;>omega
 refine⟨⟨by omega,by omega⟩,by omega,by omega,by omega,⟨by omega,by omega,by omega⟩,([],[],[],0),(by and_intros<;>first|rfl|trivial|simp),?_⟩;refine⟨λd=>∃ i:Nat,i<=lk.length+1/\i<=21/\d=(ZA EC lw.length lk i,CK lw rows EC lk i,CL lw EC lk i,(i:Int)),λd=>22-d.2.2.2.toNat,⟨0,by omega,by omega,rfl⟩,?_⟩;rintro _ ⟨i,jr,fP,rfl⟩;dsimp only;have sl:=Sv EC lw.length lk i;refine⟨λaf=>?_,λaZ=>?_⟩
 .simp only[z1,zg] at af;have k2:((0:Int) != 0||(((Z3 lw rows (ZA EC lw.length lk i)).length:Nat):Int) != ((lw.length:Nat):Int)||(((Z1 lw (ZA EC lw.length lk i)).length:Nat):Int) != ((lw.length:Nat):Int))=false:=by rw[Wn,Wj];simp
  rw[hE i (by omega),hW i (by omega),lW i (by omega),k2];refine⟨by omega,by omega,by omega,⟨by omega,by omega,by omega⟩,(λhf=>by cases hf),λ_=>⟨(ZA EC lw.length lk i,CK lw rows EC lk i,CL lw EC lk i,(i:Int),Z3 lw rows (ZA EC lw.length lk i),Z1 lw (ZA EC lw.length lk i)),0,(by and_intros<;>first|rfl|trivial|simp),?_⟩⟩;refine⟨λd=>∃ w:Nat,w<=lw.length/\d=(w:Int),λd=>lw.length-d.toNat,⟨0,Nat.zero_le _,rfl⟩,?_⟩;rintro _ ⟨w,hw,rfl⟩;dsimp only;have tH:=Wn lw rows (ZA EC lw.length lk i);have tI:=Wj lw (ZA EC lw.length lk i);have gA:=hA i;have gB:=hB i;have gC:=hC i;have gH:∀ w,w<lw.length->0<(i:Int)->(CK lw rows EC lk i).length=lw.length/\(CL lw EC lk i).length=lw.length/\ZS .andNot .i64 ((Z3 lw rows (ZA EC lw.length lk i)).getD w 0) ((CK lw rows EC lk i).getD w 0)=0/\((Z1 lw (ZA EC lw.length lk i)).getD w false=true->(CL lw EC lk i).getD w false=true):=λw hw h0=>by obtain⟨j,rfl⟩:∃ j,i=j+1:=⟨i-1,by omega⟩;exact⟨Wn _ _ _,Wj _ _,hD j w hw,hF j w hw⟩
  generalize tJ:Z3 lw rows (ZA EC lw.length lk i)=H at *
  generalize tK:Z1 lw (ZA EC lw.length lk i)=B at *
  generalize CK lw rows EC lk i=H0 at *
  generalize CL lw EC lk i=B0 at *
  refine⟨λb_=>?_,λaZ=>?_⟩
  .have b_:w<lw.length:=by omega
   have v:=val w b_;have gA:=gA w b_;have gB:=gB w b_;have gC:=gC w b_;have gH:=gH w b_;have gK:0<=l.getD w 0->0<=lw.getD (l.getD w 0).toNat 0/\lw.getD (l.getD w 0).toNat 0<24:=λh=>key _ (by omega);simp only[zh];have d1:((H.getD w 0)<0)=False:=eq_false (by omega);have last:(decide (0<(i:Int))&&(ZS .andNot .i64 (H.getD w 0) (H0.getD w 0) != 0||B.getD w false&&!B0.getD w false))=false:=by
    by_cases c:0<(i:Int)
    .obtain⟨_,_,g3,g4⟩:=gH c;rw[g3];cases hb:B.getD w false with
     |false=>simp
     |true=>rw[g4 hb];simp
    .rw[xD c];rfl
   rcases (show l.getD w 0=-1\/0<=l.getD w 0 by omega) with kf|kf
   .have d2:(l.getD w 0<0)=True:=eq_true (by omega);have d3:(0<=l.getD w 0)=False:=eq_false (by omega);have gA:=gA kf;rw[gA,Bool.true_and] at last;simp only[d1,d2,d3,gA,true_and,Int.ofNat_lt,false_implies,Bool.or_self,Bool.false_or,Bool.and_false,Bool.false_and,Bool.true_and,xO,implies_true,forall_const,decide_false,decide_true];simp only[last,true_and,false_implies,zq,forall_const];and_intros
    all_goals first
     |exact⟨w+1,by omega,by simp⟩
     |omega
     |(intros;(first|omega|(have:=gH (by omega);omega)))
   .have d2:(l.getD w 0<0)=False:=eq_false (by omega);have d3:(0<=l.getD w 0)=True:=eq_true kf;have gB:=gB kf;have gK:=gK kf;have d4:(ZS .and .i64 (Mj .i64 (H.getD w 0) (lw.getD (l.getD w 0).toNat 0)) 1==0)=false:=by rw[gB];rfl
    have hu:InK .u64 (lw.getD (l.getD w 0).toNat 0):=⟨by show (0:Int)<=_;omega,by show _<=(18446744073709551615:Int);omega⟩;simp only[d1,d2,d3,hg _ kf,d4,hu,true_and,Int.ofNat_lt,false_implies,Bool.or_self,Bool.false_or,Bool.and_false,Bool.false_and,implies_true,forall_const,decide_false,decide_true];simp only[last,true_and,false_implies,zq,forall_const];and_intros
    all_goals first
     |exact⟨w+1,by omega,by simp⟩
     |omega
     |(intros;(first|omega|(have:=gH (by omega);omega)))
  have hw:w=lw.length:=by omega
  subst hw;refine⟨λiG=>?_,λiG=>?_⟩
  .have iG:i<lk.length:=by omega
   have hx:=iM _ (zi iG);have hs:=GQ (EC:=EC) (n:=lw.length) iG;rw[<-Q7 (d:=(0,0)) iG] at hx;simp only[zh];unfold Q49 at hs;have t1:=Int.tmod_nonneg (EC.length:Int) hx.1;have t2:=Int.tmod_lt_of_pos (lk.getD i (0,0)).1 (show (0:Int)<EC.length by omega);have t3:=Int.tmod_nonneg (lw.length:Int) hx.2.2.1;have t4:=Int.tmod_lt_of_pos (lk.getD i (0,0)).2 (show (0:Int)<lw.length by omega);have hp:=lE1 (Int.tmod (lk.getD i (0,0)).1 EC.length).toNat (by omega);refine⟨by omega,by omega,by omega,by omega,by omega,by omega,by omega,by omega,by omega,by omega,(λh=>(h (by rw[hp])).elim),λ_=>⟨by omega,by omega,by omega,by rw[hp];omega,by rw[zl];omega,by omega,(ZA EC lw.length lk (i+1),H,B,(i:Int)+1),?_,?_⟩⟩
   .rw[hs];and_intros<;>first|rfl|trivial|(cases H with|nil=>(simp at tH;omega)|cons a l=>rfl)|(cases B with|nil=>(simp at tI;omega)|cons a l=>rfl)
   .exact⟨⟨i+1,by omega,by omega,by rw[CK,CL,tJ,tK];rfl⟩,by dsimp only;omega⟩
  .have e:ZA EC lw.length lk (i+1)=ZA EC lw.length lk i:=by rw[ZA,ZA,zy (by omega),zy (by omega)]
   refine⟨by omega,(ZA EC lw.length lk (i+1),H,B,(i:Int)+1),?_,⟨i+1,by omega,by omega,by rw[CK,CL,tJ,tK];rfl⟩,by dsimp only;omega⟩;rw[e];and_intros<;>first|rfl|trivial|(cases H with|nil=>(simp at tH;omega)|cons a l=>rfl)|(cases B with|nil=>(simp at tI;omega)|cons a l=>rfl)
 .have kC:(Ja hk lw hk rows MC != 0&&Ja hk lw hk rows MC != 8||Ja hk lw hk rows MC==0&&decide (CX hk lw hk rows MC<1)||((L.length:Nat):Int) != ((lw.length:Nat):Int)||decide ((((WU hk lw m).length:Nat):Int)<GK hk lw hk rows MC)||decide (GK hk lw hk rows MC<0))=false:=by
   rw[xD (show ¬ (((WU hk lw m).length:Nat):Int)<GK hk lw hk rows MC by omega),xD (show ¬ GK hk lw hk rows MC<0 by omega),fl];rcases cnt with⟨c1,c2⟩|c1
   .rw[c1,xD (show ¬ CX hk lw hk rows MC<1 by omega)];simp
   .rw[c1];simp
  rw[kC];refine⟨⟨by omega,by omega⟩,by omega,by omega,by omega,⟨by omega,by omega,by omega⟩,by omega,by omega,⟨by omega,by omega⟩,⟨by omega,by omega⟩,by simp only[List.length_nil];omega,⟨by omega,by omega,by omega,sM1⟩,by omega,by omega,⟨by omega,by omega,by omega,sM1⟩,by omega,by omega,⟨by omega,by omega⟩,(λhf=>by cases hf),λ_=>⟨([],0),(by and_intros<;>first|rfl|trivial|simp),?_⟩⟩;refine⟨λd=>∃ w:Nat,w<=lw.length/\d.2=(w:Int)/\∀ e,gq.aget (.i .i64) d.1 e false=decide (e∈L.take w),λd=>lw.length-d.2.toNat,⟨0,Nat.zero_le _,rfl,λe=>rfl⟩,?_⟩;rintro⟨u,_⟩ ⟨w,hw,rfl,hu⟩;dsimp only at hu |-;refine⟨λaf=>?_,λaZ=>?_⟩
  .have af:w<L.length:=by omega
   have v:=fa w (by omega);have c1:(L.getD w 0<0)=False:=eq_false (by omega);have c2:(((lw.length:Nat):Int)<=L.getD w 0)=False:=eq_false (by omega);have sF:L.getD w 0∉L.take w:=λh=>by rw[Q7 af] at h;obtain⟨k,hk,ax⟩:=List.mem_take_iff_getElem.1 h;have:=(List.getElem_inj fd).1 ax;omega
   have ag:gq.aget (.i .i64) u (L.getD w 0) false=false:=by rw[hu,xD sF]
   simp only[zh,c1,c2,ag,true_and,zh,Int.ofNat_lt,false_implies,zq,Bool.or_self,forall_const,decide_false,not_false_eq_true];refine⟨by omega,by omega,by omega,by omega,by omega,by omega,by omega,by omega,by omega,(XZ (.i .i64) u (L.getD w 0) true,(w:Int)+1),(by and_intros<;>first|rfl|trivial|simp),⟨w+1,by omega,by simp,λe=>?_⟩,by dsimp only;omega⟩;dsimp only;rw[agB,Qc af,Q7 af];by_cases c:e=L[w]
   .rw[z7 c];exact(xZ (xS _ (zI.2 c))).symm
   .rw[z6 c,hu];exact decide_eq_decide.2 ⟨λh=>w7 _ h,λh=>(x7.1 h).resolve_right λh=>c (zI.1 h)⟩
  .refine⟨by omega,by omega,by omega,⟨by omega,by omega,by omega⟩,by omega,⟨by omega,by omega⟩,by omega,?_⟩;rw[fb];simp
theorem Q1p {l:List Int}(h:KWf (.list (.i .u8)) l):u8s l:=λx hx=>(Ay x).1 (h.2 x hx)
theorem Q1v {l:List Int}(h:KWf (.list (.i .u16)) l):Q8p l:=λx hx=>(Q29 x).1 (h.2 x hx)
theorem Q5t {x:Int×List Int×List Int×List Int}(h:KWf (.pair (.i .u8) (.pair (.list (.i .u8)) (.pair (.list (.i .u16)) (.list (.i .u8))))) x):bOk x.1 x.2.1 x.2.2.1 x.2.2.2:=by obtain⟨h1,h2,h3,h4⟩:=h;have h1:=(Ay x.1).1 h1;exact⟨h1.1,h1.2,Q1p h2,Q1v h3,Q1p h4⟩
theorem truePre_of {x:(Int×List Int×List Int×List Int)×List (Int×Int)}(h:AWf [.pair (.i .u8) (.pair (.list (.i .u8)) (.pair (.list (.i .u16)) (.list (.i .u8)))),.list (.pair (.i .u8) (.i .u8))] x):bOk x.1.1 x.1.2.1 x.1.2.2.1 x.1.2.2.2/\∀ y∈x.2,0<=y.1/\y.1<=255/\0<=y.2/\y.2<=255:=by obtain⟨h1,h3⟩:=h;refine⟨Q5t h1,λy hy=>?_⟩;obtain⟨a,b⟩:=h3.2 y hy;have a:=(Ay y.1).1 a;have b:=(Ay y.2).1 b;exact⟨a.1,a.2,b.1,b.2⟩
end Go.Proofs.Tryd