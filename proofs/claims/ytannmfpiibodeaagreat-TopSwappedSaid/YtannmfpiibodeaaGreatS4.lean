/- A framework for walks, contracts of functions, and their proofs: part 4. -/
import Derived.Test.YtannmfpiibodeaaGreatS3
set_option linter.unusedVariables false
namespace Go.V
open Go
theorem DropTo.rename2 {σ0 σf U':Heap}{v v':Value}(π:Nat->Nat) (h1:σ0.n<=U'.n)
  (h2:∀ i,i<σ0.n->π i=i/\U'.get i=σf.get i/\(σf.get i=σ0.get i\/∃ b,σf.get i=some b/\b.plain=true))
  (h3:∀ i,σ0.n<=i->i<U'.n->σ0.n<=π i/\((U'.get i=none/\σf.get (π i)=none)\/∃ b' b,U'.get i=some b'/\σf.get (π i)=some b/\BRen U'.n π b' b))
  (h4:∀ i j,σ0.n<=i->i<U'.n->σ0.n<=j->j<U'.n->π i=π j->i=j) (h5:Ren U'.n π v' v):DropTo σ0 v σf v' U':=by
 intro ρ0 w0 ρ w c fN hE hH hv;have hπ:∀ i,i<σ0.n->π i=i:=λi hi=>(h2 i hi).1;have aE:∀ i b',U'.get i=some b'->∃ b,σf.get (π i)=some b/\BRen U'.n π b' b:=λi b' hb=>by
  have hi:=U'.lt hb;rcases zf i σ0.n with ao|cA
  .obtain⟨k1,k2,k3⟩:=h2 i ao;rw[k1];rw[k2] at hb;refine⟨b',hb,?_⟩;rcases k3 with k3|⟨b,k3,k4⟩
   .rw[k3] at hb;obtain⟨p,_,hB⟩:=fN.live i b' hb;exact hB.ren h1 hπ
   grind [osj,BRen.plain]
  grind
 have eQ:∀ i j,i<U'.n->j<U'.n->π i=π j->i=j:=(by grind);have hX:Ext ρ0 σ0 w0 (λi=>if i<U'.n then ρ (π i) else none) U' w:=by
  refine⟨hE.os,hE.tape,hE.output,hE.size,hE.keep,?_,h1,λi hi p hp=>?_⟩
  .rintro B hB ⟨i,p,b,hp,hb,hw,rfl⟩;change (if i<U'.n then ρ (π i) else none)=some p at hp;split at hp
   .obtain⟨b0,bP,bN⟩:=aE i b hb;exact hE.wr _ hB ⟨π i,p,b0,hp,bP,by rw[<-bN.wr];exact hw,rfl⟩
   .cases hp
  .change (if i<U'.n then ρ (π i) else none)=some p at hp;split at hp
   .rw[hπ i hi] at hp;exact hE.pl i hi p hp
   .cases hp
 refine⟨λi=>if i<U'.n then ρ (π i) else none,h5.rel hv,fN.ext ⟨λi b' hb=>?_,λi hi=>?_,λi p hp=>?_,λi j p q b cE hp hq hb hw hx=>?_⟩ hX,hX⟩
 .obtain⟨b,bP,bN⟩:=aE i b' hb;obtain⟨p,hp,hB⟩:=hH.live _ b bP;exact⟨p,by simp[U'.lt hb,hp],bN.rel hB⟩
 .show (if i<U'.n then ρ (π i) else none)=none;split
  .rename_i ao;rcases zf i σ0.n with cQ|cA
   .obtain⟨k1,k2,_⟩:=h2 i cQ;rw[k1];exact hH.dead i (by rw[<-k2];exact hi)
   .obtain⟨_,⟨_,k2⟩|⟨b1,b,k1,_⟩⟩:=h3 i cA ao
    .exact hH.dead _ k2
    .rw[k1] at hi;cases hi
  .rfl
 .change (if i<U'.n then ρ (π i) else none)=some p at hp;split at hp
  .exact hH.lt _ p hp
  .cases hp
 .change (if i<U'.n then ρ (π i) else none)=some p at hp;change (if j<U'.n then ρ (π j) else none)=some q at hq;split at hp
  .rename_i hi;split at hq
   .rename_i hj;obtain⟨b0,bP,bN⟩:=aE i b hb;exact hH.sep (π i) (π j) p q b0 (λe=>cE (eQ i j hi hj e)) hp hq bP (by rw[<-bN.wr];exact hw) hx
   .cases hq
  .cases hp
theorem KC.enc {h:Heap}:∀ {k:Kind}{x:k.T}{cs:List Value},k.flat=true->KC h k x cs->cs=Q0z k x
 |.i _,_,_,_,e|.bo,_,_,_,e|.st,_,_,_,e=>e
 |.list _,_,_,f,_=>by cases f
 |.pair a b,x,cs,f,e=>by simp only[Kind.flat,z1] at f;obtain⟨c1,c2,rfl,h1,h2⟩:=e;rw[KC.enc f.1 h1,KC.enc f.2 h2];rfl
theorem Rows.enc {h:Heap}{k:Kind}(hk:k.flat=true) {xs:List k.T}{cs:List Value}(hr:Rows (KC h k) xs cs):cs=(xs.map (Q0z k)).flatten:=by
 induction hr with
 |nil=>rfl
 |cons h _ ih=>rw[xr,List.flatten_cons,<-ih,KC.enc hk h]
theorem S0:∀ {k:Kind}{x:k.T},k.flat=true->(Q0z k x).all J8=true
 |.i _,_,_|.bo,_,_|.st,_,_=>rfl
 |.list _,_,h=>by cases h
 |.pair a b,x,h=>by simp only[Kind.flat,z1] at h;simp only[Q0z,List.all_append,z1];exact⟨S0 h.1,S0 h.2⟩
section
variable {P:Program}
mutual
theorem Gm {B:Heap}{pl:Nat->Value}{tb:Nat->Option Bool}{n:Nat}:∀ (s:SV) (v:Value),s.ret n=true->MY s=true->SR P B pl tb s v->v=G2 pl s
 |.val k x,v,h,_,hs=>by simp only[SR] at hs;have:=KC.enc h hs;simp only[G2,<-this,List.headD_cons]
 |.nilS,v,_,_,hs|.nilP,v,_,_,hs|.nilM,v,_,_,hs|.nilF,v,_,_,hs=>by simp only[SR] at hs;exact hs
 |.lst j,v,_,_,hs=>by simp only[SR] at hs;exact hs.1
 |.agg l,v,h,hb,hs=>by simp only[SR] at hs;obtain⟨cs,rfl,h2⟩:=hs;rw[TL l cs h hb h2];rfl
 |.tup l,v,h,hb,hs=>by simp only[SR] at hs;obtain⟨cs,rfl,h2⟩:=hs;rw[TL l cs h hb h2];rfl
 |.box _ _,_,_,hb,_|.map _,_,_,hb,_=>by cases hb
 |.any,_,h,_,_|.bid _ _,_,h,_,_|.grd _ _,_,h,_,_|.sub _ _ _ _,_,h,_,_|.elp _ _ _ _,_,h,_,_|.rop _ _ _ _,_,h,_,_|.cp _ _,_,h,_,_|.fn _ _ _,_,h,_,_|.pf _ _ _ _,_,h,_,_=>by cases h
theorem TL {B:Heap}{pl:Nat->Value}{tb:Nat->Option Bool}{n:Nat}:∀ (s:List SV) (v:List Value),SVs.ret n s=true->Hr s=true->SRs P B pl tb s v->v=N1 pl s
 |[],v,_,_,hs=>by simp only[SRs] at hs;exact hs
 |s::ss,v,h,hb,hs=>by simp only[SVs.ret,z1] at h;simp only[Hr,z1] at hb;simp only[SRs] at hs;obtain⟨x,y,rfl,h1,h2⟩:=hs;rw[Gm s x h.1 hb.1 h1,TL ss y h.2 hb.2 h2];rfl
end
theorem Z0j {k:Kind}{x:k.T}(h:k.flat=true):J8 ((Q0z k x).headD poison)=true\/(Q0z k x).headD poison=poison:=by
 have:=S0 (x:=x) h;cases e:Q0z k x with
 |nil=>exact .inr rfl
 |cons a l=>rw[e] at this;simp only[zL,z1] at this;exact .inl this.1
mutual
theorem Q55 {n m:Nat}{π:Nat->Nat}{p q:Nat->Value}(h:∀ j,j<m->Ren n π (p j) (q j)):∀ (s:SV),s.ret m=true->MY s=true->Ren n π (G2 p s) (G2 q s)
 |.val k x,hr,_=>by
  simp only[G2];rcases Z0j (x:=x) hr with h|h
  .exact .plain _ h
  .rw[h];exact .poison _
 |.nilS,_,_|.nilP,_,_|.nilM,_,_|.nilF,_,_=>.plain _ rfl
 |.lst j,hr,_=>h j (by simpa [SV.ret,zu] using hr)
 |.agg l,hr,hb=>by have:=AX h l hr hb;simp only[G2];refine .agg _ _ (by simpa using this.1) λi h1 h2=>this.2 i _ _ (by simp) (by simp)
 |.tup l,hr,hb=>by have:=AX h l hr hb;simp only[G2];refine .tuple _ _ (by simpa using this.1) λi h1 h2=>this.2 i _ _ (by simp) (by simp)
 |.box _ _,_,hb|.map _,_,hb=>by cases hb
 |.any,h,_|.bid _ _,h,_|.grd _ _,h,_|.sub _ _ _ _,h,_|.elp _ _ _ _,h,_|.rop _ _ _ _,h,_|.cp _ _,h,_|.fn _ _ _,h,_|.pf _ _ _ _,h,_=>by cases h
theorem AX {n m:Nat}{π:Nat->Nat}{p q:Nat->Value}(h:∀ j,j<m->Ren n π (p j) (q j)):∀ (s:List SV),SVs.ret m s=true->Hr s=true->LRen n π (N1 p s) (N1 q s)
 |[],_,_=>⟨rfl,λi v c hv=>by simp[N1] at hv⟩
 |s::ss,hr,hb=>by
  simp only[SVs.ret,z1] at hr;simp only[Hr,z1] at hb;have h1:=Q55 h s hr.1 hb.1;have h2:=AX h ss hr.2 hb.2;refine⟨by simp[N1,h2.1],λi v c hv hc=>?_⟩;cases i with
  |zero=>simp[N1] at hv hc;subst hv;subst hc;exact h1
  |succ i=>simp[N1] at hv hc;exact h2.2 i v c hv hc
end
mutual
theorem Q1s {m:Nat}{S:Nat->Prop}{p q:Nat->Value}(h:∀ j,j<m->Weak S (p j) (q j)):∀ (s:SV),s.ret m=true->MY s=true->Weak S (G2 p s) (G2 q s)
 |.val k x,_,_=>.refl _
 |.nilS,_,_|.nilP,_,_|.nilM,_,_|.nilF,_,_=>.refl _
 |.lst j,hr,_=>h j (by simpa [SV.ret,zu] using hr)
 |.agg l,hr,hb=>by have:=Sw h l hr hb;simp only[G2];exact .agg _ _ this.1 this.2
 |.tup l,hr,hb=>by have:=Sw h l hr hb;simp only[G2];exact .tuple _ _ this.1 this.2
 |.box _ _,_,hb|.map _,_,hb=>by cases hb
 |.any,h,_|.bid _ _,h,_|.grd _ _,h,_|.sub _ _ _ _,h,_|.elp _ _ _ _,h,_|.rop _ _ _ _,h,_|.cp _ _,h,_|.fn _ _ _,h,_|.pf _ _ _ _,h,_=>by cases h
theorem Sw {m:Nat}{S:Nat->Prop}{p q:Nat->Value}(h:∀ j,j<m->Weak S (p j) (q j)):∀ (s:List SV),SVs.ret m s=true->Hr s=true->(N1 p s).length=(N1 q s).length/\∀ (i:Nat) (a b:Value),(N1 p s)[i]?=some a->(N1 q s)[i]?=some b->Weak S a b
 |[],_,_=>⟨rfl,λi v c hv=>by simp[N1] at hv⟩
 |s::ss,hr,hb=>by
  simp only[SVs.ret,z1] at hr;simp only[Hr,z1] at hb;have h1:=Q1s h s hr.1 hb.1;have h2:=Sw h ss hr.2 hb.2;refine⟨by simp[N1,h2.1],λi v c hv hc=>?_⟩;cases i with
  |zero=>simp[N1] at hv hc;subst hv;subst hc;exact h1
  |succ i=>simp[N1] at hv hc;exact h2.2 i v c hv hc
end
theorem KC.ofEnc {h:Heap}:∀ {k:Kind}{x:k.T},k.flat=true->KC h k x (Q0z k x)
 |.i _,_,_|.bo,_,_|.st,_,_=>by simp[KC,Q0z]
 |.list _,_,f=>by cases f
 |.pair a b,x,f=>by simp only[Kind.flat,z1] at f;exact⟨_,_,rfl,KC.ofEnc f.1,KC.ofEnc f.2⟩
theorem Rows.ofEnc {h:Heap}{k:Kind}(hk:k.flat=true):∀ xs:List k.T,Rows (KC h k) xs (xs.map (Q0z k)).flatten
 |[]=>.nil
 |x::xs=>by rw[xr,List.flatten_cons];exact .cons (KC.ofEnc hk) (Rows.ofEnc hk xs)
mutual
theorem Oq {pl:Nat->Value}{m:Nat}(h:∀ j,j<m->∃ a n c,pl j=.slice a n c):∀ (s:SV),s.ret m=true->MY s=true->SR P hNil pl Yz s (G2 pl s)
 |.val k x,hr,hb=>by have h1:=KC.ofEnc (h:=hNil) (x:=x) hr;have h2:=KC.length h1;rw[Kind.q1q hb] at h2;obtain⟨c,e⟩:=zI.1 h2;simp only[G2,SR,e,List.headD_cons];rw[e] at h1;exact h1
 |.nilS,_,_|.nilP,_,_|.nilM,_,_|.nilF,_,_=>by simp[G2,SR]
 |.lst j,hr,_=>by simp only[G2,SR];exact⟨trivial,h j (by simpa [SV.ret,zu] using hr)⟩
 |.agg l,hr,hb=>by simp only[G2,SR];exact⟨_,rfl,OM h l hr hb⟩
 |.tup l,hr,hb=>by simp only[G2,SR];exact⟨_,rfl,OM h l hr hb⟩
 |.box _ _,_,hb|.map _,_,hb=>by cases hb
 |.any,h,_|.bid _ _,h,_|.grd _ _,h,_|.sub _ _ _ _,h,_|.elp _ _ _ _,h,_|.rop _ _ _ _,h,_|.cp _ _,h,_|.fn _ _ _,h,_|.pf _ _ _ _,h,_=>by cases h
theorem OM {pl:Nat->Value}{m:Nat}(h:∀ j,j<m->∃ a n c,pl j=.slice a n c):∀ (s:List SV),SVs.ret m s=true->Hr s=true->SRs P hNil pl Yz s (N1 pl s)
 |[],_,_=>by simp[N1,SRs]
 |s::ss,hr,hb=>by simp only[SVs.ret,z1] at hr;simp only[Hr,z1] at hb;simp only[N1,SRs];exact⟨_,_,rfl,Oq h s hr.1 hb.1,OM h ss hr.2 hb.2⟩
end
theorem Z4n {U:Heap}{bs:List OB}(hl:bs.all OB.isL=true) {j:Nat}(hj:j<bs.length):∃ a n c,Bo U bs j=.slice a n c:=by
 have hb:=z8.1 hl _ (zd hj);simp only[Bo,z3 hj];cases e:bs[j] with
 |lst ty k xs nl=>cases nl<;>simp
 |_=>rw[e] at hb;cases hb
theorem Q7u {σ0 σf:Heap}(hA:Agree σ0 σf) (hn:σ0.n<=σf.n) {v:SV}{bs:List OB}(hv:v.ret bs.length=true) (cP:MY v=true) (hb:bs.all OB.ret=true) (hl:bs.all OB.isL=true) {pl:Nat->Value}{u:Value}
  (aq:∀ j b,bs[j]?=some b->OR P hNil pl Yz σf (pl j) b/\∀ i,oid (pl j)=some i->σ0.n<=i)
  (iH:∀ j j' i,j<bs.length->j'<bs.length->j≠j'->oid (pl j)=some i->oid (pl j')=some i->False) (hu:SR P hNil pl Yz v u) :
  DropTo σ0 u σf (G2 (Bo σ0 bs) v) (Fy σ0 bs):=by
 have dE:=Gm v u hv cP hu;subst dE;have kind:∀ j,j<bs.length->∃ ty k xs nl,bs[j]?=some (.lst ty k xs nl)/\k.flat=true/\((nl=true/\xs=[]/\pl j=.slice none 0 0)\/(nl=false/\∃ i cap c t,pl j=.slice (some ⟨i,0,none⟩) xs.length cap/\xs.length<=cap/\σ0.n<=i/\σf.get i=some (.cells c ⟨k.size,ty⟩ true t)/\c.take (xs.length*k.size)=(xs.map (Q0z k)).flatten/\Rows (KC hNil k) xs (xs.map (Q0z k)).flatten)):=by
  intro j hj;have e:=z3 hj;have h1:=z8.1 hb _ (zd hj);have h2:=z8.1 hl _ (zd hj);obtain⟨ho,hi⟩:=aq j _ e;cases bW:bs[j] with
  |lst ty k xs nl =>
   rw[bW] at e ho h1;refine⟨ty,k,xs,nl,e,h1,?_⟩;rcases ho with⟨k1,k2,k3⟩|⟨k0,i,cap,c,t,k1,k2,k3,k4,k5⟩
   .exact .inl ⟨k1,k2,k3⟩
   .have k6:=Rows.enc h1 k5;exact .inr ⟨k0,i,cap,c,t,k1,k2,hi i (by rw[k1];rfl),k3,k6,by rw[<-k6];exact k5⟩
  |_=>rw[bW] at h2;cases h2
 let S:Nat->Bool:=λi=>(List.range bs.length).any λj=>decide (oid (pl j)=some i);have hS:∀ i,S i=true<->∃ j,j<bs.length/\oid (pl j)=some i:=(by grind);let σw:Heap:=⟨λi=>if S i=true then ((List.range bs.length).find? λj=>decide (oid (pl j)=some i)).bind λj=>(bs[j]?).bind Z28 else σf.get i,σf.n,λi hi=>by
  by_cases h:S i=true
  .obtain⟨j,hj,bL⟩:=(hS i).1 h;obtain⟨ty,k,xs,nl,_,_,h3⟩:=kind j hj;rcases h3 with⟨_,_,k3⟩|⟨_,i',cap,c,t,k1,_,_,k3,_⟩
   .rw[k3] at bL;cases bL
   .rw[k1] at bL;obtain rfl:=osj bL;exact absurd (σf.lt k3) (wB.2 hi)
  .rw[z0 h];exact σf.wf i hi⟩
 have cZ:∀ j i,j<bs.length->oid (pl j)=some i->σw.get i=(bs[j]?).bind Z28:=λj i hj bL=>by
  have h1:S i=true:=(hS i).2 ⟨j,hj,bL⟩;show (if S i=true then _ else _)=_;rw[z2 h1];cases hf:(List.range bs.length).find? λj=>decide (oid (pl j)=some i) with
  |none=>have:=List.find?_eq_none.1 hf j (zQ.2 hj);simp[bL] at this
  |some j' =>have h2:=List.find?_some hf;have h3:=zQ.1 (List.mem_of_find?_eq_some hf);have h4:j'=j:=(by grind);subst h4;rfl
 let q:Nat->Value:=λj=>match pl j with
  |.slice (some a) n _=>.slice (some a) n n
  |v=>v
 have hq:∀ j,j<bs.length->Weak (λi=>S i=true) (pl j) (q j):=λj hj=>by
  obtain⟨ty,k,xs,nl,_,_,h3⟩:=kind j hj;rcases h3 with⟨_,_,k3⟩|⟨_,i',cap,c,t,k1,k2,_,k3,_⟩
  .simp only[q,k3];exact .refl _
  .simp only[q,k1];exact .sl _ _ _ ((hS i').2 ⟨j,hj,by rw[k1];rfl⟩) k2
 have nR:DropTo σ0 (G2 pl v) σf (G2 q v) σw:=by
  refine DropTo.weaken S (λi hi=>?_) rfl hn (λi hi=>?_) (λi hi=>?_) (Q1s hq v hv cP)
  .grind
  .grind
  .obtain⟨j,hj,bL⟩:=(hS i).1 hi;obtain⟨ty,k,xs,nl,e,_,h3⟩:=kind j hj;rcases h3 with⟨_,_,k3⟩|⟨k0,i',cap,c,t,k1,k2,_,k3,k4,_⟩
   .rw[k3] at bL;cases bL
   .rw[k1] at bL;obtain rfl:=osj bL;refine⟨c,_,true,t,xs.length*k.size,k3,?_⟩;rw[cZ j _ hj (by rw[k1];rfl),e];simp only[x9,Z28,k0];rw[k4];rfl
 have jS:∀ j i,j<bs.length->oid (pl j)=some i->i<σf.n:=λj i hj bL=>by
  obtain⟨ty,k,xs,nl,_,_,h3⟩:=kind j hj;rcases h3 with⟨_,_,k3⟩|⟨_,i',cap,c,t,k1,_,_,k3,_⟩
  .rw[k3] at bL;cases bL
  .rw[k1] at bL;obtain rfl:=osj bL;exact σf.lt k3
 let π:Nat->Nat:=λi=>if i<σ0.n then i else match oid (pl (i-σ0.n)) with
  |some id=>id
  |none=>σf.n+i
 have uK:σw.n=σf.n:=rfl;have nS:DropTo σ0 (G2 q v) σw (G2 (Bo σ0 bs) v) (Fy σ0 bs):=by
  refine DropTo.rename2 π (by simp[Fy]) (λi hi=>⟨by simp[π,hi],?_,.inl ?_⟩) (λi h1 h2=>?_) (λi j h1 h2 h3 h4 he=>?_) (Q55 (λj hj=>?_) v hv cP)
  .have hs:S i=false:=by
    grind
   show (if i<σ0.n then _ else _)=(if S i=true then _ else _);rw[z2 hi,z0 (by simp[hs]),hA i hi]
  .have hs:S i=false:=by
    grind
   show (if S i=true then _ else _)=_;rw[z0 (by simp[hs]),hA i hi]
  .have hj:i-σ0.n<bs.length:=by simp[Fy] at h2;omega
   have cA:¬ i<σ0.n:=by omega
   obtain⟨ty,k,xs,nl,e,ml,h3⟩:=kind _ hj;have nT:(Fy σ0 bs).get i=(bs[i-σ0.n]?).bind Z28:=by show (if i<σ0.n then _ else _)=_;rw[z0 cA]
   rcases h3 with⟨k0,_,k3⟩|⟨k0,i',cap,c,t,k1,k2,ld,k3,k4,_⟩
   .have hp:π i=σf.n+i:=by simp only[π,z0 cA,k3,oid]
    refine⟨by omega,.inl ⟨?_,σw.wf _ (by rw[hp,uK];omega)⟩⟩;rw[nT,e];simp[Z28,k0]
   .have hp:π i=i':=by simp only[π,z0 cA,k1,oid]
    rw[hp];have hw:=cZ _ i' hj (by rw[k1];rfl);rw[e] at hw;simp only[x9,Z28,k0] at hw;refine⟨ld,.inr ⟨_,_,?_,hw,BRen.plain ?_⟩⟩
    .rw[nT,e];simp[Z28,k0]
    .simp only[Blk.plain,List.all_flatten,List.all_map];rw[z8];intro x _;exact S0 ml
  .have hi:i-σ0.n<bs.length:=by simp[Fy] at h2;omega
   have hj:j-σ0.n<bs.length:=by simp[Fy] at h4;omega
   grind
  .obtain⟨ty,k,xs,nl,e,_,h3⟩:=kind j hj;rcases h3 with⟨k0,kx,k3⟩|⟨k0,i',cap,c,t,k1,k2,_,k3,_⟩
   .simp only[Bo,e,k0,zq,q,k3];exact .plain _ rfl
   .simp only[Bo,e,k0,zj,if_false,q,k1];have hp:π (σ0.n+j)=i':=by
     have:¬ σ0.n+j<σ0.n:=by omega
     simp only[π,z0 this,Nat.add_sub_cancel_left,k1,oid]
    have:=Ren.sl (n:=(Fy σ0 bs).n) (π:=π) (σ0.n+j) 0 xs.length xs.length (by simp[Fy];omega)
    rwa [hp] at this
 exact nR.trans nS
def OB.wfL:OB->Prop
 |.lst _ _ xs nl=>nl=true->xs=[]
 |_=>True
theorem Q1r (σ0:Heap) {v:SV}{bs:List OB}(hv:v.ret bs.length=true) (cP:MY v=true) (hb:bs.all OB.ret=true) (hl:bs.all OB.isL=true) (hw:∀ b∈bs,b.wfL):Ret P σ0 v bs (G2 (Bo σ0 bs) v) (Fy σ0 bs):=by
 have kind:∀ j,j<bs.length->∃ ty k xs nl,bs[j]?=some (.lst ty k xs nl)/\k.flat=true/\(nl=true->xs=[]):=λj hj=>by
  have e:=z3 hj;have h1:=z8.1 hb _ (zd hj);have h2:=z8.1 hl _ (zd hj);have h3:=hw _ (zd hj);cases bW:bs[j] with
  |lst ty k xs nl=>rw[bW] at e h1 h3;exact⟨ty,k,xs,nl,e,h1,h3⟩
  |_=>rw[bW] at h2;cases h2
 refine⟨⟨?_,?_⟩,?_,Bo σ0 bs,λj b hj=>?_,λj j' i hj di aJ h1 h2=>?_,Oq (λj hj=>Z4n hl hj) v hv cP⟩
 .refine⟨by simp[Fy],λi b hg=>?_⟩;show (if i<σ0.n then _ else _)=_;rw[z2 (σ0.lt hg)];exact hg
 .refine⟨by simp[Fy],λi hi hg=>?_⟩;show (if i<σ0.n then _ else _)=_;rw[z2 hi];exact hg
 .rintro rfl;apply Heap.ext'
  .intro i;show (if i<σ0.n then _ else _)=_;by_cases hi:i<σ0.n
   .rw[z2 hi]
   .rw[z0 hi,σ0.wf i (by omega)];rfl
  .simp[Fy]
 .have cS:j<bs.length:=(zi.1 hj).1;obtain⟨ty,k,xs,nl,e,ml,h3⟩:=kind j cS;obtain rfl:=osj (e.symm.trans hj);cases nl with
  |true =>
   have hp:Bo σ0 bs j=.slice none 0 0:=by simp[Bo,e]
   rw[hp];exact⟨.inl ⟨rfl,h3 rfl,rfl⟩,λi hi=>by cases hi⟩
  |false =>
   have hp:Bo σ0 bs j=.slice (some ⟨σ0.n+j,0,none⟩) xs.length xs.length:=by simp[Bo,e]
   have k5:=Rows.ofEnc (h:=hNil) ml xs;have fz:=k5.length KC.q0g;rw[hp];refine⟨.inr ⟨rfl,σ0.n+j,xs.length,(xs.map (Q0z k)).flatten,false,rfl,z4 _,?_,by omega,?_⟩,λi hi=>?_⟩
   .show (if σ0.n+j<σ0.n then _ else _)=_;rw[z0 (by omega),Nat.add_sub_cancel_left,e];simp[Z28]
   .rw[zP (by omega)];exact k5
   .obtain rfl:=osj hi;exact⟨σ0.wf _ (by simp),by simp⟩
 .obtain⟨ty,k,xs,nl,e,_,h3⟩:=kind j hj;obtain⟨iV,k',cw,jY,e',_,gk⟩:=kind j' di;simp only[Bo,e] at h1;simp only[Bo,e'] at h2;cases nl with
  |true=>simp[Oid,oid] at h1
  |false =>
   cases jY with
   |true=>simp[Oid,oid] at h2
   |false=>simp[Oid,oid] at h1 h2;omega
end
end Go.V
namespace Go.V
open Go
section
variable {P:Program}{B F:Heap}{pl:Nat->Value}{tb:Nat->Option Bool}{own:Own}{U:Heap}
mutual
theorem Q7a {bx:List SV->Nat->SV}(hle:B.Le U) (aA:∀ d,OR P B pl tb U (pl d) (Qr own d))
  (lf:∀ l off b c e t,U.get b=some (.cells c e true t)->SRs P B pl tb l c->SR P U KR Yz (bx l off) (.pointer (some ⟨b,off,none⟩))) :
  ∀ (s:SV) (v:Value),SR P B pl tb s v->SR P U KR Yz (EX own bx s) v
 |.any,v,h=>by simp[EX,SR]
 |.val k x,v,h=>by simp only[EX,SR] at h |-;exact h.mono hle
 |.bid n c,v,h=>by simp only[EX,SR] at h |-;obtain⟨rfl,_⟩:=h;rfl
 |.grd gs s,v,h=>by simp[EX,SR]
 |.nilS,v,h=>by simp only[EX,SR] at h |-;exact h
 |.nilP,v,h=>by simp only[EX,SR] at h |-;exact h
 |.nilM,v,h=>by simp only[EX,SR] at h |-;exact h
 |.nilF,v,h=>by simp only[EX,SR] at h |-;exact h
 |.lst o,v,h=>by
  simp only[EX];split
  .rename_i ty k xs nl ho;have:view own k (.lst o)=some xs:=by simp[view,ho,BM]
   simp only[SR,KC];exact⟨v,rfl,(Ge hle aA this h).mono (Heap.Le.refl _) λ_ _ e=>e.mono hle⟩
  .simp[SR]
 |.sub o lo n sz,v,h=>by
  simp only[EX];split
  .rename_i ty k xs nl ho;split
   .rename_i aH;have:view own k (.sub o lo n sz)=some ((xs.drop lo).take n):=by simp[view,ho,BM,aH]
    simp only[SR,KC];exact⟨v,rfl,(Ge hle aA this h).mono (Heap.Le.refl _) λ_ _ e=>e.mono hle⟩
   .simp[SR]
  .simp[SR]
 |.elp o i off sz,v,h=>by simp[EX,SR]
 |.dd o w,v,h=>by
  simp only[EX];simp only[SR] at h;split
  .rename_i ty q k xs nl hole ho;have aq:=aA o;rw[ho] at aq;have cU:=DP.le aq;split
   .split
    .obtain⟨h1,_⟩:=h;simp only[SR,KC];refine⟨v,rfl,?_⟩;rw[h1];exact(DP.sl aq).mono cU λ_ _ e=>e.mono cU
    .simp[SR]
   .simp only[SR];exact KC.mono cU h
   .simp only[SR];exact KC.mono cU h.1
   .simp[SR]
  .simp[SR]
 |.map o,v,h=>by simp[EX,SR]
 |.tup l,v,h=>by simp[EX,SR]
 |.box o off,v,h=>by
  simp only[EX];split
  .rename_i l _ ho;have aq:=aA o;rw[ho] at aq;obtain⟨i,c,e,t,h1,h2,h3,_⟩:=aq;simp only[SR] at h
   grind
  .simp[SR]
 |.rop k l i off,v,h=>by simp only[EX];exact SR.mono (tb:=tb) hle (λn c hn=>hn) (.rop k l i off) v h |> λh=>by simp only[SR] at h |-;exact h
 |.cp l off,v,h=>by simp only[EX,SR] at h |-;obtain⟨b,c,e,wr,t,h1,h2,h3⟩:=h;exact⟨b,c,e,wr,t,hle.2 _ _ h1,h2,YN hle aA lf l c h3⟩
 |.agg l,v,h=>by simp only[EX,SR] at h |-;obtain⟨cs,h1,h2⟩:=h;exact⟨cs,h1,YN hle aA lf l cs h2⟩
 |.fn f a b,v,h=>by simp only[EX,SR] at h |-;obtain⟨x,y,h1,h2,h3⟩:=h;exact⟨x,y,h1,YN hle aA lf a x h2,YN hle aA lf b y h3⟩
 |.pf ks r cI p,v,h=>by simp only[EX,SR] at h |-;exact h.mono hle
theorem YN {bx:List SV->Nat->SV}(hle:B.Le U) (aA:∀ d,OR P B pl tb U (pl d) (Qr own d))
  (lf:∀ l off b c e t,U.get b=some (.cells c e true t)->SRs P B pl tb l c->SR P U KR Yz (bx l off) (.pointer (some ⟨b,off,none⟩))) :
  ∀ (s:List SV) (v:List Value),SRs P B pl tb s v->SRs P U KR Yz (AG own bx s) v
 |[],v,h=>by simp only[AG,SRs] at h |-;exact h
 |s::ss,v,h=>by simp only[AG,SRs] at h |-;obtain⟨x,y,h1,h2,h3⟩:=h;exact⟨x,y,h1,Q7a hle aA lf s x h2,YN hle aA lf ss y h3⟩
end
theorem Gk (hle:B.Le U) (aA:∀ d,OR P B pl tb U (pl d) (Qr own d)) {l:List SV}{v:List Value}(h:SRs P B pl tb l v):SRs P U KR Yz (FO own l) v:=by
 have h0:∀ {l v},SRs P B pl tb l v->SRs P U KR Yz (J2b own l) v:=λh=>YN hle aA (λ_ _ _ _ _ _ _ _=>by simp[SR]) _ _ h;have h1:∀ {l v},SRs P B pl tb l v->SRs P U KR Yz (J27 own l) v:=λh=>YN hle aA (λl off b c e t hg hs=>by
  simp only[SR];grind) _ _ h
 exact YN hle aA (λl off b c e t hg hs=>by
  simp only[SR];grind) _ _ h
mutual
theorem Q9d {p q:Nat->Value}{n:Nat}(h:∀ j,j<n->p j=q j):∀ (s:SV),s.ret n=true->G2 p s=G2 q s
 |.val _ _,_|.nilS,_|.nilP,_|.nilM,_|.nilF,_=>by simp[G2]
 |.lst j,hr=>by simp only[G2];exact h j (by simpa [SV.ret,zu] using hr)
 |.agg l,hr=>by simp only[G2];rw[Ov h l hr]
 |.tup l,hr=>by simp only[G2];rw[Ov h l hr]
 |.box _ _,_|.map _,_=>by simp[G2]
 |.dd _ _,_=>by simp[G2]
 |.any,h|.bid _ _,h|.grd _ _,h|.sub _ _ _ _,h|.elp _ _ _ _,h|.rop _ _ _ _,h|.cp _ _,h|.fn _ _ _,h|.pf _ _ _ _,h=>by cases h
theorem Ov {p q:Nat->Value}{n:Nat}(h:∀ j,j<n->p j=q j):∀ (s:List SV),SVs.ret n s=true->N1 p s=N1 q s
 |[],_=>rfl
 |s::ss,hr=>by simp only[SVs.ret,z1] at hr;simp only[N1];rw[Q9d h s hr.1,Ov h ss hr.2]
end
theorem W8 {cs:List (Nat×CSp)}(aC:CsOk P cs) {f:SV}{args:List SV}{c:Prop}{v:SV}{bs:List OB}{fV:Value}{vs:List Value}(hf:SR P U KR Yz f fV) (ha:SRs P U KR Yz args vs)
  (h:MT cs f args=some (c,v,bs)) (hv:v.ret bs.length=true) (hb:bs.all OB.ret=true) (hc:c):∃ g a b,fV=.func (.func g) a b/\(VCalled P g (a.toList++vs++b.toList) U λu U'=>Ret P U v bs u U') /\
  (bs.all OB.isL=true->MY v=true->VCalled P g (a.toList++vs++b.toList) U λu U'=>u=G2 (Bo U bs) v/\U'=Fy U bs):=by
 have gen:(gap cs 3 f args).map (λx=>(x.1,x.2,([]:List OB)))=some (c,v,bs)->∃ g a b,fV=.func (.func g) a b/\(VCalled P g (a.toList++vs++b.toList) U λu U'=>Ret P U v bs u U') /\
   (bs.all OB.isL=true->MY v=true->VCalled P g (a.toList++vs++b.toList) U λu U'=>u=G2 (Bo U bs) v/\U'=Fy U bs):=λh=>by
  simp only[zg] at h;obtain⟨⟨c',v'⟩,h1,h2⟩:=h;simp only[Prod.mk.injEq] at h2;obtain⟨rfl,rfl,rfl⟩:=h2;obtain⟨h3,g,a,b,rfl,h4⟩:=Rp aC 3 U f args c' v' fV vs hf ha h1 hc;refine⟨g,a,b,rfl,h4.mono λu U' hu=>?_,λ_ cP=>h4.mono λu U' hu=>?_⟩
  .obtain⟨rfl,hu⟩:=hu;exact⟨⟨Heap.Le.refl _,Dead.refl _⟩,λ_=>rfl,KR,(λj b hj=>by simp at hj),(λj j' i hj=>by simp at hj),hu⟩
  .obtain⟨rfl,hu⟩:=hu;have hz:Fy U' []=U':=(Q1r (P:=P) U' (v:=v') (bs:=[]) h3 cP rfl rfl (λb hb=>by cases hb)).2.1 rfl;refine⟨?_,hz.symm⟩;rw[Gm v' u h3 cP hu]
   grind [Q9d]
 cases f with
 |fn g a b =>
  simp only[MT] at h;split at h
  .rename_i sp fb;simp only[SR] at hf;obtain⟨x,y,rfl,h1,h2⟩:=hf;refine⟨g,x.toArray,y.toArray,rfl,?_⟩;simpa using aC g sp fb (gap cs 3) (Rp aC 3) U (a++args++b) (x++vs++y) c v bs ((h1.append ha).append h2) h hv hb hc
  .cases h
 |_=>exact gen h
theorem Gam.q1u {s:St}{env:Env}{U':Heap}(h:Gam P B F pl tb s env U) (hl:U.Le U') {d:Nat}(ax:(Qr s.own d).live=true) {i:Nat}(hi:Oid (pl d) i):U'.get i=U.get i:=by
  have ao:=(h.obj d).q1n ax hi;cases hb:U.get i with
  |none =>
   have aq:=h.obj d;cases ho:Qr s.own d with
   |dead=>rw[ho] at ax;cases ax
   |lst ty k xs nl =>
    rw[ho] at aq;rcases aq with⟨_,_,h2⟩|⟨_,i',cap,c,t,h2,_,h3,_⟩
    .rw[h2] at hi;cases hi
    .rw[h2] at hi;obtain rfl:=osj hi;rw[h3] at hb;cases hb
   |cells l u=>rw[ho] at aq;obtain⟨i',c,e,t,h2,h3,_⟩:=aq;rw[h2] at hi;obtain rfl:=osj hi;rw[h3] at hb;cases hb
   |mapE kk vk m key n=>rw[ho] at aq;obtain⟨i',es,cl,r,e,h2,h3,_⟩:=aq;rw[h2] at hi;obtain rfl:=osj hi;rw[h3] at hb;cases hb
   |map kk vk m=>rw[ho] at aq;obtain⟨i',es,cl,h2,h3,_⟩:=aq;rw[h2] at hi;obtain rfl:=osj hi;rw[h3] at hb;cases hb
   |fm ik l=>rw[ho] at aq;obtain⟨i',es,cl,h2,h3,_⟩:=aq;rw[h2] at hi;obtain rfl:=osj hi;rw[h3] at hb;cases hb
   |stk l vals=>rw[ho] at ax;cases ax
   |lpf l q s=>rw[ho] at aq ax;obtain⟨h2,_,h3⟩:=aq;rw[h2] at hi;obtain rfl:=osj hi;have h3:=h3 ax;rw[hb] at h3;cases h3
   |iter kk vk m dn=>rw[ho] at aq;obtain⟨j',i',es,cl,wr,seen,h2,h3,_⟩:=aq;rw[h2] at hi;obtain rfl:=osj hi;rw[h3] at hb;cases hb
   |siter l pos=>rw[ho] at aq;obtain⟨j',s',h2,h3,_⟩:=aq;rw[h2] at hi;obtain rfl:=osj hi;rw[h3] at hb;cases hb
   |rmap kk vk m=>rw[ho] at ax;cases ax
   |deep ty q k xs nl hh =>rw[ho] at aq;obtain⟨is,_,d2,d3,_⟩:=DP.open aq;obtain⟨c,e,t,h⟩:=d2.cells i ((d3 i).1 hi);rw[h] at hb;cases hb
  |some b=>rw[hl.2 i b hb]
theorem Gam.heap {s:St}{env:Env}{U':Heap}(h:Gam P B F pl tb s env U) (hl:U.Le U'):Gam P B F pl tb s env U' :=
 ⟨h.bf,h.le.trans hl,h.env,λd=>(h.obj d).mono (Heap.Le.refl _) (λ_ _ h=>h) λax _i hi=>h.q1u hl ax hi,h.fresh,h.sep,h.free⟩
theorem E1 {env:Env}{σ0:Heap}{d nt:Nat}(eG:0<nt) (fU:Nat->Value) (bs:List OB) (hB:F.Le σ0)
  (aq:∀ j b,bs[j]?=some b->b.ret=true/\OR P hNil fU Yz U (fU j) b/\∀ i,Oid (fU j) i->σ0.n<=i)
  (iH:∀ j j' i,j<bs.length->j'<bs.length->j≠j'->Oid (fU j) i->Oid (fU j') i->False) :
  ∀ (r:List OB) (j:Nat) (pl:Nat->Value) (s:St),bs.drop j=r->Gam P B F pl tb s env U->(∀ k i,(Qr s.own k).live=true->Oid (pl k) i->i<σ0.n\/∃ j'<j,j'<bs.length/\Oid (fU j') i/\k=d+j'*nt)->(∀ j'<j,j'<bs.length->pl (d+j'*nt)=fU j') ->
   ∃ pl',Gam P B F pl' tb (s.makes d nt j r) env U/\(∀ j'<bs.length,pl' (d+j'*nt)=fU j')/\∀ q,(∀ j'<bs.length,q≠d+j'*nt)->pl' q=pl q/\(Qr (s.makes d nt j r).own q).live=(Qr s.own q).live
 |[],j,pl,s,hr,hG,_,hp=>⟨pl,hG,λj' di=>hp j' (by
   have:=congrArg List.length hr;simp at this;omega) di,λq _=>⟨rfl,rfl⟩⟩
 |b::r,j,pl,s,hr,hG,hinv,hp=>by
  have cS:j<bs.length:=by
   grind [Nat.lt_or_ge,List.drop_eq_nil_of_le]
  have bW:bs[j]?=some b:=by
   have:(bs.drop j)[0]?=some b:=by rw[hr];rfl
   simpa using this
  have kF:bs.drop (j+1)=r:=by
   have:(bs.drop j).drop 1=r:=by rw[hr];rfl
   simpa [List.drop_drop,xN] using this
  obtain⟨h1,h2,h3⟩:=aq j b bW;have aY:∀ j' ,j'≠j->d+j'*nt≠d+j*nt:=(by grind [Nat.eq_of_mul_eq_mul_right]);obtain⟨pl',k1,k2,k3⟩:∃ pl',Gam P B F pl' tb ((s.make (d+j*nt) b).makes d nt (j+1) r) env U/\(∀ j'<bs.length,pl' (d+j'*nt)=fU j')/\∀ q,(∀ j'<bs.length,q≠d+j'*nt)->pl' q=Yi pl (d+j*nt) (fU j) q/\(Qr ((s.make (d+j*nt) b).makes d nt (j+1) r).own q).live=(Qr (s.make (d+j*nt) b).own q).live:=by
   refine E1 eG fU bs hB aq iH r (j+1) (Yi pl (d+j*nt) (fU j)) _ kF (hG.make (d+j*nt) b (fU j) hG.le (λ_ _ _ _ _=>rfl) (h2.retd h1 λ_ _=>rfl) λi _ hi=>⟨F.wf _ (by have:=h3 i hi;have:=hB.1;omega),λk hk hl e=>?_⟩) (λk i hl hi=>?_) λj' di qL=>?_
   .grind
   .by_cases hk:k=d+j*nt
    .subst hk;simp only[Yi,zq] at hi
     grind
    .have cf:(Qr s.own k).live=true:=by
      simp only[St.make,St.kill,QB,Gs,z0 hk] at hl
      rwa [OB.q0s] at hl
     simp only[Yi,z0 hk] at hi
     grind
   .by_cases e:j'=j
    .subst e;simp[Yi]
    .simp only[Yi,z0 (aY j' e)];exact hp j' (by omega) qL
  refine⟨pl',k1,k2,λq hq=>?_⟩;obtain⟨e1,e2⟩:=k3 q hq;refine⟨by rw[e1];simp[Yi,hq j cS],?_⟩;show (Qr ((s.make (d+j*nt) b).makes d nt (j+1) r).own q).live=_;rw[e2];simp only[St.make,St.kill,QB,Gs,z0 (hq j cS),OB.q0s]
theorem Ret.gamF {s:St}{env:Env}{d nt:Nat}(eG:0<nt) (hG:Gam P B F pl tb s env U) {v:SV}{bs:List OB}{u:Value}{U':Heap}(hv:v.ret bs.length=true) (hb:bs.all OB.ret=true) (h:Ret P U v bs u U') :
  ∃ pl',Gam P B F pl' tb (s.makes d nt 0 bs) env U'/\SR P B pl' tb (v.ren d nt) u/\∀ q,(∀ j'<bs.length,q≠d+j'*nt)->(Qr (s.makes d nt 0 bs).own q).live=(Qr s.own q).live/\pl' q=pl q/\((Qr s.own q).live=true->∀ i,Oid (pl q) i->U'.get i=U.get i):=by
 obtain⟨⟨h1,_⟩,_,fU,h2,h3,h4⟩:=h
 obtain⟨pl',h5,h6,h7⟩:=E1 (tb:=tb) (d:=d) eG fU bs hG.le (by grind) h3 bs 0 pl s rfl (hG.heap h1)
  (λk i hl hi=>.inl ((hG.obj k).q1n hl hi)) (λj' di=>by omega)
 exact⟨pl',h5,SR.ren (tb:=Yz) (λj hj=>h6 j hj) _ _ hv (SR.mono (tb:=Yz) (tb':=Yz) (Q6c B) (λ_ _ h=>h) _ _ h4),λq hq=>⟨(h7 q hq).2,(h7 q hq).1,λhl i hi=>hG.q1u h1 hl hi⟩⟩
theorem Ret.gam {s:St}{env:Env}{d nt:Nat}(eG:0<nt) (hG:Gam P B F pl tb s env U) {v:SV}{bs:List OB}{u:Value}{U':Heap}(hv:v.ret bs.length=true) (hb:bs.all OB.ret=true) (h:Ret P U v bs u U') :
  ∃ pl',Gam P B F pl' tb (s.makes d nt 0 bs) env U'/\SR P B pl' tb (v.ren d nt) u:=by
 obtain⟨pl',h1,h2,_⟩:=h.gamF eG hG hv hb;exact⟨pl',h1,h2⟩
end
end Go.V
namespace Go.V
open Go
section
variable {P:Program}
structure GBase (B0 F0 D0 B F U:Heap):Prop where
 b:B0.Le B
 f:F0.Le F
 x:∀ i b,F0.get i=some b->B0.get i=none->B.get i=none
 d:Dead D0 U
theorem GBase.of {B F U:Heap}{U':Heap}(_hB:B.Le F) (h:Dead U U'):GBase B F U B F U':=⟨.refl _,.refl _,λ_ _ _ h=>h,h⟩
theorem GBase.trans {B0 F0 D0 B F U B' F' U':Heap}(h:GBase B0 F0 D0 B F U) (h':GBase B F U B' F' U'):GBase B0 F0 D0 B' F' U' :=
 ⟨h.b.trans h'.b,h.f.trans h'.f,λi b h1 h2=>h'.x i b (h.f.2 _ _ h1) (h.x i b h1 h2),h.d.trans h'.d⟩
def GRel (P:Program) (B0 F0 D0:Heap) (s:St) (env:Env) (U:Heap):Prop:=∃ B F pl tb,GBase B0 F0 D0 B F U/\Gam P B F pl tb s env U
theorem Hh {B0 F0 D0 B F:Heap}{U U':Heap}(hB:GBase B0 F0 D0 B F U) (h:Dead U U'):GBase B0 F0 D0 B F U':=⟨hB.b,hB.f,hB.x,hB.d.trans h⟩
theorem Gam.evs {B F:Heap}{pl:Nat->Value}{tb:Nat->Option Bool}{s:St}{env:Env}{U:Heap}(h:Gam P B F pl tb s env U) {gs:List Gd}(hg:Gds tb gs) (x:Operand):SR P B pl tb (gev gs s.env x) (Q5 env x):=Q8o hg h.env x
theorem Gds.nil {tb:Nat->Option Bool}:Gds tb []:=λ_ h=>by cases h
theorem Q6l {gs:List Gd}{c:Prop}(h:Z5u gs c) (hg:∀ g∈gs,g.c=g.want):c:=by
 induction gs with
 |nil=>exact h
 |cons g gs ih=>exact ih (h (hg g (by simp))) λg' de=>hg g' (by simp[de])
theorem Xa {gs:List Gd}{cs:List Prop}{q:Prop}(h:Q0g gs cs q):q/\((∀ g∈gs,g.c=g.want)->∀ c∈cs,c):=by
 induction cs with
 |nil=>exact⟨h,λ_ c hc=>by cases hc⟩
 |cons c cs ih =>obtain⟨h1,h2⟩:=h;obtain⟨h3,h4⟩:=ih h2;exact⟨h3,(by grind [Q6l])⟩
theorem Dead.push (U:Heap) (b:Blk):Dead U (U.push b):=⟨by simp,(by grind [Heap.q0j])⟩
theorem Dead.upd (U:Heap) (j:Nat) (b:Blk) (hj:(U.get j).isSome=true):Dead U (U.upd j b):=⟨by simp,(by grind [Heap.q0b])⟩
theorem Dead.kill (U:Heap) (j:Nat):Dead U (U.kill j):=⟨by simp,(by grind [Heap.q0h,Heap.q0c])⟩
theorem Q39 {e:El}{bytes m:Nat}{U U':Heap}{s u:Value}{xs:List Value}(h:UE e bytes U s m xs=some (u,U')):Dead U U':=by
 unfold UE at h;split at h
 .grind [Jh,Dead.refl,Dead.push]
 .split at h
  .rename_i hg;split at h
   .split at h
    .grind [Jh,Dead.refl]
    .split at h
     .grind [Jh,Dead.upd]
     .split at h
      .split at h
       .grind [Jh,Dead.push]
       .split at h
        .obtain⟨rfl,rfl⟩:=Jh h;exact(Dead.kill _ _).trans (Dead.push _ _)
        .cases h
      .cases h
   .cases h
  .cases h
 .grind [Jh,Dead.push]
 .cases h
theorem M1 {o:VOp}{ev:Operand->Value}{U U':Heap}{u:Value}(h:Qb o ev U=some (u,U')):Dead U U':=by
 by_cases hk:o.kind=2
 .cases o<;>first|(cases hk;done)|skip
  case alloc t z=>obtain⟨rfl,rfl⟩:=Jh h;exact Dead.push _ _
  case box t x =>
   simp only[Qb] at h
   grind [Jh,Dead.push]
  case buildSlice e z n ps =>
   simp only[Qb] at h
   grind [Jh,Dead.push]
  case makeSlice e b z l c =>
   simp only[Qb] at h
   grind [Jh,Dead.push]
  case store size a x =>
   simp only[Qb] at h
   grind [Jh,Dead.upd]
  case append e b x y =>
   simp only[Qb] at h
   grind [Q39]
  case slice size x lo hi mx =>
   simp only[Qb] at h;split at h
   .have sl:∀ {l hh:Nat}{m:Option Nat}{v:Value},VC size U v l hh m=some (u,U')->Dead U U':=λ{l hh m v} h=>by
     unfold VC at h
     grind [Jh,Dead.refl,Dead.push]
    grind
   .cases h
  case callF f a=>cases h
  case callV f a=>cases h
  case ext x =>
   cases x<;>first|(cases hk;done)|skip
   case makeMap=>obtain⟨rfl,rfl⟩:=Jh h;exact Dead.push _ _
   case rangeStr x =>
    simp only[Qb,JA] at h;split at h
    .obtain⟨rfl,rfl⟩:=Jh h;exact Dead.push _ _
    .cases h
   case nextStr x =>
    simp only[Qb,JA] at h;split at h
    .split at h
     .rename_i hm;split at h
      .split at h
       .obtain⟨rfl,rfl⟩:=Jh h;exact Dead.upd _ _ _ (by rw[hm];rfl)
       .cases h
      .obtain⟨rfl,rfl⟩:=Jh h;exact Dead.refl _
     .cases h
    .cases h
   case mapUpdate mk m k v =>
    simp only[Qb,JA] at h;split at h
    .split at h
     .rename_i hm;split at h
      .obtain⟨rfl,rfl⟩:=Jh h;refine Dead.upd _ _ _ ?_;unfold Heap.mapAt at hm
       grind
      .cases h
     .cases h
    .cases h
   case mapEntry mk z m k =>
    simp only[Qb,JA] at h;split at h
    .split at h
     .rename_i hm;split at h
      .split at h
       all_goals
        obtain⟨rfl,rfl⟩:=Jh h;refine Dead.upd _ _ _ ?_;unfold Heap.mapAt at hm;split at hm
        .rename_i hg;rw[hg];rfl
        .cases hm
      .cases h
     .cases h
    .cases h
   case entryStore m s v =>
    simp only[Qb,JA] at h;split at h
    .split at h
     .rename_i hm;split at h
      .split at h
       .obtain⟨rfl,rfl⟩:=Jh h;refine Dead.upd _ _ _ ?_;unfold Heap.mapAt at hm
        grind
       .cases h
      .cases h
     .cases h
    .cases h
   case delete mk m k =>
    simp only[Qb,JA] at h;split at h
    .split at h
     .rename_i hm;split at h
      .obtain⟨rfl,rfl⟩:=Jh h;refine Dead.upd _ _ _ ?_;unfold Heap.mapAt at hm
       grind
      .cases h
     .cases h
    .cases h
   case rangeMap x =>
    simp only[Qb,JA] at h
    grind [Jh,Dead.push]
   case nextMap x=>cases h
   case copy size a b =>
    simp only[Qb,JA] at h
    grind [Jh,Dead.refl,Dead.upd]
   case clear z x =>
    simp only[Qb,JA] at h
    grind [Jh,Dead.refl,Dead.upd]
   case strBytes e x =>
    simp only[Qb,JA] at h
    grind [Jh,Dead.push]
   case unsafeStr e x n =>
    simp only[Qb,JA] at h;split at h
    .grind [Jh,Dead.refl,Dead.upd]
    .cases h
 grind [Sf,Dead.refl]
theorem BJ {B F:Heap}{pl:Nat->Value}{tb:Nat->Option Bool}{s:St}{env:Env}{U:Heap}(hG:Gam P B F pl tb s env U) {x:Operand}{b:Bool}(h:Q1j s.env x=some b):Q5 env x=.bool b:=by
 unfold Q1j at h;split at h
 .rename_i j;split at h
  .rename_i gs v he;split at h
   .split at h
    .rename_i k y;split at h
     .obtain rfl:=osj h;have:=hG.env.getD j undef;rw[he] at this;simp only[SR] at this;have h2:=this.2.1 (λg hg=>by cases hg);have h3:[env.getD j undef]=[Value.bool _]:=h2;exact(zM h3).1
     .cases h
    .cases h
   .cases h
  .cases h
 .cases h
theorem NK {B F:Heap}{pl:Nat->Value}{tb:Nat->Option Bool}{s:St}{env:Env}{U:Heap}(hG:Gam P B F pl tb s env U) {g:Option (Nat×Bool)}{t:Bool}(h:Q8s s.env g=some t):Wz env g=some t:=by
 unfold Q8s at h;split at h
 .cases h
 .rename_i j want;split at h
  .rename_i b hb;obtain rfl:=osj h;have:=BJ hG hb;simp only[Q5] at this;simp only[Wz,this]
  .cases h
theorem Da {B F:Heap}{pl:Nat->Value}{tb:Nat->Option Bool}{s:St}{env:Env}{U:Heap}(hG:Gam P B F pl tb s env U) {gs:List Gd}(hg:Gds tb gs) {c a b:Operand}{v:SV}(h:Q78 gs s.env c a b=some v) :
  ∃ u,Qb (.pick c a b) (Q5 env) U=some (u,U)/\SR P B pl tb v u:=by
 unfold Q78 at h;split at h
 .rename_i t ht;have e:=BJ hG ht;obtain rfl:=osj h;cases t with
  |true=>exact⟨Q5 env a,by simp only[Qb,e];rfl,hG.evs hg a⟩
  |false=>exact⟨Q5 env b,by simp only[Qb,e];rfl,hG.evs hg b⟩
 have hc:=hG.evs hg c;unfold Z3g at h;split at h
 .rename_i n t heq;rw[heq] at hc;simp only[SR] at hc;obtain⟨e,dA⟩:=hc;have ht:∀ w,t=w->Gds tb (gs++[⟨n,w,t⟩]):=λw hw g de=>by
   rcases xh.1 de with h1|h1
   .exact hg g h1
   simp_all
  have hv:∀ u,(if t then Q5 env a else Q5 env b)=u->Qb (.pick c a b) (Q5 env) U=some (u,U):=λu hu=>by simp only[Qb,e];rw[<-hu]
  split at h
  .rename_i b';simp only[zg] at h;obtain⟨y,h1,rfl⟩:=h;refine⟨.bool (t||y),hv _ ?_,Wp _⟩;cases t with
   |true=>rfl
   |false=>simpa using Kx h1 (hG.evs (ht false rfl) _)
  .rename_i a' aJ;simp only[zg] at h;obtain⟨x,h1,rfl⟩:=h;refine⟨.bool (t&&x),hv _ ?_,Wp _⟩;cases t with
   |true=>simpa using Kx h1 (hG.evs (ht true rfl) _)
   |false=>rfl
  .split at h
   .rename_i k x k' y h1 h2;split at h
    .rename_i hk;subst hk;obtain rfl:=osj h;refine⟨.int k (if t then x else y),hv _ ?_,KF _ _⟩;cases t with
     |true=>have:=hG.evs (ht true rfl) a;rw[h1] at this;exact X2 rfl this
     |false=>have:=hG.evs (ht false rfl) b;rw[h2] at this;exact X2 rfl this
    .cases h
   .rename_i x y h1 h2;obtain rfl:=osj h;refine⟨.bool (if t then x else y),hv _ ?_,Wp _⟩;cases t with
    |true=>have:=hG.evs (ht true rfl) a;rw[h1] at this;exact Kx rfl this
    |false=>have:=hG.evs (ht false rfl) b;rw[h2] at this;exact Kx rfl this
   .cases h
 .cases h
theorem Gam.bid {B F:Heap}{pl:Nat->Value}{tb:Nat->Option Bool}{s:St}{env:Env}{U:Heap}(hG:Gam P B F pl tb s env U) {j:Nat}{v:SV}{c:Bool}(hv:∀ tb',(∀ n c,tb n=some c->tb' n=some c)->tb' s.nx=some c->SR P B pl tb' v (env.getD j undef)) :
  ∃ tb',(∀ n c,tb n=some c->tb' n=some c)/\tb' s.nx=some c/\Gam P B F pl tb' ⟨s.env.set j v,s.own,s.nx+1⟩ env U:=by
 refine⟨λn=>if n=s.nx then some c else tb n,?_,by simp,?_⟩
 .intro n c' hn;by_cases e:n=s.nx
  .rw[e,hG.free _ (z4 _)] at hn;cases hn
  .simp only[z0 e];exact hn
 .have hm:∀ n c',tb n=some c'->(λn=>if n=s.nx then some c else tb n) n=some c':=λn c' hn=>by
   by_cases e:n=s.nx
   .rw[e,hG.free _ (z4 _)] at hn;cases hn
   .simp only[z0 e];exact hn
  refine⟨hG.bf,hG.le,?_,λd=>(hG.obj d).mono (Heap.Le.refl _) hm λ_ _ _=>rfl,hG.fresh,hG.sep,λn hn=>?_⟩
  .have h1:=SRs.mono (Heap.Le.refl B) hm _ _ hG.env;by_cases hj:j<env.length
   .have:=h1.set j (hv _ hm (by simp));simp_all
   .have:s.env.set j v=s.env:=List.set_eq_of_length_le (by rw[hG.env.length];omega);rw[this];exact h1
  .have:n≠s.nx:=by simp only at hn;omega
   simp only[z0 this];exact hG.free n (by simp only at hn;omega)
theorem Z0i {gs:List Gd}(h:¬ ∀ g∈gs,g.c=g.want):∃ g∈gs,g.c≠g.want:=by simp_all
theorem KE {B F:Heap}{pl:Nat->Value}{tb:Nat->Option Bool}{s:St}{env:Env}{U:Heap}(hG:Gam P B F pl tb s env U) {j:Nat}{want:Bool}{gs:List Gd}{s':St}(h:Lo s j want=some (gs,s')) :
  ∃ tb',Gam P B F pl tb' s' env U/\(∀ g∈gs,tb' g.id=some g.c)/\∃ b,Wz env (some (j,want))=some b/\(b=true->∀ g∈gs,g.c=g.want)/\(b=false->∃ g∈gs,g.c≠g.want):=by
 have hj:=hG.env.getD j undef;unfold Lo at h;split at h
 .rename_i c heq;obtain⟨rfl,rfl⟩:=Jh h;rw[heq] at hj;have hb:env.getD j undef=.bool c:=Kx (s:=.val .bo c) rfl hj;obtain⟨tb',h1,h2,h3⟩:=hG.bid (j:=j) (v:=.bid s.nx c) (c:=c) λtb' _ h=>by simp only[SR];exact⟨hb,h⟩
  refine⟨tb',h3,(by simp_all),c==want,by simp only[Wz,hb],λe g hg=>?_,λe=>⟨_,zx.2 rfl,?_⟩⟩
  .simp_all
  .simpa using e
 .rename_i n c heq;obtain⟨rfl,rfl⟩:=Jh h;rw[heq] at hj;simp only[SR] at hj;refine⟨tb,hG,(by simp_all),c==want,by simp only[Wz,hj.1],λe g hg=>?_,λe=>⟨_,zx.2 rfl,?_⟩⟩
  .simp_all
  .simpa using e
 .rename_i pG c heq;obtain⟨rfl,rfl⟩:=Jh h;rw[heq] at hj;simp only[SR] at hj;obtain⟨⟨k1,k0⟩,k2,k3⟩:=hj;obtain⟨tb',h1,h2,h3⟩:=hG.bid (j:=j) (v:=.grd pG (.bid s.nx c)) (c:=c) λtb' hm h=>by
   simp only[SR];exact⟨⟨λg hg=>hm _ _ (k1 g hg),h⟩,λaj=>⟨Kx (s:=.val .bo c) (P:=P) (B:=B) (pl:=pl) (tb:=tb) rfl (by simpa only [SR] using k2 aj),h⟩,k3⟩
  refine⟨tb',h3,λg hg=>?_,?_⟩
  .grind
  .by_cases aj:∀ g∈pG,g.c=g.want
   .have hb:env.getD j undef=.bool c:=Kx (s:=.val .bo c) (P:=P) (B:=B) (pl:=pl) (tb:=tb) rfl (by simpa only [SR] using k2 aj);refine⟨c==want,by simp only[Wz,hb],λe g hg=>?_,(by simp_all)⟩
    grind
   .have hex:=Z0i aj;refine⟨false,by simp only[Wz,k3 hex];rfl,(λe=>by cases e),λ_=>?_⟩;simp_all
 .rename_i pG n c heq;obtain⟨rfl,rfl⟩:=Jh h;rw[heq] at hj;simp only[SR] at hj;obtain⟨⟨k1,k0⟩,k2,k3⟩:=hj;refine⟨tb,hG,λg hg=>?_,?_⟩
  .rcases xh.1 hg with h4|h4
   .exact k1 g h4
   .obtain rfl:=zx.1 h4;exact k0
  .by_cases aj:∀ g∈pG,g.c=g.want
   .obtain⟨hb,dA⟩:=k2 aj;refine⟨c==want,by simp only[Wz,hb],λe g hg=>?_,(by simp_all)⟩
    grind
   .have hex:=Z0i aj;refine⟨false,by simp only[Wz,k3 hex];rfl,(λe=>by cases e),λ_=>?_⟩;simp_all
 .cases h
theorem Gam.gcall {B F:Heap}{pl:Nat->Value}{tb:Nat->Option Bool}{s:St}{env:Env}{U:Heap}(hG:Gam P B F pl tb s env U) {gs:List Gd}(hg:Gds tb gs) (args:List Operand):SRs P U KR Yz (FO s.own (args.map (gev gs s.env))) (args.map (Q5 env)) :=
 Gk hG.leB hG.obj (SRs.map λx _=>hG.evs hg x)
theorem Gam.gfun {B F:Heap}{pl:Nat->Value}{tb:Nat->Option Bool}{s:St}{env:Env}{U:Heap}(hG:Gam P B F pl tb s env U) {gs:List Gd}(hg:Gds tb gs) (f:Operand):SR P U KR Yz ((FO s.own [gev gs s.env f]).getD 0 .any) (Q5 env f):=by have:=(Gk hG.leB hG.obj (show SRs P B pl tb [gev gs s.env f] [Q5 env f] by simp only[SRs];exact⟨_,[],rfl,hG.evs hg f,rfl⟩)).getD 0 poison;simpa using this
theorem Hf {env:Env}{f:Operand}{args:List Operand}{U:Heap}{K:Value->Heap->Prop}{g:FuncId}{a b:Array Value}(e:Q5 env f=.func (.func g) a b) (h:VCalled P g (a.toList++args.map (Q5 env)++b.toList) U K) :
  vop (Q4 P) (.callV f args) env U K:=by
 simp only[vop,e];exact h
def XOk (P:Program) (f:Nat) (x:XSp):Prop :=
 ∀ (B F:Heap) (pl:Nat->Value) (tb:Nat->Option Bool) (s:St) (env:Env) (U:Heap) (d:Nat) (args:List SV) (vs:List Value) (K:SV->St->Prop) (R:Value->Heap->Prop),
  Gam P B F pl tb s env U->SRs P B pl tb args vs->x d args s K ->
  (∀ v s' B' F' pl' tb' u U',K v s'->GBase B F U B' F' U'->Gam P B' F' pl' tb' s' env U'->SR P B' pl' tb' v u->R u U')->VCalled P f vs U R
def J2v (P:Program) (f:Nat) (x:XSp) (j:Nat):Prop :=
 ∀ (B F:Heap) (pl:Nat->Value) (tb:Nat->Option Bool) (s:St) (env:Env) (U:Heap) (d:Nat) (args:List SV) (vs:List Value) (K:SV->St->Prop) (R:Value->Heap->Prop) (t:Nat),
  Gam P B F pl tb s env U->SRs P B pl tb args vs->Z3m s.own j args=some t->x d args s K ->
  (∀ v s' u U',K v s'->Dead U U'->Gam P B F pl tb s' env U'->SR P B pl tb v u->FrL [t] s s' pl pl U U'->R u U')->VCalled P f vs U R
def J26 (P:Program) (f:Nat) (it:ISp):Prop:=Km P f /\
 ∀ (B:Heap) (args:List SV) (vs:List Value) (c:Prop) (m ar:Nat) (xs:Nat->List SV),SRs P B KR Yz args vs->it args=some (c,m,ar,xs)->c ->
  (∀ k,(xs k).length=ar/\SVs.pure (xs k)=true)/\∀ (i:Nat) (Y:Ij) (J:Nat->Heap->Prop) (E:Heap->Prop) (τ0:Heap),MS P i Y->(∀ k τ,J k τ->B.Le τ) ->
   (∀ k us τ,k<m->J k τ->SRs P B KR Yz (xs k) us->Y us τ λv τ'=>(v=.bool true/\J (k+1) τ')\/(v=.bool false/\E τ')) ->
   J 0 τ0->VCallsTo P f (.func (.yield i) #[] #[]::vs) τ0 λ_ τ=>J m τ\/E τ
def Z1h (P:Program) (o:Nat) (y:YSp):Prop :=
 ∀ (B F:Heap) (pl:Nat->Value) (tb:Nat->Option Bool) (s:St) (env:Env) (U:Heap) (args:List SV) (us:List Value) (K:SV->St->Prop) (R:Value->Heap->Prop) (i:Nat),
  Gam P B F pl tb s env U->SRs P B pl tb args us->y args s K->pl o=.pointer (some ⟨i,0,none⟩) ->
  (∀ v s' B' F' pl' tb' u U',K v s'->GBase B F U B' F' U'->Gam P B' F' pl' tb' s' env U'->SR P B' pl' tb' v u->R u U')->Ar P i us U R
def Z5x (P:Program) (f:Nat) (x:Z5z):Prop:=Km P f /\
 ∀ (B F:Heap) (pl:Nat->Value) (tb:Nat->Option Bool) (s:St) (env:Env) (U:Heap) (o:Nat) (args:List SV) (vs:List Value) (y:YSp) (K:St->Prop) (R:Heap->Prop),
  Gam P B F pl tb s env U->SRs P B pl tb args vs->Z1h P o y->x o args (o,y) s K ->
  (∀ s' B' F' pl' tb' ah U',K s'->GBase B F U B' F' U'->Gam P B' F' pl' tb' s' ah U'->R U')->VCallsTo P f vs U λ_=>R
structure COk (P:Program) (C:Cx):Prop where
 cs:CsOk P C.cs
 xs:∀ f x,Zm C.xs f=some x->XOk P f x
 it:∀ f x,Zm C.it f=some x->J26 P f x
 yl:∀ o y,Zm C.yl o=some y->Z1h P o y
 iy:∀ f x,Zm C.iy f=some x->Z5x P f x
 xf:∀ f j,Zm C.xf f=some j->∀ x,Zm C.xs f=some x->J2v P f x j
theorem CK {C:Cx}(aC:CsOk P C.cs) {B F:Heap}{pl:Nat->Value}{tb:Nat->Option Bool}{s:St}{env:Env}{U:Heap}(hG:Gam P B F pl tb s env U) {gs:List Gd}(hg:Gds tb gs) {raw:Bool}{o:VOp}{cs:List Prop}{v:SV}
  (h:gqc C raw o (gev gs s.env) s.own=some (cs,v)) (hc:∀ c∈cs,c) {K:Value->Heap->Prop}(hK:∀ u,SR P B pl tb v u->K u U):vop (Q4 P) o env U K:=by
 have flat:∀ {c:Prop}{v':SV},(bif v'.ret 0 then some ([c],v') else none)=some (cs,v)->v'.ret 0=true/\c/\v'=v:=λ{c v'} h=>by
  cases hv:v'.ret 0 with
  |false=>rw[hv] at h;cases h
  |true =>rw[hv] at h;obtain⟨rfl,rfl⟩:=Jh h;exact⟨rfl,hc _ (by simp),rfl⟩
 have quiet:∀ o,gq C.kt raw o (gev gs s.env) s.own=some (cs,v)->(∀ K,Jk (Qb o (Q5 env) U) (λp=>K p.1 p.2)->vop (Q4 P) o env U K)->vop (Q4 P) o env U K:=λo h hv=>by obtain⟨u,h1,h2⟩:=O4 (hG.evs hg) (λ_=>rfl) hG.leB hG.obj h hc;exact hv K (by rw[h1];exact hK u h2)
 cases o
 case callF f args =>
  simp only[gqc] at h;split at h
  .rename_i c v' heq;obtain⟨h1,h2,rfl⟩:=flat h;obtain⟨g,a,b,h3,h4,_⟩:=W8 aC (show SR P U KR Yz (.fn f [] []) (.func (.func f) #[] #[]) by simp only[SR,SRs];exact⟨[],[],rfl,rfl,rfl⟩) (hG.gcall hg args) heq h1 rfl h2;obtain⟨rfl,rfl,rfl⟩:=(by simpa using h3:f=g/\#[]=a/\#[]=b);have:=h4.mono (R':=K) λu U' hr=>by
    obtain⟨rfl,hu⟩:=hr.flat h1;exact hK u (hu.retd (λj hj=>by omega) _ _ h1)
   show VCalled P f (args.map (Q5 env)) U K;simpa using this
  .cases h
 case callV f args =>
  simp only[gqc] at h;split at h
  .rename_i c v' heq;obtain⟨h1,h2,rfl⟩:=flat h;obtain⟨g,a,b,h3,h4,_⟩:=W8 aC (hG.gfun hg f) (hG.gcall hg args) heq h1 rfl h2;exact Hf h3 (h4.mono λu U' hr=>by
    obtain⟨rfl,hu⟩:=hr.flat h1;exact hK u (hu.retd (λj hj=>by omega) _ _ h1))
  .cases h
 case ext x =>
  cases x
  case nextMap x=>cases h
  all_goals exact quiet _ h λ_ h=>h
 all_goals exact quiet _ h λ_ h=>h
end
end Go.V
namespace Go.V
open Go
section
variable {P:Program}
mutual
theorem Q5s:∀ (v:SV) {K:SV->Prop},nmV v K->K v
 |.val k x,K,h=>by simp only[nmV] at h;exact h x rfl
 |.agg l,K,h=>by simp only[nmV] at h;exact A7 l h
 |.tup l,K,h=>by simp only[nmV] at h;exact A7 l h
 |.any,_,h|.dd _ _,_,h|.bid _ _,_,h|.grd _ _,_,h|.nilS,_,h|.nilP,_,h|.nilM,_,h|.nilF,_,h|.lst _,_,h|.sub _ _ _ _,_,h|.elp _ _ _ _,_,h|.rop _ _ _ _,_,h|.box _ _,_,h|.cp _ _,_,h|.map _,_,h|.fn _ _ _,_,h|.pf _ _ _ _,_,h=>by simp only[nmV] at h;exact h
theorem A7:∀ (l:List SV) {K:List SV->Prop},Z5y l K->K l
 |[],K,h=>by simp only[Z5y] at h;exact h
 |v::r,K,h=>by simp only[Z5y] at h;exact A7 r (Q5s v h)
end
theorem X7 {C:Cx}{o:VOp}{ev:Operand->SV}{v:SV}{K:SV->Prop}(h:gnm C o ev v K):K v:=by
 unfold gnm at h
 grind [Q5s]
theorem Ck {B:Heap}{pl:Nat->Value}{tb:Nat->Option Bool}{v:SV}{u:Value}(h:SR P B pl tb v u):SR P B pl tb (Ry v) u/\gtb tb (Ry v):=by
 cases v with
 |bid n c=>simp only[SR] at h;obtain⟨rfl,_⟩:=h;exact⟨Wp _,trivial⟩
 |_=>exact⟨h,trivial⟩
theorem Cr {tb:Nat->Option Bool}(v:SV):gtb tb (Ry v):=by cases v<;>trivial
theorem Lz {C:Cx}(aC:COk P C) {B F:Heap}{pl:Nat->Value}{tb:Nat->Option Bool}{s:St}{env:Env}{U:Heap}(hG:Gam P B F pl tb s env U) {d:Nat}{f:SV}{args:List SV}{fV:Value}{vs:List Value}(hf:SR P B pl tb f fV) (ha:SRs P B pl tb args vs) {K:SV->St->Prop}(h:Q5c C d f args s K) {R:Value->Heap->Prop}
  (hK:∀ v s' B' F' pl' tb' u U',K v s'->GBase B F U B' F' U'->Gam P B' F' pl' tb' s' env U'->SR P B' pl' tb' v u->R u U'):∃ g a b,fV=.func (.func g) a b/\VCalled P g (a.toList++vs++b.toList) U R:=by
 unfold Q5c at h;have qB:SR P U KR Yz ((FO s.own [f]).getD 0 .any) fV:=by have:=(Gk hG.leB hG.obj (show SRs P B pl tb [f] [fV] by simp only[SRs];exact⟨_,[],rfl,hf,rfl⟩)).getD 0 poison;simpa using this
 have jE:=Gk hG.leB hG.obj ha;split at h
 .rename_i c v bs heq;cases hb:(v.ret bs.length&&(bs.all OB.ret&&Nat.blt 0 C.nt)) with
  |false=>rw[hb] at h;exact h.elim
  |true =>rw[hb] at h;obtain⟨h1,h2⟩:=h;simp only[z1] at hb;obtain⟨g,a,b,e,aF,_⟩:=W8 aC.cs qB jE heq hb.1 hb.2.1 h1;refine⟨g,a,b,e,aF.mono λu U' hr=>?_⟩;obtain⟨pl',h3,h4⟩:=hr.gam (nt:=C.nt) (d:=d) (by simpa [zu] using hb.2.2) hG hb.1 hb.2.1;exact hK _ _ B F pl' tb u U' h2 (.of hG.bf hr.1.2) h3 h4
 .exact h.elim
theorem Lw {C:Cx}(aC:COk P C) {B F:Heap}{pl:Nat->Value}{tb:Nat->Option Bool}{s:St}{env:Env}{U:Heap}(hG:Gam P B F pl tb s env U) {d:Nat}{f:SV}{args:List SV}{fV:Value}{vs:List Value}(hf:SR P B pl tb f fV) (ha:SRs P B pl tb args vs) {K:SV->St->Prop}(h:IV C d f args s K) (uL:∀ o,f≠.dd o .yv) {R:Value->Heap->Prop}
  (hK:∀ v s' B' F' pl' tb' u U',K v s'->GBase B F U B' F' U'->Gam P B' F' pl' tb' s' env U'->SR P B' pl' tb' v u->R u U'):∃ g a b,fV=.func (.func g) a b/\VCalled P g (a.toList++vs++b.toList) U R:=by
 unfold IV at h;split at h
 .rename_i g a b;split at h
  .rename_i x hx;have wb:=hf;simp only[SR] at hf;obtain⟨a',b',rfl,h1,h2⟩:=hf;refine⟨g,a'.toArray,b'.toArray,rfl,?_⟩;have:=aC.xs g x hx B F pl tb s env U d _ _ K R hG (h1.append (ha.append h2)) h hK;simpa using this
  .exact Lz aC hG hf ha h hK
 .exact(uL _ rfl).elim
 .exact Lz aC hG hf ha h hK
theorem Q77 {C:Cx}{B F:Heap}{pl:Nat->Value}{tb:Nat->Option Bool}{s:St}{env:Env}{U:Heap}(hG:Gam P B F pl tb s env U) {d:Nat}{o:VOp}{K:SV->St->Prop}(h:gnd C d o (gev [] s.env) s K) {R:Value->Heap->Prop}
  (hK:∀ v s' B' F' pl' tb' u U',K v s'->GBase B F U B' F' U'->Gam P B' F' pl' tb' s' env U'->SR P B' pl' tb' v u->R u U'):vop (Q4 P) o env U R:=by
 obtain⟨u,U',pl',v,s',h1,h2,h3,h4⟩:=CN (λx=>hG.evs (Gds.nil (tb:=tb)) x) hG h;have fin:Jk (Qb o (Q5 env) U) (λp=>R p.1 p.2):=by rw[h1];exact hK v s' B F pl' tb u U' h2 (.of hG.bf (M1 h1)) h3.1 h4
 cases o
 case buildSlice e z n ps=>exact fin
 case makeSlice e b z l c=>exact fin
 case append e b x y=>exact fin
 case store size a x=>exact fin
 all_goals exact h.elim
section
variable {B F:Heap}{pl:Nat->Value}{tb:Nat->Option Bool}{s:St}{env:Env}{U:Heap}
def Heap.ins (B U:Heap) (i:Nat) (h:B.n<=U.n):Heap where
 get j:=if j=i then U.get i else B.get j
 n:=U.n
 wf j hj:=by
  by_cases e:j=i
  .simp only[z2 e];subst e;exact U.wf j hj
  .simp only[z0 e];exact B.wf j (zO h hj)
theorem Heap.q0k (B U:Heap) (i:Nat) (h:B.n<=U.n):(B.ins U i h).get i=U.get i:=by simp[Heap.ins]
theorem Heap.q1b (B U:Heap) {i j:Nat}(h:B.n<=U.n) (e:j≠i):(B.ins U i h).get j=B.get j:=by simp[Heap.ins,e]
theorem Heap.Le.ins {B U:Heap}(h:B.Le U) (i:Nat):B.Le (B.ins U i h.1):=⟨h.1,λj b hb=>by
 by_cases e:j=i
 .subst e;rw[Heap.q0k];exact h.2 _ _ hb
 .rw[Heap.q1b _ _ _ e];exact hb⟩
theorem Heap.Le.q1v {B U:Heap}(h:B.Le U) (i:Nat):(B.ins U i h.1).Le U:=⟨z4 _,λj b hb=>by
 by_cases e:j=i
 .grind [Heap.q0k]
 .rw[Heap.q1b _ _ _ e] at hb;exact h.2 _ _ hb⟩
theorem Heap.q1w {B F U:Heap}(h:B.Le F) (i:Nat) (hB:B.n<=U.n) (hF:F.n<=U.n):(B.ins U i hB).Le (F.ins U i hF):=⟨z4 _,λj b hb=>by
 by_cases e:j=i
 .grind [Heap.q0k]
 .rw[Heap.q1b _ _ _ e] at hb |-;exact h.2 _ _ hb⟩
theorem Gam.freeze (hG:Gam P B F pl tb s env U) {o i:Nat}(hl:(Qr s.own o).live=true) (hi:Oid (pl o) i) :
  GBase B F U (B.ins U i hG.leB.1) (F.ins U i hG.le.1) U/\Gam P (B.ins U i hG.leB.1) (F.ins U i hG.le.1) pl tb ⟨s.env,oset s.own o .dead,s.nx⟩ env U:=by
 have nU:=hG.fresh o i hl hi;have lv:∀ d,(Qr (oset s.own o .dead) d).live=true->d≠o/\(Qr s.own d).live=true:=λd h=>by
  rw[QB] at h;by_cases e:d=o
  .rw[z2 e] at h;cases h
  .rw[z0 e] at h;exact⟨e,h⟩
 refine⟨⟨hG.leB.ins i,hG.le.ins i,λj b h1 h2=>?_,.refl _⟩,⟨Heap.q1w hG.bf i _ _,hG.le.q1v i,SRs.mono (hG.leB.ins i) (λ_ _ h=>h) _ _ hG.env,λd=>?_,λd j h1 h2=>?_,λd d' j aJ h1 h2 h3 h4=>hG.sep d d' j aJ (lv d h1).2 (lv d' h2).2 h3 h4,hG.free⟩⟩
 .grind [Heap.q1b]
 .simp only[QB];by_cases e:d=o
  .rw[z2 e];trivial
  .rw[z0 e];exact(hG.obj d).mono (hG.leB.ins i) (λ_ _ h=>h) λ_ _ _=>rfl
 .obtain⟨aJ,b9⟩:=lv d h1;have e:j≠i:=by rintro rfl;exact hG.sep d o j aJ b9 hl h2 hi
  rw[Heap.q1b _ _ _ e];exact hG.fresh d j b9 h2
theorem Gam.own {s':St}(hG:Gam P B F pl tb s env U) (h1:s'.env=s.env) (h2:∀ d,Qr s'.own d=Qr s.own d) (h3:s'.nx=s.nx):Gam P B F pl tb s' env U :=
 ⟨hG.bf,hG.le,by rw[h1];exact hG.env,λd=>by rw[h2];exact hG.obj d,λd i=>by rw[h2];exact hG.fresh d i,λd d' i aJ=>by rw[h2,h2];exact hG.sep d d' i aJ,λn hn=>hG.free n (by rw[<-h3];exact hn)⟩
theorem Gam.drop (hG:Gam P B F pl tb s env U) (o:Nat):Gam P B F pl tb ⟨s.env,oset s.own o .dead,s.nx⟩ env U:=by
 have lv:∀ d,(Qr (oset s.own o .dead) d).live=true->d≠o/\(Qr s.own d).live=true:=λd h=>by
  rw[QB] at h;by_cases e:d=o
  .rw[z2 e] at h;cases h
  .rw[z0 e] at h;exact⟨e,h⟩
 refine⟨hG.bf,hG.le,hG.env,λd=>?_,λd j h1 h2=>hG.fresh d j (lv d h1).2 h2,λd d' j aJ h1 h2 h3 h4=>hG.sep d d' j aJ (lv d h1).2 (lv d' h2).2 h3 h4,hG.free⟩;simp only[QB];by_cases e:d=o
 .rw[z2 e];trivial
 .rw[z0 e];exact hG.obj d
theorem Q2j (s:St) (d:Nat) (b:OB) (q:Nat):Qr (s.make d .dead).own q=Qr (oset (s.make d b).own d .dead) q:=by simp only[St.make,QB];simp_all
theorem Q71 {C:Cx}(hG:Gam P B F pl tb s env U) {d:Nat}{x:Operand}{K:SV->St->Prop}(h:gn C d (.ext (.rangeMap x)) (gev [] s.env) s K) {R:Value->Heap->Prop}
  (hK:∀ v s' B' F' pl' tb' u U',K v s'->GBase B F U B' F' U'->Gam P B' F' pl' tb' s' env U'->SR P B' pl' tb' v u->R u U'):vop (Q4 P) (.ext (.rangeMap x)) env U R:=by
 have ha:=hG.evs (Gds.nil (tb:=tb)) x;simp only[gn] at h;split at h
 .rename_i o h1;rw[h1] at ha;simp only[SR] at ha;split at h
  .rename_i kk vk m ho;split at h
   .have aq:=hG.obj o;rw[ho] at aq;obtain⟨i,es,clock,h2,h3,h4⟩:=aq;obtain⟨g1,g2⟩:=hG.freeze (o:=o) (i:=i) (by rw[ho];rfl) (by rw[h2];rfl)
    have fq:=g2.push d (.iter kk vk m []) (.pointer (some ⟨U.n,0,none⟩)) (.obj (.iter i clock [] clock) true) rfl
     ⟨U.n,i,es,clock,true,[],rfl,Heap.q0a _ _,by rw[Heap.q0k];exact h3,h4.mono g1.b,rfl,λt r h=>by simp at h⟩
    show Jk (Qb (.ext (.rangeMap x)) (Q5 env) U) _;have hv:Qb (.ext (.rangeMap x)) (Q5 env) U=some (.pointer (some ⟨U.n,0,none⟩),U.push (.obj (.iter i clock [] clock) true)):=by simp only[Qb,JA,ha.1,h2,Heap.mapAt,h3]
    rw[hv];exact hK _ _ _ _ _ _ _ _ h (g1.trans (.of g2.bf (Dead.push _ _))) fq (by simp only[SR,YG];exact⟨_,rfl,rfl⟩)
   .exact h.elim
  .rename_i kk vk m ho;split at h
   .have aq:=hG.obj o;rw[ho] at aq;obtain⟨i,es,clock,wr,h2,h3,h4⟩:=aq
    have fq:=hG.push d (.iter kk vk m []) (.pointer (some ⟨U.n,0,none⟩)) (.obj (.iter i clock [] clock) true) rfl
     ⟨U.n,i,es,clock,wr,[],rfl,Heap.q0a _ _,h3,h4,rfl,λt r h=>by simp at h⟩
    show Jk (Qb (.ext (.rangeMap x)) (Q5 env) U) _;have hv:Qb (.ext (.rangeMap x)) (Q5 env) U=some (.pointer (some ⟨U.n,0,none⟩),U.push (.obj (.iter i clock [] clock) true)):=by have gk:=hG.leB.2 _ _ h3;simp only[Qb,JA,ha.1,h2,Heap.mapAt,gk]
    rw[hv];exact hK _ _ _ _ _ _ _ _ h (.of hG.bf (Dead.push _ _)) fq (by simp only[SR,YG];exact⟨_,rfl,rfl⟩)
   .exact h.elim
  .exact h.elim
 .exact h.elim
theorem Z0b {C:Cx}(hG:Gam P B F pl tb s env U) {d:Nat}{x:Operand}{K:SV->St->Prop}(h:gn C d (.ext (.nextMap x)) (gev [] s.env) s K) {R:Value->Heap->Prop}
  (hK:∀ v s' B' F' pl' tb' u U',K v s'->GBase B F U B' F' U'->Gam P B' F' pl' tb' s' env U'->SR P B' pl' tb' v u->R u U'):vop (Q4 P) (.ext (.nextMap x)) env U R:=by
 have ha:=hG.evs (Gds.nil (tb:=tb)) x;simp only[gn] at h;split at h
 .rename_i o f h1;rw[h1] at ha;simp only[SR] at ha;split at h
  .rename_i kk vk m dn ho;split at h
   .rename_i hf;obtain⟨rfl,nV⟩:=hf;have ax:(Qr s.own o).live=true:=by rw[ho];rfl
    have aq:=hG.obj o;rw[ho] at aq;obtain⟨j,i,es,clock,wr,seen,h2,h3,h4,h5,h6⟩:=aq;obtain⟨b,e2,e3⟩:=ha;rw[h2] at e2;obtain rfl:j=b:=by simpa using e2
    have aI:U.mapAt i=some (es,clock,wr):=by simp[Heap.mapAt,hG.leB.2 _ _ h4]
    have hlen:=h5.1.length;obtain⟨hA,hB⟩:=h;have bL:F.get j=none:=hG.fresh o j ax (by rw[h2];rfl);have dG:∀ q i',q≠o->(Qr s.own q).live=true->Oid (pl q) i'->i'≠j:=λq i' hq hl hi e=>by subst e;exact hG.sep q o i' hq hl ax hi (by rw[h2];rfl)
    show Q3p (Q5 env x) U R;unfold Q3p;rw[e3];simp only[h3,aI];refine⟨?_,?_,λaj=>?_,λe he nH=>?_⟩
    .cases es with
     |nil=>simp
     |cons e es=>simp[h5.2.2 e (by simp)]
    .rw[z8];intro e he;obtain⟨r,hr⟩:=zU.1 he;obtain⟨_,k1,_⟩:=MR.at h5.1 hr;exact Q29 nV k1
    .refine hK _ _ _ _ _ _ _ _ (hA λr hr=>?_) (.of hG.bf (Dead.refl U)) hG (by simp only[SR,SRs];exact⟨[.bool false],rfl,_,[],rfl,rfl,rfl⟩);have fz:r<es.length:=by omega
     have he:=z3 fz;have:=z8.1 aj es[r] (zd fz);have ao:=h5.2.2 _ (zd fz);rw[zl,z6] at this;rcases this with this|this
     .rw[List.contains_iff_mem] at this;obtain⟨t,ht⟩:=zU.1 this;have uM:t<seen.length:=(zi.1 ht).1;have sB:t<dn.length:=by have:=h6.1;omega
      obtain⟨e',k1,k2⟩:=h6.2 t dn[t] (z3 sB);rw[ht] at k2;have:=Q1d h5.2 he k1 (osj k2);rw[this];exact zd sB
     .omega
    .obtain⟨r,hr⟩:=zU.1 he;have fz:r<es.length:=(zi.1 hr).1;have uN:r∉dn:=λhm=>by
      obtain⟨t,ht⟩:=zU.1 hm;obtain⟨e',k1,k2⟩:=h6.2 t r ht
      grind
     refine hK _ _ _ _ _ _ _ _ (hB r (by omega) uN) (.of hG.bf (Dead.upd _ _ _ (by rw[h3];rfl))) (hG.write o _ (hG.le.upd bL _) ax (by grind [Heap.q0b]) ⟨j,i,es,clock,wr,seen++[e.2.2],h2,Heap.q0d _ _ (U.lt h3),h4,h5,?_,λt r' ht=>?_⟩) (by simp only[SR,SRs];exact⟨[.bool true,e.1,e.2.1],rfl,_,_,rfl,rfl,_,_,rfl,trivial,_,_,rfl,trivial,rfl⟩)
     .simp[h6.1]
     .rw[List.getElem?_append] at ht;split at ht
      .rename_i ao;obtain⟨e',k1,k2⟩:=h6.2 t r' ht
       grind
      .rename_i cA;have h0:t-dn.length=0:=by
        grind
       rw[h0] at ht;obtain rfl:r=r':=by simpa using ht
       refine⟨e,hr,?_⟩;rw[xj (by have:=h6.1;omega),show t-seen.length=0 by have:=h6.1;omega];rfl
   .exact h.elim
  .exact h.elim
 .exact h.elim
theorem Q0r {d:Nat}(lg:B.Le F) {ty:Nat}{k:Kind}{xs:List k.T}{nl:Bool}(hk:k.flat=true) {pl':Nat->Value}{u:Value}{U':Heap}(h1:Gam P B F pl' tb (s.make d (.lst ty k xs nl)) env U') (h2:SR P B pl' tb (.lst d) u) (hd:Dead U U') :
  ∃ B' F',GBase B F U B' F' U'/\Gam P B' F' pl' tb (s.make d .dead) env U'/\SR P B' pl' tb (.val (.list k) xs) u:=by
 have aq:=h1.obj d;have bI:Qr (s.make d (.lst ty k xs nl)).own d=.lst ty k xs nl:=by simp only[St.make,QB,zq]
 rw[bI] at aq;simp only[SR] at h2;obtain⟨rfl,_⟩:=h2;rcases aq with⟨_,hx,hp⟩|⟨_,i,cap,c,t,hp,cu,hg,hlen,cD⟩
 .refine⟨B,F,.of lg hd,(h1.drop d).own rfl (Q2j s d _) rfl,?_⟩;simp only[SR];exact⟨_,rfl,.inl ⟨hx,hp⟩⟩
 .obtain⟨g1,g2⟩:=h1.freeze (o:=d) (i:=i) (by rw[bI];rfl) (by rw[hp];rfl);refine⟨_,_,(GBase.of lg hd).trans g1,g2.own rfl (Q2j s d _) rfl,?_⟩;simp only[SR];refine⟨_,rfl,.inr ⟨i,0,cap,c,⟨k.size,ty⟩,true,t,hp,cu,by rw[Heap.q0k];exact hg,rfl,by have:=zk k.size cu;omega,?_⟩⟩;rw[xA];exact cD.mono λ_ _ e=>KC.flat hk e
theorem Q5a {d nt:Nat}(eG:0<nt) (hG:Gam P B F pl tb s env U) {ty:Nat}{k:Kind}{xs:List k.T}{nl:Bool}(hk:k.flat=true) {u:Value}{U':Heap}(h:Ret P U (.lst 0) [.lst ty k xs nl] u U') :
  ∃ B' F' pl',GBase B F U B' F' U'/\Gam P B' F' pl' tb (s.make d .dead) env U'/\SR P B' pl' tb (.val (.list k) xs) u:=by
 obtain⟨pl',h1,h2⟩:=h.gam (d:=d) eG hG (by rfl) (by simp only[zL,List.all_nil,xH,OB.ret];exact hk);simp only[St.makes,Nat.zero_mul,zR,SV.ren] at h1 h2;obtain⟨B',F',k⟩:=Q0r hG.bf hk h1 h2 h.1.2;exact⟨B',F',pl',k⟩
theorem P2 {nt:Nat}{r:Option (Prop×SV×List OB)}{c:Prop}{v:SV}(h:Q5t nt r=some (c,v)):∃ ty k xs nl,r=some (c,.lst 0,[.lst ty k xs nl])/\v=.val (.list k) xs/\k.flat=true/\0<nt:=by
 unfold Q5t at h;split at h
 .split at h
  .rename_i k xs _;cases hc:(k.flat&&Nat.blt 0 nt) with
   |false=>rw[hc] at h;cases h
   |true =>rw[hc] at h;obtain⟨rfl,rfl⟩:=Jh h;simp only[z1,zu] at hc;exact⟨_,_,_,_,rfl,rfl,hc.1,hc.2⟩
  .cases h
 .cases h
theorem Q3x {C:Cx}(aC:CsOk P C.cs) (hG:Gam P B F pl tb s env U) {gs:List Gd}(hg:Gds tb gs) {o:VOp}{c:Prop}{v:SV}{d:Nat}(h:OE C o (gev gs s.env) s.own=some (c,v)) (hc:c) {K:Value->Heap->Prop}
  (hK:∀ u U' B' F' pl',GBase B F U B' F' U'->Gam P B' F' pl' tb (s.make d .dead) env U'->SR P B' pl' tb v u->K u U'):vop (Q4 P) o env U K:=by
 cases o<;>first|(cases h;done)|skip
 case callF f args =>
  simp only[OE] at h;obtain⟨ty,k,xs,nl,heq,rfl,hk,eG⟩:=P2 h;obtain⟨g,a,b,h3,h4,_⟩:=W8 aC (show SR P U KR Yz (.fn f [] []) (.func (.func f) #[] #[]) by simp only[SR,SRs];exact⟨[],[],rfl,rfl,rfl⟩) (hG.gcall hg args) heq (by rfl) (by simp only[zL,List.all_nil,xH,OB.ret];exact hk) hc;obtain⟨rfl,rfl,rfl⟩:=(by simpa using h3:f=g/\#[]=a/\#[]=b);have:=h4.mono (R':=K) λu U' hr=>by obtain⟨B',F',pl',k1,k2,k3⟩:=Q5a (d:=d) eG hG hk hr;exact hK u U' B' F' pl' k1 k2 k3
  show VCalled P f (args.map (Q5 env)) U K;simpa using this
 case callV f args =>
  simp only[OE] at h;obtain⟨ty,k,xs,nl,heq,rfl,hk,eG⟩:=P2 h;obtain⟨g,a,b,h3,h4,_⟩:=W8 aC (hG.gfun hg f) (hG.gcall hg args) heq (by rfl) (by simp only[zL,List.all_nil,xH,OB.ret];exact hk) hc;exact Hf h3 (h4.mono λu U' hr=>by
   obtain⟨B',F',pl',k1,k2,k3⟩:=Q5a (d:=d) eG hG hk hr;exact hK u U' B' F' pl' k1 k2 k3)
 case buildSlice e z n ps =>
  simp only[OE] at h;split at h
  .rename_i k uO;split at h
   .rename_i eY;split at h
    .rename_i xs hx;obtain⟨rfl,rfl⟩:=Jh h;have uP:gn C d (.buildSlice e z n ps) (gev gs s.env) s (λv s'=>v=.lst d/\s'=s.make d (.lst e.ty k xs false)):=by
      simp only[gn,uO,hx];simp_all
     obtain⟨u,U',pl',v,s',h1,⟨rfl,rfl⟩,⟨h3,_⟩,h4⟩:=BH (λx=>hG.evs hg x) hG uP;obtain⟨B',F',k1,k2,k3⟩:=Q0r hG.bf eY.2.2 h3 h4 (M1 h1);show Jk (Qb (.buildSlice e z n ps) (Q5 env) U) _;rw[h1];exact hK u U' B' F' pl' k1 k2 k3
    .cases h
   .cases h
  .cases h
theorem Q3a {C:Cx}{o:VOp}{ev:Operand->SV}{own:Own}{c:Prop}{v:SV}(h:OE C o ev own=some (c,v)):∃ (k:Kind) (xs:List k.T),v=.val (.list k) xs:=by
 cases o<;>first|(cases h;done)|skip
 case callF=>simp only[OE] at h;grind [P2]
 case callV=>simp only[OE] at h;grind [P2]
 case buildSlice e z n ps =>
  simp only[OE] at h
  grind
theorem Z2a {C:Cx}(aC:COk P C) {B F:Heap}{pl:Nat->Value}{tb:Nat->Option Bool}{s:St}{env:Env}{U:Heap}(hG:Gam P B F pl tb s env U) {d:Nat}{o:VOp}{K:SV->St->Prop}(h:gn C d o (gev [] s.env) s K) {R:Value->Heap->Prop}
  (hK:∀ v s' B' F' pl' tb' u U',K v s'->GBase B F U B' F' U'->Gam P B' F' pl' tb' s' env U'->SR P B' pl' tb' v u->R u U'):vop (Q4 P) o env U R:=by
 have al:=hG.evs (Gds.nil (tb:=tb));have act:∀ o {T:Nat},NOk P B F tb o (Q5 env) env U K T s pl->(∀ R',Jk (Qb o (Q5 env) U) (λp=>R' p.1 p.2)->vop (Q4 P) o env U R')->vop (Q4 P) o env U R:=λo _ ⟨u,U',pl',v,s',h1,h2,h3,h4⟩ hv=>hv R (by rw[h1];exact hK v s' B F pl' tb u U' h2 (.of hG.bf (M1 h1)) h3.1 h4);have aD:∀ args:List Operand,SRs P B pl tb (args.map (gev [] s.env)) (args.map (Q5 env)):=(by grind [SRs.map,Gds.nil]);cases o
 case alloc t z=>exact act _ (Z08 al hG h) λ_ h=>h
 case box t x=>exact act _ (Z73 al hG h) λ_ h=>h
 case buildSlice e z n ps=>exact act _ (BH al hG h) λ_ h=>h
 case makeSlice e b z l c=>exact act _ (E9 al hG h) λ_ h=>h
 case append e b x y=>exact act _ (Q57 al hG h) λ_ h=>h
 case store size a x=>exact act _ (Z0q al hG h) λ_ h=>h
 case callF f args =>
  simp only[gn] at h;obtain⟨g,a,b,h3,h4⟩:=Lw aC hG (show SR P B pl tb (.fn f [] []) (.func (.func f) #[] #[]) by simp only[SR,SRs];exact⟨[],[],rfl,rfl,rfl⟩) (aD args) h (λ_ e=>by cases e) hK;obtain⟨rfl,rfl,rfl⟩:=(by simpa using h3:f=g/\#[]=a/\#[]=b);show VCalled P f (args.map (Q5 env)) U R;simpa using h4
 case callV f args =>
  simp only[gn] at h;by_cases hy:∃ o,gev [] s.env f=.dd o .yv
  .obtain⟨o,hy⟩:=hy;have hf:=hG.evs (Gds.nil (tb:=tb)) f;have h':IV C d (gev [] s.env f) (args.map (gev [] s.env)) s K:=h;rw[hy] at hf h';simp only[SR,DR] at hf;obtain⟨i,hp,hv⟩:=hf;simp only[IV] at h';split at h'
   .rename_i y uQ;have:=aC.yl o y uQ B F pl tb s env U _ _ K R i hG (aD args) h' hp hK;simp only[vop,hv];exact this
   .exact h'.elim
  obtain⟨g,a,b,h3,h4⟩:=Lw aC hG (hG.evs Gds.nil f) (aD args) h (λo e=>hy ⟨o,e⟩) hK;exact Hf h3 h4
 case ext x =>
  cases x
  case mapUpdate mk m k v=>exact act _ (CQ al hG h) λ_ h=>h
  case delete mk m k=>exact False.elim h
  case mapEntry mk z m k=>exact False.elim h
  case entryStore m s v=>exact False.elim h
  case copy size a b=>exact False.elim h
  case unsafeStr e a n=>exact act _ (Eo al hG h) λ_ h=>h
  case strBytes e a=>exact act _ (I_ al hG h) λ_ h=>h
  case rangeMap a=>exact Q71 hG h hK
  case nextMap a=>exact Z0b hG h hK
  case rangeStr a=>exact False.elim h
  case nextStr a=>exact False.elim h
  all_goals exact h.elim
 all_goals exact h.elim
theorem Gam.frz (hG:Gam P B F pl tb s env U) (o:Nat):∃ B' F',GBase B F U B' F' U/\Gam P B' F' pl tb (s.frz o) env U:=by
 unfold St.frz;split
 .rename_i ty k xs nl ho;have fin:∀ {B' F':Heap},Gam P B' F' pl tb ⟨s.env,oset s.own o .dead,s.nx⟩ env U->KC B' (.list k) xs [pl o]->Gam P B' F' pl tb ⟨SVs.frz o k xs s.env,Z23 o k xs s.own,s.nx⟩ env U:=λ{B' F'} h hk=>by
   have e1:∀ d,Qr (Z23 o k xs s.own) d=(Qr (oset s.own o .dead) d).frz o k xs:=λd=>by
    rw[Z06,QB];by_cases e:d=o
    .rw[z2 e,z2 e];rfl
    .rw[z0 e,z0 e]
   have lv:∀ d,(Qr (Z23 o k xs s.own) d).live=(Qr (oset s.own o .dead) d).live:=λd=>by rw[e1,OB.q1x]
   refine⟨h.bf,h.le,SRs.frz hk _ _ h.env,λd=>?_,λd i h1 h2=>?_,λd d' i aJ h1 h2=>?_,h.free⟩
   .simp only[e1];exact(h.obj d).frz hk
   .simp only[lv] at h1;exact h.fresh d i h1 h2
   .simp only[lv] at h1 h2;exact h.sep d d' i aJ h1 h2
  have aq:=hG.obj o;rw[ho] at aq;rcases aq with⟨_,hx,hp⟩|⟨_,i,cap,c,t,hp,cu,hg,hlen,cD⟩
  .exact⟨B,F,.of hG.bf (.refl _),fin (hG.drop o) ⟨_,rfl,.inl ⟨hx,hp⟩⟩⟩
  .obtain⟨g1,g2⟩:=hG.freeze (o:=o) (i:=i) (by rw[ho];rfl) (by rw[hp];rfl);refine⟨_,_,g1,fin g2 ⟨_,rfl,.inr ⟨i,0,cap,c,⟨k.size,ty⟩,true,t,hp,cu,by rw[Heap.q0k];exact hg,rfl,by have:=zk k.size cu;omega,?_⟩⟩⟩;rw[xA];exact cD.mono λ_ _ e=>KC.mono g1.b e
 .exact⟨B,F,.of hG.bf (.refl _),hG⟩
theorem GRel.frzs {B0 F0 D0:Heap}:∀ (l:List Nat) {s:St},GRel P B0 F0 D0 s env U->GRel P B0 F0 D0 (s.frzs l) env U
 |[],_,h=>h
 |o::r,s,⟨B,F,pl,tb,hB,hG⟩=>by obtain⟨B',F',g1,g2⟩:=hG.frz o;exact GRel.frzs r ⟨B',F',pl,tb,hB.trans g1,g2⟩
end
theorem CX {j:Nat}{f:Nat->Prop}:∀ {n i:Nat},Q4z (j:Int) f n i->i<=j->j<i+n->f j
 |0,i,_,h1,h2=>by omega
 |n+1,i,h,h1,h2=>by
  rcases zf i j with h3|h3
  .exact CX h.2 h3 (by omega)
  .have:j=i:=by omega
   subst this;exact h.1 rfl
theorem Q9p {o:VOp}{len i:Nat}{f:Nat->VOp}(h:Z6o o=some (len,i,f)) {n:Nat}:(∃ size x,f n=.indexAddrArr len size x (.const (.int .i64 (Int.ofNat n))))\/∃ agg size x,f n=.indexArr len agg size x (.const (.int .i64 (Int.ofNat n))):=by
 unfold Z6o at h;split at h
 .cases h;exact .inl ⟨_,_,rfl⟩
 .cases h;exact .inr ⟨_,_,_,rfl⟩
 .cases h
theorem Z2d {o:VOp}{len i:Nat}{f:Nat->VOp}(h:Z6o o=some (len,i,f)) {S:VSpecs}{env:Env}{U:Heap}{k:IntKind}{n:Nat}(he:Q5 env (.tmp i)=.int k (n:Int)) {R:Value->Heap->Prop}(hv:vop S (f n) env U R):vop S o env U R:=by
 have hc:Q5 env (.const (.int .i64 (Int.ofNat n)))=.int .i64 (n:Int):=rfl;unfold Z6o at h;split at h
 .rename_i len size x t;cases h;change Jk (Qb _ (Q5 env) U) _ at hv;change Jk (Qb _ (Q5 env) U) _;simp only[Qb,he,hc] at hv |-
  grind
 .rename_i len agg size x t;cases h;change Jk (Qb _ (Q5 env) U) _ at hv;change Jk (Qb _ (Q5 env) U) _;simp only[Qb,he,hc] at hv |-
  grind
 .cases h
theorem It {C:Cx}(aC:COk P C) {B0 F0 D0:Heap}{s:St}{env:Env}{U:Heap}(hR:GRel P B0 F0 D0 s env U) {o:VOper}{K:St->Prop}(h:J09 C o s K) {R:Env->Heap->Prop}(hK:∀ s' ah U',K s'->GRel P B0 F0 D0 s' ah U'->R ah U') :
  Jk (Wz env o.guard) λb=>vif b (vop (Q4 P) o.op env U λv U'=>R (YR env o.dst v) U') (R (YR env o.dst undef) U):=by
 unfold J09 at h;split at h
 .rename_i hg;rw[hg];refine⟨λ_=>?_,λe=>by cases e⟩
  replace hR:=hR.frzs (Z4f C (o.dst.getD 0) o.op (gev [] s.env) s.own)
  generalize s.frzs (Z4f C (o.dst.getD 0) o.op (gev [] s.env) s.own)=s at h hR;obtain⟨B,F,pl,tb,hB,hG⟩:=hR;unfold J20 at h;split at h
  .rename_i len i f sC;split at h
   .rename_i k j hj;obtain⟨h1,h2,h3⟩:=h;obtain⟨n,rfl⟩:=zm h1;have hn:n<len:=by omega
    have h4:=CX h3 (Nat.zero_le n) (by omega);have he:=X2 hj (hG.evs (Gds.nil (tb:=tb)) (.tmp i));split at h4
    .rename_i cs v dB;obtain⟨k1,k2⟩:=Xa h4
     replace k1:=X7 k1
     have hv:=CK (C:=C) aC.cs hG Gds.nil (o:=f n) (raw:=C.raw.contains (o.dst.getD 0)) (cs:=cs) (v:=v) (by
      rw[<-dB];obtain⟨size,x,hf⟩|⟨agg,size,x,hf⟩:=Q9p sC<;>rw[hf];rfl;rfl) (k2 λg hg=>by cases hg) λu hu=>hK _ _ _ k1 ⟨B,F,pl,tb,hB,hG.put o.dst hu⟩
     exact Z2d sC he hv
    .exact h4.elim
   .exact h.elim
  unfold J23 at h;split at h
  .rename_i c a b bC;split at h
   .rename_i v hv;obtain⟨u,h1,h2⟩:=Da hG Gds.nil hv;rw[bC];show Jk (Qb (.pick c a b) (Q5 env) U) _;rw[h1];exact hK _ _ _ (X7 h) ⟨B,F,pl,tb,hB,hG.put o.dst h2⟩
   .exact h.elim
  .rename_i wc;cases hq:Z0d o.op with
   |true =>
    rw[hq] at h;simp only[ze] at h;split at h
    .rename_i cs v dB;obtain⟨h1,h2⟩:=Xa h
     replace h1:=X7 h1
     refine CK (C:=C) aC.cs hG Gds.nil (raw:=C.raw.contains (o.dst.getD 0)) (cs:=cs) (v:=v) ?_ (h2 λg hg=>by cases hg) λu hu=>hK _ _ _ h1 ⟨B,F,pl,tb,hB,hG.put o.dst hu⟩;rw[<-dB];cases ho:o.op<;>first|rfl|(rw[ho] at hq;cases hq)
    .exact h.elim
   |false =>
    rw[hq] at h;simp only[zF] at h;split at h
    .rename_i bC;split at h
     .rename_i kk vk _;obtain⟨h1,h2⟩:=Q9n hG (C.off+o.dst.getD 0) kk vk;rw[bC];change R (YR env o.dst (.map (some U.n))) (U.push (.obj (.map [] 0) true));exact hK _ _ _ h ⟨B,F,_,tb,Hh hB (Dead.push _ _),h1.put o.dst h2⟩
     .rename_i ik _;obtain⟨h1,h2⟩:=Z2p hG (C.off+o.dst.getD 0) ik;rw[bC];change R (YR env o.dst (.map (some U.n))) (U.push (.obj (.map [] 0) true));exact hK _ _ _ h ⟨B,F,_,tb,Hh hB (Dead.push _ _),h1.put o.dst h2⟩
     .exact h.elim
    .rename_i bC;cases j8:Q1l C (o.dst.getD 0) o.op (gev [] s.env) with
     |true =>rw[j8] at h;simp only[ze] at h;exact Q77 hG h λv s' B' F' pl' tb' u U' h1 hd h2 h3=>hK _ _ _ h1 ⟨B',F',pl',tb',hB.trans hd,h2.put o.dst h3⟩
     |false =>rw[j8] at h;simp only[zF] at h;exact Z2a aC hG h λv s' B' F' pl' tb' u U' h1 hd h2 h3=>hK _ _ _ h1 ⟨B',F',pl',tb',hB.trans hd,h2.put o.dst h3⟩
 .rename_i j want hg;obtain⟨B,F,pl,tb,hB,hG⟩:=hR;rw[hg];split at h
  .exact h.elim
  .rename_i gs s' dL;obtain⟨tb',bk,dA,b,hw,bP,bN⟩:=KE hG dL;rw[hw];refine⟨λe=>?_,λe=>?_⟩
   .have gm:Gds tb' gs:=λg hg=>⟨bP e g hg,dA g hg⟩;have fin:∀ {v u},SR P B pl tb' v u->SR P B pl tb' (.grd gs (Ry v)) u:=λ{v u} hs=>by
     simp only[SR]
     grind [Ck]
    split at h
    .rename_i c a b' bC;split at h
     .rename_i v hv;obtain⟨u,h1,h2⟩:=Da bk gm hv;rw[bC];show Jk (Qb (.pick c a b') (Q5 env) U) _;rw[h1];exact hK _ _ _ (X7 h) ⟨B,F,pl,tb',hB,bk.put o.dst (fin h2)⟩
     .exact h.elim
    .split at h
     .rename_i cs v dB;obtain⟨h1,h2⟩:=Xa h
      replace h1:=X7 h1
      exact CK aC.cs bk gm dB (h2 (bP e)) λu hu=>hK _ _ _ h1 ⟨B,F,pl,tb',hB,bk.put o.dst (fin hu)⟩
     .split at h
      .rename_i c v j9;obtain⟨h1,h2⟩:=Xa h
       replace h1:=X7 h1
       refine Q3x aC.cs bk gm (d:=C.off+o.dst.getD 0) j9 (h2 (bP e) c (by simp)) λu U' B' F' pl' k1 k2 k3=>hK _ _ _ h1 ⟨B',F',pl',tb',hB.trans k1,k2.put o.dst ?_⟩;simp only[SR];refine⟨⟨dA,?_⟩,λ_=>k3,(by grind)⟩;obtain⟨k,xs,rfl⟩:=Q3a j9;trivial
      .exact h.elim
   .have fin:∀ v,SR P B pl tb' (.grd gs (Ry v)) undef:=λv=>by
     simp only[SR];obtain⟨g,hg,aJ⟩:=bN e;exact⟨⟨dA,Cr v⟩,λaj=>absurd (aj g hg) aJ,λ_=>trivial⟩
    split at h
    .split at h
     .exact hK _ _ _ (X7 h) ⟨B,F,pl,tb',hB,bk.put o.dst (fin _)⟩
     .exact h.elim
    .split at h
     .exact hK _ _ _ (X7 (Xa h).1) ⟨B,F,pl,tb',hB,bk.put o.dst (fin _)⟩
     .split at h
      .rename_i c v j9;refine hK _ _ _ (X7 (Xa h).1) ⟨B,F,_,tb',hB,(bk.make (C.off+o.dst.getD 0) .dead undef bk.le (λ_ _ _ _ _=>rfl) trivial (λi hl _=>by cases hl)).put o.dst ?_⟩;simp only[SR];obtain⟨g,hg,aJ⟩:=bN e;refine⟨⟨dA,?_⟩,λaj=>absurd (aj g hg) aJ,λ_=>trivial⟩;obtain⟨k,xs,rfl⟩:=Q3a j9;trivial
      .exact h.elim
theorem Q9c {C:Cx}(aC:COk P C) {B0 F0 D0:Heap}{s:St}{env:Env}{U:Heap}(hR:GRel P B0 F0 D0 s env U) {o:VOper}{K:St->Prop}(h:gop C o s K) {R:Env->Heap->Prop}(hK:∀ s' ah U',K s'->GRel P B0 F0 D0 s' ah U'->R ah U') :
  Jk (Wz env o.guard) λb=>vif b (vop (Q4 P) o.op env U λv U'=>R (YR env o.dst v) U') (R (YR env o.dst undef) U):=by
 unfold gop at h;split at h
 .rename_i t ht;have qM:=hR;obtain⟨B,F,pl,tb,hB,hG⟩:=hR;rw[NK hG ht];cases t with
  |true =>simp only[ze] at h;exact It aC qM (o:=⟨o.dst,o.op,none⟩) h hK
  |false =>simp only[zF] at h;exact⟨(λe=>by cases e),λ_=>hK _ _ _ h ⟨B,F,pl,tb,hB,hG.put o.dst (by simp[SR])⟩⟩
 .exact It aC hR h hK
theorem Q3i {B0 F0 D0:Heap}{s s':St}{env:Env}{U:Heap}(hR:GRel P B0 F0 D0 s env U) {d:Nat}(h:Z50 d s=some s'):GRel P B0 F0 D0 s' env U:=by
 unfold Z50 at h;split at h
 .rename_i o off hd;cases hz:Nat.beq off 0 with
  |false=>rw[hz] at h;cases h
  |true =>
   rw[hz] at h;simp only[ze] at h;have hz:off=0:=zD hz;subst hz;split at h
   .rename_i l _ ho;simp only[x6] at h;subst h;obtain⟨B,F,pl,tb,hB,hG⟩:=hR;have aq:=hG.obj o;rw[ho] at aq;obtain⟨i,c,e,t,e1,e2,e3,_⟩:=aq;obtain⟨k1,k2⟩:=hG.freeze (o:=o) (i:=i) (by rw[ho];rfl) (by rw[e1];rfl);have h1:=hG.env.getD d undef;rw[hd] at h1;have sr:SR P (B.ins U i hG.leB.1) pl tb (.cp l 0) (env.getD d undef):=by
     simp only[SR] at h1 |-;obtain⟨b,q1,q2⟩:=h1;rw[e1] at q1;obtain rfl:i=b:=by simpa using q1
     refine⟨i,c,e,true,t,?_,q2,SRs.mono k1.b (λ_ _ h=>h) _ _ e3⟩;rw[Heap.q0k];exact e2
    have:=k2.put (some d) sr;refine⟨_,_,pl,tb,hB.trans k1,?_⟩;have e2:YR env (some d) (env.getD d undef)=env:=by
     show env.set d _=env;rcases zf d env.length with h|h
     .simp_all
     .rw[List.set_eq_of_length_le h]
    rw[e2] at this;exact this
   .cases h
 .cases h
theorem Q48 {B0 F0 D0:Heap}{raw:List Nat}{s s':St}{env:Env}{U:Heap}(hR:GRel P B0 F0 D0 s env U) {d:Nat}(h:Z53 raw d s=some s'):GRel P B0 F0 D0 s' env U:=by
 unfold Z53 at h;split at h
 .rename_i r hr;split at h
  .rename_i kk vk m ho;simp only[x6] at h;subst h;obtain⟨B,F,pl,tb,hB,hG⟩:=hR;have aq:=hG.obj (r % 1000);rw[ho] at aq;obtain⟨i,es,clock,e1,e2,e3⟩:=aq;obtain⟨k1,k2⟩:=hG.freeze (o:=r % 1000) (i:=i) (by rw[ho];rfl) (by rw[e1];rfl);refine⟨_,_,pl,tb,hB.trans k1,k2.bf,k2.le,k2.env,λj=>?_,λj b hl hi=>?_,λj j' b aJ hl cf=>?_,k2.free⟩
   .simp only[QB];by_cases hj:j=r % 1000
    .subst hj;rw[z2 rfl];exact⟨i,es,clock,_,e1,by rw[Heap.q0k];exact e2,e3.mono k1.b⟩
    .rw[z0 hj];have:=k2.obj j;simp only[QB,z0 hj] at this;exact this
   .simp only[QB] at hl;by_cases hj:j=r % 1000
    .rw[z2 hj] at hl;cases hl
    .exact k2.fresh j b (by simpa [QB,z0 hj] using hl) hi
   .simp only[QB] at hl cf;by_cases hj:j=r % 1000
    .rw[z2 hj] at hl;cases hl
    .by_cases di:j'=r % 1000
     .rw[z2 di] at cf;cases cf
     .exact k2.sep j j' b aJ (by simpa [QB,z0 hj] using hl) (by simpa [QB,z0 di] using cf)
  .cases h
 .cases h
theorem Q7h {C:Cx}{B0 F0 D0:Heap}{s:St}{env:Env}{U:Heap}(hR:GRel P B0 F0 D0 s env U) {d:Option Nat}{K:St->Prop}(h:J07 C d K s):∃ s2,K s2/\GRel P B0 F0 D0 s2 env U:=by
 unfold J07 at h;split at h
 .exact⟨s,h,hR⟩
 .rename_i d;cases hb:C.spl.contains d with
  |false=>rw[hb] at h;exact⟨s,h,hR⟩
  |true =>
   rw[hb] at h;simp only[ze] at h;split at h
   .rename_i t ht;obtain⟨B,F,pl,tb,hB,hG⟩:=hR;have he:=Kx ht (hG.env.getD d undef);have bw:∀ v,SR P B pl tb v (env.getD d undef)->GRel P B0 F0 D0 (s.put (some d) v) env U:=λv hv=>by
     have:=hG.put (some d) hv;refine⟨B,F,pl,tb,hB,?_⟩;have e2:YR env (some d) (env.getD d undef)=env:=by
      show env.set d _=env;rcases zf d env.length with h|h
      .rw[z5,z3 h];simp
      .rw[List.set_eq_of_length_le h]
     rw[e2] at this;exact this
    have sr:SR P B pl tb (.grd [] (.val .bo t)) (env.getD d undef):=by simp only[SR];exact⟨⟨(λg hg=>by cases hg),trivial⟩,(λ_=>by rw[he];simp[KC]),λ⟨g,hg,_⟩=>by cases hg⟩
    cases hc:C.raw.contains (3000000+d) with
    |true =>
     rw[hc] at h;cases t with
     |true=>exact⟨_,h,bw _ sr⟩
     |false=>exact⟨_,h,bw _ sr⟩
    |false =>
     rw[hc] at h;cases t with
     |true=>exact⟨_,h.1 rfl,bw _ sr⟩
     |false=>exact⟨_,h.2 rfl,bw _ sr⟩
   .split at h
    .rename_i ik x r hx hr;obtain⟨B,F,pl,tb,hB,hG⟩:=hR;have he:=X2 hx (hG.env.getD d undef);obtain⟨h1,h2,h3⟩:=h;obtain⟨n,rfl⟩:=zm (show 0<=x by omega);have h4:=CX h3 (by omega) (by omega);refine⟨_,h4,B,F,pl,tb,hB,?_⟩;have:=hG.put (some d) (v:=.val (.i ik) (n:Int)) (u:=env.getD d undef) (by rw[he];simp[SR,KC]);have e2:YR env (some d) (env.getD d undef)=env:=by
      show env.set d _=env;rcases zf d env.length with h|h
      .rw[z5,z3 h];simp
      .rw[List.set_eq_of_length_le h]
     rw[e2] at this;exact this
    .grind [Q3i,Q48]
theorem P4 {C:Cx}(aC:COk P C) {B0 F0 D0:Heap}:∀ (ops:List VOper) {s:St}{env:Env}{U:Heap},GRel P B0 F0 D0 s env U->∀ {K:St->Prop},J0d C ops s K->∀ {R:Env->Heap->Prop},(∀ s' ah U',K s'->GRel P B0 F0 D0 s' ah U'->R ah U')->FP (Q4 P) ops env U R
 |[],s,env,U,hR,_K,h,_R,hK=>hK s env U h hR
 |_o::r,_s,_env,_σ,hR,_K,h,_R,hK=>Q9c (R:=λenv U=>FP (Q4 P) r env U _R) aC hR h λ_ _ _ h1 h2=>by obtain⟨s2,k1,k2⟩:=Q7h h2 h1;exact P4 aC r k2 k1 hK
theorem Q8z {S:VSpecs}{l:List DOper}{rest:List DSeg}{env:Env}{U:Heap}{K:Env->Heap->Prop}(h:l.all (λo=>!(o.kind==2)&&!(o.op.kind==2))=true) (hv:FP S (l.map dv) env U λenv U=>Pb S rest env U K):Pb S (.alts [l]::rest) env U K:=by
 intro ops ho;obtain rfl:=zx.1 ho;have key:∀ (l:List DOper) (env:Env) (pend:List (Nat×(Heap->Prop))) (K':Env->Heap->Prop),l.all (λo=>!(o.kind==2)&&!(o.op.kind==2))=true->FP S (l.map dv) env U K'->XD S l env [U] U pend K':=by
  intro l;induction l with
  |nil=>intro env pend K' _ h;exact h
  |cons o rest ih =>
   intro env pend K' hk h;simp only[zL,z1,Bool.not_eq_true',zW] at hk;obtain⟨⟨bz,aB⟩,hr⟩:=hk;have hr:rest.all (λo=>!(o.kind==2)&&!(o.op.kind==2))=true:=by simpa using hr
   simp only[xr,FP,dv] at h;simp only[XD];cases hw:Wz env o.guard with
   |none=>rw[hw] at h;exact h.elim
   |some b =>
    rw[hw] at h;obtain⟨ht,hf⟩:=h;refine⟨λe=>?_,λe=>?_⟩
    .have ht:=ht e;obtain⟨p,hp,kF⟩:∃ p,Qb o.op (Q5 env) U=some p/\FP S (rest.map dv) (YR env o.dst p.1) p.2 K':=by
      have:=ht;unfold vop at this;split at this
      .rename_i f bQ heq;rw[heq] at aB;exact absurd rfl aB
      .rename_i f bQ heq;rw[heq] at aB;exact absurd rfl aB
      .rename_i x heq;rw[heq] at aB;exact absurd rfl aB
      .cases dI:Qb o.op (Q5 env) U with
       |none=>rw[dI] at this;exact this.elim
       |some p=>rw[dI] at this;exact⟨p,rfl,this⟩
     have hq:p.2=U:=(by grind [Sf]);rw[hq] at kF;rw[z0 bz];split
     .rw[hp];refine⟨fun τ hτ=>?_,ih _ _ _ hr kF⟩;have:τ=U:=by
       grind
      subst this;show Jk (Qb o.op (Q5 env) τ) _;rw[hp];rfl
     .rw[hp];exact ih _ _ _ hr kF
    .simp_all
 have:=key ops env [] _ h hv;have mono:∀ (l:List DOper) (env:Env) (hs:List Heap) (τ:Heap) (pend:List (Nat×(Heap->Prop))) (A B:Env->Heap->Prop),l.all (λo=>!(o.kind==2)&&!(o.op.kind==2))=true->(∀ e s,A e s->B e s)->XD S l env hs τ pend A->XD S l env hs τ pend B:=by
  intro l;induction l with
  |nil=>intro env hs τ pend A B _ mf h;exact mf _ _ h
  |cons o rest ih =>
   intro env hs τ pend A B hk mf h;simp only[zL,z1,Bool.not_eq_true',zW] at hk;obtain⟨⟨bz,aB⟩,hr⟩:=hk;have hr:rest.all (λo=>!(o.kind==2)&&!(o.op.kind==2))=true:=by simpa using hr
   simp only[XD] at h |-;cases hw:Wz env o.guard with
   |none=>rw[hw] at h;exact h.elim
   |some b =>
    rw[hw] at h;obtain⟨ht,hf⟩:=h;refine⟨λe=>?_,λe=>?_⟩
    .have ht:=ht e;rw[z0 bz] at ht |-;by_cases qq:o.kind=1
     .rw[z2 qq] at ht |-;cases dI:Qb o.op (Q5 env) τ with
      |none=>rw[dI] at ht;exact ht.elim
      |some p=>rw[dI] at ht;exact⟨ht.1,ih _ _ _ _ _ _ hr mf ht.2⟩
     .rw[z0 qq] at ht |-;cases dI:Qb o.op (Q5 env) τ with
      |none=>rw[dI] at ht;exact ht.elim
      |some p=>rw[dI] at ht;exact ih _ _ _ _ _ _ hr mf ht
    .grind
 exact mono ops env _ _ _ _ _ h (λe s hs=>⟨e,s,.refl _ _ _,hs⟩) this
theorem W6 {op:VOp}{ev:Operand->Value}{u:Value}{τ τ':Heap}(h:Qb op ev τ=some (u,τ')):YK op ev u τ:=by unfold YK;rw[h];rfl
theorem JU (s:St) (d:Option Nat) (v:SV):(s.put d v).own=s.own:=by cases d<;>rfl
theorem Nk {s s':St}{j:Nat}{want:Bool}{gs:List Gd}(h:Lo s j want=some (gs,s')):s'.own=s.own:=by
 unfold Lo at h
 grind
theorem GH {C:Cx}{B F:Heap}{pl:Nat->Value}{tb:Nat->Option Bool}{s:St}{env:Env}{U:Heap}(hG:Gam P B F pl tb s env U) {o:DOper}{K:St->Prop}(h:gd1 C o s K) :
  ∃ b,Wz env o.guard=some b/\(b=true->∃ u s' tb',Qb o.op (Q5 env) U=some (u,U)/\K s'/\s'.own=s.own/\Gam P B F pl tb' s' (YR env o.dst u) U)/\(b=false->∃ s' tb',K s'/\s'.own=s.own/\Gam P B F pl tb' s' (YR env o.dst undef) U):=by
 unfold gd1 at h;split at h
 .rename_i hg;rw[hg];refine⟨true,rfl,λ_=>?_,λe=>by cases e⟩;split at h
  .rename_i c a b bC;split at h
   .rename_i v hv;obtain⟨u,h1,h2⟩:=Da hG Gds.nil hv;exact⟨u,_,tb,by rw[bC];exact h1,X7 h,JU _ _ _,hG.put o.dst h2⟩
   .exact h.elim
  .split at h
   .rename_i cs v dB;obtain⟨h1,h2⟩:=Xa h;obtain⟨u,h3,h4⟩:=O4 (hG.evs (Gds.nil (tb:=tb))) (λ_=>rfl) hG.leB hG.obj dB (h2 λg hg=>by cases hg);exact⟨u,_,tb,h3,X7 h1,JU _ _ _,hG.put o.dst h4⟩
   .exact h.elim
 .rename_i j want hg;rw[hg];split at h
  .exact h.elim
  .rename_i gs s' dL;obtain⟨tb',bk,dA,b,hw,bP,bN⟩:=KE hG dL;refine⟨b,hw,λe=>?_,λe=>?_⟩
   .have gm:Gds tb' gs:=λg hg=>⟨bP e g hg,dA g hg⟩;have fin:∀ {v u},SR P B pl tb' v u->SR P B pl tb' (.grd gs (Ry v)) u:=λ{v u} hs=>by
     simp only[SR]
     grind [Ck]
    split at h
    .rename_i c a b' bC;split at h
     .rename_i v hv;obtain⟨u,h1,h2⟩:=Da bk gm hv;exact⟨u,_,tb',by rw[bC];exact h1,X7 h,(JU _ _ _).trans (Nk dL),bk.put o.dst (fin h2)⟩
     .exact h.elim
    .split at h
     .rename_i cs v dB;obtain⟨h1,h2⟩:=Xa h;obtain⟨u,h3,h4⟩:=O4 (bk.evs gm) (λ_=>rfl) bk.leB bk.obj dB (h2 (bP e));exact⟨u,_,tb',h3,X7 h1,(JU _ _ _).trans (Nk dL),bk.put o.dst (fin h4)⟩
     .exact h.elim
   .have fin:∀ v,SR P B pl tb' (.grd gs (Ry v)) undef:=λv=>by
     simp only[SR];obtain⟨g,hg,aJ⟩:=bN e;exact⟨⟨dA,Cr v⟩,λaj=>absurd (aj g hg) aJ,λ_=>trivial⟩
    split at h
    .split at h
     .exact⟨_,tb',X7 h,(JU _ _ _).trans (Nk dL),bk.put o.dst (fin _)⟩
     .exact h.elim
    .split at h
     .exact⟨_,tb',X7 (Xa h).1,(JU _ _ _).trans (Nk dL),bk.put o.dst (fin _)⟩
     .exact h.elim
theorem Q49 {bs:List OB}{q:Prop}(h:Q9f bs q):(∀ b∈bs,b.wf)/\q:=by
 induction bs with
 |nil=>exact⟨(λb hb=>by cases hb),h⟩
 |cons b r ih =>obtain⟨h1,h2⟩:=h;obtain⟨h3,h4⟩:=ih h2;exact(by simp_all)
mutual
theorem Q62 {d nt:Nat}:∀ (v:SV),v.ret 0=true->(v.ren d nt).ret 0=true
 |.val k x,h=>h
 |.nilS,_|.nilP,_|.nilM,_|.nilF,_=>rfl
 |.lst j,h|.box j _,h|.map j,h=>by simp[SV.ret,Nat.blt] at h
 |.agg l,h=>by simp only[SV.ren,SV.ret] at h |-;exact An l h
 |.tup l,h=>by simp only[SV.ren,SV.ret] at h |-;exact An l h
 |.any,h|.bid _ _,h|.grd _ _,h|.sub _ _ _ _,h|.elp _ _ _ _,h|.rop _ _ _ _,h|.cp _ _,h|.fn _ _ _,h|.pf _ _ _ _,h=>by cases h
theorem An {d nt:Nat}:∀ (v:List SV),SVs.ret 0 v=true->SVs.ret 0 (SVs.ren d nt v)=true
 |[],_=>rfl
 |s::ss,h=>by simp only[SVs.ret,SVs.ren,z1] at h |-;exact⟨Q62 s h.1,An ss h.2⟩
end
theorem KI {C:Cx}(aC:COk P C) {B F:Heap}{pl:Nat->Value}{tb:Nat->Option Bool}{s:St}{env:Env}{U:Heap}(hG:Gam P B F pl tb s env U) {d:Nat}{f:SV}{args:List SV}{K:List Nat->SV->St->Prop}(h:PQ C d f args s K) {fV:Value}{vs:List Value}
  (hf:SR P U KR Yz f fV) (ha:SRs P U KR Yz args vs):∃ g a b u U' ts v s' pl',fV=.func (.func g) a b/\(VCalled P g (a.toList++vs++b.toList) U λu' aN=>u'=u/\aN=U')/\K ts v s'/\Gam P B F pl' tb s' env U'/\SR P B pl' tb v u/\(ts=[]->U'=U/\pl'=pl/\s'=s)/\U.Le U'/\Dead U U'/\FrL ts s s' pl pl' U U':=by
 unfold PQ at h;split at h
 .rename_i c v bs heq;cases hb:(v.ret bs.length&&(bs.all OB.ret&&(Nat.blt 0 C.nt&&(bs.all OB.isL&&MY v)))) with
  |false=>rw[hb] at h;exact h.elim
  |true =>
   rw[hb] at h;obtain⟨h1,h2⟩:=h;obtain⟨h3,h4⟩:=Q49 h2;simp only[z1] at hb;obtain⟨hv,mq,eG,hl,cP⟩:=hb;obtain⟨g,a,b,e,_,hx⟩:=W8 aC.cs hf ha heq hv mq h1;have dz:=Q1r (P:=P) U hv cP mq hl (λb hb=>by have:=h3 b hb;cases b<;>exact this);by_cases b6:bs=[]
   .subst b6;obtain⟨k1,k2⟩:=dz.flat hv;refine⟨g,a,b,_,_,_,_,_,pl,e,hx hl cP,h4,?_,?_,λ_=>⟨k1,rfl,rfl⟩,dz.1.1,dz.1.2,λq _=>⟨rfl,rfl,λ_ _ _=>by rw[k1]⟩⟩
    .rw[k1];exact hG
    .exact SR.retd (B:=hNil) (pl:=pl) (tb:=Yz) (n:=0) (λj hj=>by omega) _ _ (Q62 v hv) (by grind [SR.ren])
   .obtain⟨pl',h5,h6,h7⟩:=dz.gamF (nt:=C.nt) (d:=d) (by simpa [zu] using eG) hG hv mq;refine⟨g,a,b,_,_,_,_,_,pl',e,hx hl cP,h4,h5,h6,(by simp_all),dz.1.1,dz.1.2,λq hq=>h7 q λj hj e=>hq ?_⟩;exact zC.2 ⟨j,zQ.2 hj,e.symm⟩
 .exact h.elim
def Q5v:VOp->Bool
 |.callF ..|.callV ..=>true
 |.ext (.rangeMap _)|.ext (.nextMap _)|.ext (.rangeStr _)|.ext (.nextStr _)=>true
 |_=>false
theorem Z8t {C:Cx}{B F:Heap}{pl:Nat->Value}{tb:Nat->Option Bool}{s:St}{env:Env}{U:Heap}(hG:Gam P B F pl tb s env U) {d:Nat}{o:VOp}{K:SV->St->Prop}(h:gn C d o (gev [] s.env) s K) (hc:Q5v o=false) :
  NOk P B F tb o (Q5 env) env U K (Jg d o (gev [] s.env)) s pl:=by
 have al:=hG.evs (Gds.nil (tb:=tb));cases o
 case alloc t z=>exact Z08 al hG h
 case box t x=>exact Z73 al hG h
 case buildSlice e z n ps=>exact BH al hG h
 case makeSlice e b z l c=>exact E9 al hG h
 case append e b x y=>exact Q57 al hG h
 case store size a x=>exact Z0q al hG h
 case callF=>cases hc
 case callV=>cases hc
 case ext x =>
  cases x
  case mapUpdate mk m k v=>exact CQ al hG h
  case delete mk m k=>exact False.elim h
  case mapEntry mk z m k=>exact False.elim h
  case entryStore m s v=>exact False.elim h
  case copy size a b=>exact False.elim h
  case unsafeStr e a n=>exact Eo al hG h
  case strBytes e a=>exact I_ al hG h
  case rangeMap=>cases hc
  case nextMap=>cases hc
  case rangeStr=>cases hc
  case nextStr=>cases hc
  all_goals exact h.elim
 all_goals exact h.elim
theorem Ou {o:VOp}{ev:Operand->Value}{U U':Heap}{u:Value}(hm:E0 o=true) (h:Qb o ev U=some (u,U')):U.Le U':=by
 have push:∀ b:Blk,U.Le (U.push b):=λb=>(Heap.Le.refl U).push b;cases o<;>first|(cases hm;done)|skip
 case alloc t z=>obtain⟨rfl,rfl⟩:=Jh h;exact push _
 case box t x =>
  simp only[Qb] at h
  grind
 case buildSlice e z n ps =>
  simp only[Qb] at h
  grind
 case makeSlice e b z l c =>
  simp only[Qb] at h
  grind
def stM:MK:=.agg [.int .i64,.int .i64]
def Z9o:Option Yx->Value
 |some e=>e.2.1
 |none=>.int .i64 0
def LkE (es bK:List Yx):Prop:=(es.all (λe=>Xv stM e.1)=true->bK.all (λe=>Xv stM e.1)=true)/\(es.all (λe=>Xv stM e.1)=true->∀ k,Xv stM k=true->Z9o (Zp k bK)=Z9o (Zp k es))
theorem LkE.trans {a b c:List Yx}(h:LkE a b) (h':LkE b c):LkE a c:=⟨λk=>h'.1 (h.1 k),λk x hx=>(h'.2 (h.1 k) x hx).trans (h.2 k x hx)⟩
theorem Q9z {mk:MK}{z:Value}(h:stP mk z=true):mk=stM/\z=.int .i64 0:=by
 unfold stP at h;split at h
 .exact⟨rfl,by rw[eq_of_beq h]⟩
 .cases h
def Q79 (U:Heap) (own:Own) (pl:Nat->Value) (Q:Heap->Prop):Option Nat->Prop
 |none=>∀ τ,U.Le τ->Q τ
 |some q=>(Qr own (q / 2)).live=true/\∃ i b,Oid (pl (q / 2)) i/\U.get i=some b/\(∀ τ,τ.get i=some b->Q τ)/\(q % 2=1->∃ es c wr,b=.obj (.map es c) wr/\∀ τ bK c',LkE es bK->τ.get i=some (.obj (.map bK c') wr)->Q τ)
structure DSt (hs:List Heap) (U:Heap) (pend:List (Nat×(Heap->Prop))) (hl chg:Nat) (A R:List (Nat×Option Nat)) (own:Own) (pl:Nat->Value):Prop where
 len:hs.length=hl
 same:∀ j τ,chg<=j->hs[j]?=some τ->τ=U
 pend:∀ c∈pend,c.1<hl\/∃ r∈R,c.1<=r.1/\Q79 U own pl c.2 r.2
 fr:∀ j τ q i,hs[j]?=some τ->JV A j q=true->(Qr own q).live=true->Oid (pl q) i->τ.get i=U.get i
theorem N4 {r:Nat}{U:Heap}:∀ {l:List (Nat×(Heap->Prop))},(∀ c∈l,r<=c.1->c.2 U)->YT r U l
 |[],_=>trivial
 |c::l,h=>⟨h c (by simp),N4 λc' dg=>h c' (by simp[dg])⟩
theorem YW {hs:List Heap}{U' τ:Heap}{j:Nat}(h:(hs++[U'])[j]?=some τ):(j<hs.length/\hs[j]?=some τ)\/(j=hs.length/\τ=U'):=by
 grind
theorem Ik {a:Nat×Option Nat}{A:List (Nat×Option Nat)}{j q:Nat}(h:JV (a::A) j q=true) (hj:j<=a.1):(∃ t,a.2=some t/\t≠q)/\JV A j q=true:=by
 simp only[JV,zL,z1,zl,zu] at h;refine⟨?_,h.2⟩;rcases h.1 with h|h
 .omega
 .split at h
  .rename_i t ht;exact⟨t,ht,λe=>by subst e;simp at h⟩
  .cases h
theorem DSt.stay {hs:List Heap}{U:Heap}{pend:List (Nat×(Heap->Prop))}{hl chg:Nat}{A R:List (Nat×Option Nat)}{own:Own}{pl:Nat->Value}(h:DSt hs U pend hl chg A R own pl) :
  YT hs.length U pend/\DSt (hs++[U]) U pend (hl+1) chg A R own pl:=by
 have hr:∀ c∈pend,∀ r∈R,Q79 U own pl c.2 r.2->c.2 U:=λc _ r _ au=>by
  unfold Q79 at au;split at au
  .exact au U (.refl _)
  grind
 refine⟨N4 λc hc hle=>?_,⟨by simp[h.len],λj τ hj ht=>?_,λc hc=>?_,λj τ q i ht hu hl hi=>?_⟩⟩
 .rcases h.pend c hc with h1|⟨r,h1,_,h2⟩
  .rw[h.len] at hle;omega
  .exact hr c hc r h1 h2
 .rcases YW ht with⟨_,h1⟩|⟨_,h1⟩
  .exact h.same j τ hj h1
  .exact h1
 .rcases h.pend c hc with h1|h1
  .exact .inl (by omega)
  .exact .inr h1
 .rcases YW ht with⟨_,h1⟩|⟨_,rfl⟩
  .exact h.fr j τ q i h1 hu hl hi
  .rfl
theorem DSt.write {hs:List Heap}{U U':Heap}{pend:List (Nat×(Heap->Prop))}{hl chg:Nat}{A R:List (Nat×Option Nat)}{s s':St}{pl pl':Nat->Value}(h:DSt hs U pend hl chg A R s.own pl) {T:Nat}(hf:Fr T s s' pl pl' U U') {mk ext:Bool}(hm:mk=true->U.Le U')
  (hE:ext=true->(Qr s'.own T).live=true/\pl' T=pl T/\∃ i es c bK c',pl T=.map (some i)/\U.get i=some (.obj (.map es c) true)/\U'.get i=some (.obj (.map bK c') true)/\LkE es bK)
  (hc:((mk&&Q1n R hl T)||IH R hl T||(ext&&Z63 R hl T))=true) (bq:0<hl):YT hs.length U' pend/\DSt (hs++[U']) U' pend (hl+1) hl ((hl-1,some T)::A) R s'.own pl':=by
 have hr:∀ Q:Heap->Prop,∀ r∈R,hl<=r.1->Q79 U s.own pl Q r.2->Q79 U' s'.own pl' Q r.2:=λQ r lh cA au=>by
  have hq:∀ q,r.2=some q->q / 2=T->q % 2=1/\ext=true:=λq hq e=>by
   subst e;simp only[zl,z1,Q1n,IH,Z63] at hc;rcases hc with (⟨_,hc⟩|hc)|⟨he,hc⟩
   .have:=z8.1 hc r lh;rw[hq] at this;simp only[zl,zu,Nat.beq_refl,xQ,zj,or_false] at this;omega
   .have:=z8.1 hc r lh;rw[hq] at this;simp only[zl,zu,Nat.beq_refl,xQ,zj,or_false] at this;omega
   .have:=z8.1 hc r lh;rw[hq] at this;simp only[zl,zu,Nat.beq_refl,xQ,zj,false_or] at this
    grind [Nat.eq_of_beq_eq_true]
  cases e:r.2 with
  |none =>
   rw[e] at au;have dq:mk=true:=by
    simp only[zl,z1,IH,Z63] at hc;rcases hc with (⟨hc,_⟩|hc)|⟨_,hc⟩
    .exact hc
    .have:=z8.1 hc r lh;rw[e] at this;simp only[zl,zu,zj,or_false] at this;omega
    .have:=z8.1 hc r lh;rw[e] at this;simp only[zl,zu,zj,or_false] at this;omega
   exact fun τ ht=>au τ ((hm dq).trans ht)
  |some q =>
   rw[e] at au;obtain⟨k1,i,b,k2,k3,k4⟩:=au;by_cases nW:q / 2=T
   .obtain⟨ho,he⟩:=hq q e nW;obtain⟨g1,g2,i',es,c,bK,c',g3,g4,g5,g6⟩:=hE he;obtain⟨k5,k6⟩:=k4;obtain⟨wg,c0,wr,rfl,k7⟩:=k6 ho;rw[nW] at k1 k2;have hi:i=i':=Z10 (by rw[g3];rfl) k2;subst hi;rw[g4] at k3;cases k3;refine⟨by rw[nW];exact g1,i,_,by rw[nW,g2];exact k2,g5,fun τ hτ=>k7 τ _ _ g6 hτ,λ_=>⟨_,_,_,rfl,fun τ uR wi hl hτ=>k7 τ _ _ (g6.trans hl) hτ⟩⟩
   .obtain⟨f1,f2,f3⟩:=hf (q / 2) nW;exact⟨by rw[f1];exact k1,i,b,by rw[f2];exact k2,by rw[f3 k1 i k2];exact k3,k4⟩
 have now:∀ Q:Heap->Prop,∀ r,Q79 U' s'.own pl' Q r->Q U':=λQ r au=>by
  unfold Q79 at au;split at au
  .exact au U' (.refl _)
  grind
 refine⟨N4 λc hc hle=>?_,⟨by simp[h.len],λj τ hj ht=>?_,λc hc=>?_,λj τ q i ht hu cf hi=>?_⟩⟩
 .rw[h.len] at hle;rcases h.pend c hc with h1|⟨r,h1,h2,h3⟩
  .omega
  grind
 .rcases YW ht with⟨h1,_⟩|⟨_,h1⟩
  .rw[h.len] at h1;omega
  .exact h1
 .rcases h.pend c hc with h1|⟨r,h1,h2,h3⟩
  .exact .inl (by omega)
  grind
 .rcases YW ht with⟨h1,h2⟩|⟨_,rfl⟩
  .rw[h.len] at h1;obtain⟨⟨t,ht,uS⟩,dE⟩:=Ik hu (by simp only;omega);obtain rfl:=osj ht;obtain⟨f1,f2,f3⟩:=hf q (Ne.symm uS);rw[f1] at cf;rw[f2] at hi;rw[f3 cf i hi];exact h.fr j τ q i h2 dE cf hi
  .rfl
theorem R3 {ts:List Nat}{hl j q:Nat}{A:List (Nat×Option Nat)}(h:JV (ts.map (λt=>(hl,some t))++A) j q=true) (hj:j<=hl):q∉ts/\JV A j q=true:=by simp only[JV,List.all_append,z1] at h |-;refine⟨λhm=>?_,h.2⟩;have:=z8.1 h.1 (hl,some q) (zC.2 ⟨q,hm,rfl⟩);simp only[zl,zu,Nat.beq_refl,xQ,zj,or_false] at this;omega
theorem DSt.call {hs:List Heap}{U U':Heap}{pend:List (Nat×(Heap->Prop))}{hl chg:Nat}{A R:List (Nat×Option Nat)}{s s':St}{pl pl':Nat->Value}(h:DSt hs U pend hl chg A R s.own pl) (hle:U.Le U') {Ts:List Nat}(hf:FrL Ts s s' pl pl' U U') (bq:0<hl) :
  YT hs.length U' pend/\DSt (hs++[U']) U' pend (hl+1) hl (Ts.map (λt=>(hl-1,some t))++A) (R.map λr=>(r.1,none)) s'.own pl':=by
 have hr:∀ Q r,Q79 U s.own pl Q r->∀ τ,U'.Le τ->Q τ:=λQ r au τ ht=>by
  unfold Q79 at au;split at au
  .exact au τ (hle.trans ht)
  .obtain⟨_,i,b,_,h2,h3,_⟩:=au;exact h3 τ (ht.2 _ _ (hle.2 _ _ h2))
 refine⟨N4 λc hc hle=>?_,⟨by simp[h.len],λj τ hj ht=>?_,λc hc=>?_,λj τ q i ht hu cf hi=>?_⟩⟩
 .rcases h.pend c hc with h1|⟨r,h1,_,h2⟩
  .rw[h.len] at hle;omega
  .exact hr _ _ h2 _ (.refl _)
 .rcases YW ht with⟨h1,_⟩|⟨_,h1⟩
  .rw[h.len] at h1;omega
  .exact h1
 .rcases h.pend c hc with h1|⟨r,h1,h2,h3⟩
  .exact .inl (by omega)
  .exact .inr ⟨(r.1,none),zC.2 ⟨r,h1,rfl⟩,h2,hr _ _ h3⟩
 .rcases YW ht with⟨h1,h2⟩|⟨_,rfl⟩
  .rw[h.len] at h1;obtain⟨hq,dE⟩:=R3 hu (by omega);obtain⟨f1,f2,f3⟩:=hf q hq;rw[f1] at cf;rw[f2] at hi;rw[f3 cf i hi];exact h.fr j τ q i h2 dE cf hi
  .rfl
theorem DSt.writeD {hs:List Heap}{U U':Heap}{pend:List (Nat×(Heap->Prop))}{hl chg:Nat}{A R:List (Nat×Option Nat)}{s s':St}{pl pl':Nat->Value}(h:DSt hs U pend hl chg A R s.own pl) {Ts:List Nat}(hf:FrL Ts s s' pl pl' U U') {mk:Bool}(hm:mk=true->U.Le U')
  (hc:Q6y mk R hl Ts=true) (bq:0<hl):YT hs.length U' pend/\DSt (hs++[U']) U' pend (hl+1) hl (Ts.map (λt=>(hl-1,some t))++A) R s'.own pl':=by
 have hr:∀ Q:Heap->Prop,∀ r∈R,hl<=r.1->Q79 U s.own pl Q r.2->Q79 U' s'.own pl' Q r.2:=λQ r lh cA au=>by
  have lj:=z8.1 hc r lh;have lj:(match r.2 with|some q=>Ts.all (λt=>!(Nat.beq (q / 2) t))|none=>mk)=true:=by rw[zl,zu] at lj;exact lj.resolve_left (by omega)
  cases e:r.2 with
  |none =>rw[e] at au lj;exact fun τ ht=>au τ ((hm lj).trans ht)
  |some q =>
   rw[e] at au lj;obtain⟨k1,i,b,k2,k3,k4⟩:=au;obtain⟨f1,f2,f3⟩:=hf (q / 2) λhq=>by have:=z8.1 lj (q / 2) hq;simp at this
   exact⟨by rw[f1];exact k1,i,b,by rw[f2];exact k2,by rw[f3 k1 i k2];exact k3,k4⟩
 have now:∀ Q:Heap->Prop,∀ r,Q79 U' s'.own pl' Q r->Q U':=λQ r au=>by
  unfold Q79 at au;split at au
  .exact au U' (.refl _)
  grind
 refine⟨N4 λc hc hle=>?_,⟨by simp[h.len],λj τ hj ht=>?_,λc hc=>?_,λj τ q i ht hu cf hi=>?_⟩⟩
 .rw[h.len] at hle;rcases h.pend c hc with h1|⟨r,h1,h2,h3⟩
  .omega
  grind
 .rcases YW ht with⟨h1,_⟩|⟨_,h1⟩
  .rw[h.len] at h1;omega
  .exact h1
 .rcases h.pend c hc with h1|⟨r,h1,h2,h3⟩
  .exact .inl (by omega)
  grind
 .rcases YW ht with⟨h1,h2⟩|⟨_,rfl⟩
  .rw[h.len] at h1;obtain⟨hq,dE⟩:=R3 hu (by omega);obtain⟨f1,f2,f3⟩:=hf q hq;rw[f1] at cf;rw[f2] at hi;rw[f3 cf i hi];exact h.fr j τ q i h2 dE cf hi
  .rfl
theorem I0 {hl d j q:Nat}{A:List (Nat×Option Nat)}(h:JV ((hl,none)::A) j q=true):JV ([d].map (λt=>(hl,some t))++A) j q=true:=by simp only[JV,zL,z1,zl,zj,or_false,xr,List.map_nil,xE,xF] at h |-;exact⟨.inl h.1,h.2⟩
theorem DSt.frozen {hs:List Heap}{U:Heap}{pend:List (Nat×(Heap->Prop))}{hl chg m d:Nat}{A R:List (Nat×Option Nat)}{own:Own}{pl:Nat->Value}(h:DSt hs U pend hl chg ([d].map (λt=>(m,some t))++A) R own pl):DSt hs U pend hl chg ((m,none)::A) R own pl :=
 ⟨h.len,h.same,h.pend,λj τ q i ht hu=>h.fr j τ q i ht (I0 hu)⟩
theorem Ch {ts:List Nat}{m j:Nat}{A:List (Nat×Option Nat)}(h:S4 (ts.map (λt=>(m,some t))++A) j=true):S4 A j=true:=by simp only[S4,List.all_append,z1] at h;exact h.2
theorem Ej {a:Nat×Option Nat}{j:Nat}{A:List (Nat×Option Nat)}(h:S4 (a::A) j=true):S4 A j=true:=by simp only[S4,zL,z1] at h;exact h.2
theorem IX {C:Cx}{f:SV}{args:List SV}{cs:List Prop}{v:SV}(h:Z0u C f args=some (cs,v)):∃ c ty k xs nl,MT C.cs f args=some (c,.lst 0,[.lst ty k xs nl])/\cs=[c,nl=true->xs=[]]/\v=.val (.list k) xs/\k.flat=true/\0<C.nt:=by
 unfold Z0u at h;split at h
 .rename_i heq;split at h
  .rename_i k xs nl;cases hc:(k.flat&&Nat.blt 0 C.nt) with
   |false=>rw[hc] at h;cases h
   |true =>rw[hc] at h;obtain⟨rfl,rfl⟩:=Jh h;simp only[z1,zu] at hc;exact(by grind)
  .cases h
 .cases h
theorem Q22 {b:OB}(h:b.here=true):b.live=true:=by cases b<;>first|rfl|cases h
theorem N0 {B F:Heap}{pl:Nat->Value}{tb:Nat->Option Bool}{s:St}{env:Env}{U:Heap}(hG:Gam P B F pl tb s env U) {o:VOp}{q:Nat}(h:Hu o (gev [] s.env) s.own=some q) {u:Value}{σ2:Heap}(hv:Qb o (Q5 env) U=some (u,σ2)) :
  (Qr s.own (q / 2)).live=true/\∃ i b,Oid (pl (q / 2)) i/\U.get i=some b/\(∀ τ,τ.get i=some b->Qb o (Q5 env) τ=some (u,τ))/\(q % 2=1->∃ es c wr,b=.obj (.map es c) wr/\∀ τ bK c',LkE es bK->τ.get i=some (.obj (.map bK c') wr)->Qb o (Q5 env) τ=some (u,τ)):=by
 have two:∀ q,2*q / 2=q:=λq=>by omega
 have nX:∀ q,(2*q+1) / 2=q:=λq=>by omega
 have odd:∀ {q} {X:Prop},2*q % 2=1->X:=λ{q X} h=>by omega
 unfold Hu at h;split at h
 .rename_i agg size a;have ha:=hG.evs (Gds.nil (tb:=tb)) a;have key:∀ q i off,(Qr s.own q).live=true->Oid (pl q) i->Q5 env a=.pointer (some ⟨i,off,none⟩)->(Qr s.own q).live=true/\∃ i b,Oid (pl q) i/\U.get i=some b/\∀ τ,τ.get i=some b->Qb (.load agg size a) (Q5 env) τ=some (u,τ):=λq i off hl hi he=>by
   simp only[Qb,he] at hv;cases hb:U.get i with
   |none=>rw[hb] at hv;cases hv
   |some b =>
    refine⟨hl,i,b,hi,hb,fun τ ht=>?_⟩;rw[hb] at hv;simp only[Qb,he,ht];cases b with
    |obj o wr=>cases hv
    |cells c e wr t =>
     simp only at hv |-;split at hv
     .obtain⟨rfl,rfl⟩:=Jh hv;rfl
     .cases hv
  split at h
  .rename_i q' off hx;rw[hx] at ha;simp only[SR] at ha;obtain⟨b,h1,h2⟩:=ha;cases hh:(Qr s.own q').here with
   |false=>rw[hh] at h;cases h
   |true =>rw[hh] at h;obtain rfl:=osj h;obtain⟨x1,y1,y2,y3,y4,y5⟩:=key q' b off (Q22 hh) (by rw[h1];rfl) h2;exact⟨by rw[two];exact x1,y1,y2,by rw[two];exact y3,y4,y5,odd⟩
  .rename_i q' i off sz hx;rw[hx] at ha;simp only[SR] at ha;obtain⟨b,len,cap,h1,h2,h3,h4⟩:=ha;cases hh:(Qr s.own q').here with
   |false=>rw[hh] at h;cases h
   |true =>rw[hh] at h;obtain rfl:=osj h;obtain⟨x1,y1,y2,y3,y4,y5⟩:=key q' b _ (Q22 hh) (by rw[h1];rfl) h4;exact⟨by rw[two];exact x1,y1,y2,by rw[two];exact y3,y4,y5,odd⟩
  .cases h
 .rename_i mk z x y;cases bn:stP mk z with
  |false=>rw[bn] at h;cases h
  |true =>
   rw[bn] at h;simp only[ze] at h;obtain⟨rfl,rfl⟩:=Q9z bn;split at h
   .rename_i q' hx;split at h
    .rename_i kk vk l ho;obtain rfl:=osj h;have ha:=hG.evs (Gds.nil (tb:=tb)) x;rw[hx] at ha;simp only[SR] at ha;have aq:=hG.obj q';rw[ho] at aq;obtain⟨id,es,c,h2,h3,_⟩:=aq;have aI:∀ (τ:Heap) bK c' wr,τ.get id=some (.obj (.map bK c') wr)->τ.mapAt id=some (bK,c',wr):=fun τ bK c' wr hτ=>by simp[Heap.mapAt,hτ]
     simp only[Qb,JA,ha.1,h2,aI _ _ _ _ h3] at hv;refine⟨by rw[nX,ho];rfl,id,_,by rw[nX,h2];rfl,h3,fun τ hτ=>?_,λ_=>⟨es,c,true,rfl,fun τ bK c' hl hτ=>?_⟩⟩
     .simp only[Qb,JA,ha.1,h2,aI _ _ _ _ hτ]
      grind
     .simp only[Qb,JA,ha.1,h2,aI _ _ _ _ hτ];split at hv
      .rename_i iS;split at hv
       .rename_i iT;rw[z2 iS,z2 (hl.1 iT)];have bZ:=hl.2 iT _ iS;cases he:Zp (Q5 env y) es with
        |some e =>
         rw[he] at hv bZ;obtain⟨rfl,rfl⟩:=Jh hv;cases hm:Zp (Q5 env y) bK with
         |some e'=>rw[hm] at bZ;simp only[Z9o] at bZ;simp[bZ]
         |none=>rw[hm] at bZ;simp only[Z9o] at bZ;simp[<-bZ]
        |none =>
         rw[he] at hv bZ;obtain⟨rfl,rfl⟩:=Jh hv;cases hm:Zp (Q5 env y) bK with
         |some e'=>rw[hm] at bZ;simp only[Z9o] at bZ;simp[bZ]
         |none=>rfl
       .cases hv
      .cases hv
    .cases h
   .cases h
 .rename_i sz x lo hi;split at h
  .rename_i q' hx;split at h
   .rename_i ty k xs nl ho;cases nl with
    |true=>cases h
    |false =>
     obtain rfl:=osj h;have ha:=hG.evs (Gds.nil (tb:=tb)) x;rw[hx] at ha;simp only[SR] at ha;have aq:=hG.obj q';rw[ho] at aq;rcases aq with⟨h0,_⟩|⟨_,i,cap,c,t,h3,h4,h5,h6,h7⟩
     .cases h0
     .refine⟨by rw[two,ho];rfl,i,_,by rw[two,h3];rfl,h5,fun τ hτ=>?_,odd⟩;simp only[Qb,ha.1,h3] at hv |-;cases e1:Wt (Q5 env) lo 0 with
      |none=>rw[e1] at hv;cases hv
      |some a =>
       cases e2:Wt (Q5 env) hi xs.length with
       |none=>rw[e1,e2] at hv;cases hv
       |some b =>
        rw[e1,e2] at hv;simp only[VC,h5] at hv;simp only[VC,hτ];split at hv
        .simp_all
        .cases hv
   .cases h
  .cases h
 .cases h
theorem P5 {r:Nat}{U:Heap}:∀ {l:List (Nat×(Heap->Prop))},YT r U l->∀ {c},c∈l->r<=c.1->c.2 U
 |c::l,h,c',hc,hr=>by
  rcases zB.1 hc with rfl|hc
  .exact h.1 hr
  .exact P5 h.2 hc hr
theorem H_ {B F:Heap}{pl:Nat->Value}{tb:Nat->Option Bool}{s:St}{env:Env}{U:Heap}(hG:Gam P B F pl tb s env U) {gs:List Gd}(hg:Gds tb gs) {o:VOp}(h:Z61 o (gev gs s.env)=true) {u:Value}{σ2:Heap}(hv:Qb o (Q5 env) U=some (u,σ2)) :
  ∀ τ,B.Le τ->Qb o (Q5 env) τ=some (u,τ):=by
 unfold Z61 at h;split at h
 .rename_i agg size a;have ha:=hG.evs hg a;have key:∀ i off,(∃ b,B.get i=some b)->Q5 env a=.pointer (some ⟨i,off,none⟩)->∀ τ,B.Le τ->Qb (.load agg size a) (Q5 env) τ=some (u,τ):=λi off ⟨b,hb⟩ he τ hτ=>by
   simp only[Qb,he,hG.leB.2 _ _ hb] at hv;simp only[Qb,he,hτ.2 _ _ hb]
   grind
  split at h
  .rename_i k l i off hx;rw[hx] at ha;simp only[SR] at ha
   grind
  .rename_i l off hx;rw[hx] at ha;simp only[SR] at ha
   grind
  .cases h
 .cases h
theorem Q94 {C:Cx}{B F:Heap}{pl:Nat->Value}{tb:Nat->Option Bool}{s:St}{env:Env}{U:Heap}(hG:Gam P B F pl tb s env U) {d:Nat}{o:VOp}{K:SV->St->Prop}(h:gn C d o (gev [] s.env) s K) (hc:Q5v o=false) :
  ∃ u U' pl' v s',Qb o (Q5 env) U=some (u,U')/\K v s'/\(Gam P B F pl' tb s' env U'/\Fr (Jg d o (gev [] s.env)) s s' pl pl' U U')/\SR P B pl' tb v u /\
  (Ix o=true->(Qr s'.own (Jg d o (gev [] s.env))).live=true/\pl' (Jg d o (gev [] s.env))=pl (Jg d o (gev [] s.env))/\∃ i es c bK c',pl (Jg d o (gev [] s.env))=.map (some i)/\U.get i=some (.obj (.map es c) true)/\U'.get i=some (.obj (.map bK c') true)/\LkE es bK):=by
 cases he:Ix o with
 |false =>obtain⟨u,U',pl',v,s',h1,h2,h3,h4⟩:=Z8t hG h hc;exact(by grind)
 |true =>
  unfold Ix at he;split at he
  .rename_i mk z m kx;obtain⟨rfl,rfl⟩:=Q9z he;exact False.elim h
  .cases he
def WK (S:VSpecs):List DOper->Env->List Heap->Heap->List (Nat×(Heap->Prop))->(Env->Heap->Prop)->Prop
 |[],env,_,U,_,K=>K env U
 |o::rest,env,hs,U,pend,K=>Jk (Wz env o.guard) λb =>
   vif b (if o.kind=2 then TZ (λR=>vop S o.op env U R) λv U'=>YT hs.length U' pend/\WK S rest (YR env o.dst v) (hs++[U']) U' pend K
     else if o.kind=1 then Jk (Qb o.op (Q5 env) U) λp=>(∀ τ∈hs.drop o.kmin,YK o.op (Q5 env) p.1 τ) /\
      WK S rest (YR env o.dst p.1) hs U (if hs.length<=o.kmax then (o.kmax,YK o.op (Q5 env) p.1)::pend else pend) K
     else Jk (Qb o.op (Q5 env) U) λp=>WK S rest (YR env o.dst p.1) hs U pend K)
    (if o.kind=2 then YT hs.length U pend/\WK S rest (YR env o.dst undef) (hs++[U]) U pend K else WK S rest (YR env o.dst undef) hs U pend K)
theorem Ay {α:Type}{o:Option α}{f g:α->Prop}(h:Jk o f) (uT:∀ a,f a->g a):Jk o g:=by
 cases o with
 |none=>exact h.elim
 |some a=>exact uT a h
theorem VQ {S:VSpecs}{K:Env->Heap->Prop}:∀ {ops:List DOper}{env:Env}{hs:List Heap}{U:Heap}{pend:List (Nat×(Heap->Prop))},WK S ops env hs U pend K->XD S ops env hs U pend K
 |[],_,_,_,_,h=>h
 |o::r,env,hs,U,pend,h=>by
  simp only[WK] at h;simp only[XD];refine Ay h λb h=>⟨λe=>?_,λe=>?_⟩
  .have h:=h.1 e;split at h
   .rename_i hk;rw[z2 hk];obtain⟨v,U',h1,h2,h3⟩:=h;exact .inl ⟨v,U',h1,h2,VQ h3⟩
   .rename_i hk;rw[z0 hk];split at h
    .rename_i bz;rw[z2 bz];exact Ay h λp h=>⟨h.1,VQ h.2⟩
    .rename_i bz;rw[z0 bz];exact Ay h λp h=>VQ h
  .have h:=h.2 e;split at h
   .rename_i hk;rw[z2 hk];exact⟨h.1,VQ h.2⟩
   .rename_i hk;rw[z0 hk];exact VQ h
theorem QN {C:Cx}(aC:COk P C) (bj:C.xs=[]) {B0 F0 D0:Heap}:∀ (ops:List DOper),(∀ o∈ops,o.kind=o.op.kind)->∀ {s:St}{env:Env}{U:Heap}{B F:Heap}{pl:Nat->Value}{tb:Nat->Option Bool},GBase B0 F0 D0 B F U->Gam P B F pl tb s env U->∀ {hl chg:Nat}{A Rd:List (Nat×Option Nat)}{hs:List Heap}{pend pd:List (Nat×(Heap->Prop))},DSt hs U pd hl chg A Rd s.own pl->(∀ c∈pend,(∀ τ,B.Le τ->c.2 τ)\/c∈pd)->(∀ j τ,hs[j]?=some τ->S4 A j=true->B.Le τ)->chg<=hl->0<hl ->
  ∀ {K:St->Prop},Ke C ops s hl chg A Rd K->∀ {R:Env->Heap->Prop},(∀ s' ah U',K s'->GRel P B0 F0 D0 s' ah U'->R ah U')->WK (Q4 P) ops env hs U pend R
 |[],_,s,env,U,B,F,pl,tb,hB,hG,_,_,_,_,_,_,_,_,_,_,_,_,K,h,R,hK=>hK s env U h ⟨B,F,pl,tb,hB,hG⟩
 |o0::r,iI,s,env,U,B,F,pl,tb,hB,hG,hl,chg,A,Rd,hs,pend,pd,hD,hp,b6,eN,bq,K,h,R,hK=>by
  have eH:∀ {n:Nat}{τ:Heap},B.Le τ->YT n τ pd->YT n τ pend:=λ{n τ} hb hv=>N4 λc hc hn=>(by grind [P5]);have snoc:∀ {τ:Heap}{A':List (Nat×Option Nat)},B.Le τ->(∀ j,S4 A' j=true->S4 A j=true)->∀ j τ',(hs++[τ])[j]?=some τ'->S4 A' j=true->B.Le τ':=(by grind);have bY:∀ o∈r,o.kind=o.op.kind:=(by simp_all);have lk:=iI o0 z_;unfold Ke at h;split at h
  .rename_i bn;have hw:=NK hG bn;simp only[WK];rw[hw];refine⟨λe=>(by cases e),λ_=>?_⟩;have bw:=hG.put o0.dst (show SR P B pl tb .any undef by simp[SR]);by_cases aB:o0.kind=2
   .rw[z2 aB] at h |-;obtain⟨k1,k2⟩:=hD.stay;exact⟨eH hG.leB k1,QN aC bj r bY hB bw (by rw[JU];exact k2) hp (snoc hG.leB λ_ h=>h) (by omega) (by omega) h hK⟩
   .rw[z0 aB] at h |-;exact QN aC bj r bY hB bw (by rw[JU];exact hD) hp b6 eN bq h hK
  have bF:(Q6n s.env o0).kind=(Q6n s.env o0).op.kind:=by unfold Q6n;split<;>exact lk
  have d_:WK (Q4 P) (Q6n s.env o0::r) env hs U pend R->WK (Q4 P) (o0::r) env hs U pend R:=λhv=>by
   unfold Q6n at hv;split at hv
   .rename_i bn;simp only[WK] at hv |-;rw[NK hG bn];exact hv
   .exact hv
  refine d_ ?_;clear d_;generalize Q6n s.env o0=o at h bF |-
  replace h:=id h
  simp only[WK];by_cases aB:o.kind=2
  .rw[z2 aB] at h
   have fin:∀ {u:Value}{U':Heap}{ts:List Nat}{v:SV}{s':St}{pl':Nat->Value},(∀ R',R' u U'->vop (Q4 P) o.op env U R')->Ke C r (s'.put o.dst v) (hl+1) (bif ts.isEmpty then chg else hl) (ts.map (λt=>(hl-1,some t))++A) (bif ts.isEmpty then Rd else Rd.map λr=>(r.1,none)) K->Gam P B F pl' tb s' env U'->SR P B pl' tb v u->(ts=[]->U'=U/\pl'=pl/\s'=s)->U.Le U'->Dead U U'->FrL ts s s' pl pl' U U' ->
     TZ (λR=>vop (Q4 P) o.op env U R) λv U'=>YT hs.length U' pend/\WK (Q4 P) r (YR env o.dst v) (hs++[U']) U' pend R:=λ{u U' ts v s' pl'} bC nY bk iW he hle hd df=>by
    cases ts with
    |nil =>obtain⟨rfl,rfl,rfl⟩:=he rfl;obtain⟨k1,k2⟩:=hD.stay;exact⟨u,U',bC _ ⟨rfl,rfl⟩,eH bk.leB k1,QN aC bj r bY (Hh hB hd) (bk.put o.dst iW) (by rw[JU];exact k2) hp (snoc bk.leB λ_ h=>h) (by grind) (by omega) nY hK⟩
    |cons t ts =>obtain⟨k1,k2⟩:=hD.call hle df bq;exact⟨u,U',bC _ ⟨rfl,rfl⟩,eH bk.leB k1,QN aC bj r bY (Hh hB hd) (bk.put o.dst iW) (by rw[JU];exact k2) hp (snoc bk.leB λ_ h=>Ch h) (by simp_all) (by omega) nY hK⟩
   split at h
   .rename_i f args bC;split at h
    .rename_i hg;rw[hg];refine⟨λ_=>?_,λe=>by cases e⟩;rw[z2 aB];rw[bj] at h;simp only[Zm] at h;obtain⟨g,a,b,u,U',e,v,s',pl',h1,h2,h3,h4,h5,h6,h7,h8,h9⟩:=KI aC hG h (show SR P U KR Yz (.fn f [] []) (.func (.func f) #[] #[]) by simp only[SR,SRs];exact⟨[],[],rfl,rfl,rfl⟩) (hG.gcall Gds.nil args);obtain⟨rfl,rfl,rfl⟩:=(by simpa using h1:f=g/\#[]=a/\#[]=b);refine fin (u:=u) (U':=U') (λR' hr=>?_) h3 h4 h5 h6 h7 h8 h9;rw[bC];show VCalled P f (args.map (Q5 env)) U R';have:=h2.mono (R':=R') (by simp_all);simpa using this
    .rename_i j want hg;rw[hg];split at h
     .exact h.elim
     .rename_i gs s1 dL;obtain⟨tb',bk,dA,b,hw,bP,bN⟩:=KE hG dL;have a_:=Nk dL;rw[hw];split at h
      .rename_i cs v dB;cases cP:MY v with
       |false=>rw[cP] at h;exact h.elim
       |true =>
       rw[cP] at h;simp only[ze] at h;obtain⟨h1,h2⟩:=Xa h;obtain⟨k1,k2⟩:=hD.stay;have ld:∀ x,DSt (hs++[U]) U pd (hl+1) chg A Rd (s1.put o.dst x).own pl:=(by grind [JU]);refine⟨λe=>?_,λe=>?_⟩
       .rw[z2 aB];have gm:Gds tb' gs:=λg hg=>⟨bP e g hg,dA g hg⟩;have ll:∀ {v u},SR P B pl tb' v u->SR P B pl tb' (.grd gs (Ry v)) u:=λ{v u} hs=>by
         simp only[SR]
         grind [Ck]
        simp only[gqc] at dB;split at dB
        .rename_i c v' heq;cases dH:v'.ret 0 with
         |false=>rw[dH] at dB;cases dB
         |true =>
          rw[dH] at dB;obtain⟨rfl,rfl⟩:=Jh dB;obtain⟨g,a,b',h3,h4,_⟩:=W8 aC.cs (show SR P U KR Yz (.fn f [] []) (.func (.func f) #[] #[]) by simp only[SR,SRs];exact⟨[],[],rfl,rfl,rfl⟩) (bk.gcall gm args) heq dH rfl (h2 (bP e) _ (by simp));obtain⟨rfl,rfl,rfl⟩:=(by simpa using h3:f=g/\#[]=a/\#[]=b');refine⟨G2 KR v',U,?_,eH hG.leB k1,QN aC bj r bY hB (bk.put o.dst (ll ?_)) (ld _) hp (snoc hG.leB λ_ h=>h) (by omega) (by omega) (X7 h1) hK⟩
          .rw[bC];show VCalled P f (args.map (Q5 env)) U _;have:=h4.mono (R':=λu U'=>u=G2 KR v'/\U'=U) λu U' hr=>by
            obtain⟨rfl,hu⟩:=hr.flat dH
            grind [Gm]
           simpa using this
          .exact SR.retd (λj hj=>by omega) _ _ dH (Oq (P:=P) (pl:=KR) (m:=0) (λj hj=>by omega) v' dH cP)
        .cases dB
       .rw[z2 aB];obtain⟨g,de,aJ⟩:=bN e;exact⟨eH hG.leB k1,QN aC bj r bY hB (bk.put o.dst (by simp only[SR];exact⟨⟨dA,Cr v⟩,λaj=>absurd (aj g de) aJ,λ_=>trivial⟩)) (ld _) hp (snoc hG.leB λ_ h=>h) (by omega) (by omega) (X7 h1) hK⟩
      .split at h
       .rename_i cs v j9;obtain⟨c,ty,k,xs,nl,heq,rfl,rfl,hk,eG⟩:=IX j9;obtain⟨h1,h2⟩:=Xa h;have frz:∀ {B' U':Heap},B'.Le U'->∀ j τ',(hs++[U'])[j]?=some τ'->S4 ((hl-1,none)::A) j=true->B'.Le τ':=λ{B' U'} hb j τ' hm hn=>by
         rcases YW hm with⟨h1,_⟩|⟨_,rfl⟩
         .simp only[S4,zL,z1,zl,zu,Option.isSome_none,zj,or_false] at hn;have:=hD.len;omega
         .exact hb
        refine⟨λe=>?_,λe=>?_⟩
        .rw[z2 aB];have gm:Gds tb' gs:=λg hg=>⟨bP e g hg,dA g hg⟩;have iS:=h2 (bP e) c (by simp);have iT:=h2 (bP e) (nl=true->xs=[]) (by simp);have dL:PQ C (C.off+o.dst.getD 0) (.fn f [] []) (FO s1.own (args.map (gev gs s1.env))) s1 (λts v' s'=>ts=[C.off+o.dst.getD 0]/\v'=.lst (C.off+o.dst.getD 0)/\s'=s1.make (C.off+o.dst.getD 0) (.lst ty k xs nl)):=by
          unfold PQ;rw[heq];dsimp only;have ak:(SV.ret [OB.lst ty k xs nl].length (.lst 0)&&([OB.lst ty k xs nl].all OB.ret&&(Nat.blt 0 C.nt&&([OB.lst ty k xs nl].all OB.isL&&MY (.lst 0)))))=true:=by
           simp only[SV.ret,zV,zL,List.all_nil,xH,OB.ret,hk,Bool.true_and,OB.isL,MY];rw[z1]
           grind [Nat.blt_eq]
          rw[ak];simp only[ze,Q9f,OB.wf];refine⟨iS,iT,?_,?_,?_⟩
          .simp[List.range_succ]
          .simp[SV.ren]
          .simp[St.makes]
         obtain⟨g,a,b',u,U',ts,v',s',pl',h3,h4,⟨rfl,rfl,rfl⟩,h5,h6,_,h7,h8,h9⟩:=KI aC bk dL (show SR P U KR Yz (.fn f [] []) (.func (.func f) #[] #[]) by simp only[SR,SRs];exact⟨[],[],rfl,rfl,rfl⟩) (bk.gcall gm args);obtain⟨rfl,rfl,rfl⟩:=(by simpa using h3:f=g/\#[]=a/\#[]=b');obtain⟨B',F',m1,m2,m3⟩:=Q0r bk.bf hk h5 h6 h8;have df:FrL [C.off+o.dst.getD 0] s ((s1.make (C.off+o.dst.getD 0) .dead).put o.dst (.grd gs (.val (.list k) xs))) pl pl' U U':=λq hq=>by
          obtain⟨f1,f2,f3⟩:=h9 q hq
          grind [JU,Ga]
         obtain⟨k1,k2⟩:=hD.call h7 df bq;refine⟨u,U',?_,eH (m1.b.trans m2.leB) k1,QN aC bj r bY (hB.trans m1) (m2.put o.dst ?_) k2.frozen (λc hc=>(hp c hc).imp (λh τ hτ=>h τ (m1.b.trans hτ)) id) (frz m2.leB) (by omega) (by omega) h1 hK⟩
         .rw[bC];show VCalled P f (args.map (Q5 env)) U _;simpa using h4
         .simp only[SR];exact⟨⟨dA,trivial⟩,λ_=>m3,(by grind)⟩
        .rw[z2 aB];obtain⟨g,de,aJ⟩:=bN e;have df:FrL [C.off+o.dst.getD 0] s ((s1.make (C.off+o.dst.getD 0) .dead).put o.dst (.grd gs (.val (.list k) xs))) pl (Yi pl (C.off+o.dst.getD 0) undef) U U:=λq hq=>by
          have dm:q≠C.off+o.dst.getD 0:=by simpa using hq
          refine⟨?_,by simp[Yi,dm],λ_ _ _=>rfl⟩;rw[JU,Ga _ _ _ dm,a_]
         obtain⟨k1,k2⟩:=hD.call (.refl U) df bq;refine⟨eH hG.leB k1,QN aC bj r bY hB ((bk.make (C.off+o.dst.getD 0) .dead undef bk.le (λ_ _ _ _ _=>rfl) trivial (λi hl _=>by cases hl)).put o.dst ?_) k2.frozen hp (frz hG.leB) (by omega) (by omega) h1 hK⟩;simp only[SR];exact⟨⟨dA,trivial⟩,λaj=>absurd (aj g de) aJ,λ_=>trivial⟩
       .exact h.elim
   .rename_i f args bC;split at h
    .rename_i hg;rw[hg];refine⟨λ_=>?_,λe=>by cases e⟩;rw[z2 aB];obtain⟨g,a,b,u,U',e,v,s',pl',h1,h2,h3,h4,h5,h6,h7,h8,h9⟩:=KI aC hG h (hG.gfun Gds.nil f) (hG.gcall Gds.nil args);refine fin (u:=u) (U':=U') (λR' hr=>?_) h3 h4 h5 h6 h7 h8 h9;rw[bC];exact Hf h1 (h2.mono (R':=R') (by simp_all))
    .exact h.elim
   .exact h.elim
   .exact h.elim
   .exact h.elim
   .exact h.elim
   .rename_i qN pq qO nO ln lq;split at h
    .rename_i hg;rw[hg];refine⟨λ_=>?_,λe=>by cases e⟩;rw[z2 aB];have aF:Q5v o.op=false:=by
      cases ho:o.op<;>first|rfl|(exact absurd ho (qN _ _))|(exact absurd ho (pq _ _))|skip
      case ext x=>cases x<;>first|rfl|(exact absurd ho (qO _))|(exact absurd ho (nO _))|(exact absurd ho (ln _))|(exact absurd ho (lq _))
     cases j8:Q1l C (o.dst.getD 0) o.op (gev [] s.env) with
     |true =>
      rw[j8] at h;simp only[ze] at h;cases hm:Q6y (E0 o.op) Rd hl (Q2z (C.off+o.dst.getD 0) o.op (gev [] s.env)) with
      |false=>rw[hm] at h;exact h.elim
      |true =>
       rw[hm] at h;simp only[ze] at h;obtain⟨u,U',pl',v,s',h1,h2,⟨h3,gk⟩,h4⟩:=CN (λx=>hG.evs (Gds.nil (tb:=tb)) x) hG h;have fW:∀ R',R' u U'->vop (Q4 P) o.op env U R':=λR' hr=>by
        have:vop (Q4 P) o.op env U R'=Jk (Qb o.op (Q5 env) U) λp=>R' p.1 p.2:=by
         cases ho:o.op with
         |callF f a=>rw[ho] at aF;cases aF
         |callV f a=>rw[ho] at aF;cases aF
         |ext x =>
          cases x with
          |nextMap y=>rw[ho] at h1;cases h1
          |_=>rfl
         |_=>rfl
        rw[this,h1];exact hr
       obtain⟨k1,k2⟩:=hD.writeD gk (λdq=>Ou dq h1) hm bq;exact⟨u,U',fW _ ⟨rfl,rfl⟩,eH h3.leB k1,QN aC bj r bY (Hh hB (M1 h1)) (h3.put o.dst h4) (by rw[JU];exact k2) hp (snoc h3.leB λ_ h=>Ch h) (by omega) (by omega) h2 hK⟩
     |false =>
     rw[j8] at h;simp only[zF] at h;cases hm:((E0 o.op&&Q1n Rd hl (Jg (C.off+o.dst.getD 0) o.op (gev [] s.env)))||IH Rd hl (Jg (C.off+o.dst.getD 0) o.op (gev [] s.env))||(Ix o.op&&Z63 Rd hl (Jg (C.off+o.dst.getD 0) o.op (gev [] s.env)))) with
     |false=>rw[hm] at h;exact h.elim
     |true =>
      rw[hm] at h;simp only[ze] at h;obtain⟨u,U',pl',v,s',h1,h2,⟨h3,gk⟩,h4,hE⟩:=Q94 hG h aF;have fW:∀ R',R' u U'->vop (Q4 P) o.op env U R':=λR' hr=>by
       have:vop (Q4 P) o.op env U R'=Jk (Qb o.op (Q5 env) U) λp=>R' p.1 p.2:=by
        cases ho:o.op with
        |callF f a=>rw[ho] at aF;cases aF
        |callV f a=>rw[ho] at aF;cases aF
        |ext x =>
         cases x with
         |nextMap y=>rw[ho] at h1;cases h1
         |_=>rfl
        |_=>rfl
       rw[this,h1];exact hr
      obtain⟨k1,k2⟩:=hD.write gk (λdq=>Ou dq h1) hE hm bq;exact⟨u,U',fW _ ⟨rfl,rfl⟩,eH h3.leB k1,QN aC bj r bY (Hh hB (M1 h1)) (h3.put o.dst h4) (by rw[JU];exact k2) hp (snoc h3.leB λ_ h=>Ej h) (by omega) (by omega) h2 hK⟩
    .exact h.elim
  .rw[z0 aB] at h;have lr:o.op.kind≠2:=by rw[<-bF];exact aB
   by_cases bz:o.kind=1
   .rw[z2 bz] at h
    have rd:∀ (rq:Option Nat),(∀ q,rq=some q->Hu o.op (gev [] s.env) s.own=some q)->(Nat.ble chg o.kmin||E2 A o.kmin rq)=true->gd1 C o s (λs'=>Ke C r s' hl chg A ((o.kmax,rq)::Rd) K) ->
      Jk (Wz env o.guard) λb=>vif b (if o.kind=2 then TZ (λR=>vop (Q4 P) o.op env U R) λv U'=>YT hs.length U' pend/\WK (Q4 P) r (YR env o.dst v) (hs++[U']) U' pend R
       else if o.kind=1 then Jk (Qb o.op (Q5 env) U) λp=>(∀ τ∈hs.drop o.kmin,YK o.op (Q5 env) p.1 τ) /\
        WK (Q4 P) r (YR env o.dst p.1) hs U (if hs.length<=o.kmax then (o.kmax,YK o.op (Q5 env) p.1)::pend else pend) R
       else Jk (Qb o.op (Q5 env) U) λp=>WK (Q4 P) r (YR env o.dst p.1) hs U pend R)
      (if o.kind=2 then YT hs.length U pend/\WK (Q4 P) r (YR env o.dst undef) (hs++[U]) U pend R else WK (Q4 P) r (YR env o.dst undef) hs U pend R):=λrq nZ hc h=>by
     obtain⟨b,hw,h1,h2⟩:=GH hG h;rw[hw];have lu:DSt hs U pd hl chg A ((o.kmax,rq)::Rd) s.own pl:=⟨hD.len,hD.same,λc hc=>(hD.pend c hc).imp id (by simp_all),hD.fr⟩;refine⟨λe=>?_,λe=>?_⟩
     .obtain⟨u,s',tb',h3,h4,a_,h5⟩:=h1 e;rw[z0 aB,z2 bz,h3];refine⟨fun τ hτ=>?_,?_⟩
      .obtain⟨j,hj⟩:=zU.1 hτ;rw[zN] at hj;rw[zl] at hc;rcases hc with hc|hc
       .have:=hD.same (o.kmin+j) τ (by have:=zp hc;omega) hj;subst this;exact W6 h3
       .unfold E2 at hc;split at hc
        .rename_i q;obtain⟨k1,i,bl,k2,k3,k4,k5⟩:=N0 hG (nZ q rfl) h3;have hu:JV A (o.kmin+j) (q / 2)=true:=by
          simp only[JV,z8,zl,zu] at hc |-
          grind
         have:=hD.fr (o.kmin+j) τ (q / 2) i hj hu k1 k2
         grind [W6]
        .cases hc
      .by_cases hle:hs.length<=o.kmax
       .rw[z2 hle];refine QN aC bj r bY hB h5 (A:=A) (Rd:=(o.kmax,rq)::Rd) (hl:=hl) (chg:=chg) (pd:=(o.kmax,YK o.op (Q5 env) u)::pd) ?_ (λc hc=>?_) b6 eN bq h4 hK
        .rw[a_];refine⟨hD.len,hD.same,λc hc=>?_,hD.fr⟩;rcases zB.1 hc with rfl|hc
         .refine .inr ⟨_,z_,z4 _,?_⟩;cases rq with
          |none=>exact fun τ hτ=>W6 (CT lr h3 hτ)
          |some q =>obtain⟨k1,i,bl,k2,k3,k4,k5⟩:=N0 hG (nZ q rfl) h3;exact⟨k1,i,bl,k2,k3,fun τ ht=>W6 (k4 τ ht),(by grind [W6])⟩
         .exact lu.pend c hc
        grind
       .rw[z0 hle];exact QN aC bj r bY hB h5 (A:=A) (Rd:=(o.kmax,rq)::Rd) (hl:=hl) (chg:=chg) (pd:=pd) (by rw[a_];exact lu) hp b6 eN bq h4 hK
     .obtain⟨s',tb',h4,a_,h5⟩:=h2 e;rw[z0 aB];exact QN aC bj r bY hB h5 (by rw[a_];exact lu) hp b6 eN bq h4 hK
    have ro:S4 A o.kmin=true->(∀ u,Qb o.op (Q5 env) U=some (u,U)->(Wz env o.guard=some true)->∀ τ,B.Le τ->Qb o.op (Q5 env) τ=some (u,τ))->gd1 C o s (λs'=>Ke C r s' hl chg A Rd K) ->
      Jk (Wz env o.guard) λb=>vif b (if o.kind=2 then TZ (λR=>vop (Q4 P) o.op env U R) λv U'=>YT hs.length U' pend/\WK (Q4 P) r (YR env o.dst v) (hs++[U']) U' pend R
       else if o.kind=1 then Jk (Qb o.op (Q5 env) U) λp=>(∀ τ∈hs.drop o.kmin,YK o.op (Q5 env) p.1 τ) /\
        WK (Q4 P) r (YR env o.dst p.1) hs U (if hs.length<=o.kmax then (o.kmax,YK o.op (Q5 env) p.1)::pend else pend) R
       else Jk (Qb o.op (Q5 env) U) λp=>WK (Q4 P) r (YR env o.dst p.1) hs U pend R)
      (if o.kind=2 then YT hs.length U pend/\WK (Q4 P) r (YR env o.dst undef) (hs++[U]) U pend R else WK (Q4 P) r (YR env o.dst undef) hs U pend R):=λlx bU h=>by
     obtain⟨b,hw,h1,h2⟩:=GH hG h;rw[hw];refine⟨λe=>?_,λe=>?_⟩
     .obtain⟨u,s',tb',h3,h4,a_,h5⟩:=h1 e;have bU:=bU u h3 (by rw[hw,e]);rw[z0 aB,z2 bz,h3];refine⟨fun τ hτ=>?_,?_⟩
      .obtain⟨j,hj⟩:=zU.1 hτ;rw[zN] at hj;refine W6 (bU τ (b6 _ τ hj ?_));simp only[S4,z8,zl,zu] at lx |-
       grind
      refine QN aC bj r bY hB h5 (A:=A) (Rd:=Rd) (hl:=hl) (chg:=chg) (pd:=pd) (by rw[a_];exact hD) (λc hc=>?_) b6 eN bq h4 hK;split at hc
      .rcases zB.1 hc with rfl|hc
       .grind [W6]
       .exact hp c hc
      .exact hp c hc
     .obtain⟨s',tb',h4,a_,h5⟩:=h2 e;rw[z0 aB];exact QN aC bj r bY hB h5 (by rw[a_];exact hD) hp b6 eN bq h4 hK
    split at h
    .rename_i hg;cases hr:(Z61 o.op (gev [] s.env)&&S4 A o.kmin) with
     |true =>rw[hr] at h;rw[z1] at hr;exact ro hr.2 (λu hu _=>H_ hG Gds.nil hr.1 hu) h
     |false =>
     rw[hr] at h;simp only[zF] at h;cases hb:(Nat.ble chg o.kmin||E2 A o.kmin (Hu o.op (gev [] s.env) s.own)) with
     |false=>rw[hb] at h;exact h.elim
     |true =>rw[hb] at h;exact rd _ (λq hq=>hq) hb h
    .rename_i j want hg;cases hr:(Q9t s j want o.op&&S4 A o.kmin) with
     |true =>
      rw[hr] at h;rw[z1] at hr;obtain⟨hr,lx⟩:=hr;refine ro lx (λu hu hw=>?_) h;unfold Q9t at hr;split at hr
      .rename_i gs s1 dL;obtain⟨tb',bk,dA,b,gA,bP,bN⟩:=KE hG dL;rw[hg,gA] at hw;have e:=osj hw;exact H_ bk (λg hg=>⟨bP e g hg,dA g hg⟩) hr hu
      .cases hr
     |false =>
     rw[hr] at h;simp only[zF] at h;cases hb:Nat.ble chg o.kmin with
     |false=>rw[hb] at h;exact h.elim
     |true =>rw[hb] at h;exact rd none (λq hq=>by cases hq) (by rw[hb];rfl) h
   .rw[z0 bz] at h;obtain⟨b,hw,h1,h2⟩:=GH hG h;rw[hw];refine⟨λe=>?_,λe=>?_⟩
    .obtain⟨u,s',tb',h3,h4,a_,h5⟩:=h1 e;rw[z0 aB,z0 bz,h3];exact QN aC bj r bY hB h5 (by rw[a_];exact hD) hp b6 eN bq h4 hK
    .obtain⟨s',tb',h4,a_,h5⟩:=h2 e;rw[z0 aB];exact QN aC bj r bY hB h5 (by rw[a_];exact hD) hp b6 eN bq h4 hK
theorem QS {C:Cx}(aC:COk P C) {B0 F0 D0:Heap}:∀ (ops:List DOper),(∀ o∈ops,o.kind=o.op.kind)->∀ {s:St}{env:Env}{U:Heap}{B F:Heap}{pl:Nat->Value}{tb:Nat->Option Bool},GBase B0 F0 D0 B F U->Gam P B F pl tb s env U->∀ {hl chg:Nat}{A Rd:List (Nat×Option Nat)}{hs:List Heap}{pend pd:List (Nat×(Heap->Prop))},DSt hs U pd hl chg A Rd s.own pl->(∀ c∈pend,(∀ τ,B.Le τ->c.2 τ)\/c∈pd)->(∀ j τ,hs[j]?=some τ->S4 A j=true->B.Le τ)->chg<=hl->0<hl ->
  ∀ {K:St->Prop},Ke C ops s hl chg A Rd K->∀ {R:Env->Heap->Prop},(∀ s' ah U',K s'->GRel P B0 F0 D0 s' ah U'->R ah U')->XD (Q4 P) ops env hs U pend R
 |[],_,s,env,U,B,F,pl,tb,hB,hG,_,_,_,_,_,_,_,_,_,_,_,_,K,h,R,hK=>hK s env U h ⟨B,F,pl,tb,hB,hG⟩
 |o0::r,iI,s,env,U,B,F,pl,tb,hB,hG,hl,chg,A,Rd,hs,pend,pd,hD,hp,b6,eN,bq,K,h,R,hK=>by
  have eH:∀ {n:Nat}{τ:Heap},B.Le τ->YT n τ pd->YT n τ pend:=λ{n τ} hb hv=>N4 λc hc hn=>(by grind [P5]);have snoc:∀ {τ:Heap}{A':List (Nat×Option Nat)},B.Le τ->(∀ j,S4 A' j=true->S4 A j=true)->∀ j τ',(hs++[τ])[j]?=some τ'->S4 A' j=true->B.Le τ':=(by grind);have bY:∀ o∈r,o.kind=o.op.kind:=(by simp_all);have lk:=iI o0 z_;unfold Ke at h;split at h
  .rename_i bn;have hw:=NK hG bn;simp only[XD];rw[hw];refine⟨λe=>(by cases e),λ_=>?_⟩;have bw:=hG.put o0.dst (show SR P B pl tb .any undef by simp[SR]);by_cases aB:o0.kind=2
   .rw[z2 aB] at h |-;obtain⟨k1,k2⟩:=hD.stay;exact⟨eH hG.leB k1,QS aC r bY hB bw (by rw[JU];exact k2) hp (snoc hG.leB λ_ h=>h) (by omega) (by omega) h hK⟩
   .rw[z0 aB] at h |-;exact QS aC r bY hB bw (by rw[JU];exact hD) hp b6 eN bq h hK
  have bF:(Q6n s.env o0).kind=(Q6n s.env o0).op.kind:=by unfold Q6n;split<;>exact lk
  have d_:XD (Q4 P) (Q6n s.env o0::r) env hs U pend R->XD (Q4 P) (o0::r) env hs U pend R:=λhv=>by
   unfold Q6n at hv;split at hv
   .rename_i bn;simp only[XD] at hv |-;rw[NK hG bn];exact hv
   .exact hv
  refine d_ ?_;clear d_;generalize Q6n s.env o0=o at h bF |-
  replace h:=id h
  simp only[XD];by_cases aB:o.kind=2
  .rw[z2 aB] at h
   have fin:∀ {u:Value}{U':Heap}{ts:List Nat}{v:SV}{s':St}{pl':Nat->Value},(∀ R',R' u U'->vop (Q4 P) o.op env U R')->Ke C r (s'.put o.dst v) (hl+1) (bif ts.isEmpty then chg else hl) (ts.map (λt=>(hl-1,some t))++A) (bif ts.isEmpty then Rd else Rd.map λr=>(r.1,none)) K->Gam P B F pl' tb s' env U'->SR P B pl' tb v u->(ts=[]->U'=U/\pl'=pl/\s'=s)->U.Le U'->Dead U U'->FrL ts s s' pl pl' U U' ->
     TZ (λR=>vop (Q4 P) o.op env U R) λv U'=>YT hs.length U' pend/\XD (Q4 P) r (YR env o.dst v) (hs++[U']) U' pend R:=λ{u U' ts v s' pl'} bC nY bk iW he hle hd df=>by
    cases ts with
    |nil =>obtain⟨rfl,rfl,rfl⟩:=he rfl;obtain⟨k1,k2⟩:=hD.stay;exact⟨u,U',bC _ ⟨rfl,rfl⟩,eH bk.leB k1,QS aC r bY (Hh hB hd) (bk.put o.dst iW) (by rw[JU];exact k2) hp (snoc bk.leB λ_ h=>h) (by grind) (by omega) nY hK⟩
    |cons t ts =>obtain⟨k1,k2⟩:=hD.call hle df bq;exact⟨u,U',bC _ ⟨rfl,rfl⟩,eH bk.leB k1,QS aC r bY (Hh hB hd) (bk.put o.dst iW) (by rw[JU];exact k2) hp (snoc bk.leB λ_ h=>Ch h) (by simp_all) (by omega) nY hK⟩
   split at h
   .rename_i f args bC;split at h
    .rename_i hg;rw[hg];refine⟨λ_=>?_,λe=>by cases e⟩;rw[z2 aB]
     have n6:∀ {K':List Nat->SV->St->Prop},PQ C (C.off+o.dst.getD 0) (.fn f [] []) (FO s.own (args.map (gev [] s.env))) s K'->(∀ ts v s',K' ts v s'->Ke C r (s'.put o.dst v) (hl+1) (bif ts.isEmpty then chg else hl) (ts.map (λt=>(hl-1,some t))++A) (bif ts.isEmpty then Rd else Rd.map λr=>(r.1,none)) K) ->
       TZ (λR=>vop (Q4 P) o.op env U R) λv U'=>YT hs.length U' pend/\XD (Q4 P) r (YR env o.dst v) (hs++[U']) U' pend R:=λ{K'} h qP=>by
      obtain⟨g,a,b,u,U',e,v,s',pl',h1,h2,h3,h4,h5,h6,h7,h8,h9⟩:=KI aC hG h (show SR P U KR Yz (.fn f [] []) (.func (.func f) #[] #[]) by simp only[SR,SRs];exact⟨[],[],rfl,rfl,rfl⟩) (hG.gcall Gds.nil args);obtain⟨rfl,rfl,rfl⟩:=(by simpa using h1:f=g/\#[]=a/\#[]=b);refine fin (u:=u) (U':=U') (λR' hr=>?_) (qP _ _ _ h3) h4 h5 h6 h7 h8 h9;rw[bC];show VCalled P f (args.map (Q5 env)) U R';have:=h2.mono (R':=R') (by simp_all);simpa using this
     split at h
     .rename_i x hx;split at h
      .rename_i jf uU;split at h
       .rename_i tt uV;cases gK:(waits o.dst.toList r&&Q6y false Rd hl [tt]) with
        |false=>rw[gK] at h;exact h.elim
        |true =>rw[gK] at h;simp only[ze] at h;rw[z1] at gK;refine .inr ⟨gK.1,?_⟩;rw[bC];show VCalled P f (args.map (Q5 env)) U _;refine aC.xf f jf uU x hx B F pl tb s env U _ _ _ _ _ tt hG (SRs.map λx _=>hG.evs Gds.nil x) uV h λv s' u U' k1 k2 k3 k4 k5=>?_;obtain⟨q1,q2⟩:=hD.writeD k5 (mk:=false) (λh=>by cases h) gK.2 bq;exact⟨eH k3.leB q1,QS aC r bY (Hh hB k2) (k3.put o.dst k4) (by rw[JU];exact q2) hp (snoc k3.leB λ_ h=>Ej h) (by omega) (by omega) k1 hK⟩
       .exact h.elim
      .cases gK:(waits o.dst.toList r&&Rd.all (λq=>Nat.blt q.1 hl)) with
       |false=>rw[gK] at h;simp only[zF] at h;exact .inl (n6 h λ_ _ _ h=>h)
       |true =>
        rw[gK] at h;simp only[ze] at h;rw[z1] at gK;refine .inr ⟨gK.1,?_⟩;rw[bC];show VCalled P f (args.map (Q5 env)) U _;have aD:∀ args:List Operand,SRs P B pl tb (args.map (gev [] s.env)) (args.map (Q5 env)):=λargs=>SRs.map λx _=>hG.evs Gds.nil x;refine aC.xs f x hx B F pl tb s env U _ _ _ _ _ hG (aD args) h λv s' B' F' pl' tb' u U' k1 k2 k3 k4=>?_;have aj:∀ c∈pd,c.1<hl:=λc hc=>by
         rcases hD.pend c hc with h1|⟨q,h1,h2,_⟩
         .exact h1
         grind [List.all_eq_true,Nat.blt_eq]
        have jO:YT hs.length U' pd:=N4 λc hc hle=>by have:=aj c hc;have:=hD.len;omega
        have qQ:YT hs.length U' pend:=N4 λc hc hn=>(hp c hc).elim (λh=>h U' (k2.b.trans k3.leB)) λh=>P5 jO h hn;refine⟨qQ,QS aC r bY (hB.trans k2) (k3.put o.dst k4) (pd:=pd) ⟨by simp[hD.len],λj τ hj ht=>?_,(by grind),λj τ q i ht hu cf hi=>?_⟩ (λc hc=>(hp c hc).imp (λh τ hτ=>h τ (k2.b.trans hτ)) id) (λj τ ht hn=>?_) (by omega) (by omega) k1 hK⟩
        .rcases YW ht with⟨h1,_⟩|⟨_,h1⟩
         .rw[hD.len] at h1;omega
         .exact h1
        .rcases YW ht with⟨h1,_⟩|⟨_,h1⟩
         .exfalso;rw[hD.len] at h1;simp only[JV,zL,z1,zl,zu,zj,or_false] at hu;omega
         .rw[h1]
        .rcases YW ht with⟨h1,_⟩|⟨_,h1⟩
         .exfalso;rw[hD.len] at h1;simp only[S4,zL,z1,zl,zu,Option.isSome_none,zj,or_false] at hn;omega
         .rw[h1];exact k3.leB
     .exact .inl (n6 h λ_ _ _ h=>h)
    .rename_i j want hg;rw[hg];split at h
     .exact h.elim
     .rename_i gs s1 dL;obtain⟨tb',bk,dA,b,hw,bP,bN⟩:=KE hG dL;have a_:=Nk dL;rw[hw];split at h
      .rename_i cs v dB;cases cP:MY v with
       |false=>rw[cP] at h;exact h.elim
       |true =>
       rw[cP] at h;simp only[ze] at h;obtain⟨h1,h2⟩:=Xa h;obtain⟨k1,k2⟩:=hD.stay;have ld:∀ x,DSt (hs++[U]) U pd (hl+1) chg A Rd (s1.put o.dst x).own pl:=(by grind [JU]);refine⟨λe=>?_,λe=>?_⟩
       .rw[z2 aB];have gm:Gds tb' gs:=λg hg=>⟨bP e g hg,dA g hg⟩;have ll:∀ {v u},SR P B pl tb' v u->SR P B pl tb' (.grd gs (Ry v)) u:=λ{v u} hs=>by
         simp only[SR]
         grind [Ck]
        simp only[gqc] at dB;split at dB
        .rename_i c v' heq;cases dH:v'.ret 0 with
         |false=>rw[dH] at dB;cases dB
         |true =>
          rw[dH] at dB;obtain⟨rfl,rfl⟩:=Jh dB;obtain⟨g,a,b',h3,h4,_⟩:=W8 aC.cs (show SR P U KR Yz (.fn f [] []) (.func (.func f) #[] #[]) by simp only[SR,SRs];exact⟨[],[],rfl,rfl,rfl⟩) (bk.gcall gm args) heq dH rfl (h2 (bP e) _ (by simp));obtain⟨rfl,rfl,rfl⟩:=(by simpa using h3:f=g/\#[]=a/\#[]=b');refine .inl ⟨G2 KR v',U,?_,eH hG.leB k1,QS aC r bY hB (bk.put o.dst (ll ?_)) (ld _) hp (snoc hG.leB λ_ h=>h) (by omega) (by omega) (X7 h1) hK⟩
          .rw[bC];show VCalled P f (args.map (Q5 env)) U _;have:=h4.mono (R':=λu U'=>u=G2 KR v'/\U'=U) λu U' hr=>by
            obtain⟨rfl,hu⟩:=hr.flat dH
            grind [Gm]
           simpa using this
          .exact SR.retd (λj hj=>by omega) _ _ dH (Oq (P:=P) (pl:=KR) (m:=0) (λj hj=>by omega) v' dH cP)
        .cases dB
       .rw[z2 aB];obtain⟨g,de,aJ⟩:=bN e;exact⟨eH hG.leB k1,QS aC r bY hB (bk.put o.dst (by simp only[SR];exact⟨⟨dA,Cr v⟩,λaj=>absurd (aj g de) aJ,λ_=>trivial⟩)) (ld _) hp (snoc hG.leB λ_ h=>h) (by omega) (by omega) (X7 h1) hK⟩
      .split at h
       .rename_i cs v j9;obtain⟨c,ty,k,xs,nl,heq,rfl,rfl,hk,eG⟩:=IX j9;obtain⟨h1,h2⟩:=Xa h;have frz:∀ {B' U':Heap},B'.Le U'->∀ j τ',(hs++[U'])[j]?=some τ'->S4 ((hl-1,none)::A) j=true->B'.Le τ':=λ{B' U'} hb j τ' hm hn=>by
         rcases YW hm with⟨h1,_⟩|⟨_,rfl⟩
         .simp only[S4,zL,z1,zl,zu,Option.isSome_none,zj,or_false] at hn;have:=hD.len;omega
         .exact hb
        refine⟨λe=>?_,λe=>?_⟩
        .rw[z2 aB];have gm:Gds tb' gs:=λg hg=>⟨bP e g hg,dA g hg⟩;have iS:=h2 (bP e) c (by simp);have iT:=h2 (bP e) (nl=true->xs=[]) (by simp);have dL:PQ C (C.off+o.dst.getD 0) (.fn f [] []) (FO s1.own (args.map (gev gs s1.env))) s1 (λts v' s'=>ts=[C.off+o.dst.getD 0]/\v'=.lst (C.off+o.dst.getD 0)/\s'=s1.make (C.off+o.dst.getD 0) (.lst ty k xs nl)):=by
          unfold PQ;rw[heq];dsimp only;have ak:(SV.ret [OB.lst ty k xs nl].length (.lst 0)&&([OB.lst ty k xs nl].all OB.ret&&(Nat.blt 0 C.nt&&([OB.lst ty k xs nl].all OB.isL&&MY (.lst 0)))))=true:=by
           simp only[SV.ret,zV,zL,List.all_nil,xH,OB.ret,hk,Bool.true_and,OB.isL,MY];rw[z1]
           grind [Nat.blt_eq]
          rw[ak];simp only[ze,Q9f,OB.wf];refine⟨iS,iT,?_,?_,?_⟩
          .simp[List.range_succ]
          .simp[SV.ren]
          .simp[St.makes]
         obtain⟨g,a,b',u,U',ts,v',s',pl',h3,h4,⟨rfl,rfl,rfl⟩,h5,h6,_,h7,h8,h9⟩:=KI aC bk dL (show SR P U KR Yz (.fn f [] []) (.func (.func f) #[] #[]) by simp only[SR,SRs];exact⟨[],[],rfl,rfl,rfl⟩) (bk.gcall gm args);obtain⟨rfl,rfl,rfl⟩:=(by simpa using h3:f=g/\#[]=a/\#[]=b');obtain⟨B',F',m1,m2,m3⟩:=Q0r bk.bf hk h5 h6 h8;have df:FrL [C.off+o.dst.getD 0] s ((s1.make (C.off+o.dst.getD 0) .dead).put o.dst (.grd gs (.val (.list k) xs))) pl pl' U U':=λq hq=>by
          obtain⟨f1,f2,f3⟩:=h9 q hq
          grind [JU,Ga]
         obtain⟨k1,k2⟩:=hD.call h7 df bq;refine .inl ⟨u,U',?_,eH (m1.b.trans m2.leB) k1,QS aC r bY (hB.trans m1) (m2.put o.dst ?_) k2.frozen (λc hc=>(hp c hc).imp (λh τ hτ=>h τ (m1.b.trans hτ)) id) (frz m2.leB) (by omega) (by omega) h1 hK⟩
         .rw[bC];show VCalled P f (args.map (Q5 env)) U _;simpa using h4
         .simp only[SR];exact⟨⟨dA,trivial⟩,λ_=>m3,(by grind)⟩
        .rw[z2 aB];obtain⟨g,de,aJ⟩:=bN e;have df:FrL [C.off+o.dst.getD 0] s ((s1.make (C.off+o.dst.getD 0) .dead).put o.dst (.grd gs (.val (.list k) xs))) pl (Yi pl (C.off+o.dst.getD 0) undef) U U:=λq hq=>by
          have dm:q≠C.off+o.dst.getD 0:=by simpa using hq
          refine⟨?_,by simp[Yi,dm],λ_ _ _=>rfl⟩;rw[JU,Ga _ _ _ dm,a_]
         obtain⟨k1,k2⟩:=hD.call (.refl U) df bq;refine⟨eH hG.leB k1,QS aC r bY hB ((bk.make (C.off+o.dst.getD 0) .dead undef bk.le (λ_ _ _ _ _=>rfl) trivial (λi hl _=>by cases hl)).put o.dst ?_) k2.frozen hp (frz hG.leB) (by omega) (by omega) h1 hK⟩;simp only[SR];exact⟨⟨dA,trivial⟩,λaj=>absurd (aj g de) aJ,λ_=>trivial⟩
       .exact h.elim
   .rename_i f args bC;split at h
    .rename_i hg;rw[hg];refine⟨λ_=>?_,λe=>by cases e⟩;rw[z2 aB];refine .inl ?_;obtain⟨g,a,b,u,U',e,v,s',pl',h1,h2,h3,h4,h5,h6,h7,h8,h9⟩:=KI aC hG h (hG.gfun Gds.nil f) (hG.gcall Gds.nil args);refine fin (u:=u) (U':=U') (λR' hr=>?_) h3 h4 h5 h6 h7 h8 h9;rw[bC];exact Hf h1 (h2.mono (R':=R') (by simp_all))
    .exact h.elim
   .exact h.elim
   .exact h.elim
   .exact h.elim
   .exact h.elim
   .rename_i qN pq qO nO ln lq;split at h
    .rename_i hg;rw[hg];refine⟨λ_=>?_,λe=>by cases e⟩;rw[z2 aB];have aF:Q5v o.op=false:=by
      cases ho:o.op<;>first|rfl|(exact absurd ho (qN _ _))|(exact absurd ho (pq _ _))|skip
      case ext x=>cases x<;>first|rfl|(exact absurd ho (qO _))|(exact absurd ho (nO _))|(exact absurd ho (ln _))|(exact absurd ho (lq _))
     cases j8:Q1l C (o.dst.getD 0) o.op (gev [] s.env) with
     |true =>
      rw[j8] at h;simp only[ze] at h;cases hm:Q6y (E0 o.op) Rd hl (Q2z (C.off+o.dst.getD 0) o.op (gev [] s.env)) with
      |false=>rw[hm] at h;exact h.elim
      |true =>
       rw[hm] at h;simp only[ze] at h;obtain⟨u,U',pl',v,s',h1,h2,⟨h3,gk⟩,h4⟩:=CN (λx=>hG.evs (Gds.nil (tb:=tb)) x) hG h;have fW:∀ R',R' u U'->vop (Q4 P) o.op env U R':=λR' hr=>by
        have:vop (Q4 P) o.op env U R'=Jk (Qb o.op (Q5 env) U) λp=>R' p.1 p.2:=by
         cases ho:o.op with
         |callF f a=>rw[ho] at aF;cases aF
         |callV f a=>rw[ho] at aF;cases aF
         |ext x =>
          cases x with
          |nextMap y=>rw[ho] at h1;cases h1
          |_=>rfl
         |_=>rfl
        rw[this,h1];exact hr
       obtain⟨k1,k2⟩:=hD.writeD gk (λdq=>Ou dq h1) hm bq;exact .inl ⟨u,U',fW _ ⟨rfl,rfl⟩,eH h3.leB k1,QS aC r bY (Hh hB (M1 h1)) (h3.put o.dst h4) (by rw[JU];exact k2) hp (snoc h3.leB λ_ h=>Ch h) (by omega) (by omega) h2 hK⟩
     |false =>
     rw[j8] at h;simp only[zF] at h;cases hm:((E0 o.op&&Q1n Rd hl (Jg (C.off+o.dst.getD 0) o.op (gev [] s.env)))||IH Rd hl (Jg (C.off+o.dst.getD 0) o.op (gev [] s.env))||(Ix o.op&&Z63 Rd hl (Jg (C.off+o.dst.getD 0) o.op (gev [] s.env)))) with
     |false=>rw[hm] at h;exact h.elim
     |true =>
      rw[hm] at h;simp only[ze] at h;obtain⟨u,U',pl',v,s',h1,h2,⟨h3,gk⟩,h4,hE⟩:=Q94 hG h aF;have fW:∀ R',R' u U'->vop (Q4 P) o.op env U R':=λR' hr=>by
       have:vop (Q4 P) o.op env U R'=Jk (Qb o.op (Q5 env) U) λp=>R' p.1 p.2:=by
        cases ho:o.op with
        |callF f a=>rw[ho] at aF;cases aF
        |callV f a=>rw[ho] at aF;cases aF
        |ext x =>
         cases x with
         |nextMap y=>rw[ho] at h1;cases h1
         |_=>rfl
        |_=>rfl
       rw[this,h1];exact hr
      obtain⟨k1,k2⟩:=hD.write gk (λdq=>Ou dq h1) hE hm bq;exact .inl ⟨u,U',fW _ ⟨rfl,rfl⟩,eH h3.leB k1,QS aC r bY (Hh hB (M1 h1)) (h3.put o.dst h4) (by rw[JU];exact k2) hp (snoc h3.leB λ_ h=>Ej h) (by omega) (by omega) h2 hK⟩
    .exact h.elim
  .rw[z0 aB] at h;have lr:o.op.kind≠2:=by rw[<-bF];exact aB
   by_cases bz:o.kind=1
   .rw[z2 bz] at h
    have rd:∀ (rq:Option Nat),(∀ q,rq=some q->Hu o.op (gev [] s.env) s.own=some q)->(Nat.ble chg o.kmin||E2 A o.kmin rq)=true->gd1 C o s (λs'=>Ke C r s' hl chg A ((o.kmax,rq)::Rd) K) ->
      Jk (Wz env o.guard) λb=>vif b (if o.kind=2 then (TZ (λR=>vop (Q4 P) o.op env U R) λv U'=>YT hs.length U' pend/\XD (Q4 P) r (YR env o.dst v) (hs++[U']) U' pend R)\/(waits o.dst.toList r=true/\vop (Q4 P) o.op env U λv U'=>YT hs.length U' pend/\XD (Q4 P) r (YR env o.dst v) (hs++[U']) U' pend R)
       else if o.kind=1 then Jk (Qb o.op (Q5 env) U) λp=>(∀ τ∈hs.drop o.kmin,YK o.op (Q5 env) p.1 τ) /\
        XD (Q4 P) r (YR env o.dst p.1) hs U (if hs.length<=o.kmax then (o.kmax,YK o.op (Q5 env) p.1)::pend else pend) R
       else Jk (Qb o.op (Q5 env) U) λp=>XD (Q4 P) r (YR env o.dst p.1) hs U pend R)
      (if o.kind=2 then YT hs.length U pend/\XD (Q4 P) r (YR env o.dst undef) (hs++[U]) U pend R else XD (Q4 P) r (YR env o.dst undef) hs U pend R):=λrq nZ hc h=>by
     obtain⟨b,hw,h1,h2⟩:=GH hG h;rw[hw];have lu:DSt hs U pd hl chg A ((o.kmax,rq)::Rd) s.own pl:=⟨hD.len,hD.same,λc hc=>(hD.pend c hc).imp id (by simp_all),hD.fr⟩;refine⟨λe=>?_,λe=>?_⟩
     .obtain⟨u,s',tb',h3,h4,a_,h5⟩:=h1 e;rw[z0 aB,z2 bz,h3];refine⟨fun τ hτ=>?_,?_⟩
      .obtain⟨j,hj⟩:=zU.1 hτ;rw[zN] at hj;rw[zl] at hc;rcases hc with hc|hc
       .have:=hD.same (o.kmin+j) τ (by have:=zp hc;omega) hj;subst this;exact W6 h3
       .unfold E2 at hc;split at hc
        .rename_i q;obtain⟨k1,i,bl,k2,k3,k4,k5⟩:=N0 hG (nZ q rfl) h3;have hu:JV A (o.kmin+j) (q / 2)=true:=by
          simp only[JV,z8,zl,zu] at hc |-
          grind
         have:=hD.fr (o.kmin+j) τ (q / 2) i hj hu k1 k2
         grind [W6]
        .cases hc
      .by_cases hle:hs.length<=o.kmax
       .rw[z2 hle];refine QS aC r bY hB h5 (A:=A) (Rd:=(o.kmax,rq)::Rd) (hl:=hl) (chg:=chg) (pd:=(o.kmax,YK o.op (Q5 env) u)::pd) ?_ (λc hc=>?_) b6 eN bq h4 hK
        .rw[a_];refine⟨hD.len,hD.same,λc hc=>?_,hD.fr⟩;rcases zB.1 hc with rfl|hc
         .refine .inr ⟨_,z_,z4 _,?_⟩;cases rq with
          |none=>exact fun τ hτ=>W6 (CT lr h3 hτ)
          |some q =>obtain⟨k1,i,bl,k2,k3,k4,k5⟩:=N0 hG (nZ q rfl) h3;exact⟨k1,i,bl,k2,k3,fun τ ht=>W6 (k4 τ ht),(by grind [W6])⟩
         .exact lu.pend c hc
        grind
       .rw[z0 hle];exact QS aC r bY hB h5 (A:=A) (Rd:=(o.kmax,rq)::Rd) (hl:=hl) (chg:=chg) (pd:=pd) (by rw[a_];exact lu) hp b6 eN bq h4 hK
     .obtain⟨s',tb',h4,a_,h5⟩:=h2 e;rw[z0 aB];exact QS aC r bY hB h5 (by rw[a_];exact lu) hp b6 eN bq h4 hK
    have ro:S4 A o.kmin=true->(∀ u,Qb o.op (Q5 env) U=some (u,U)->(Wz env o.guard=some true)->∀ τ,B.Le τ->Qb o.op (Q5 env) τ=some (u,τ))->gd1 C o s (λs'=>Ke C r s' hl chg A Rd K) ->
      Jk (Wz env o.guard) λb=>vif b (if o.kind=2 then (TZ (λR=>vop (Q4 P) o.op env U R) λv U'=>YT hs.length U' pend/\XD (Q4 P) r (YR env o.dst v) (hs++[U']) U' pend R)\/(waits o.dst.toList r=true/\vop (Q4 P) o.op env U λv U'=>YT hs.length U' pend/\XD (Q4 P) r (YR env o.dst v) (hs++[U']) U' pend R)
       else if o.kind=1 then Jk (Qb o.op (Q5 env) U) λp=>(∀ τ∈hs.drop o.kmin,YK o.op (Q5 env) p.1 τ) /\
        XD (Q4 P) r (YR env o.dst p.1) hs U (if hs.length<=o.kmax then (o.kmax,YK o.op (Q5 env) p.1)::pend else pend) R
       else Jk (Qb o.op (Q5 env) U) λp=>XD (Q4 P) r (YR env o.dst p.1) hs U pend R)
      (if o.kind=2 then YT hs.length U pend/\XD (Q4 P) r (YR env o.dst undef) (hs++[U]) U pend R else XD (Q4 P) r (YR env o.dst undef) hs U pend R):=λlx bU h=>by
     obtain⟨b,hw,h1,h2⟩:=GH hG h;rw[hw];refine⟨λe=>?_,λe=>?_⟩
     .obtain⟨u,s',tb',h3,h4,a_,h5⟩:=h1 e;have bU:=bU u h3 (by rw[hw,e]);rw[z0 aB,z2 bz,h3];refine⟨fun τ hτ=>?_,?_⟩
      .obtain⟨j,hj⟩:=zU.1 hτ;rw[zN] at hj;refine W6 (bU τ (b6 _ τ hj ?_));simp only[S4,z8,zl,zu] at lx |-
       grind
      refine QS aC r bY hB h5 (A:=A) (Rd:=Rd) (hl:=hl) (chg:=chg) (pd:=pd) (by rw[a_];exact hD) (λc hc=>?_) b6 eN bq h4 hK;split at hc
      .rcases zB.1 hc with rfl|hc
       .grind [W6]
       .exact hp c hc
      .exact hp c hc
     .obtain⟨s',tb',h4,a_,h5⟩:=h2 e;rw[z0 aB];exact QS aC r bY hB h5 (by rw[a_];exact hD) hp b6 eN bq h4 hK
    split at h
    .rename_i hg;cases hr:(Z61 o.op (gev [] s.env)&&S4 A o.kmin) with
     |true =>rw[hr] at h;rw[z1] at hr;exact ro hr.2 (λu hu _=>H_ hG Gds.nil hr.1 hu) h
     |false =>
     rw[hr] at h;simp only[zF] at h;cases hb:(Nat.ble chg o.kmin||E2 A o.kmin (Hu o.op (gev [] s.env) s.own)) with
     |false=>rw[hb] at h;exact h.elim
     |true =>rw[hb] at h;exact rd _ (λq hq=>hq) hb h
    .rename_i j want hg;cases hr:(Q9t s j want o.op&&S4 A o.kmin) with
     |true =>
      rw[hr] at h;rw[z1] at hr;obtain⟨hr,lx⟩:=hr;refine ro lx (λu hu hw=>?_) h;unfold Q9t at hr;split at hr
      .rename_i gs s1 dL;obtain⟨tb',bk,dA,b,gA,bP,bN⟩:=KE hG dL;rw[hg,gA] at hw;have e:=osj hw;exact H_ bk (λg hg=>⟨bP e g hg,dA g hg⟩) hr hu
      .cases hr
     |false =>
     rw[hr] at h;simp only[zF] at h;cases hb:Nat.ble chg o.kmin with
     |false=>rw[hb] at h;exact h.elim
     |true =>rw[hb] at h;exact rd none (λq hq=>by cases hq) (by rw[hb];rfl) h
   .rw[z0 bz] at h;obtain⟨b,hw,h1,h2⟩:=GH hG h;rw[hw];refine⟨λe=>?_,λe=>?_⟩
    .obtain⟨u,s',tb',h3,h4,a_,h5⟩:=h1 e;rw[z0 aB,z0 bz,h3];exact QS aC r bY hB h5 (by rw[a_];exact hD) hp b6 eN bq h4 hK
    .obtain⟨s',tb',h4,a_,h5⟩:=h2 e;rw[z0 aB];exact QS aC r bY hB h5 (by rw[a_];exact hD) hp b6 eN bq h4 hK
def H0 (pl:Nat->Value) (mp:List (Nat×Option Nat)):Nat->Value:=λt=>match Zm mp t with
 |some (some a)=>pl a
 |_=>.slice none 0 0
theorem Q21 {h:Heap}{k k':Kind}{x:k.T}{y:k'.T}(e:HC x y) {cs:List Value}(hk:KC h k' y cs):KC h k x cs:=by
 unfold HC at e
 grind [Iw,IN]
mutual
theorem G9 {B:Heap}{pl:Nat->Value}{tb:Nat->Option Bool}{mp:List (Nat×Option Nat)}:∀ (p a:SV) (v:Value),Aq mp p a->SR P B pl tb a v->SR P B (H0 pl mp) Yz p v
 |.any,a,v,_,_=>trivial
 |.val k x,a,v,h,hs=>by
  simp only[Aq] at h;split at h
  .simp only[SR] at hs |-;exact Q21 h hs
  .simp only[SR] at hs |-;exact Q21 h (by simp[KC,hs.1])
  .split at h
   .subst h;simp only[SR] at hs |-;subst hs;exact⟨_,rfl,.inl ⟨rfl,rfl⟩⟩
   .exact h.elim
  .exact h.elim
 |.lst t,a,v,h,hs=>by
  simp only[Aq] at h;split at h
  .split at h
   .rename_i e;simp only[SR,H0,e] at hs |-;exact hs
   .exact h.elim
  .split at h
   .rename_i e;simp only[SR,H0,e] at hs |-;exact⟨hs,_,_,_,hs⟩
   .exact h.elim
  .exact h.elim
 |.box t off,a,v,h,hs=>by
  simp only[Aq] at h;split at h
  .split at h
   .rename_i e;obtain⟨e,rfl⟩:=e;simp only[SR,H0,e] at hs |-;exact hs
   .exact h.elim
  .exact h.elim
 |.map t,a,v,h,hs=>by
  simp only[Aq] at h;split at h
  .split at h
   .rename_i e;simp only[SR,H0,e] at hs |-;exact hs
   .exact h.elim
  .exact h.elim
 |.dd t w,a,v,h,hs=>by
  simp only[Aq] at h;split at h
  .split at h
   .simp only[SR] at hs |-;simp only[DR];exact .inl ⟨h,hs⟩
   .split at h
    .rename_i e;obtain⟨e,rfl⟩:=e;simp only[SR,DR,H0,e] at hs |-;obtain⟨b,h1,h2⟩:=hs;exact .inr ⟨h,b,by rw[h1];rfl,h2⟩
    .exact h.elim
   .split at h
    .split at h
     .rename_i e;subst h;simp only[SR,DR,H0,e] at hs |-;exact hs
     .exact h.elim
    .exact h.elim
   .exact h.elim
  .split at h
   .split at h
    .split at h
     .rename_i e;simp only[SR,H0,e] at hs |-;exact hs
     .exact h.elim
    .exact h.elim
   .exact h.elim
  .split at h
   .split at h
    .split at h
     .rename_i e;simp only[SR,H0,e] at hs |-;exact hs
     .exact h.elim
    .exact h.elim
   .split at h
    .rename_i e;simp only[SR,H0,e] at hs |-;exact⟨hs,_,_,_,hs⟩
    .exact h.elim
   .exact h.elim
  .exact h.elim
 |.agg l,a,v,h,hs=>by
  simp only[Aq] at h;split at h
  .rename_i l';simp only[SR] at hs |-;obtain⟨cs,h1,h2⟩:=hs;exact⟨cs,h1,Xw l l' cs h h2⟩
  .exact h.elim
 |.tup l,a,v,h,hs=>by
  simp only[Aq] at h;split at h
  .rename_i l';simp only[SR] at hs |-;obtain⟨cs,h1,h2⟩:=hs;exact⟨cs,h1,Xw l l' cs h h2⟩
  .exact h.elim
 |.fn f x y,a,v,h,hs=>by
  simp only[Aq] at h;split at h
  .split at h
   .rename_i e;subst e;simp only[SR] at hs |-;obtain⟨cs,ds,h1,h2,h3⟩:=hs;exact⟨cs,ds,h1,Xw x _ cs h.1 h2,Xw y _ ds h.2 h3⟩
   .exact h.elim
  .exact h.elim
 |.nilS,a,v,h,hs=>by
  simp only[Aq] at h;split at h
  .simp only[SR] at hs |-;exact hs
  .exact h.elim
 |.nilP,a,v,h,hs=>by
  simp only[Aq] at h;split at h
  .simp only[SR] at hs |-;exact hs
  .exact h.elim
 |.nilM,a,v,h,hs=>by
  simp only[Aq] at h;split at h
  .simp only[SR] at hs |-;exact hs
  .exact h.elim
 |.nilF,a,v,h,hs=>by
  simp only[Aq] at h;split at h
  .simp only[SR] at hs |-;exact hs
  .exact h.elim
 |.cp l off,a,v,h,hs=>by
  simp only[Aq] at h;cases qR:SVs.pure l with
  |true =>rw[qR] at h;simp only[ze] at h;obtain⟨rfl,_⟩:=h;simp only[SR] at hs |-;obtain⟨b,c,e,wr,t,h1,h2,h3⟩:=hs;exact⟨b,c,e,wr,t,h1,h2,Wq l c qR h3⟩
  |false =>
   rw[qR] at h;simp only[zF] at h;split at h
   .split at h
    .rename_i l' dy he;subst he;simp only[SR] at hs |-;obtain⟨b,c,e,wr,t,h1,h2,h3⟩:=hs;exact⟨b,c,e,wr,t,h1,h2,Xw l l' c h h3⟩
    .exact h.elim
   .exact h.elim
 |.pf ks r cI p,a,v,h,hs=>by simp only[Aq] at h;subst h;simp only[SR] at hs |-;exact hs
 |.sub t lo n sz,a,v,h,hs=>by
  simp only[Aq] at h;split at h
  .split at h
   .rename_i e;obtain⟨rfl,rfl,rfl⟩:=h;simp only[SR,H0,e] at hs |-;exact hs
   .exact h.elim
  .exact h.elim
 |.elp _ _ _ _,_,_,h,_|.grd _ _,_,_,h,_|.bid _ _,_,_,h,_|.rop _ _ _ _,_,_,h,_=>by simp only[Aq] at h
theorem Xw {B:Heap}{pl:Nat->Value}{tb:Nat->Option Bool}{mp:List (Nat×Option Nat)}:∀ (p a:List SV) (v:List Value),Pa mp p a->SRs P B pl tb a v->SRs P B (H0 pl mp) Yz p v
 |[],a,v,h,hs=>by simp only[Pa] at h;subst h;exact hs
 |s::ss,[],v,h,hs=>by simp only[Pa] at h
 |s::ss,a::bQ,v,h,hs=>by simp only[Pa] at h;simp only[SRs] at hs |-;obtain⟨x,y,h1,h2,h3⟩:=hs;exact⟨x,y,h1,G9 s a x h.1 h2,Xw ss bQ y h.2 h3⟩
theorem II {B:Heap}{pl pl':Nat->Value}{tb tb':Nat->Option Bool}:∀ (s:SV) (v:Value),s.pure=true->SR P B pl tb s v->SR P B pl' tb' s v
 |.any,v,_,_=>trivial
 |.val k x,v,_,h=>by simp only[SR] at h |-;exact h
 |.nilS,v,_,h|.nilP,v,_,h|.nilM,v,_,h|.nilF,v,_,h=>by simp only[SR] at h |-;exact h
 |.rop k l i off,v,_,h=>by simp only[SR] at h |-;exact h
 |.pf ks r cI p,v,_,h=>by simp only[SR] at h |-;exact h
 |.agg l,v,hp,h=>by simp only[SR] at h |-;obtain⟨cs,h1,h2⟩:=h;exact⟨cs,h1,Wq l cs hp h2⟩
 |.tup l,v,hp,h=>by simp only[SR] at h |-;obtain⟨cs,h1,h2⟩:=h;exact⟨cs,h1,Wq l cs hp h2⟩
 |.cp l off,v,hp,h=>by simp only[SR] at h |-;obtain⟨b,c,e,wr,t,h1,h2,h3⟩:=h;exact⟨b,c,e,wr,t,h1,h2,Wq l c hp h3⟩
 |.fn f a b,v,hp,h=>by simp only[SV.pure,z1] at hp;simp only[SR] at h |-;obtain⟨x,y,h1,h2,h3⟩:=h;exact⟨x,y,h1,Wq a x hp.1 h2,Wq b y hp.2 h3⟩
 |.lst _,_,h,_|.sub _ _ _ _,_,h,_|.elp _ _ _ _,_,h,_|.box _ _,_,h,_|.map _,_,h,_|.grd _ _,_,h,_|.bid _ _,_,h,_=>by cases h
theorem Wq {B:Heap}{pl pl':Nat->Value}{tb tb':Nat->Option Bool}:∀ (s:List SV) (v:List Value),SVs.pure s=true->SRs P B pl tb s v->SRs P B pl' tb' s v
 |[],v,_,h=>by simp only[SRs] at h |-;exact h
 |s::ss,v,hp,h=>by simp only[SVs.pure,z1] at hp;simp only[SRs] at h |-;obtain⟨x,y,h1,h2,h3⟩:=h;exact⟨x,y,h1,II s x hp.1 h2,Wq ss y hp.2 h3⟩
end
end
end Go.V
namespace Go.V
open Go
section
variable {P:Program}{B F:Heap}{pl:Nat->Value}{tb:Nat->Option Bool}{s:St}{env:Env}{U:Heap}
theorem NM {k k':Kind}{xs:List k.T}{ys:List k'.T}(h:HC (k:=.list k) xs (k':=.list k') ys):∃ e:k'=k,e▸ys=xs:=by
 unfold HC at h
 grind [Iw,Kind.list.inj,IN]
theorem ZK (hG:Gam P B F pl tb s env U) {mp:List (Nat×Option Nat)}{t:Nat}{b:OB}(h:Z03 s mp t b) :
  OR P B (H0 pl mp) Yz U (H0 pl mp t) b/\(b.live=true->∀ i,Oid (H0 pl mp t) i->∃ a,Zm mp t=some (some a)/\(Qr s.own a).live=true/\Oid (pl a) i):=by
 unfold Z03 at h;split at h
 .rename_i a ha;have aW:H0 pl mp t=pl a:=by simp[H0,ha]
  rw[aW];have aq:=hG.obj a;split at h
  .exact⟨trivial,λh=>by cases h⟩
  .rename_i ty k xs nl iV k' cw jY ho;split at h
   .rename_i e;subst e;obtain⟨h1,rfl⟩:=h;obtain⟨rfl,rfl⟩:=NM h1;rw[ho] at aq;exact⟨aq,(by simp_all)⟩
   .exact h.elim
  .rename_i l u l' u' ho;split at h
   .rename_i e0;subst e0;rw[ho] at aq;obtain⟨i,c,e,t',h1,h2,h3,h4⟩:=aq;exact⟨⟨i,c,e,t',h1,h2,Xw l l' c h h3,h4⟩,λ_ i hi=>⟨a,ha,by rw[ho];rfl,hi⟩⟩
   .exact h.elim
  .rename_i kk vk m iB jZ m' ho;split at h
   .obtain⟨e,h1⟩:=NM h;obtain⟨rfl,rfl⟩:=Kind.pair.inj e;subst h1;rw[ho] at aq;exact⟨aq,(by simp_all)⟩
   .exact h.elim
  .rename_i l vals l' j5 ho;rw[ho] at aq;obtain⟨rfl,h⟩:=h;exact⟨Xw l l' vals h aq,λh=>by cases h⟩
  .rename_i l q u l' q' u' ho;rw[ho] at aq;split at h
   .obtain⟨rfl,h⟩:=h;exact⟨⟨aq.1,Xw l l' q.vals h aq.2.1,aq.2.2⟩,λ_ i hi=>⟨a,ha,by rw[ho];rfl,hi⟩⟩
   .obtain⟨rfl,h⟩:=h;exact⟨⟨aq.1,Xw l l' q.vals h aq.2.1,aq.2.2⟩,λh=>by cases h⟩
   .exact h.elim
  .rename_i kk vk m dn iB jZ m' so ho;split at h
   .obtain⟨h,rfl⟩:=h;obtain⟨e,h1⟩:=NM h;obtain⟨rfl,rfl⟩:=Kind.pair.inj e;subst h1;rw[ho] at aq;exact⟨aq,(by simp_all)⟩
   .exact h.elim
  .rename_i kk vk m iB jZ m' ho;split at h
   .obtain⟨e,h1⟩:=NM h;obtain⟨rfl,rfl⟩:=Kind.pair.inj e;subst h1;rw[ho] at aq;exact⟨aq,λh=>by cases h⟩
   .exact h.elim
  .rename_i l pos l' pos' ho;obtain⟨rfl,rfl⟩:=h;rw[ho] at aq;exact⟨aq,λ_ i hi=>⟨a,ha,by rw[ho];rfl,hi⟩⟩
  .rename_i ty q k xs nl h0 iV q' k' cw jY rZ ho;split at h
   .rename_i e;obtain⟨rfl,rfl⟩:=e;split at h
    .obtain⟨h1,rfl⟩:=h;obtain⟨rfl,rfl⟩:=NM h1;rw[ho] at aq;exact⟨aq,(by simp_all)⟩
    .exact h.elim
   .exact h.elim
  .rename_i ik l gM l' ho;split at h
   .rename_i e;obtain⟨rfl,rfl⟩:=e;rw[ho] at aq;exact⟨aq,(by simp_all)⟩
   .exact h.elim
  .exact h.elim
 .rename_i ha;have aW:H0 pl mp t=.slice none 0 0:=by simp[H0,ha]
  rw[aW];split at h
  .exact⟨.inl ⟨h.2,h.1,rfl⟩,λ_ i hi=>by cases hi⟩
  .split at h
   .obtain⟨rfl,rfl⟩:=h;refine⟨⟨[],λi=>⟨λh=>(by cases h),λ⟨b,h⟩=>(by cases h)⟩,List.nodup_nil,.inl ⟨rfl,rfl,rfl⟩,λi=>⟨λ⟨b,h⟩=>(by cases h),λh=>(by cases h)⟩,(λi b h=>by cases h),by simp[phd]⟩,λ_ i hi=>by cases hi⟩
   .exact h.elim
  .exact h.elim
 .exact h.elim
theorem MF {α:Type _}(l:List (Nat×α)) (t:Nat) (x:α) (d:Nat):Zm (l++[(t,x)]) d=match Zm l d with|some y=>some y|none=>if t=d then some x else none:=by
 induction l with
 |nil =>
  simp only[xF,Zm];by_cases h:t=d
  .subst h;simp
  .rw[Ya h];simp[h]
 |cons p l ih =>obtain⟨k,y⟩:=p;simp only[xE,Zm,ih];cases Nat.beq k d<;>rfl
theorem Q2i {α:Type _}{l:List (Nat×α)}{d:Nat}{x:α}(h:Zm l d=some x):∃ p∈l,p.1=d/\p.2=x:=by
 induction l with
 |nil=>cases h
 |cons p l ih =>
  obtain⟨k,y⟩:=p;simp only[Zm] at h;cases hb:Nat.beq k d with
  |true=>rw[hb] at h;obtain rfl:=osj h;exact(by simp_all)
  |false =>rw[hb] at h;obtain⟨p,h1,h2⟩:=ih h;exact⟨p,xk _ h1,h2⟩
def Inj (mp:List (Nat×Option Nat)):Prop:=∀ t t' a,Zm mp t=some (some a)->Zm mp t'=some (some a)->t=t'
theorem Cz:∀ (l:List (Nat×Src)) (mp bV:List (Nat×Option Nat)),Z8k s l mp=some bV->Inj mp->Inj bV
 |[],mp,bV,h,hi=>by obtain rfl:=osj h;exact hi
 |(t,src)::r,mp,bV,h,hi=>by
  simp only[Z8k] at h;split at h
  .rename_i a _;split at h
   .cases h
   .rename_i hc;refine Cz r _ _ h ?_;have df:∀ d,Zm mp d≠some (some a):=λd hd=>by
     obtain⟨p,h1,h2,h3⟩:=Q2i hd
     grind
    intro t1 t2 a' h1 h2;rw[MF] at h1 h2;split at h1
    .rename_i y1 e1;split at h2
     .rename_i y2 e2;obtain rfl:=osj h1;obtain rfl:=osj h2;exact hi t1 t2 a' e1 e2
     simp_all
    .split at h1
     .rename_i e1;obtain rfl:=osj (osj h1);split at h2
      .simp_all
      simp_all
     .cases h1
  .split at h
   .cases h
   .refine Cz r _ _ h ?_;intro t1 t2 a' h1 h2;rw[MF] at h1 h2;split at h1
    .rename_i y1 e1;split at h2
     .rename_i y2 e2;obtain rfl:=osj h1;obtain rfl:=osj h2;exact hi t1 t2 a' e1 e2
     .split at h2<;>cases h2
    .split at h1<;>cases h1
  .cases h
theorem OW {mp:List (Nat×Option Nat)}:∀ {ow:List (Nat×Src×OB)},gmatch.obs s mp ow->∀ p∈ow,Z03 s mp p.1 p.2.2
 |[],_,p,hp=>by cases hp
 |(t,src,b)::r,h,p,hp=>by
  simp only[gmatch.obs] at h;rcases zB.1 hp with rfl|hp
  .exact h.1
  .exact OW h.2 p hp
theorem Ui {f:List (Nat×Src×OB)}:∀ (own:Own) (t:Nat),(∃ p∈f,p.1=t/\Qr (f.foldl (λo p=>oset o p.1 p.2.2) own) t=p.2.2)\/Qr (f.foldl (λo p=>oset o p.1 p.2.2) own) t=Qr own t:=by
 induction f with
 |nil=>intro own t;exact .inr rfl
 |cons p f ih =>
  intro own t;simp only[xT];rcases ih (oset own p.1 p.2.2) t with⟨q,h1,h2⟩|h
  .grind
  .rw[h,QB]
   grind
theorem AE (hG:Gam P B F pl tb s env U) {mp:List (Nat×Option Nat)}:∀ (st:List (Nat×SV)) {e:List SV}{eV:Env},gmatch.slots s mp st->SRs P B (H0 pl mp) Yz e eV->SRs P B (H0 pl mp) Yz (st.foldl (λe p=>e.set p.1 p.2) e) (Ky (st.map (·.1)) (C3 (st.map (·.1)) env) eV)
 |[],e,eV,_,h=>h
 |(j,v)::r,e,eV,hs,h=>by simp only[gmatch.slots] at hs;simp only[xT,xr,C3,Ky];exact AE hG r hs.2 (h.set j (G9 v _ _ hs.1 (hG.env.getD j poison)))
theorem Z0g {B:Heap}{pl:Nat->Value}{tb:Nat->Option Bool}:∀ n,SRs P B pl tb (List.replicate n .any) (List.replicate n poison)
 |0=>by simp[SRs]
 |n+1=>by simp only[xn,SRs];exact⟨_,_,rfl,by simp[SR],Z0g n⟩
theorem Lj {B0 F0 D0:Heap}(hR:GRel P B0 F0 D0 s env U) {st:List (Nat×SV)}{ow:List (Nat×Src×OB)}(h:gmatch s st ow) (len:Nat):GRel P B0 F0 D0 (Jd len st ow) (Ky (st.map (·.1)) (C3 (st.map (·.1)) env) (List.replicate len poison)) U:=by
 obtain⟨B,F,pl,tb,hB,hG⟩:=hR;unfold gmatch at h;split at h
 .rename_i mp ly;obtain⟨h1,h2⟩:=h;have eQ:=Cz _ _ _ ly (λt t' a h=>by cases h);have bh:=OW h2;have aq:∀ t,(Qr (Jd len st ow).own t).live=true->Z03 s mp t (Qr (Jd len st ow).own t):=λt hl=>by
   rcases Ui (f:=ow) [] t with⟨p,h3,h4,h5⟩|h3
   .have:=bh p h3;rw[h4,<-h5] at this;exact this
   .simp only[Jd] at hl;rw[h3] at hl;cases hl
  refine⟨B,F,H0 pl mp,Yz,hB,hG.bf,hG.le,AE hG st h1 (Z0g len),λt=>?_,λt i hl hi=>?_,λt t' i aJ hl cf hi cY=>?_,λ_ _=>rfl⟩
  .cases hl:(Qr (Jd len st ow).own t).live with
   |true=>exact(ZK hG (aq t hl)).1
   |false =>
    cases ho:Qr (Jd len st ow).own t with
    |dead=>trivial
    |stk l vals =>
     rcases Ui (f:=ow) [] t with⟨p,h3,h4,h5⟩|h3
     .have:=bh p h3;simp only[Jd] at ho
      grind [ZK]
     .simp only[Jd] at ho;rw[h3] at ho;cases ho
    |rmap kk vk m =>
     rcases Ui (f:=ow) [] t with⟨p,h3,h4,h5⟩|h3
     .have:=bh p h3;simp only[Jd] at ho
      grind [ZK]
     .simp only[Jd] at ho;rw[h3] at ho;cases ho
    |lpf l q u =>
     rcases Ui (f:=ow) [] t with⟨p,h3,h4,h5⟩|h3
     .have:=bh p h3;simp only[Jd] at ho
      grind [ZK]
     .simp only[Jd] at ho;rw[h3] at ho;cases ho
    |_=>rw[ho] at hl;cases hl
  .obtain⟨a,_,h4,h5⟩:=(ZK hG (aq t hl)).2 hl i hi;exact hG.fresh a i h4 h5
  .obtain⟨a,e1,h4,h5⟩:=(ZK hG (aq t hl)).2 hl i hi;obtain⟨a',e2,iM,qS⟩:=(ZK hG (aq t' cf)).2 cf i cY;by_cases e:a=a'
   .subst e;exact aJ (eQ t t' a e1 e2)
   .exact hG.sep a a' i e h4 iM h5 qS
 .exact h.elim
theorem Sx:∀ {dx cC:List SV}{vs:List Value}{B F:Heap}{s s':St},Gam P B F pl tb s env U->SRs P B pl tb dx vs->Z4h s dx=some (s',cC) ->
  ∃ B' F',GBase B F U B' F' U/\Gam P B' F' pl tb s' env U/\SRs P B' KR Yz cC vs/\s'.env=s.env
 |[],cC,vs,B,F,s,s',hG,hs,h=>by simp only[Z4h,x6,Prod.mk.injEq] at h;obtain⟨rfl,rfl⟩:=h;exact⟨B,F,.of hG.bf (.refl _),hG,hs,rfl⟩
 |v::dx,cC,vs,B,F,s,s',hG,hs,h=>by
  simp only[SRs] at hs;obtain⟨u,us,rfl,h1,h2⟩:=hs
  have n7:∀ w:SV,SR P B pl tb w u->(bif w.pure then (match Z4h s dx with|some (s',r)=>some (s',w::r)|none=>none) else none)=some (s',cC) ->
    ∃ B' F',GBase B F U B' F' U/\Gam P B' F' pl tb s' env U/\SRs P B' KR Yz cC (u::us)/\s'.env=s.env:=λw hw h=>by
   cases hp:w.pure with
   |false=>rw[hp] at h;cases h
   |true =>
    rw[hp] at h;simp only[ze] at h;split at h
    .rename_i s1 r heq;simp only[x6,Prod.mk.injEq] at h;obtain⟨rfl,rfl⟩:=h;obtain⟨B',F',k1,k2,k3,k4⟩:=Sx hG h2 heq;exact⟨B',F',k1,k2,by simp only[SRs];exact⟨u,us,rfl,SR.mono k1.b (λ_ _ h=>h) _ _ (II w u hp hw),k3⟩,k4⟩
    .cases h
  simp only[Z4h] at h;split at h
  .rename_i o;split at h
   .rename_i l _ ho;cases hp:SVs.pure l with
    |false=>rw[hp] at h;cases h
    |true =>
     rw[hp] at h;simp only[ze] at h;split at h
     .rename_i s1 r heq;simp only[x6,Prod.mk.injEq] at h;obtain⟨rfl,rfl⟩:=h;have aq:=hG.obj o;rw[ho] at aq;obtain⟨i,c,e,t,e1,e2,e3,_⟩:=aq;obtain⟨k1,k2⟩:=hG.freeze (o:=o) (i:=i) (by rw[ho];rfl) (by rw[e1];rfl);obtain⟨B',F',j1,j2,j3,j4⟩:=Sx k2 (SRs.mono k1.b (λ_ _ h=>h) _ _ h2) heq;refine⟨B',F',k1.trans j1,j2,?_,j4⟩;simp only[SRs];refine⟨u,us,rfl,?_,j3⟩;simp only[SR] at h1 |-;obtain⟨b,q1,q2⟩:=h1;rw[e1] at q1;obtain rfl:i=b:=by simpa using q1
      refine⟨i,c,e,true,t,j1.b.2 _ _ ?_,q2,SRs.mono (k1.trans j1).b (λ_ _ h=>h) _ _ (Wq l c hp e3)⟩;rw[Heap.q0k];exact e2
     .cases h
   .cases h
  .exact n7 _ h1 h
theorem Gam.lpUpd (hG:Gam P B F pl tb s env U) {n:Nat}{b b0:Blk}(hF:F.get n=some b0) (hB:B.get n=none):Gam P B (F.upd n b) pl tb s env (U.upd n b):=by
 have aJ:∀ {d i},(Qr s.own d).live=true->Oid (pl d) i->i≠n:=λh1 h2 e=>by have:=hG.fresh _ _ h1 h2;subst e;rw[hF] at this;cases this
 refine⟨⟨hG.bf.1,λi c hc=>?_⟩,⟨hG.le.1,λi c hc=>?_⟩,hG.env,λd=>(hG.obj d).mono (.refl _) (λ_ _ h=>h) (by grind [Heap.q0b]),λd i h1 h2=>?_,hG.sep,hG.free⟩
 .have:i≠n:=by rintro rfl;rw[hB] at hc;cases hc
  rw[Heap.q0b _ _ this];exact hG.bf.2 _ _ hc
 .by_cases e:i=n
  .subst e;rw[Heap.q0d _ _ (F.lt hF)] at hc;rw[Heap.q0d _ _ (zT (F.lt hF) hG.le.1)];exact hc
  .rw[Heap.q0b _ _ e] at hc |-;exact hG.le.2 _ _ hc
 .rw[Heap.q0b _ _ (aJ h1 h2)];exact hG.fresh _ _ h1 h2
theorem Gam.lpKill (hG:Gam P B F pl tb s env U) {n:Nat}{b0:Blk}(hF:F.get n=some b0) (hB:B.get n=none):Gam P B (F.kill n) pl tb s env (U.kill n):=by
 have aJ:∀ {d i},(Qr s.own d).live=true->Oid (pl d) i->i≠n:=λh1 h2 e=>by have:=hG.fresh _ _ h1 h2;subst e;rw[hF] at this;cases this
 refine⟨⟨hG.bf.1,λi c hc=>?_⟩,⟨hG.le.1,λi c hc=>?_⟩,hG.env,λd=>(hG.obj d).mono (.refl _) (λ_ _ h=>h) (by grind [Heap.q0c]),λd i h1 h2=>?_,hG.sep,hG.free⟩
 .have:i≠n:=by rintro rfl;rw[hB] at hc;cases hc
  rw[Heap.q0c _ this];exact hG.bf.2 _ _ hc
 .by_cases e:i=n
  .grind [Heap.q0h]
  .rw[Heap.q0c _ e] at hc |-;exact hG.le.2 _ _ hc
 .rw[Heap.q0c _ (aJ h1 h2)];exact hG.fresh _ _ h1 h2
theorem GRel.lpUpd {B1 F1 D0:Heap}(h:GRel P B1 F1 D0 s env U) {n:Nat}{b b0:Blk}(hF:F1.get n=some b0) (hB:B1.get n=none):GRel P B1 (F1.upd n b) D0 s env (U.upd n b):=by
 obtain⟨B,F,pl,tb,dC,hG⟩:=h;have n8:=dC.f.2 _ _ hF;have n9:=dC.x _ _ hF hB;refine⟨B,F.upd n b,pl,tb,⟨dC.b,⟨dC.f.1,λi c hc=>?_⟩,λi c h1 h2=>?_,⟨dC.d.1,λi h1 h2=>?_⟩⟩,hG.lpUpd n8 n9⟩
 .by_cases e:i=n
  .subst e;rw[Heap.q0d _ _ (F1.lt hF)] at hc;rw[Heap.q0d _ _ (F.lt n8)];exact hc
  .rw[Heap.q0b _ _ e] at hc |-;exact dC.f.2 _ _ hc
 .by_cases e:i=n
  .subst e;exact n9
  .rw[Heap.q0b _ _ e] at h1;exact dC.x _ _ h1 h2
 .have hd:=dC.d.2 i h1 h2;have:i≠n:=by rintro rfl;rw[hG.le.2 _ _ n8] at hd;cases hd
  rw[Heap.q0b _ _ this];exact hd
theorem GRel.lpKill {B1 F1 D0:Heap}(h:GRel P B1 F1 D0 s env U) {n:Nat}{b0:Blk}(hF:F1.get n=some b0) (hB:B1.get n=none):GRel P B1 (F1.kill n) D0 s env (U.kill n):=by
 obtain⟨B,F,pl,tb,dC,hG⟩:=h;have n8:=dC.f.2 _ _ hF;have n9:=dC.x _ _ hF hB;refine⟨B,F.kill n,pl,tb,⟨dC.b,⟨dC.f.1,λi c hc=>?_⟩,λi c h1 h2=>?_,⟨dC.d.1,λi h1 h2=>?_⟩⟩,hG.lpKill n8 n9⟩
 .by_cases e:i=n
  .grind [Heap.q0h]
  .rw[Heap.q0c _ e] at hc |-;exact dC.f.2 _ _ hc
 .by_cases e:i=n
  .subst e;exact n9
  .rw[Heap.q0c _ e] at h1;exact dC.x _ _ h1 h2
 .have hd:=dC.d.2 i h1 h2
  grind [Heap.q0h,Heap.q0c]
theorem GRel.base {B0 F0 B1 F1 D0:Heap}(h:GRel P B1 F1 D0 s env U) (hb:B0.Le B1) (hf:F0.Le F1) (hx:∀ i b,F0.get i=some b->B0.get i=none->B1.get i=none):GRel P B0 F0 D0 s env U:=by obtain⟨B,F,pl,tb,dC,hG⟩:=h;exact⟨B,F,pl,tb,⟨hb.trans dC.b,hf.trans dC.f,λi b h1 h2=>dC.x i b (hf.2 _ _ h1) (hx i b h1 h2),dC.d⟩,hG⟩
theorem Ll (hG:Gam P B F pl tb s env U) {mp:List (Nat×Option Nat)}:∀ (st:List (Nat×SV)) {e:List SV},gmatch.slots s mp st->SRs P B (H0 pl mp) Yz e env->SRs P B (H0 pl mp) Yz (st.foldl (λe p=>e.set p.1 p.2) e) env
 |[],e,_,h=>h
 |(j,v)::r,e,hs,h=>by
  simp only[gmatch.slots] at hs;simp only[xT];refine Ll hG r hs.2 ?_;have:=h.set j (G9 v _ _ hs.1 (hG.env.getD j poison))
  grind [List.getElem?_eq_getElem,List.set_getElem_self,List.set_eq_of_length_le]
theorem Q60 {B:Heap}{pl:Nat->Value}{tb:Nat->Option Bool}:∀ (env:Env),SRs P B pl tb (List.replicate (List.length env) .any) env
 |[]=>by simp[SRs]
 |v::env=>by simp only[zr,xn,SRs];exact⟨_,_,rfl,by simp[SR],Q60 env⟩
theorem GP {B0 F0 D0:Heap}(hR:GRel P B0 F0 D0 s env U) {st:List (Nat×SV)}{ow:List (Nat×Src×OB)}(h:gmatch s st ow):GRel P B0 F0 D0 (Jd (List.length env) st ow) env U:=by
 obtain⟨B,F,pl,tb,hB,hG⟩:=hR;unfold gmatch at h;split at h
 .rename_i mp ly;obtain⟨h1,h2⟩:=h;have eQ:=Cz _ _ _ ly (λt t' a h=>by cases h);have bh:=OW h2;have aq:∀ t,(Qr (Jd (List.length env) st ow).own t).live=true->Z03 s mp t (Qr (Jd (List.length env) st ow).own t):=λt hl=>by
   rcases Ui (f:=ow) [] t with⟨p,h3,h4,h5⟩|h3
   .have:=bh p h3;rw[h4,<-h5] at this;exact this
   .simp only[Jd] at hl;rw[h3] at hl;cases hl
  refine⟨B,F,H0 pl mp,Yz,hB,hG.bf,hG.le,Ll hG st h1 (Q60 env),λt=>?_,λt i hl hi=>?_,λt t' i aJ hl cf hi cY=>?_,λ_ _=>rfl⟩
  .cases hl:(Qr (Jd (List.length env) st ow).own t).live with
   |true=>exact(ZK hG (aq t hl)).1
   |false =>
    cases ho:Qr (Jd (List.length env) st ow).own t with
    |dead=>trivial
    |stk l vals =>
     rcases Ui (f:=ow) [] t with⟨p,h3,h4,h5⟩|h3
     .have:=bh p h3;simp only[Jd] at ho
      grind [ZK]
     .simp only[Jd] at ho;rw[h3] at ho;cases ho
    |rmap kk vk m =>
     rcases Ui (f:=ow) [] t with⟨p,h3,h4,h5⟩|h3
     .have:=bh p h3;simp only[Jd] at ho
      grind [ZK]
     .simp only[Jd] at ho;rw[h3] at ho;cases ho
    |lpf l q u =>
     rcases Ui (f:=ow) [] t with⟨p,h3,h4,h5⟩|h3
     .have:=bh p h3;simp only[Jd] at ho
      grind [ZK]
     .simp only[Jd] at ho;rw[h3] at ho;cases ho
    |_=>rw[ho] at hl;cases hl
  .obtain⟨a,_,h4,h5⟩:=(ZK hG (aq t hl)).2 hl i hi;exact hG.fresh a i h4 h5
  .obtain⟨a,e1,h4,h5⟩:=(ZK hG (aq t hl)).2 hl i hi;obtain⟨a',e2,iM,qS⟩:=(ZK hG (aq t' cf)).2 cf i cY;by_cases e:a=a'
   .subst e;exact aJ (eQ t t' a e1 e2)
   .exact hG.sep a a' i e h4 iM h5 qS
 .exact h.elim
theorem O9 {α:Type}{o:Option α}{f:α->Prop}(h:Jk o f):∃ a,f a:=by
 cases o with
 |none=>exact h.elim
 |some a=>exact⟨a,h⟩
theorem COk.nx {C:Cx}(h:COk P C):COk P C.nx:=⟨h.cs,λf x hx=>(by cases hx),h.it,h.yl,h.iy,λf j _ x hx=>(by cases hx)⟩
theorem VZ {S:VSpecs}{Q:Prop}:∀ {ops:List DOper}{env:Env}{hs:List Heap}{U:Heap}{pend:List (Nat×(Heap->Prop))},WK S ops env hs U pend (λ_ _=>Q)->Q
 |[],_,_,_,_,h=>h
 |o::r,env,hs,U,pend,h=>by
  simp only[WK] at h;obtain⟨b,h⟩:=O9 h;cases b with
  |true =>
   have h:=h.1 rfl;split at h
   .obtain⟨v,U',_,_,h⟩:=h;exact VZ h
   .split at h
    .obtain⟨p,_,h⟩:=O9 h;exact VZ h
    .obtain⟨p,h⟩:=O9 h;exact VZ h
  |false =>
   have h:=h.2 rfl;split at h
   .exact VZ h.2
   .exact VZ h
theorem Ek {C:Cx}{s:St}{st:List (Nat×SV)}{ow:List (Nat×Src×OB)}{Q:Prop}:∀ (ls:List (List DOper)),Z52 C ls s st ow Q->(∀ l∈ls,Ke C.nx l s 1 0 [] [] λs'=>Sq s.env.length s' st ow)/\Q
 |[],h=>⟨λl hl=>(by cases hl),h⟩
 |l::ls,h=>by obtain⟨h1,h2⟩:=h;obtain⟨h3,h4⟩:=Ek ls h2;simp_all
theorem Dm {B0 F0 D0:Heap}{s:St}{env:Env}{U:Heap}{n:Nat}(hR:GRel P B0 F0 D0 s env U) {st:List (Nat×SV)}{ow:List (Nat×Src×OB)}(h:Sq n s st ow):GRel P B0 F0 D0 (Jd n st ow) env U:=by
 unfold Sq at h;cases hb:Nat.beq s.env.length n with
 |false=>rw[hb] at h;exact h.elim
 |true =>
  rw[hb] at h;have hl:env.length=n:=by rw[<-zD hb];obtain⟨_,_,_,_,_,hG⟩:=hR;exact hG.env.length.symm
  rw[<-hl];exact GP hR h
theorem VT {C:Cx}(aC:COk P C) {B0 F0 D0:Heap}:∀ (aU:List DSeg) {s:St}{env:Env}{U:Heap},GRel P B0 F0 D0 s env U->∀ {K:St->Prop},O_ C aU s K->∀ {R:Env->Heap->Prop},(∀ s' ah U',K s'->GRel P B0 F0 D0 s' ah U'->R ah U')->Pb (Q4 P) aU env U R
 |[],s,env,U,hR,K,h,R,hK=>hK s env U h hR
 |.one o::r,s,env,U,hR,K,h,R,hK=>by refine P4 aC [o] hR (K:=λs'=>O_ C r s' K) h λs' ah U' h1 h2=>?_;exact VT aC r h2 h1 hK
 |.alts [l]::r,s,env,U,hR,K,h,R,hK=>by
  simp only[O_] at h;cases hd:Z3y l with
  |false =>
   rw[hd] at h;simp only[zF] at h;cases hk:l.all (λo=>o.kind==o.op.kind) with
   |false=>rw[hk] at h;exact h.elim
   |true =>rw[hk] at h;simp only[ze] at h;intro ops ho;obtain rfl:=zx.1 ho;obtain⟨B,F,pl,tb,hB,hG⟩:=hR;have one:∀ (j:Nat) (τ:Heap),([U]:List Heap)[j]?=some τ->τ=U:=(by grind);exact QS aC ops (by simp_all) hB hG (hl:=1) (chg:=0) (A:=[]) (Rd:=[]) ⟨rfl,λj τ _ ht=>one j τ ht,(λc hc=>absurd hc (by simp)),(by grind)⟩ (pend:=[]) (pd:=[]) (λc hc=>absurd hc (by simp)) (λj τ ht _=>by rw[one j τ ht];exact hG.leB) (Nat.zero_le _) (Nat.succ_pos _) h λs' ah U' h1 h2=>⟨ah,U',.refl _ _ _,VT aC r h2 h1 hK⟩
  |true =>rw[hd] at h;refine Q8z (l:=l) hd ?_;exact P4 aC _ hR h λs' ah U' h1 h2=>VT aC r h2 h1 hK
 |.alts []::r,s,env,U,hR,K,h,R,hK=>h.elim
 |.alts (l::l2::ls)::r,s,env,U,hR,K,h,R,hK=>by
  simp only[O_] at h;cases hk:(l::l2::ls).all (λl=>l.all λo=>o.kind==o.op.kind) with
  |false=>rw[hk] at h;exact h.elim
  |true =>
   rw[hk] at h;simp only[ze] at h;obtain⟨B,F,pl,tb,hB,hG⟩:=hR;have one:∀ (j:Nat) (τ:Heap),([U]:List Heap)[j]?=some τ->τ=U:=(by grind);have run:∀ l'∈l::l2::ls,∀ {K':St->Prop},Ke C.nx l' s 1 0 [] [] K'->∀ {R':Env->Heap->Prop},(∀ s' ah U',K' s'->GRel P B0 F0 D0 s' ah U'->R' ah U')->WK (Q4 P) l' env [U] U [] R':=λl' cf K' h' R' qP =>
    QN aC.nx rfl l' (by grind) hB hG (hl:=1) (chg:=0) (A:=[]) (Rd:=[]) ⟨rfl,λj τ _ ht=>one j τ ht,(λc hc=>absurd hc (by simp)),(by grind)⟩ (pend:=[]) (pd:=[]) (λc hc=>absurd hc (by simp)) (λj τ ht _=>by rw[one j τ ht];exact hG.leB) (Nat.zero_le _) (Nat.succ_pos _) h' qP
   obtain⟨s0,h0,h1⟩:=VZ (run l z_ h (R':=λ_ _=>∃ s0:St,_) λs' _ _ h' _=>⟨s',h'⟩);obtain⟨h2,h3⟩:=Ek _ h1;intro ops ho;rcases zB.1 ho with rfl|gV
   .refine VQ ?_;exact run ops ho h λs' ah U' h' qT=>⟨ah,U',.refl _ _ _,by
     obtain⟨k1,k2⟩:=h';exact VT aC r (Dm qT k1) (Ek _ k2).2 hK⟩
   .refine VQ ?_;exact run ops ho (h2 ops gV) λs' ah U' h' qT=>⟨ah,U',.refl _ _ _,VT aC r (Dm qT h') h3 hK⟩
theorem EM:∀ (l:List Nat) (vs:List SV),(Z5w l vs).map (·.1)=l
 |[],_=>rfl
 |j::js,[]=>by simp[Z5w,EM js []]
 |j::js,v::vs=>by simp[Z5w,EM js vs]
theorem Hb {B:Heap}{pl:Nat->Value}{tb:Nat->Option Bool}:∀ {ps:List Nat}{xs:List SV}{us:List Value}{e:List SV}{env:Env},SRs P B pl tb xs us->SRs P B pl tb e env->SRs P B pl tb (Rw e ps xs) (Av env ps us)
 |[],xs,us,e,env,_,h=>by simpa [Rw,Av] using h
 |p::ps,[],us,e,env,hx,h=>by simp only[SRs] at hx;subst hx;simpa [Rw,Av] using h
 |p::ps,x::xs,us,e,env,hx,h=>by simp only[SRs] at hx;obtain⟨u,mi,rfl,h1,h2⟩:=hx;simp only[Rw,Av];exact Hb h2 (h.set p h1)
def J13 (F0:Heap):Option Nat->Prop
 |none=>True
 |some i=>∃ env r st pend,F0.get i=some (.obj (.lp env r st pend) true)
theorem Gam.dropLp {B F:Heap}{pl:Nat->Value}{tb:Nat->Option Bool}{s:St}{env:Env}{U:Heap}(hG:Gam P B F pl tb s env U) {o:Nat}{l:List SV}{q:LpD}{u:LpS}(ho:Qr s.own o=.lpf l q u) (hl:u.live=true) :
  Gam P B F pl tb ⟨l,oset s.own o .dead,s.nx⟩ q.vals (U.kill q.i)/\U.get q.i=some (.obj (.lp q.vals q.r u.st u.pend) true):=by
 have aq:=hG.obj o;rw[ho] at aq;obtain⟨h1,h2,h3⟩:=aq;have je:(Qr s.own o).live=true:=by rw[ho];exact hl
 have mr:Oid (pl o) q.i:=by rw[h1];rfl
 have hF:=hG.fresh o q.i je mr;have lv:∀ d,(Qr (oset s.own o .dead) d).live=true->d≠o/\(Qr s.own d).live=true:=λd h=>by
  rw[QB] at h;by_cases e:d=o
  .rw[z2 e] at h;cases h
  .rw[z0 e] at h;exact⟨e,h⟩
 refine⟨⟨hG.bf,⟨hG.le.1,λj b hb=>?_⟩,h2,λd=>?_,λd i hd hi=>hG.fresh d i (lv d hd).2 hi,λd d' i e h h'=>hG.sep d d' i e (lv d h).2 (lv d' h').2,hG.free⟩,h3 hl⟩
 .have e:j≠q.i:=by rintro rfl;rw[hF] at hb;cases hb
  rw[Heap.q0c _ e];exact hG.le.2 _ _ hb
 .rw[QB];by_cases e:d=o
  .rw[z2 e];trivial
  .rw[z0 e];refine (hG.obj d).mono (.refl _) (λ_ _ h=>h) λhd i hi=>?_;have:i≠q.i:=by rintro rfl;exact hG.sep d o q.i e hd je hi mr
   exact Heap.q0c _ this
theorem Z0n (s:St) (o:Nat) (b:OB) (j:Nat):Qr (s.make o b).own j=if j=o then b else (Qr s.own j).kill o:=by
 simp only[St.make,QB];by_cases h:j=o
 .subst h;simp
 .simp only[h,if_false,St.kill,Gs]
theorem Gam.enterLp {B F:Heap}{pl:Nat->Value}{tb:Nat->Option Bool}{s:St}{env:Env}{U:Heap}(hG:Gam P B F pl tb s env U) {o aM:Nat}{l:List SV}{q:LpD}(ho:Qr s.own o=.lpf l q .rdy) (aJ:o≠aM)
  {args:List SV}{us:List Value}(aD:SRs P B pl tb args us) (ps:List Nat) :
  Gam P B (F.ins U q.i hG.le.1) (Yi pl aM poison) tb ⟨Rw (SVs.kill aM l) ps (SVs.kill aM args),oset (Q3h aM env s).own o (.lpf (SVs.kill aM l) q .busy),s.nx⟩ (Av q.vals ps us) U:=by
 have q3:Gam P B F (Yi pl aM poison) tb (Q3h aM env s) env U:=by refine hG.make aM _ poison hG.le (λ_ _ _ _ _=>rfl) ?_ (λi hl _=>by cases hl);exact SRs.upd (.refl _) (λ_ _ h=>h) (λj hj=>by simp[Yi,hj]) _ _ hG.env
 have aq:=hG.obj o;rw[ho] at aq;obtain⟨h1,h2,h3⟩:=aq;have je:(Qr s.own o).live=true:=by rw[ho];rfl
 have qU:Yi pl aM poison o=.pointer (some ⟨q.i,0,none⟩):=by simp[Yi,aJ,h1]
 have uW:Qr (Q3h aM env s).own o=.lpf (SVs.kill aM l) q .rdy:=by have:=Z0n s aM (.stk (SVs.kill aM s.env) env) o;unfold Q3h;rw[this,z0 aJ,ho];rfl
 have n_:(Qr (Q3h aM env s).own o).live=true:=by rw[uW];rfl
 have mr:Oid (Yi pl aM poison o) q.i:=by rw[qU];rfl
 have hF:=q3.fresh o q.i n_ mr;have bZ:SRs P B (Yi pl aM poison) tb (SVs.kill aM l) q.vals:=SRs.upd (.refl _) (λ_ _ h=>h) (λj hj=>by simp[Yi,hj]) _ _ h2;have uX:SRs P B (Yi pl aM poison) tb (SVs.kill aM args) us:=SRs.upd (.refl _) (λ_ _ h=>h) (λj hj=>by simp[Yi,hj]) _ _ aD;have lv:∀ d,(Qr (oset (Q3h aM env s).own o (.lpf (SVs.kill aM l) q .busy)) d).live=true->d≠o/\(Qr (Q3h aM env s).own d).live=true:=λd h=>by
  rw[QB] at h;by_cases e:d=o
  .rw[z2 e] at h;cases h
  .rw[z0 e] at h;exact⟨e,h⟩
 refine⟨q3.bf.trans (hG.le.ins _),hG.le.q1v _,Hb uX bZ,λd=>?_,λd i hd hi=>?_,λd d' i e h h'=>q3.sep d d' i e (lv d h).2 (lv d' h').2,q3.free⟩
 .show OR P B _ tb U _ (Qr (oset _ o _) d);rw[QB];by_cases e:d=o
  .subst e;rw[z2 rfl];exact⟨qU,bZ,λh=>by cases h⟩
  .rw[z0 e];exact q3.obj d
 .obtain⟨e,dO⟩:=lv d hd;have:i≠q.i:=by rintro rfl;exact q3.sep d o q.i e dO n_ hi mr
  rw[Heap.q1b _ _ _ this];exact q3.fresh d i dO hi
theorem Gam.leaveLp {B F:Heap}{pl:Nat->Value}{tb:Nat->Option Bool}{s:St}{env:Env}{U:Heap}(hG:Gam P B F pl tb s env U) {o aM:Nat}{l l2:List SV}{j6:List Value}{q:LpD}{b0:Blk}(hF:F.get q.i=some b0) (hB:B.get q.i=none)
  (h2:Qr s.own aM=.stk l2 j6) (ho:Qr s.own o=.lpf l q .busy) (u:LpS) :
  Gam P B (F.kill q.i) pl tb ⟨l2,oset (oset s.own aM .dead) o (.lpf l q u),s.nx⟩ j6 (U.upd q.i (.obj (.lp q.vals q.r u.st u.pend) true)):=by
 have aq:=hG.obj o;rw[ho] at aq;obtain⟨k1,k2,_⟩:=aq;have hk:=hG.obj aM;rw[h2] at hk;have hi:q.i<U.n:=U.lt (hG.le.2 _ _ hF);have aJ:∀ {d i},(Qr s.own d).live=true->Oid (pl d) i->i≠q.i:=λh1 h2 e=>by have:=hG.fresh _ _ h1 h2;subst e;rw[hF] at this;cases this
 have mr:∀ i,Oid (pl o) i->i=q.i:=λi h=>by rw[k1] at h;exact(osj h).symm
 have hg:∀ d,Qr (oset (oset s.own aM .dead) o (.lpf l q u)) d=if d=o then .lpf l q u else if d=aM then .dead else Qr s.own d:=λd=>by rw[QB,QB]
 have lv:∀ d,d≠o->(Qr (oset (oset s.own aM .dead) o (.lpf l q u)) d).live=true->(Qr s.own d).live=true:=λd e h=>by
  rw[hg,z0 e] at h;split at h
  .cases h
  .exact h
 refine⟨⟨hG.bf.1,λj b hb=>?_⟩,⟨hG.le.1,λj b hb=>?_⟩,hk,λd=>?_,λd i hd cY=>?_,λd d' i e h h' h1 jr=>?_,hG.free⟩
 .have e:j≠q.i:=by rintro rfl;rw[hB] at hb;cases hb
  rw[Heap.q0c _ e];exact hG.bf.2 _ _ hb
 .by_cases e:j=q.i
  .grind [Heap.q0h]
  .rw[Heap.q0c _ e] at hb;rw[Heap.q0b _ _ e];exact hG.le.2 _ _ hb
 .show OR P B pl tb _ _ (Qr (oset _ o _) d);rw[hg];by_cases e:d=o
  .subst e;rw[z2 rfl];exact⟨k1,k2,λ_=>Heap.q0d _ _ hi⟩
  .rw[z0 e];split
   .trivial
   .exact(hG.obj d).mono (.refl _) (λ_ _ h=>h) (by grind [Heap.q0b])
 .by_cases e:d=o
  .grind [Heap.q0h]
  .rw[Heap.q0c _ (aJ (lv d e hd) cY)];exact hG.fresh d i (lv d e hd) cY
 .by_cases e1:d=o
  .grind
  .by_cases e2:d'=o
   .grind
   .exact hG.sep d d' i e (lv d e1 h) (lv d' e2 h') h1 jr
theorem R2 {C:Cx}(aC:COk P C) {L:List (Nat×LoopAnn)}(vc:VCode):∀ {B0 F0 D0:Heap}(n:Nat) (K:Exit->St->Prop) (s:St) (env:Env) (U:Heap) (ro:Option Nat) (Q:Exit->Env->Heap->Prop),J13 F0 ro->GRel P B0 F0 D0 s env U->gwp C L vc n K s->(∀ e s' ah U',K e s'->GRel P B0 F0 D0 s' ah U'->Q e ah U')->vwp (Q4 P) vc ro Q env U:=by
 induction vc with
 |skip=>intro B0 F0 D0 n K s env U ro Q bU hR h hK;exact hK _ _ _ _ h hR
 |region ops=>intro B0 F0 D0 n K s env U ro Q bU hR h hK;exact P4 aC ops hR h (by grind)
 |regionD aU=>intro B0 F0 D0 n K s env U ro Q bU hR h hK;exact VT aC aU hR h (by grind)
 |rangeF g ps a b fC fa =>
  intro B0 F0 D0 n K s env U ro Q bU hR h hK;simp only[gwp] at h;split at h
  .rename_i f first dx hg
   split at h
   .
    rename_i x hx;obtain⟨B,F,pl,tb,hB,hG⟩:=hR;have gy:=hG.evs (Gds.nil (tb:=tb)) g;rw[hg] at gy;simp only[SR] at gy;obtain⟨x',y',cA,lz,oa⟩:=gy;obtain⟨h_,mj⟩:=aC.iy f x hx;show vwp (Q4 P) (.rangeF g ps a b) ro Q env U;simp only[vwp,Q2w,cA];have lA:(Q4 P).it f=some λi Y args U K=>MS P i Y->VCallsTo P f args U K:=by simp only[Q4];rw[z2 h_]
    rw[lA];refine⟨?_,λr hY=>?_⟩
    .cases ro with
     |none=>trivial
     |some i =>obtain⟨e1,r1,st1,qV,hi⟩:=bU;exact⟨e1,r1,st1,qV,hG.le.2 _ _ (hB.f.2 _ _ hi)⟩
    generalize jF:C.off+2000000+n=o at h;generalize fL:100000*(o+1)-1=aM at h;have au:o≠aM:=by omega
    let q:LpD:=⟨U.n,env,r⟩;let rdy:Blk:=.obj (.lp env r .ready none) true;let fc:Blk:=.obj (.lp env r .busy none) true;let p0:Value:=.pointer (some ⟨U.n,0,none⟩);have fq:Gam P B F (Yi pl o p0) tb (J1n o q s) env (U.push rdy):=by refine hG.push o (.lpf (SVs.kill o s.env) q .rdy) p0 rdy rfl ⟨rfl,SRs.upd (.refl _) (λ_ _ h=>h) (λj hj=>by simp[Yi,hj]) _ _ hG.env,λ_=>Heap.q0a _ _⟩
    have kl:∀ {xs us},SRs P B pl tb xs us->SRs P B (Yi pl o p0) tb (SVs.kill o xs) us:=λh=>SRs.upd (.refl _) (λ_ _ h=>h) (λj hj=>by simp[Yi,hj]) _ _ h;have aD:SRs P B (Yi pl o p0) tb (SVs.kill o first++(.dd o .yv::SVs.kill o dx)) (x'++(.func (.yield U.n) #[] #[]::y')):=by refine (kl lz).append ?_;simp only[SRs,SR,DR];exact⟨_,_,rfl,⟨U.n,by simp[Yi,p0],rfl⟩,kl oa⟩
    have uY:Z1h P o (Z02 o aM ps.length q (λK' s'=>gwp C L a n (Z2f (λs3=>gwp C L b n K' s3) λ_ _=>False) s') ps):=by
     intro B F pl tb s ah U args us K R i hG ha hy qU hK;unfold Z02 at hy;split at hy
     .rename_i l q' u ho;split at hy
      .cases hlen:Nat.beq args.length ps.length with
       |false=>rw[hlen] at hy;exact hy.elim
       |true =>
       rw[hlen] at hy;simp only[ze] at hy;obtain⟨rfl,hy⟩:=hy;have aq:=hG.obj o;rw[ho] at aq;have hi:i=q.i:=by have h1:=aq.1;simp_all
       subst hi;have mu:U.get q.i=some rdy:=aq.2.2 rfl;have je:(Qr s.own o).live=true:=by rw[ho];rfl
       have nU:F.get q.i=none:=hG.fresh o q.i je (by rw[aq.1];rfl);have sD:B.get q.i=none:=by
        cases hb:B.get q.i with
        |none=>rfl
        |some b=>rw[hG.bf.2 _ _ hb] at nU;cases nU
       have j_:=hG.enterLp ho au ha ps;have jv:(F.ins U q.i hG.le.1).get q.i=some rdy:=by rw[Heap.q0k];exact mu
       have gF:(F.ins U q.i hG.le.1).n=U.n:=rfl;have aQ:q.i<U.n:=U.lt mu;refine hY us U R ⟨mu,by rw[<-ha.length];exact(zD hlen),?_⟩;refine fC (B0:=B) (F0:=F.ins U q.i hG.le.1) (D0:=U) n _ _ _ U (some q.i) _ ⟨env,r,_,_,jv⟩ ⟨B,_,_,tb,.of j_.bf (Dead.refl _),j_⟩ (hy ah) λe s3 qW σ3 h7 h8=>?_;cases e with
       |normal =>
        have kM:σ3.get q.i=some rdy:=by obtain⟨B',F',pl',tb',q1,q2⟩:=h8;exact q2.le.2 _ _ (q1.f.2 _ _ jv)
        refine⟨kM,?_⟩;have h9:=h8.lpUpd (b:=fc) jv sD;have mv:((F.ins U q.i hG.le.1).upd q.i fc).get q.i=some fc:=(by grind [Heap.q0d]);refine fa (B0:=B) (F0:=(F.ins U q.i hG.le.1).upd q.i fc) (D0:=U) n _ _ _ _ (some q.i) _ ⟨env,r,_,_,mv⟩ h9 h7 λe s4 qX σ4 b7 iF=>?_;obtain⟨B',F',pl',tb',q1,q2⟩:=iF;have pH:=q1.f.2 _ _ mv;have qY:=q1.x _ _ mv sD;have ob:σ4.get q.i=some fc:=q2.le.2 _ _ pH;unfold gyK at b7;split at b7
        .rename_i l2 j6 l3 q3 u3 aB qZ;split at b7
         .obtain⟨rfl,rfl,b7⟩:=b7;have base:∀ b,GBase B F U B' (F'.kill q.i) (σ4.upd q.i b):=λb=>by
           refine⟨q1.b,⟨?_,λj c hc=>?_⟩,λj c h1 h2=>?_,q1.d.trans (Dead.upd _ _ _ (by rw[ob];rfl))⟩
           .have h1:=q1.f.1;have h2:=hG.le.1;show F.n<=F'.n;have h3:((F.ins U q.i hG.le.1).upd q.i fc).n=U.n:=rfl;omega
           .have e:j≠q.i:=by rintro rfl;rw[nU] at hc;cases hc
            rw[Heap.q0c _ e];refine q1.f.2 _ _ ?_
            grind [Heap.q0b,Heap.q1b]
           .have e:j≠q.i:=by rintro rfl;rw[nU] at h1;cases h1
            refine q1.x j c ?_ h2
            grind [Heap.q0b,Heap.q1b]
          refine⟨ob,?_⟩;cases e with
          |normal=>exact hK _ _ B' _ pl' tb' _ _ b7 (base _) (q2.leaveLp pH qY aB qZ .rdy) (by simp[SR,KC])
          |ret=>exact hK _ _ B' _ pl' tb' _ _ b7 (base _) (q2.leaveLp pH qY aB qZ .ret) (by simp[SR,KC])
          |exit id=>exact hK _ _ B' _ pl' tb' _ _ b7 (base _) (q2.leaveLp pH qY aB qZ (.exit id)) (by simp[SR,KC])
          |_=>exact b7.elim
         .exact b7.elim
        .exact b7.elim
       |_=>exact h7.elim
      .exact hy.elim
     .exact hy.elim
    have aV:=mj B F _ tb _ env (U.push rdy) o _ _ _ (Z5k o q K) (fun τ=>Z2h Q env U.n poison τ) fq aD uY (h q) λs' B' F' pl' tb' ah U' hk hb de=>by
     unfold Z5k at hk;split at hk
     .rename_i l q' u ho;have fin:∀ {e:Exit},u.live=true->q'=q->K e ⟨l,oset s'.own o .dead,s'.nx⟩->Q e env (U'.kill U.n)/\U'.get U.n=some (.obj (.lp env r u.st u.pend) true):=λ{e} hu hq uZ=>by
       subst hq;obtain⟨g1,g2⟩:=de.dropLp ho hu;refine⟨hK _ _ _ _ uZ ⟨B',F',pl',tb',⟨hB.b.trans hb.b,hB.f.trans hb.f,λj c h1 h2=>hb.x j c (hB.f.2 _ _ h1) (hB.x j c h1 h2),hB.d.trans ((Dead.push _ _).trans (hb.d.trans (Dead.kill _ _)))⟩,g1⟩,g2⟩
      cases u with
      |busy=>exact hk.elim
      |rdy =>obtain⟨hq,hk⟩:=hk;obtain⟨k1,k2⟩:=fin rfl hq hk;unfold Z2h;rw[k2];exact⟨(by intro h;cases h),k1⟩
      |ret =>obtain⟨hq,hk⟩:=hk;obtain⟨k1,k2⟩:=fin rfl hq hk;unfold Z2h;rw[k2];exact⟨(by intro h;cases h),k1⟩
      |exit id =>obtain⟨hq,hk⟩:=hk;obtain⟨k1,k2⟩:=fin rfl hq hk;unfold Z2h;rw[k2];exact⟨(by intro h;cases h),k1⟩
     .exact hk.elim
    refine VCallsTo.mono (R:=λ_ τ=>Z2h Q env U.n poison τ) (by simpa using aV) λv τ h=>h
   split at h
   rotate_left
   .exact h.elim
   split at h
   .rename_i it s1 cC A mZ q9 hA;split at h
    .rename_i c m ar xs hc;cases eA:Nat.beq ps.length ar with
     |false=>rw[eA] at h;exact h.elim
     |true =>
     rw[eA] at h;simp only[ze] at h;obtain⟨eY,p,d0,eM,I,u1,sE,u2⟩:=h;have eA:=zD eA;have hlen:s.env.length=env.length:=by obtain⟨B,F,pl,tb,_,hG⟩:=hR;exact hG.env.length
     rw[hlen] at sE u2;have qM:=hR;obtain⟨B,F,pl,tb,hB,hG⟩:=hR;have gy:=hG.evs Gds.nil g;rw[hg] at gy;simp only[SR] at gy;obtain⟨x,y,cA,hx,hy⟩:=gy;simp only[SRs] at hx;subst hx;obtain⟨B1,F1,oc,od,u4,l_⟩:=Sx hG hy q9;obtain⟨h_,q_⟩:=aC.it f it mZ;obtain⟨oe,ra⟩:=q_ B1 cC y c m ar xs u4 hc eY;have u5:GRel P B1 F1 D0 (Jd (List.length env) (A.st p d0) (A.own p d0)) env U:=GP ⟨B1,F1,pl,tb,⟨.refl _,.refl _,λ_ _ _ h=>h,(hB.trans oc).d⟩,od⟩ eM;have mw:B1.get U.n=none:=B1.wf _ od.leB.1;have wj:F1.get U.n=none:=F1.wf _ od.le.1;show vwp (Q4 P) (.rangeF g ps a b) ro Q env U;simp only[vwp,Q2w,cA];have lA:(Q4 P).it f=some λi Y args U K=>MS P i Y->VCallsTo P f args U K:=by simp only[Q4];rw[z2 h_]
     rw[lA];refine⟨?_,λr hY=>?_⟩
     .cases ro with
      |none=>trivial
      |some i =>obtain⟨e1,r1,st1,qV,hi⟩:=bU;exact⟨e1,r1,st1,qV,hG.le.2 _ _ (hB.f.2 _ _ hi)⟩
     .let rdy:Blk:=.obj (.lp env r .ready none) true;let fc:Blk:=.obj (.lp env r .busy none) true;have ka:F1.Le (U.push rdy):=od.le.push rdy;let Fr:=F1.ins (U.push rdy) U.n ka.1;have jv:Fr.get U.n=some rdy:=by
       grind [Heap.q0k,Heap.q0a]
      have gF:Fr.n=U.n+1:=rfl;have u6:F1.Le Fr:=ka.ins U.n;let J:Nat->Heap->Prop:=λk τ=>∃ d,I k d/\GRel P B1 Fr D0 (Jd (List.length env) (A.st p d) (A.own p d)) env τ;let E:Heap->Prop:=fun τ=>∃ cd e,τ.get U.n=some (.obj (.lp env r .done (some cd)) true)/\((cd=.ret/\e=Exit.ret)\/∃ id,cd=.exit id/\e=Exit.exit id)/\Q e env (τ.kill U.n);have back:∀ {s':St}{τ:Heap},GRel P B1 (Fr.upd U.n fc) D0 s' env τ->∀ b,GRel P B1 ((Fr.upd U.n fc).upd U.n b) D0 s' env (τ.upd U.n b):=λh b =>
       h.lpUpd (b0:=fc) (Heap.q0d _ _ (by rw[gF];omega)) mw
      have ke:∀ {Fx:Heap}{b0:Blk}{s':St}{τ:Heap},Fx.get U.n=some b0->(∀ i,i≠U.n->Fx.get i=F1.get i)->Fx.n=U.n+1->GRel P B1 Fx D0 s' env τ->GRel P B0 F0 D0 s' env (τ.kill U.n):=λ{Fx b0 s' τ} h1 h2 h3 h4=>by
       refine (h4.lpKill h1 mw).base (hB.b.trans oc.b) ⟨?_,λi b hb=>?_⟩ λi b k1 k2=>(hB.trans oc).x i b k1 k2
       .show F0.n<=Fx.n;rw[h3];have:=(hB.trans oc).f.1;have:=od.le.1;omega
       .have bP:=(hB.trans oc).f.2 _ _ hb
        grind [Heap.q0c]
      have rf:∀ i,i≠U.n->Fr.get i=F1.get i:=λi e=>Heap.q1b _ _ _ e;have aV:=ra U.n _ J E (U.push rdy) hY (λk τ ⟨d,_,hd⟩=>?_) (λk us τ hk ⟨d,sF,hd⟩ eK=>?_) ⟨d0,u1,?_⟩
      .refine VCallsTo.mono (R:=λ_ τ=>J m τ\/E τ) (by simpa using aV) λv τ si=>?_;unfold Z2h;rcases si with⟨d,sF,hd⟩|⟨cd,e,h1,h2,h3⟩
       .have mu:τ.get U.n=some rdy:=by
         obtain⟨B',F',pl',tb',q1,q2⟩:=hd;exact q2.le.2 _ _ (q1.f.2 _ _ jv)
        grind
       grind
      .obtain⟨B',F',pl',tb',q1,q2⟩:=hd;exact q1.b.trans q2.leB
      .
       have mu:τ.get U.n=some rdy:=by obtain⟨B',F',pl',tb',q1,q2⟩:=hd;exact q2.le.2 _ _ (q1.f.2 _ _ jv)
       refine⟨mu,by rw[eA,<-(oe k).1,eK.length],?_⟩;have hF:=sE k d hk sF env;have bn:GRel P B1 Fr D0 ⟨Rw (Q3h (2000000+n) env (Jd (List.length env) (A.st p d) (A.own p d))).env ps (xs k),(Q3h (2000000+n) env (Jd (List.length env) (A.st p d) (A.own p d))).own,0⟩ (Av env ps us) τ:=by
        obtain⟨B',F',pl',tb',q1,q2⟩:=hd;have q3:Gam P B' F' (Yi pl' (2000000+n) poison) tb' (Q3h (2000000+n) env (Jd (List.length env) (A.st p d) (A.own p d))) env τ:=by refine q2.make (2000000+n) _ poison q2.le (λ_ _ _ _ _=>rfl) ?_ (λi hl _=>by cases hl);exact SRs.upd (.refl _) (λ_ _ h=>h) (λj hj=>by simp[Yi,hj]) _ _ q2.env
        refine⟨B',F',Yi pl' (2000000+n) poison,tb',q1,⟨q3.bf,q3.le,Hb ?_ q3.env,q3.obj,q3.fresh,q3.sep,?_⟩⟩
        .exact SRs.mono q1.b (λ_ _ h=>h) _ _ (Wq _ _ (oe k).2 eK)
        .exact q3.free
       refine fC (B0:=B1) (F0:=Fr) n _ _ _ τ (some U.n) _ ⟨env,r,_,_,jv⟩ bn hF λe s3 qW σ3 h7 h8=>?_;cases e with
       |normal =>
        have kM:σ3.get U.n=some rdy:=by obtain⟨B',F',pl',tb',q1,q2⟩:=h8;exact q2.le.2 _ _ (q1.f.2 _ _ jv)
        refine⟨kM,?_⟩;have h9:=h8.lpUpd (b:=fc) jv mw;have mv:(Fr.upd U.n fc).get U.n=some fc:=Heap.q0d _ _ (by rw[gF];omega);refine fa (B0:=B1) (F0:=Fr.upd U.n fc) n _ _ _ _ (some U.n) _ ⟨env,r,_,_,mv⟩ h9 h7 λe s4 qX σ4 b7 iF=>?_;have ob:σ4.get U.n=some fc:=by obtain⟨B',F',pl',tb',q1,q2⟩:=iF;exact q2.le.2 _ _ (q1.f.2 _ _ mv)
        have sG:U.n<σ4.n:=σ4.lt ob;unfold Z0r at b7;split at b7
        .rename_i l vs iJ;obtain⟨rfl,b7⟩:=b7;have df:GRel P B1 (Fr.upd U.n fc) D0 ⟨l,s4.own,s4.nx⟩ vs σ4:=by
          obtain⟨B',F',pl',tb',q1,q2⟩:=iF;have:=q2.obj (2000000+n);rw[iJ] at this;exact⟨B',F',pl',tb',q1,q2.bf,q2.le,this,q2.obj,q2.fresh,q2.sep,q2.free⟩
         have og:∀ b,((Fr.upd U.n fc).upd U.n b).get U.n=some b:=λb=>Heap.q0d _ _ (by show U.n<Fr.n;rw[gF];omega);have sH:∀ b i,i≠U.n->((Fr.upd U.n fc).upd U.n b).get i=F1.get i:=(by grind [Heap.q0b]);refine⟨ob,?_⟩;cases e with
         |normal =>
          obtain⟨d',lb,u7⟩:=b7;refine .inl ⟨rfl,d',u7,?_⟩;have:=(back (GP df lb) rdy).base (B0:=B1) (F0:=Fr) (.refl _) ⟨z4 _,λi b hb=>?_⟩ λi b k1 k2=>k2
          .exact this
          .grind
         |ret =>refine .inr ⟨rfl,_,_,Heap.q0d _ _ sG,.inl ⟨rfl,rfl⟩,hK _ _ _ _ b7 (ke (og _) (sH _) (by show Fr.n=_;exact gF) (back df _))⟩
         |exit id =>refine .inr ⟨rfl,_,_,Heap.q0d _ _ sG,.inr ⟨id,rfl,rfl⟩,hK _ _ _ _ b7 (ke (og _) (sH _) (by show Fr.n=_;exact gF) (back df _))⟩
         |_=>exact b7.elim
        .exact b7.elim
       |_=>exact h7.elim
      .
       obtain⟨B',F',pl',tb',q1,q2⟩:=u5;have hle:F'.Le (U.push rdy):=q2.le.push rdy;have u9:F'.get U.n=none:=F'.wf _ q2.le.1;have aq:∀ d i,(Qr (Jd (List.length env) (A.st p d0) (A.own p d0)).own d).live=true->Oid (pl' d) i->i<U.n:=λd i h1 h2=>(q2.obj d).q1n h1 h2;refine⟨B',F'.ins (U.push rdy) U.n hle.1,pl',tb',⟨q1.b,Heap.q1w q1.f _ _ _,λi b k1 k2=>?_,q1.d.trans (Dead.push _ _)⟩,⟨q2.bf.trans (hle.ins _),hle.q1v _,q2.env,λd=>(q2.obj d).mono (.refl _) (λ_ _ h=>h) (by grind [Heap.q0j]),λd i h1 h2=>?_,q2.sep,q2.free⟩⟩
       .by_cases e:i=U.n
        .subst e;exact B'.wf _ q2.leB.1
        .rw[rf i e] at k1;exact q1.x i b k1 k2
       .rw[Heap.q1b _ _ _ (Nat.ne_of_lt (aq d i h1 h2))];exact q2.fresh d i h1 h2
    .exact h.elim
   .exact h.elim
  .exact h.elim
 |bad=>intro B0 F0 D0 n K s env U ro Q bU hR h hK;exact h.elim
 |ret=>intro B0 F0 D0 n K s env U ro Q bU hR h hK;exact hK _ _ _ _ h hR
 |exit id=>intro B0 F0 D0 n K s env U ro Q bU hR h hK;exact hK _ _ _ _ h hR
 |seq a b fC fa =>
  intro B0 F0 D0 n K s env U ro Q bU hR h hK;refine fC n _ s env U ro _ bU hR h λe s' ah U' h1 h2=>?_;cases e with
  |normal=>exact fa n K s' ah U' ro Q bU h2 h1 hK
  |_=>exact hK _ _ _ _ h1 h2
 |cond c a b fC fa =>
  intro B0 F0 D0 n K s env U ro Q bU hR h hK;simp only[gwp] at h;split at h
  .rename_i t ht;have qM:=hR;obtain⟨B,F,pl,tb,hB,hG⟩:=hR;have:=BJ hG ht;simp only[vwp,this,Z0e];cases t with
   |true=>exact⟨(by grind),λe=>by cases e⟩
   |false=>exact⟨(λe=>by cases e),(by grind)⟩
  split at h
  .rename_i t ht;obtain⟨B,F,pl,tb,hB,hG⟩:=hR;have:=Kx ht (hG.evs Gds.nil c);simp only[vwp,this,Z0e];split at h
   .rename_i A hA;obtain⟨p,I,hF,hI⟩:=h;have fin:∀ e s' ah U',Z4y s.env.length A p I K e s'->GRel P B0 F0 D0 s' ah U'->Q e ah U':=λe s' ah U' h1 h2=>by
     cases e with
     |normal =>obtain⟨d,h3,h4⟩:=h1;exact hK _ _ _ _ (hI d h4) (Dm h2 h3)
     |_=>exact hK _ _ _ _ h1 h2
    exact⟨λe=>fC n _ s env U ro Q bU ⟨B,F,pl,tb,hB,hG⟩ (hF.1 e) fin,λe=>fa n _ s env U ro Q bU ⟨B,F,pl,tb,hB,hG⟩ (hF.2 e) fin⟩
   exact⟨λe=>fC n K s env U ro Q bU ⟨B,F,pl,tb,hB,hG⟩ (h.1 e) hK,λe=>fa n K s env U ro Q bU ⟨B,F,pl,tb,hB,hG⟩ (h.2 e) hK⟩
  .exact h.elim
 |block id b ih =>
  intro B0 F0 D0 n K s env U ro Q bU hR h hK;refine ih id _ s env U ro _ bU hR h λe s' ah U' h1 h2=>?_;cases e with
  |exit gS =>
   simp only[Z0s] at h1;simp only[Q5f];split
   .grind
   .grind
  |_=>exact hK _ _ _ _ h1 h2
 |loop b ih =>
  intro B0 F0 D0 n K s env U ro Q bU hR h hK;simp only[gwp] at h;split at h
  .rename_i A hA;obtain⟨p,d0,h1,I,μ,h2,h3⟩:=h;have hlen:s.env.length=env.length:=by obtain⟨B,F,pl,tb,_,hG⟩:=hR;exact hG.env.length
   have hk:∀ d,(A.st p d).map (·.1)=A.sl:=λd=>EM _ _;refine⟨A.sl,λm vs U'=>∃ d,I d/\μ d=m/\GRel P B0 F0 D0 (Jd s.env.length (A.st p d) (A.own p d)) (Ky A.sl vs (List.replicate env.length poison)) U',μ d0,⟨d0,h2,rfl,?_⟩,λm vs U' ⟨d,h4,h5,h6⟩=>?_⟩
   .grind [Lj]
   .refine ih n _ _ _ U' ro _ bU h6 (h3 d h4) λe s' ah aN h7 h8=>?_;cases e with
    |normal =>
     simp only[Z3c] at h7;cases nE:J0w s'.own with
     |false=>rw[nE] at h7;exact h7.elim
     |true =>
     rw[nE] at h7;obtain⟨d',h9,b7,iF⟩:=h7;refine⟨μ d',by omega,d',b7,rfl,?_⟩;have:=Lj h8 h9 s.env.length;rw[hk d',hlen] at this;rw[hlen];exact this
    |_=>exact hK _ _ _ _ h7 h8
  .exact h.elim
end
end Go.V
namespace Go.V
open Go
def Q24 (s:St):VResult->Option SV
 |.tmp t=>some (s.env.getD t .any)
 |.cell a agg size=>bif Nat.blt 0 size then Z1c s.own agg size (s.env.getD a .any) else none
def Dc (s:St) (rs:List VResult):Option SV :=
 match rs with
 |[r]=>Q24 s r
 |rs=>(rs.mapM (Q24 s)).map .tup
def Z36 (mp:List (Nat×Option Nat)) (j:Nat) (a:Option Nat):Option (List (Nat×Option Nat)) :=
 if (Zm mp j).isSome then none else match a with
 |some x=>if mp.any λp=>p.2==some x then none else some (mp++[(j,a)])
 |none=>some (mp++[(j,a)])
mutual
def rmap:SV->SV->List (Nat×Option Nat)->Option (List (Nat×Option Nat))
 |.lst j,v,mp=>match v with|.lst a=>Z36 mp j (some a)|.nilS=>Z36 mp j none|_=>none
 |.map j,v,mp=>match v with|.map a=>Z36 mp j (some a)|_=>none
 |.dd j w,v,mp=>match w with
  |.out=>(match v with
   |.dd a w'=>(match w' with|.out=>Z36 mp j (some a)|_=>none)
   |.nilS=>Z36 mp j none
   |_=>none)
  |_=>none
 |.box j _,v,mp=>match v with|.box a _=>Z36 mp j (some a)|_=>none
 |.agg l,v,mp=>match v with|.agg l'=>Q8b l l' mp|_=>none
 |.tup l,v,mp=>match v with|.tup l'=>Q8b l l' mp|_=>none
 |.any,_,mp=>some mp
 |.val _ _,_,mp=>some mp
 |.nilS,_,mp=>some mp
 |.nilP,_,mp=>some mp
 |.nilM,_,mp=>some mp
 |.nilF,_,mp=>some mp
 |.sub _ _ _ _,_,_|.elp _ _ _ _,_,_|.grd _ _,_,_|.cp _ _,_,_|.fn _ _ _,_,_|.rop _ _ _ _,_,_|.pf _ _ _ _,_,_|.bid _ _,_,_=>none
def Q8b:List SV->List SV->List (Nat×Option Nat)->Option (List (Nat×Option Nat))
 |[],_,mp=>some mp
 |s::ss,l,mp=>match l with
  |v::vs=>match rmap s v mp with|some mp=>Q8b ss vs mp|none=>none
  |[]=>none
end
def Z2y (s:St) (mp:List (Nat×Option Nat)):Nat->List OB->Prop
 |_,[]=>True
 |j,b::r=>Z03 s mp j b/\Z2y s mp (j+1) r
def Yh (rs:List VResult) (v:SV) (bs:List OB):Exit->St->Prop:=λe s =>
 let fin:=match Dc s rs with
  |some r=>(match rmap v r [] with
   |some mp=>Aq mp v r/\Z2y s mp 0 bs
   |none=>False)
  |none=>False
 match e with
 |.normal=>fin
 |.ret=>fin
 |_=>False
section
variable {P:Program}{B F:Heap}{pl:Nat->Value}{tb:Nat->Option Bool}{s:St}{env:Env}{U:Heap}
theorem CC (hG:Gam P B F pl tb s env U) {r:VResult}{v:SV}(h:Q24 s r=some v):∃ u,Y8 env U r=some u/\SR P B pl tb v u:=by
 cases r with
 |tmp t=>obtain rfl:=osj h;exact⟨_,rfl,hG.env.getD t undef⟩
 |cell a agg size =>
  simp only[Q24] at h;cases hb:Nat.blt 0 size with
  |false=>rw[hb] at h;cases h
  |true =>rw[hb] at h;obtain⟨i,o,c,e,wr,t,u,h1,h2,h3,h4⟩:=EF hG.leB hG.obj (by simpa [zu] using hb) h (hG.env.getD a undef);refine⟨u,?_,h4⟩;simp only[Y8,Qb,Q5,h1,h2,h3];rfl
theorem G0 (hG:Gam P B F pl tb s env U) {rs:List VResult}{v:SV}(h:Dc s rs=some v):∃ u,Yn env U rs=some u/\SR P B pl tb v u:=by
 have all:∀ (rs:List VResult) (l:List SV),rs.mapM (Q24 s)=some l->∃ us,rs.mapM (Y8 env U)=some us/\SRs P B pl tb l us:=by
  intro rs;induction rs with
  |nil=>intro l h;simp at h;subst h;exact⟨[],rfl,rfl⟩
  |cons r rs ih =>
   intro l h;rw[zZ] at h;cases h1:Q24 s r with
   |none=>simp[h1] at h
   |some a =>
    cases h2:rs.mapM (Q24 s) with
    |none=>simp[h1,h2] at h
    |some l' =>simp[h1,h2] at h;subst h;obtain⟨u,h3,h4⟩:=CC hG h1;obtain⟨us,h5,h6⟩:=ih l' h2;exact⟨u::us,by rw[zZ];simp[h3,h5],by simp only[SRs];exact⟨u,us,rfl,h4,h6⟩⟩
 have tup:(rs.mapM (Q24 s)).map SV.tup=some v->∃ u,(rs.mapM (Y8 env U)).map (λvs=>Value.tuple vs.toArray)=some u/\SR P B pl tb v u:=λh=>by simp only[zg] at h;obtain⟨l,h1,rfl⟩:=h;obtain⟨us,h2,h3⟩:=all rs l h1;exact⟨.tuple us.toArray,by rw[h2];rfl,by simp only[SR];exact⟨us,rfl,h3⟩⟩
 match rs,h,tup with
 |[r],h,_=>exact CC hG h
 |[],h,tup=>exact tup h
 |_::_::_,h,tup=>exact tup h
theorem Cn {mp bV:List (Nat×Option Nat)}{j:Nat}{a:Option Nat}(h:Z36 mp j a=some bV) (hi:Inj mp):Inj bV:=by
 unfold Z36 at h;split at h
 .cases h
 .split at h
  .rename_i x;split at h
   .cases h
   .rename_i hc;obtain rfl:=osj h;have df:∀ d,Zm mp d≠some (some x):=(by grind [Q2i,List.any_eq_true]);intro t1 t2 a' h1 h2;rw[MF] at h1 h2;split at h1
    .rename_i y1 e1;split at h2
     .rename_i y2 e2;obtain rfl:=osj h1;obtain rfl:=osj h2;exact hi t1 t2 a' e1 e2
     simp_all
    grind
  .obtain rfl:=osj h;intro t1 t2 a' h1 h2;rw[MF] at h1 h2;split at h1
   .rename_i y1 e1;split at h2
    .rename_i y2 e2;obtain rfl:=osj h1;obtain rfl:=osj h2;exact hi t1 t2 a' e1 e2
    .split at h2<;>cases h2
   .split at h1<;>cases h1
mutual
theorem Q51:∀ (v r:SV) (mp bV:List (Nat×Option Nat)),rmap v r mp=some bV->Inj mp->Inj bV
 |.lst j,r,mp,bV,h,hi=>by
  simp only[rmap] at h
  grind [Cn]
 |.map j,r,mp,bV,h,hi=>by
  simp only[rmap] at h
  grind [Cn]
 |.dd j w,r,mp,bV,h,hi=>by
  simp only[rmap] at h
  grind [Cn]
 |.box j _,r,mp,bV,h,hi=>by
  simp only[rmap] at h
  grind [Cn]
 |.agg l,r,mp,bV,h,hi=>by
  simp only[rmap] at h;split at h
  .exact Ag l _ mp bV h hi
  .cases h
 |.tup l,r,mp,bV,h,hi=>by
  simp only[rmap] at h;split at h
  .exact Ag l _ mp bV h hi
  .cases h
 |.any,r,mp,bV,h,hi|.val _ _,r,mp,bV,h,hi|.nilS,r,mp,bV,h,hi|.nilP,r,mp,bV,h,hi|.nilM,r,mp,bV,h,hi|.nilF,r,mp,bV,h,hi=>by simp only[rmap] at h;simp_all
 |.sub _ _ _ _,r,mp,bV,h,hi|.elp _ _ _ _,r,mp,bV,h,hi|.grd _ _,r,mp,bV,h,hi|.cp _ _,r,mp,bV,h,hi|.fn _ _ _,r,mp,bV,h,hi|.rop _ _ _ _,r,mp,bV,h,hi|.pf _ _ _ _,r,mp,bV,h,hi|.bid _ _,r,mp,bV,h,hi=>by cases h
theorem Ag:∀ (v r:List SV) (mp bV:List (Nat×Option Nat)),Q8b v r mp=some bV->Inj mp->Inj bV
 |[],r,mp,bV,h,hi=>by simp only[Q8b] at h;simp_all
 |s::ss,[],mp,bV,h,hi=>by cases h
 |s::ss,r::rs,mp,bV,h,hi=>by
  simp only[Q8b] at h;split at h
  .rename_i sI h1;exact Ag ss rs sI bV h (Q51 s r mp sI h1 hi)
  .cases h
end
theorem Q1y {mp:List (Nat×Option Nat)}:∀ (bs:List OB) (n:Nat),Z2y s mp n bs->∀ j b,bs[j]?=some b->Z03 s mp (n+j) b
 |[],n,_,j,b,hj=>by simp at hj
 |b0::r,n,h,j,b,hj=>by
  obtain⟨h1,h2⟩:=h;cases j with
  |zero=>simp at hj;subst hj;exact h1
  |succ j =>
   have:=Q1y r (n+1) h2 j b (by simpa using hj)
   rwa [zo,xN 1 j] at this
mutual
theorem Q6j {n:Nat}{π:Nat->Nat}:∀ (v:SV) (u:Value),v.ret 0=true->SR P B pl tb v u->Ren n π u u
 |.val k x,u,h,hs=>by
  simp only[SR] at hs;cases k with
  |i ik=>simp only[KC] at hs;obtain rfl:=(zM hs).1;exact .plain _ rfl
  |bo=>simp only[KC] at hs;obtain rfl:=(zM hs).1;exact .plain _ rfl
  |st=>simp only[KC] at hs;obtain rfl:=(zM hs).1;exact .plain _ rfl
  |list k=>cases h
  |pair a b =>have h1:=KC.length hs;have h2:=a.size_pos;have h3:=b.size_pos;simp only[Kind.size,zV] at h1;omega
 |.nilS,u,_,hs|.nilP,u,_,hs|.nilM,u,_,hs|.nilF,u,_,hs=>by simp only[SR] at hs;subst hs;exact .plain _ rfl
 |.lst j,u,h,_|.box j _,u,h,_|.map j,u,h,_=>by simp[SV.ret,zu] at h
 |.dd j w,u,h,_=>by cases w<;>simp[SV.ret,zu] at h
 |.agg l,u,h,hs=>by simp only[SR] at hs;obtain⟨cs,rfl,h2⟩:=hs;have:=AV (n:=n) (π:=π) l cs h h2;exact .agg _ _ rfl λi h3 _=>this _ (by simp)
 |.tup l,u,h,hs=>by simp only[SR] at hs;obtain⟨cs,rfl,h2⟩:=hs;have:=AV (n:=n) (π:=π) l cs h h2;exact .tuple _ _ rfl λi h3 _=>this _ (by simp)
 |.any,_,h,_|.bid _ _,_,h,_|.grd _ _,_,h,_|.sub _ _ _ _,_,h,_|.elp _ _ _ _,_,h,_|.rop _ _ _ _,_,h,_|.cp _ _,_,h,_|.fn _ _ _,_,h,_|.pf _ _ _ _,_,h,_=>by cases h
theorem AV {n:Nat}{π:Nat->Nat}:∀ (v:List SV) (u:List Value),SVs.ret 0 v=true->SRs P B pl tb v u->∀ x∈u,Ren n π x x
 |[],u,_,hs=>by simp only[SRs] at hs;subst hs;intro x hx;cases hx
 |s::ss,u,h,hs=>by
  simp only[SVs.ret,z1] at h;simp only[SRs] at hs;obtain⟨x,y,rfl,h1,h2⟩:=hs;intro z hz;rcases zB.1 hz with rfl|hz
  .exact Q6j s z h.1 h1
  .exact AV ss y h.2 h2 z hz
end
theorem Q8c (exact:Bool) {σ0:Heap}{sf:St}{lB:Env}{σf:Heap}(hR:GRel P σ0 σ0 σ0 sf lB σf) {rs:List VResult}{v:SV}{bs:List OB}{e:Exit}(hv:v.ret bs.length=true) (hb:bs.all OB.ret=true) (h:Yh rs v bs e sf) (hx:exact=true->bs.all OB.isL=true/\MY v=true) :
  J0f σ0 rs (λu U'=>if exact then u=G2 (Bo σ0 bs) v/\U'=Fy σ0 bs else Ret P σ0 v bs u U') e lB σf:=by
 have main:(match Dc sf rs with
  |some r=>(match rmap v r [] with
   |some mp=>Aq mp v r/\Z2y sf mp 0 bs
   |none=>False)
  |none=>False)->Jk (Yn lB σf rs) λu=>∃ v' U',DropTo σ0 u σf v' U'/\(if exact then v'=G2 (Bo σ0 bs) v/\U'=Fy σ0 bs else Ret P σ0 v bs v' U'):=λh=>by
  split at h
  .rename_i r hr;split at h
   .rename_i mp ly;obtain⟨h1,h2⟩:=h;obtain⟨B,F,pl,tb,⟨hB,hF,_,hd⟩,hG⟩:=hR;obtain⟨u,h3,h4⟩:=G0 hG hr;have iW:=G9 v r u h1 h4;have eQ:=Q51 v r [] mp ly (λt t' a h=>by cases h);have aq:∀ j b,bs[j]?=some b->Z03 sf mp j b:=λj b hj=>by have:=Q1y bs 0 h2 j b hj;rwa [zY] at this
    rw[h3];have hle:σ0.Le σf:=hF.trans hG.le;have hA:Agree σ0 σf:=λi hi=>by
     cases hg:σ0.get i with
     |none=>exact hd.2 i hi hg
     |some b=>exact hle.2 i b hg
    have aW:∀ j b,bs[j]?=some b->OR P hNil (H0 pl mp) Yz σf (H0 pl mp j) b/\∀ i,Oid (H0 pl mp j) i->σ0.get i=none/\σ0.n<=i:=λj b hj=>by
     obtain⟨k1,k2⟩:=ZK hG (aq j b hj);have dz:=z8.1 hb b (zX hj);have ax:b.live=true:=by cases b<;>first|rfl|cases dz
     refine⟨k1.retd dz λ_ _=>rfl,λi hi=>?_⟩;obtain⟨a,e1,e2,e3⟩:=k2 ax i hi;have mw:=hG.fresh a i e2 e3;have hn:σ0.get i=none:=by
      cases hg:σ0.get i with
      |none=>rfl
      |some b=>rw[hF.2 i b hg] at mw;cases mw
     refine⟨hn,Nat.le_of_not_lt λao=>?_⟩;have a8:=hd.2 i ao hn;have aq:=hG.obj a;cases ho:Qr sf.own a with
     |dead=>rw[ho] at e2;cases e2
     |lst ty k xs nl =>
      rw[ho] at aq;rcases aq with⟨_,_,h2⟩|⟨_,i',cap,c,t,h2,_,h3,_⟩
      .rw[h2] at e3;cases e3
      .rw[h2] at e3;obtain rfl:=osj e3;rw[h3] at a8;cases a8
     |cells l u=>rw[ho] at aq;obtain⟨i',c,e,t,h2,h3,_⟩:=aq;rw[h2] at e3;obtain rfl:=osj e3;rw[h3] at a8;cases a8
     |mapE kk vk m key n=>rw[ho] at aq;obtain⟨i',es,cl,r,e,h2,h3,_⟩:=aq;rw[h2] at e3;obtain rfl:=osj e3;rw[h3] at a8;cases a8
     |map kk vk m=>rw[ho] at aq;obtain⟨i',es,cl,h2,h3,_⟩:=aq;rw[h2] at e3;obtain rfl:=osj e3;rw[h3] at a8;cases a8
     |fm ik l=>rw[ho] at aq;obtain⟨i',es,cl,h2,h3,_⟩:=aq;rw[h2] at e3;obtain rfl:=osj e3;rw[h3] at a8;cases a8
     |stk l vals=>rw[ho] at e2;cases e2
     |lpf l q s=>rw[ho] at aq e2;obtain⟨h2,_,h3⟩:=aq;rw[h2] at e3;obtain rfl:=osj e3;have h3:=h3 e2;rw[a8] at h3;cases h3
     |iter kk vk m dn=>rw[ho] at aq;obtain⟨j',i',es,cl,wr,seen,h2,h3,_⟩:=aq;rw[h2] at e3;obtain rfl:=osj e3;rw[h3] at a8;cases a8
     |siter l pos=>rw[ho] at aq;obtain⟨j',s',h2,h3,_⟩:=aq;rw[h2] at e3;obtain rfl:=osj e3;rw[h3] at a8;cases a8
     |rmap kk vk m=>rw[ho] at e2;cases e2
     |deep ty q k xs nl hh =>rw[ho] at aq;obtain⟨is,_,d2,d3,_⟩:=DP.open aq;obtain⟨c,e,t,h⟩:=d2.cells i ((d3 i).1 e3);rw[h] at a8;cases a8
    have iH:∀ j j' i,j<bs.length->j'<bs.length->j≠j'->Oid (H0 pl mp j) i->Oid (H0 pl mp j') i->False:=λj j' i hj di aJ hi cY=>by
     have bP:=z3 hj;have bN:=z3 di;have r1:=z8.1 hb _ (zd hj);have r2:=z8.1 hb _ (zd di);have l1:(bs[j]).live=true:=by cases pg:bs[j]<;>first|rfl|(rw[pg] at r1;cases r1)
     have l2:(bs[j']).live=true:=by cases pg:bs[j']<;>first|rfl|(rw[pg] at r2;cases r2)
     obtain⟨a,e1,e2,e3⟩:=(ZK hG (aq j _ bP)).2 l1 i hi;obtain⟨a',u_,jX,vd⟩:=(ZK hG (aq j' _ bN)).2 l2 i cY;by_cases e:a=a'
     .subst e;exact aJ (eQ j j' a e1 u_)
     .exact hG.sep a a' i e e2 jX e3 vd
    cases hex:exact with
    |true =>obtain⟨hl,cP⟩:=hx hex;have oh:=Q7u (P:=P) hA hle.1 hv cP hb hl (pl:=H0 pl mp) (u:=u) (λj b hj=>⟨(aW j b hj).1,λi hi=>((aW j b hj).2 i (SU hi)).2⟩) (λj j' i a b c d e=>iH j j' i a b c (SU d) (SU e)) (iW.retd (λj hj=>rfl) _ _ hv);exact⟨_,_,oh,by simp⟩
    |false =>
     simp only[zj,if_false];by_cases b6:bs=[]
     .subst b6;refine⟨u,σ0,.rename (λi=>i) (z4 _) (λi hi=>⟨rfl,(hA i hi).symm,.inl (hA i hi)⟩) (λi k1 k2=>by omega) (λ_ _ _ _ _ _ h=>h) (Q6j v u hv iW),?_⟩;exact⟨⟨Heap.Le.refl _,Dead.refl _⟩,λ_=>rfl,KR,(λj b hj=>by simp at hj),(λj j' i hj=>by simp at hj),iW.retd (λj hj=>by simp at hj) _ _ hv⟩
     .exact⟨u,σf,.refl _ _ _,⟨hle,hd⟩,λe=>absurd e b6,H0 pl mp,aW,iH,iW.retd (λj hj=>rfl) _ _ hv⟩
   .exact h.elim
  .exact h.elim
 cases e with
 |normal=>exact main h
 |ret=>exact main h
 |_=>exact h.elim
def Qo (nt:Nat) (args:List SV):St:=⟨args++List.replicate (nt-args.length) .any,[],0⟩
theorem Q81 {args:List SV}{vs:List Value}(h:SRs P U KR Yz args vs) (nt:Nat):GRel P U U U (Qo nt args) (vs++List.replicate (nt-vs.length) undef) U:=by
 have ve:∀ n,SRs P U KR Yz (List.replicate n .any) (List.replicate n undef):=by
  intro n;induction n with
  |zero=>simp[SRs]
  |succ n ih=>simp only[xn,SRs];exact⟨_,_,rfl,by simp[SR],ih⟩
 refine⟨U,U,KR,Yz,⟨Heap.Le.refl _,Heap.Le.refl _,(by simp_all),Dead.refl _⟩,Heap.Le.refl _,Heap.Le.refl _,?_,λd=>trivial,(λd i hl=>by cases hl),(λd d' i _ hl=>by cases hl),λ_ _=>rfl⟩;have:=h.length;simp only[Qo,this];exact h.append (ve _)
theorem Fun.okC {f:Nat}{vc:VCode}{rs:List VResult}{nt:Nat}(h:Fun P f vc rs nt) (hm:P.follows .mixedOrders=true) {sp:CSp}
  (hb:∀ ap,Z47 P ap->∀ args c v bs,sp ap args=some (c,v,bs)->c->∃ (C:Cx) (L:List (Nat×LoopAnn)) (cg:List SV),(∀ U vs,SRs P U KR Yz args vs->SRs P U KR Yz cg vs)/\COk P C/\gwp C L vc 0 (Yh rs v bs) (Qo nt cg)):OkC P f sp:=by
 intro ap eI U args vs c v bs aD fb hv b6 hc;obtain⟨C,L,cg,h1,h2,h3⟩:=hb ap eI args c v bs fb hc;have main:∀ exact:Bool,(exact=true->bs.all OB.isL=true/\MY v=true)->VCalled P f vs U λu U'=>if exact then u=G2 (Bo U bs) v/\U'=Fy U bs else Ret P U v bs u U':=λexact hx=>by refine h.calls hm OA ?_;exact R2 h2 vc 0 _ _ _ U none _ trivial (Q81 (h1 U vs aD) nt) h3 λe s' ah U' k1 k2=>Q8c exact k2 hv b6 k1 hx
 simp_all
theorem OkC.true {f:Nat}{sp:CSp}(h:OkC P f sp) (he:Km P f) {U:Heap}{args:List SV}{vs:List Value}(ha:SRs P U KR Yz args vs) {c:Prop}(hs:sp (λ_ _=>none) args=some (c,.val .bo true,[])) (hc:c) :
  VCallsTo P f vs U λv _=>v=.bool true:=by
 have:=(h (λ_ _=>none) (λ_ _ _ _ _ _ _ _ _ h=>by cases h) U args vs c _ [] ha hs rfl rfl hc).1;intro ρ w aw hH hL;rcases this ρ w aw hH hL with⟨_,h2⟩|⟨c',_,h2⟩
 .refine h2.mono λe w' ⟨c',h3,h4⟩=>⟨c',h3,h4.mono λu U' hr=>?_⟩;have:=(hr.flat rfl).2;simpa only [SR,KC,List.cons.injEq,and_true] using this
 .have:=h2 w (Like.refl ρ w)
  grind [BQ]
end
end Go.V
namespace Go.V
open Go
mutual
inductive AP:Type->Type 1 where
 |k (k:Kind):AP k.T
 |agg {D:Type}(l:AL D):AP D
 |ptr {D:Type}(l:AL D):AP D
 |fnx {D:Type}(g:Nat) (l:AL D):AP D
 |fn (ks:List Kind) (r:Kind):AP ((AT ks->Prop)×(AT ks->r.T))
 |nilS:AP Unit
 |any:AP Unit
 |int (k:IntKind) (n:Int):AP Unit
inductive AL:Type->Type 1 where
 |nil:AL Unit
 |one {D:Type}(a:AP D):AL D
 |cons {D E:Type}(a:AP D) (r:AL E):AL (D×E)
end
def Q0d:(ks:List Kind)->AT ks->List SV
 |[],_=>[]
 |[k],x=>[Z12 k x]
 |k::k'::ks,x=>Z12 k x.1::Q0d (k'::ks) x.2
abbrev Ap:=SV->List SV->Option (Prop×SV)
def Z22 (ap:Ap) (f:SV) (ks:List Kind) (r:Kind) (x:AT ks):Prop:=match ap f (Q0d ks x) with
 |some (c,v)=>(match gap.asV r v with|some _=>c|none=>False)
 |none=>False
def fnP (ap:Ap) (f:SV) (ks:List Kind) (r:Kind) (x:AT ks):r.T:=match ap f (Q0d ks x) with
 |some (_,v)=>(match gap.asV r v with|some y=>y|none=>r.dflt)
 |none=>r.dflt
mutual
def AP.dec (ap:Ap):{D:Type}->(p:AP D)->SV->Option D
 |_,.k k,v=>match k with
  |.list k=>view [] k v
  |.i ik=>FE (.i ik) [v]
  |.bo=>FE .bo [v]
  |.st=>FE .st [v]
  |.pair _ _=>none
 |_,.agg l,v=>match v with|.agg vs=>AL.dec ap l vs|_=>none
 |_,.nilS,v=>match v with|.nilS=>some ()|_=>none
 |_,.any,_=>some ()
 |_,.int k n,v=>match FE (.i k) [v] with|some x=>if (show Int from x)=n then some () else none|none=>none
 |_,.ptr l,v=>match v with|.cp vs 0=>AL.dec ap l vs|_=>none
 |_,.fnx g l,v=>match v with|.fn g' [] vs=>if g'=g then AL.dec ap l vs else none|_=>none
 |_,.fn ks r,v=>match v with
  |.fn g a b=>some (Z22 ap (.fn g a b) ks r,fnP ap (.fn g a b) ks r)
  |.pf sJ r' cI p=>some (Z22 ap (.pf sJ r' cI p) ks r,fnP ap (.pf sJ r' cI p) ks r)
  |_=>none
def AL.dec (ap:Ap):{D:Type}->(l:AL D)->List SV->Option D
 |_,.nil,vs=>match vs with|[]=>some ()|_=>none
 |_,.one a,vs=>match vs with|[v]=>AP.dec ap a v|_=>none
 |_,.cons a r,vs=>match vs with
  |v::vs=>(match AP.dec ap a v,AL.dec ap r vs with|some x,some y=>some (x,y)|_,_=>none)
  |[]=>none
end
mutual
def AP.can:{D:Type}->(p:AP D)->D->SV
 |_,.k k,x=>.val k x
 |_,.agg l,x=>.agg (AL.can l x)
 |_,.nilS,_=>.nilS
 |_,.any,_=>.any
 |_,.int k n,_=>.val (.i k) n
 |_,.ptr l,x=>.cp (AL.can l x) 0
 |_,.fnx g l,x=>.fn g [] (AL.can l x)
 |_,.fn ks r,x=>.pf ks r x.1 x.2
def AL.can:{D:Type}->(l:AL D)->D->List SV
 |_,.nil,_=>[]
 |_,.one a,x=>[AP.can a x]
 |_,.cons a r,x=>AP.can a x.1::AL.can r x.2
end
def Y9 {D:Type}(l:AL D) (pre:D->Prop) (res:D->SV) (obs:D->List OB):CSp:=λap args=>match AL.dec ap l args with
 |some d=>some (pre d,res d,obs d)
 |none=>none
section
variable {P:Program}{U:Heap}
theorem TN:∀ {ks:List Kind}{x:AT ks}{vs:List Value},Ip U ks x vs->SRs P U KR Yz (Q0d ks x) vs
 |[],x,vs,h=>by simp only[Ip] at h;subst h;simp[Q0d,SRs]
 |[k],x,vs,h=>by obtain⟨v,rfl,h1⟩:=h;simp only[Q0d,SRs];grind [KP]
 |k::k'::ks,x,vs,h=>by obtain⟨v,cJ,rfl,h1,h2⟩:=h;simp only[Q0d,SRs];exact⟨v,cJ,rfl,KP h1,TN h2⟩
theorem Q52 {ap:Ap}(eI:Z47 P ap) {f:SV}{v:Value}(hf:SR P U KR Yz f v) (hv:∃ g a b,v=.func (.func g) a b) (ks:List Kind) (r:Kind):SR P U KR Yz (.pf ks r (Z22 ap f ks r) (fnP ap f ks r)) v:=by
 obtain⟨g,a,b,rfl⟩:=hv;simp only[SR];refine⟨g,a,b,rfl,λx hd τ vs hle cq=>?_⟩;unfold Z22 at hd;split at hd
 .rename_i c u oi;split at hd
  .rename_i y hy;obtain⟨h1,g',a',b',h2,h3⟩:=eI τ f (Q0d ks x) c u (.func (.func g) a b) vs (SR.mono hle (λ_ _ h=>h) _ _ hf) (TN cq) oi hd;obtain⟨rfl,rfl,rfl⟩:=(by simpa using h2:g=g'/\a=a'/\b=b');have hp:fnP ap f ks r x=y:=by simp[fnP,oi,hy]
   rw[hp];exact h3.mono λu' U' hu=>⟨hu.1,(Eg hy hu.2).vcall (Q6c _)⟩
  .exact hd.elim
 .exact hd.elim
mutual
theorem AP.q0l {ap:Ap}(eI:Z47 P ap):∀ {D:Type}(p:AP D) {v:SV}{x:D}{u:Value},AP.dec ap p v=some x->SR P U KR Yz v u->SR P U KR Yz (AP.can p x) u
 |_,.k k,v,x,u,h,hs=>by
  have one:SRs P U KR Yz [v] [u]:=by simp only[SRs];exact⟨u,[],rfl,hs,rfl⟩
  simp only[AP.can,SR];cases k with
  |list k =>have:=Ge (own:=[]) (Heap.Le.refl U) (λd=>(trivial:OR P U KR Yz U (KR d) .dead)) (show view [] k v=some x from h) hs;exact⟨u,rfl,this⟩
  |i ik=>exact J2 (k:=.i ik) h one
  |bo=>exact J2 (k:=.bo) h one
  |st=>exact J2 (k:=.st) h one
  |pair a b=>cases h
 |_,.agg l,v,x,u,h,hs=>by
  simp only[AP.dec] at h;split at h
  .simp only[SR] at hs;obtain⟨cs,rfl,hs⟩:=hs;simp only[AP.can,SR];exact⟨cs,rfl,AL.q0l eI l h hs⟩
  .cases h
 |_,.any,v,x,u,h,hs=>by simp only[AP.can,SR]
 |_,.int k n,v,x,u,h,hs=>by
  have one:SRs P U KR Yz [v] [u]:=by simp only[SRs];exact⟨u,[],rfl,hs,rfl⟩
  simp only[AP.dec] at h;split at h
  .rename_i y hy;split at h
   .rename_i e;subst e;simp only[AP.can,SR];exact J2 (k:=.i k) hy one
   .cases h
  .cases h
 |_,.nilS,v,x,u,h,hs=>by
  simp only[AP.dec] at h;split at h
  .simp only[AP.can];exact hs
  .cases h
 |_,.ptr l,v,x,u,h,hs=>by
  simp only[AP.dec] at h;split at h
  .simp only[SR] at hs;obtain⟨b,c,e,wr,t,h1,rfl,h3⟩:=hs;simp only[AP.can,SR];exact⟨b,c,e,wr,t,h1,rfl,AL.q0l eI l h h3⟩
  .cases h
 |_,.fnx g l,v,x,u,h,hs=>by
  simp only[AP.dec] at h;split at h
  .split at h
   .rename_i e;subst e;simp only[SR] at hs;obtain⟨a,b,rfl,h1,h2⟩:=hs;simp only[AP.can,SR];exact⟨a,b,rfl,h1,AL.q0l eI l h h2⟩
   .cases h
  .cases h
 |_,.fn ks r,v,x,u,h,hs=>by
  simp only[AP.dec] at h;split at h
  .obtain rfl:=osj h;exact Q52 eI hs (by simp only[SR] at hs;grind) ks r
  .obtain rfl:=osj h;exact Q52 eI hs (by simp only[SR] at hs;obtain⟨g,x,y,rfl,_⟩:=hs;exact⟨_,_,_,rfl⟩) ks r
  .cases h
theorem AL.q0l {ap:Ap}(eI:Z47 P ap):∀ {D:Type}(l:AL D) {vs:List SV}{x:D}{us:List Value},AL.dec ap l vs=some x->SRs P U KR Yz vs us->SRs P U KR Yz (AL.can l x) us
 |_,.nil,vs,x,us,h,hs=>by
  simp only[AL.dec] at h;split at h
  .exact hs
  .cases h
 |_,.one a,vs,x,us,h,hs=>by
  simp only[AL.dec] at h;split at h
  .obtain⟨u,rfl,h1⟩:=hs.one;simp only[AL.can,SRs];exact⟨u,[],rfl,AP.q0l eI a h h1,rfl⟩
  .cases h
 |_,.cons a r,vs,x,us,h,hs=>by
  simp only[AL.dec] at h;split at h
  .rename_i v cJ;split at h
   .rename_i y z h1 h2;obtain rfl:=osj h;simp only[SRs] at hs;obtain⟨u,mi,rfl,h3,h4⟩:=hs;simp only[AL.can,SRs];exact⟨u,mi,rfl,AP.q0l eI a h1 h3,AL.q0l eI r h2 h4⟩
   .cases h
  .cases h
end
theorem CsOk.nil:CsOk P []:=λf sp h=>by cases h
theorem CsOk.cons {f:Nat}{sp:CSp}{cs:List (Nat×CSp)}(h:OkC P f sp) (t:CsOk P cs):CsOk P ((f,sp)::cs):=λg vf hg=>by
 simp only[Zm] at hg;cases hb:Nat.beq f g with
 |true=>rw[hb] at hg;obtain rfl:=zD hb;obtain rfl:=osj hg;exact h
 |false=>rw[hb] at hg;exact t g vf hg
theorem Z6v {f:Nat}{vc:VCode}{rs:List VResult}{nt:Nat}(h:Fun P f vc rs nt) (hm:P.follows .mixedOrders=true) {D:Type}{l:AL D}{pre:D->Prop}{res:D->SV}{obs:D->List OB}
  {C:Cx}(aC:COk P C) (L:D->List (Nat×LoopAnn)) (hb:∀ d,pre d->gwp C (L d) vc 0 (Yh rs (res d) (obs d)) (Qo nt (AL.can l d))):OkC P f (Y9 l pre res obs):=by
 refine h.okC hm λap eI args c v bs hs hc=>?_;unfold Y9 at hs
 grind [AL.q0l]
theorem Qu {f:Nat}{vc:VCode}{rs:List VResult}{nt:Nat}(h:Fun P f vc rs nt) (hm:P.follows .mixedOrders=true) {D:Type}{l:AL D}{pre:D->Prop}{res:D->SV}{obs:D->List OB}
  {C:Cx}(aC:COk P C) {L:D->List (Nat×LoopAnn)}{V:D->Prop}(hq:∀ d,gwp C (L d) vc 0 (Yh rs (res d) (obs d)) (Qo nt (AL.can l d))=V d) (hb:∀ d,pre d->V d):OkC P f (Y9 l pre res obs) :=
 Z6v h hm aC L λd hp=>(hq d).mpr (hb d hp)
end
end Go.V
namespace Go.V
open Go
def J1i (key:Nat) (vals:List Value) (rs:List VResult) (K:SV->St->Prop):Exit->St->Prop:=λe s =>
 let fin:=match Dc s rs,Qr s.own key with
  |some r,.stk l vs=>vs=vals/\K r ⟨l,s.own,s.nx⟩
  |_,_=>False
 match e with
 |.normal=>fin
 |.ret=>fin
 |_=>False
def Z5o:XSp:=λ_ args s K=>match args with
 |[v]=>K v s
 |_=>False
def EW (C:Cx) (L:List Value->List (Nat×LoopAnn)) (vc:VCode) (rs:List VResult) (nt:Nat):XSp:=λd args s K =>
 ∀ vals,gwp {C with off:=100000*(d+1)} (L vals) vc 0 (J1i (100000*(d+1)-1) vals rs K) ⟨SVs.kill (100000*(d+1)-1) args++List.replicate (nt-args.length) .any,(Q3h (100000*(d+1)-1) vals s).own,s.nx⟩
def J0e (C:Cx) (L:List (Nat×LoopAnn)) (vc:VCode) (nt:Nat):Z5z:=λo args y s K =>
 gwp {C with off:=100000*(o+1),yl:=[y]} L vc 0 (λe s'=>match e with|.normal=>K s'|.ret=>K s'|_=>False) ⟨args++List.replicate (nt-args.length) .any,s.own,s.nx⟩
section
variable {P:Program}
theorem OG {B:Heap}{pl:Nat->Value}{tb:Nat->Option Bool}:∀ n,SRs P B pl tb (List.replicate n .any) (List.replicate n undef)
 |0=>by simp[SRs]
 |n+1=>by simp only[xn,SRs];exact⟨_,_,rfl,by simp[SR],OG n⟩
theorem Q5w {f:Nat}(h:∀ (v:Value) (U:Heap) (K:Value->Heap->Prop),K v U->VCalled P f [v] U K):XOk P f Z5o:=by
 intro B F pl tb s env U d args vs K R hG ha hx hK
 match args,ha,hx with
 |[v],ha,hx =>simp only[SRs] at ha;obtain⟨u,_,rfl,h1,rfl⟩:=ha;exact h u U R (hK v s B F pl tb u U hx (.of hG.bf (.refl _)) hG h1)
 |[],_,hx=>exact hx.elim
 |_::_::_,_,hx=>exact hx.elim
theorem Wc {f:Nat}{vc:VCode}{rs:List VResult}{nt:Nat}(h:Fun P f vc rs nt) (hm:P.follows .mixedOrders=true) {C:Cx}(aC:COk P C) (L:List Value->List (Nat×LoopAnn)):XOk P f (EW C L vc rs nt):=by
 intro B F pl tb s env U d args vs K R hG ha hx hK;have hx:=hx env;refine h.calls hm OA ?_;have q3:Gam P B F (Yi pl (100000*(d+1)-1) poison) tb (Q3h (100000*(d+1)-1) env s) env U:=by refine hG.make _ _ poison hG.le (λ_ _ _ _ _=>rfl) ?_ (λi hl _=>by cases hl);exact SRs.upd (.refl _) (λ_ _ h=>h) (λj hj=>by simp[Yi,hj]) _ _ hG.env
 have lC:COk P {C with off:=100000*(d+1)}:=⟨aC.cs,aC.xs,aC.it,aC.yl,aC.iy,aC.xf⟩;have aD:=SRs.upd (P:=P) (Heap.Le.refl B) (λ_ _ h=>h) (pl':=Yi pl (100000*(d+1)-1) poison) (tb':=tb) (o:=100000*(d+1)-1) (λj hj=>by simp[Yi,hj]) _ _ ha;have bn:GRel P B F U ⟨SVs.kill (100000*(d+1)-1) args++List.replicate (nt-args.length) .any,(Q3h (100000*(d+1)-1) env s).own,s.nx⟩ (vs++List.replicate (nt-vs.length) undef) U:=by refine⟨B,F,_,tb,.of hG.bf (.refl _),⟨q3.bf,q3.le,?_,q3.obj,q3.fresh,q3.sep,q3.free⟩⟩;rw[ha.length];exact aD.append (OG _)
 refine R2 lC vc 0 _ _ _ U none _ trivial bn hx λe s' ah U' h1 h2=>?_
 .have main:(match Dc s' rs,Qr s'.own (100000*(d+1)-1) with
   |some r,.stk l vs=>vs=env/\K r ⟨l,s'.own,s'.nx⟩
   |_,_=>False)->Jk (Yn ah U' rs) λv=>∃ v' aN,DropTo U v U' v' aN/\R v' aN:=λh=>by
   obtain⟨B',F',pl',tb',k1,k2⟩:=h2;split at h
   .rename_i r l cJ hr iJ;obtain⟨rfl,h⟩:=h;obtain⟨u,h3,h4⟩:=G0 k2 hr;rw[h3];have aq:=k2.obj (100000*(d+1)-1);rw[iJ] at aq;exact⟨u,U',.refl _ _ _,hK r _ B' F' pl' tb' u U' h k1 ⟨k2.bf,k2.le,aq,k2.obj,k2.fresh,k2.sep,k2.free⟩ h4⟩
   .exact h.elim
  cases e with
  |normal=>exact main h1
  |ret=>exact main h1
  |_=>exact h1.elim
theorem Q4i {f:Nat}{vc:VCode}{nt:Nat}(h:Fun P f vc [] nt) (hm:P.follows .mixedOrders=true) {C:Cx}(aC:COk P C) (L:List (Nat×LoopAnn)):Z5x P f (J0e C L vc nt):=by
 refine⟨h.enterable,λB F pl tb s env U o args vs y K R hG ha hy hx hK=>h.callsTo hm OA ?_⟩;have lC:COk P {C with off:=100000*(o+1),yl:=[(o,y)]}:=⟨aC.cs,aC.xs,aC.it,λo' y' h'=>by
  simp only[Zm] at h'
  grind [Nat.eq_of_beq_eq_true,osj],aC.iy,aC.xf⟩
 have bn:GRel P B F U ⟨args++List.replicate (nt-args.length) .any,s.own,s.nx⟩ (vs++List.replicate (nt-vs.length) undef) U:=by refine⟨B,F,pl,tb,.of hG.bf (Dead.refl _),⟨hG.bf,hG.le,?_,hG.obj,hG.fresh,hG.sep,hG.free⟩⟩;rw[ha.length];exact ha.append (OG _)
 refine R2 lC vc 0 _ _ _ U none _ trivial bn hx λe s' ah U' h1 h2=>?_;have main:K s'->Jk (Yn ah U' []) λv=>∃ v' aN,DropTo U v U' v' aN/\R aN:=λh=>by obtain⟨B',F',pl',tb',k1,k2⟩:=h2;exact⟨_,U',.refl _ _ _,hK s' B' F' pl' tb' ah U' h k1 k2⟩
 cases e with
 |normal=>exact main h1
 |ret=>exact main h1
 |_=>exact h1.elim
end
end Go.V
namespace Go.V
open Go
def J1g:SV->Option Nat
 |.lst o=>some o
 |.box o off=>bif Nat.beq off 0 then some o else none
 |_=>none
def lsv:OB->SV
 |.lst _ _ _ _=>.lst 0
 |_=>.box 0 0
def J0a:SV->OB->Bool
 |.lst _,.lst _ _ _ _=>true
 |.box _ _,.cells _ _=>true
 |_,_=>false
abbrev LSp:=Ap->OB->List SV->Option (Prop×SV×OB)
def Q0h (ap:Ap) (sp:LSp):XSp:=λ_ args s K =>
 match args with
 |a::args=>(match J1g a with
  |some o=>bif (Qr s.own o).ret&&J0a a (Qr s.own o) then (match sp ap (Qr s.own o) (FO (oset s.own o .dead) args) with
    |some (c,v,b)=>bif v.ret 0&&b.ret then c/\K v ⟨s.env,oset s.own o b,s.nx⟩ else False
    |none=>False) else False
  |none=>False)
 |[]=>False
def Mk (nt:Nat) (a0:SV) (b:OB) (vals:List Value) (args:List SV):St:=⟨a0::(args++List.replicate (nt-(args.length+1)) .any),[(0,b),(4000000,.stk [a0] vals)],0⟩
def Q2f (vals:List Value) (rs:List VResult) (v:SV) (b:OB) (a0:SV):Exit->St->Prop:=λe s =>
 let fin:=match Dc s rs,Qr s.own 4000000 with
  |some r,.stk l vs=>vs=vals/\Pa [(0,some 0)] [a0] l/\Aq [] v r/\Z03 s [(0,some 0)] 0 b
  |_,_=>False
 match e with
 |.normal=>fin
 |.ret=>fin
 |_=>False
section
variable {P:Program}
theorem Heap.Le.kill' {B U:Heap}(h:B.Le U) {i:Nat}(hi:B.get i=none):B.Le (U.kill i):=⟨h.1,λj b hb=>by
 have:j≠i:=by rintro rfl;rw[hi] at hb;cases hb
 rw[Heap.q0c _ this];exact h.2 _ _ hb⟩
theorem Heap.q2f (U:Heap) (i:Nat):(U.kill i).Le U:=⟨z4 _,(by grind [Heap.q0h,Heap.q0c])⟩
def O6 (U:Heap) (p:Value):Heap:=match oid p with|some i=>U.kill i|none=>U
theorem Z2e (U:Heap) (p:Value):(O6 U p).Le U:=by
 unfold O6;split
 .exact Heap.q2f _ _
 .exact .refl _
theorem Q5l {B U:Heap}{p:Value}(h:B.Le U) (hi:∀ i,oid p=some i->B.get i=none):B.Le (O6 U p):=by
 unfold O6;split
 .rename_i i e;exact h.kill' (hi i e)
 .exact h
theorem Q86 {U:Heap}{p:Value}{i:Nat}(h:oid p=some i):(O6 U p).get i=none:=by unfold O6;rw[h];exact Heap.q0h _ _
theorem Q2r {U:Heap}{p:Value}{i:Nat}(h:oid p≠some i):(O6 U p).get i=U.get i:=by unfold O6;grind [Heap.q0c]
theorem Z5b {p:Value}{i:Nat}(hp:∀ l,p≠.tuple l) (h:Oid p i):oid p=some i:=by cases p<;>first|exact h|exact absurd rfl (hp _)
theorem OB.q2a {b:OB}(h:b.ret=true):b.live=true:=by cases b<;>first|rfl|cases h
theorem Z18 {o:Nat}{b:OB}(h:J0a (.lst o) b=true):lsv b=.lst 0:=by cases b<;>first|rfl|cases h
theorem Z1r {o off:Nat}{b:OB}(h:J0a (.box o off) b=true):lsv b=.box 0 0:=by cases b<;>first|rfl|cases h
theorem Z1l {f:Nat}{vc:VCode}{rs:List VResult}{nt:Nat}(h:Fun P f vc rs nt) (hm:P.follows .mixedOrders=true) {sp:LSp}{ap:Ap}
  (hb:∀ b args c v b',sp ap b args=some (c,v,b')->c->∃ (C:Cx) (L:List Value->List (Nat×LoopAnn)) (cg:List SV),SVs.pure cg=true/\(∀ U vs,SRs P U KR Yz args vs->SRs P U KR Yz cg vs)/\COk P C/\∀ vals,gwp C (L vals) vc 0 (Q2f vals rs v b' (lsv b)) (Mk nt (lsv b) b vals cg)):XOk P f (Q0h ap sp):=by
 intro B F pl tb s env U d args vs K R hG ha hx hK;unfold Q0h at hx;split at hx
 .rename_i a args;split at hx
  .rename_i o aY;cases lg:((Qr s.own o).ret&&J0a a (Qr s.own o)) with
   |false=>rw[lg] at hx;exact hx.elim
   |true =>
   rw[lg] at hx;simp only[ze] at hx;simp only[z1] at lg;obtain⟨mq,dU⟩:=lg;split at hx
   .rename_i c v b' fb;cases dH:(v.ret 0&&b'.ret) with
    |false=>rw[dH] at hx;exact hx.elim
    |true =>
    rw[dH] at hx;obtain⟨hc,hx⟩:=hx;simp only[z1] at dH;simp only[SRs] at ha;obtain⟨u,us,rfl,my,eK⟩:=ha;have ax:=OB.q2a mq;have aq:=hG.obj o;have bL:∀ i,oid (pl o)=some i->F.get i=none:=λi hi=>hG.fresh o i ax (SU hi);have rh:∀ i,oid (pl o)=some i->B.get i=none:=λi hi=>by
     cases hg:B.get i with
     |none=>rfl
     |some b=>have:=hG.bf.2 _ _ hg;rw[bL i hi] at this;cases this
    have eG:∀ l,pl o≠.tuple l:=λl he=>by
     unfold J1g at aY;split at aY
     .obtain rfl:=osj aY;simp only[SR] at my
      grind
     .rename_i o' off;cases a9:Nat.beq off 0 with
      |false=>rw[a9] at aY;cases aY
      |true =>rw[a9] at aY;obtain rfl:=osj aY;simp only[SR] at my;obtain⟨_,h,_⟩:=my;rw[he] at h;cases h
     .cases aY
    have lD:∀ (B:Heap) (pl':Nat->Value) (tb':Nat->Option Bool),(SR P B pl' tb' (lsv (Qr s.own o)) u<->pl' 0=pl o):=λB pl' tb'=>by
     unfold J1g at aY;split at aY
     .obtain rfl:=osj aY;simp only[SR] at my;rw[Z18 dU];simp only[SR]
      grind
     .rename_i o' off;cases a9:Nat.beq off 0 with
      |false=>rw[a9] at aY;cases aY
      |true =>
       rw[a9] at aY;obtain rfl:=osj aY;obtain rfl:=zD a9;simp only[SR] at my;rw[Z1r dU];simp only[SR];obtain⟨i,h1,rfl⟩:=my;rw[h1];constructor
       .simp_all
       .intro h2;exact⟨i,h2,rfl⟩
     .cases aY
    obtain⟨C,L,cg,sK,ri,aC,hg⟩:=hb _ _ c v b' fb hc;have hg:=hg [u];let σc:=O6 U (pl o);have vg:B.Le σc:=Q5l hG.leB rh;have vh:F.Le σc:=Q5l hG.le bL;have aD:SRs P σc KR Yz cg us:=by
     refine ri σc us (Gk (own:=oset s.own o .dead) vg (pl:=pl) (tb:=tb) (λd=>?_) eK);rw[QB];by_cases e:d=o
     .rw[z2 e];trivial
     .rw[z0 e];exact(hG.obj d).mono (.refl _) (λ_ _ h=>h) λhl i hi=>Q2r λm_=>hG.sep d o i e hl ax hi (SU m_)
    let rj:Nat->Value:=λj=>if j=0 then pl o else poison
    have bn:GRel P σc σc U (Mk nt (lsv (Qr s.own o)) (Qr s.own o) [u] cg) (u::us++List.replicate (nt-(u::us).length) undef) U:=by
     refine⟨σc,σc,rj,Yz,⟨.refl _,.refl _,λ_ _ _ h=>h,.refl _⟩,.refl _,Z2e _ _,?_,λj=>?_,λj i h1 h2=>?_,λj j' i aJ h1 h2 h3 h4=>?_,λ_ _=>rfl⟩
     .simp only[Mk,SRs,xE];refine⟨u,_,rfl,(lD _ _ _).2 (by simp[rj]),?_⟩;rw[aD.length,zr]
      grind [SRs.append,OG,Wq]
     .simp only[Mk,Qr];by_cases e0:j=0
      .subst e0;simp only[Nat.beq_refl,ze];exact aq.retd mq λi _=>rfl
      .rw[Ya (λe=>e0 e.symm),cond_false];by_cases e1:j=4000000
       .subst e1;simp only[Nat.beq_refl,ze];exact⟨u,[],rfl,(lD _ _ _).2 (by simp[rj]),rfl⟩
       .rw[Ya (λe=>e1 e.symm),cond_false];trivial
     .simp only[Mk,Qr] at h1;by_cases e0:j=0
      .grind [Q86,Z5b]
      .rw[Ya (λe=>e0 e.symm),cond_false] at h1;by_cases e1:j=4000000
       .subst e1;cases h1
       .rw[Ya (λe=>e1 e.symm),cond_false] at h1;cases h1
     .have z:∀ j,(Qr (Mk nt (lsv (Qr s.own o)) (Qr s.own o) [u] cg).own j).live=true->j=0:=λj h1=>by
       simp only[Mk,Qr] at h1;by_cases e0:j=0
       .exact e0
       .rw[Ya (λe=>e0 e.symm),cond_false] at h1;by_cases e1:j=4000000
        .subst e1;cases h1
        .rw[Ya (λe=>e1 e.symm),cond_false] at h1;cases h1
      grind
    refine h.calls hm OA ?_;refine R2 aC vc 0 _ _ _ U none _ trivial bn hg λe s' ah U' h1 h2=>?_
    have main:(match Dc s' rs,Qr s'.own 4000000 with
     |some r,.stk l vs=>vs=[u]/\Pa [(0,some 0)] [lsv (Qr s.own o)] l/\Aq [] v r/\Z03 s' [(0,some 0)] 0 b'
     |_,_=>False)->Jk (Yn ah U' rs) λv=>∃ v' aN,DropTo U v U' v' aN/\R v' aN:=λh=>by
     obtain⟨B',F',pl',tb',k1,k2⟩:=h2;split at h
     .rename_i r l cJ hr iJ;obtain⟨rfl,m1,m2,m3⟩:=h;obtain⟨w,h3,h4⟩:=G0 k2 hr;rw[h3];have kf:=k2.obj 4000000;rw[iJ] at kf;have rk:pl' 0=pl o:=by
       have:=Xw [lsv (Qr s.own o)] l [u] m1 kf;simp only[SRs] at this;obtain⟨u',_,dE,h5,_⟩:=this;obtain rfl:u=u':=(zM dE).1;have:=(lD _ _ _).1 h5;simpa [H0,Zm] using this
      have om:=(ZK k2 m3).1;have ly:H0 pl' [(0,some 0)] 0=pl o:=by simpa [H0,Zm] using rk
      rw[ly] at om;have d_:=(G9 v r w m2 h4).retd (B':=B) (pl':=pl) (tb':=tb) (n:=0) (λj hj=>by omega) _ _ dH.1;have hle:σc.Le U':=k1.f.trans k2.le;refine⟨w,U',.refl _ _ _,hK v _ B F pl tb w U' hx (.of hG.bf k1.d) ⟨hG.bf,vh.trans hle,hG.env,λd=>?_,λd i q1 q2=>?_,λd d' i aJ q1 q2 q3 q4=>?_,hG.free⟩ d_⟩
      .simp only[QB];by_cases e:d=o
       .subst e;rw[z2 rfl];exact om.retd dH.2 λ_ _=>rfl
       .rw[z0 e];refine (hG.obj d).mono (.refl _) (λ_ _ h=>h) λhl i hi=>?_;have ao:=(hG.obj d).q1n hl hi;cases hg:U.get i with
        |none=>exact k1.d.2 i ao hg
        |some bb=>exact hle.2 _ _ (by rw[Q2r λm_=>hG.sep d o i e hl ax hi (SU m_)];exact hg)
      .simp only[QB] at q1;by_cases e:d=o
       .subst e;exact hG.fresh d i ax q2
       .rw[z0 e] at q1;exact hG.fresh d i q1 q2
      .have lv:∀ d,(Qr (oset s.own o b') d).live=true->(Qr s.own d).live=true:=λd h=>by
        rw[QB] at h
        grind
       exact hG.sep d d' i aJ (lv d q1) (lv d' q2) q3 q4
     .exact h.elim
    cases e with
    |normal=>exact main h1
    |ret=>exact main h1
    |_=>exact h1.elim
   .exact hx.elim
  .exact hx.elim
 .exact hx.elim
mutual
theorem AP.q0v:∀ {D:Type}(p:AP D) (x:D),(AP.can p x).pure=true
 |_,.k k,x=>rfl
 |_,.agg l,x=>by simp only[AP.can,SV.pure];exact AL.q0v l x
 |_,.nilS,x=>rfl
 |_,.any,x=>rfl
 |_,.int k n,x=>rfl
 |_,.ptr l,x=>by simp only[AP.can,SV.pure];exact AL.q0v l x
 |_,.fnx g l,x=>by simp only[AP.can,SV.pure,SVs.pure,AL.q0v l x];rfl
 |_,.fn ks r,x=>rfl
theorem AL.q0v:∀ {D:Type}(l:AL D) (x:D),SVs.pure (AL.can l x)=true
 |_,.nil,x=>rfl
 |_,.one a,x=>by simp only[AL.can,SVs.pure,AP.q0v a x];rfl
 |_,.cons a r,x=>by simp only[AL.can,SVs.pure,AP.q0v a x.1,AL.q0v r x.2];rfl
end
def Q1a (ty:Nat) (k:Kind) {D:Type}(l:AL D) (pre:List k.T->Bool->D->Prop) (res:List k.T->Bool->D->SV) (post:List k.T->Bool->D->List k.T):LSp:=λap b args=>match b with
 |.lst iV _k' xs nl=>if iV=ty then (match BM xs k,AL.dec ap l args with
  |some xs,some d=>some (pre xs nl d,res xs nl d,.lst ty k (post xs nl d) nl)
  |_,_=>none) else none
 |_=>none
theorem HY {f:Nat}{vc:VCode}{rs:List VResult}{nt:Nat}(h:Fun P f vc rs nt) (hm:P.follows .mixedOrders=true) {ap:Ap}(eI:Z47 P ap) {ty:Nat}{k:Kind}{D:Type}{l:AL D}{pre:List k.T->Bool->D->Prop}{res:List k.T->Bool->D->SV}{post:List k.T->Bool->D->List k.T}
  {C:Cx}(aC:COk P C) {L:List k.T->Bool->D->List Value->List (Nat×LoopAnn)}{V:List k.T->Bool->D->Prop}
  (hq:∀ xs nl d,(∀ vals,gwp C (L xs nl d vals) vc 0 (Q2f vals rs (res xs nl d) (.lst ty k (post xs nl d) nl) (.lst 0)) (Mk nt (.lst 0) (.lst ty k xs nl) vals (AL.can l d)))=V xs nl d)
  (hb:∀ xs nl d,pre xs nl d->V xs nl d):XOk P f (Q0h ap (Q1a ty k l pre res post)):=by
 refine Z1l h hm λb args c v b' hs hc=>?_;unfold Q1a at hs;split at hs
 .rename_i iV k' xs nl;split at hs
  .rename_i e;subst e;split at hs
   .rename_i ys d h1 h2;obtain⟨rfl,rfl,rfl⟩:=(by simpa using hs:pre ys nl d=c/\res ys nl d=v/\OB.lst iV k (post ys nl d) nl=b');unfold BM at h1;split at h1
    .rename_i e;subst e;obtain rfl:=osj h1;exact⟨C,L xs nl d,AL.can l d,AL.q0v l d,λU vs hv=>AL.q0l eI l h2 hv,aC,(hq xs nl d).mpr (hb xs nl d hc)⟩
    .cases h1
   .cases hs
  .cases hs
 .cases hs
end
end Go.V
namespace Go.V
open Go
abbrev lI {α:Type}(l:List α):Int:=(l.length:Int)
abbrev gD {α:Type}(l:List α) (i:Int) (d:α):α:=l.getD i.toNat d
abbrev sT {α:Type}(l:List α) (i:Int) (x:α):List α:=l.set i.toNat x
abbrev I64 (x:Int):Prop:=InK .i64 x
theorem Qm (x:Int):InK .i64 x<->-9223372036854775808<=x/\x<=9223372036854775807:=by simp[InK,IntKind.min,IntKind.max,IntKind.bits,IntKind.signed]
theorem Q5u (x:Int):InK .u8 x<->0<=x/\x<=255:=by simp[InK,IntKind.min,IntKind.max,IntKind.bits,IntKind.signed]
theorem Z4o (x:Int):InK .u16 x<->0<=x/\x<=65535:=by simp[InK,IntKind.min,IntKind.max,IntKind.bits,IntKind.signed]
theorem EI (x:Int):InK .u64 x<->0<=x/\x<=18446744073709551615:=by simp[InK,IntKind.min,IntKind.max,IntKind.bits,IntKind.signed]
theorem LoopP.count {F:Int->(Int->Prop)->Prop}(n:Nat) (J:Nat->Prop) (h0:J 0) (hr:∀ k:Nat,k<=n->J k->∀ q:Int->Prop,(k<n->J (k+1)->q ((k:Int)+1))->F k q):LoopP F 0:=by
 refine⟨λd=>∃ k:Nat,d=k/\k<=n/\J k,λd=>n-d.toNat,⟨0,rfl,Nat.zero_le _,h0⟩,λd ⟨k,hd,hk,hJ⟩=>?_⟩
 grind
theorem LoopP.count1 {X:Type}{F:Int×X->(Int×X->Prop)->Prop}(n:Nat) (J:Nat->X->Prop) {x0:X}(h0:J 0 x0) (hr:∀ (k:Nat) (x:X),k<=n->J k x->∀ q:Int×X->Prop,(∀ x',k<n->J (k+1) x'->q ((k:Int)+1,x'))->F ((k:Int),x) q):LoopP F (0,x0):=by
 refine⟨λd=>∃ k:Nat,d.1=k/\k<=n/\J k d.2,λd=>n-d.1.toNat,⟨0,rfl,Nat.zero_le _,h0⟩,λ⟨d,x⟩ ⟨k,hd,hk,hJ⟩=>?_⟩
 grind
theorem LoopP.count2 {X:Type}{F:X×Int->(X×Int->Prop)->Prop}(n:Nat) (J:Nat->X->Prop) {x0:X}(h0:J 0 x0) (hr:∀ (k:Nat) (x:X),k<=n->J k x->∀ q:X×Int->Prop,(∀ x',k<n->J (k+1) x'->q (x',(k:Int)+1))->F (x,(k:Int)) q):LoopP F (x0,0):=by
 refine⟨λd=>∃ k:Nat,d.2=k/\k<=n/\J k d.1,λd=>n-d.2.toNat,⟨0,rfl,Nat.zero_le _,h0⟩,λ⟨x,d⟩ ⟨k,hd,hk,hJ⟩=>?_⟩
 grind
theorem Qf {α:Type}{l:List α}{k:Nat}{d:α}(h:k<l.length):l.getD k d=l[k]:=by simp_all
theorem QO {α:Type}{l:List α}{k:Nat}(h:k<l.length):l.take (k+1)=l.take k++[l[k]]:=by rw[List.take_succ_eq_append_getElem h]
section
variable {P:Program}
theorem st1 {S:VSpecs}{d:Nat}{op:VOp}{rest:List VOper}{env:Env}{U:Heap}{K:Env->Heap->Prop}{v:Value}(hv:∀ K',vop S op env U K'=Jk (Qb op (Q5 env) U) λp=>K' p.1 p.2) (h:Qb op (Q5 env) U=some (v,U)) (hr:FP S rest (env.set d v) U K):FP S (⟨some d,op,none⟩::rest) env U K:=by show Jk (some true) _;refine⟨λ_=>?_,λe=>by cases e⟩;rw[hv,h];exact hr
theorem YlOk.nil:∀ o y,Zm ([]:List (Nat×YSp)) o=some y->Z1h P o y:=λo y h=>by cases h
theorem IysOk.nil:∀ f x,Zm ([]:List (Nat×Z5z)) f=some x->Z5x P f x:=λf x h=>by cases h
theorem IysOk.cons {f:Nat}{x:Z5z}{l:List (Nat×Z5z)}(h:Z5x P f x) (t:∀ g y,Zm l g=some y->Z5x P g y):∀ g y,Zm ((f,x)::l) g=some y->Z5x P g y:=λg y hg=>by
 simp only[Zm] at hg
 grind [Nat.eq_of_beq_eq_true,osj]
theorem XsOk.nil:∀ f x,Zm ([]:List (Nat×XSp)) f=some x->XOk P f x:=λf x h=>by cases h
theorem XsOk.cons {f:Nat}{x:XSp}{l:List (Nat×XSp)}(h:XOk P f x) (t:∀ g y,Zm l g=some y->XOk P g y):∀ g y,Zm ((f,x)::l) g=some y->XOk P g y:=λg y hg=>by
 simp only[Zm] at hg
 grind [Nat.eq_of_beq_eq_true,osj]
theorem ItsOk.nil:∀ f x,Zm ([]:List (Nat×ISp)) f=some x->J26 P f x:=λf x h=>by cases h
end
end Go.V
namespace Go.V
open Go
section
variable {P:Program}
theorem XfOk.nil {xs:List (Nat×XSp)}:∀ f j,Zm ([]:List (Nat×Nat)) f=some j->∀ x,Zm xs f=some x->J2v P f x j:=λf j h=>by cases h
end
end Go.V
namespace Go.V
open Go
def pj4 {A B C D E:Type}(x:A×B×C×D×E):E:=x.2.2.2.2
def pj8 {A B C D A' B' C' D' E:Type}(x:A×B×C×D×A'×B'×C'×D'×E):E:=x.2.2.2.2.2.2.2.2
def Q1 {A B C D A' B' C' D' A1 B1 C1 D1 A2 B2 C2 D2 E:Type}(x:A×B×C×D×A'×B'×C'×D'×A1×B1×C1×D1×A2×B2×C2×D2×E):E:=x.2.2.2.2.2.2.2.2.2.2.2.2.2.2.2.2
theorem Q7x {x:Nat}(h:x<9223372036854775808):IntKind.wrap .i64 (x:Int)=x:=by
 have e:((x:Int) % (18446744073709551616:Int))=x:=by omega
 have:¬ ((x:Int)>=9223372036854775808):=by omega
 show (if (true&&decide ((x:Int) % (18446744073709551616:Int)>=9223372036854775808))=true then (x:Int) % (18446744073709551616:Int)-18446744073709551616 else (x:Int) % (18446744073709551616:Int))=x;simp only[e,this,decide_false,Bool.and_false,zj,if_false]
theorem Z1v {x y:Nat}(h:x<9223372036854775808):x &&& y<9223372036854775808:=xe Nat.and_le_left h
theorem Q28 (x:Nat):BitVec.ofInt 64 (x:Int)=BitVec.ofNat 64 x:=by apply BitVec.eq_of_toNat_eq;simp
theorem toNat_ofInt {x:Nat}(h:x<9223372036854775808):(BitVec.ofInt 64 (x:Int)).toNat=x:=by rw[Q28,BitVec.toNat_ofNat,xJ (by omega)]
theorem Q5k {x y:Nat}(hx:x<9223372036854775808) (hy:y<9223372036854775808):Qa .and .i64 x y=((x &&& y:Nat):Int):=by
 have e:(BitVec.ofInt 64 (x:Int) &&& BitVec.ofInt 64 (y:Int)).toNat=x &&& y:=by rw[BitVec.toNat_and,toNat_ofInt hx,toNat_ofInt hy]
 show IntKind.wrap .i64 ((BitVec.ofInt 64 (x:Int) &&& BitVec.ofInt 64 (y:Int)).toNat:Int)=_;rw[e,Q7x (Z1v hx)]
theorem Z4i {x i:Nat}(hi:i<=64):Jj .i64 x i=((x >>> i:Nat):Int):=by have:Nat.min i 64=i:=xD hi;simp only[Jj,z7,IntKind.bits,this];rw[x5,Int.fdiv_eq_ediv_of_nonneg _ (Int.le_of_lt (Int.pow_pos (by omega)))];norm_cast
theorem Z4c {x i:Nat}(hi:i<=64):Je .i64 x i=((x <<< i:Nat):Int):=by have:Nat.min i 64=i:=xD hi;simp only[Je,z7,IntKind.bits,this,Nat.shiftLeft_eq];norm_cast
theorem Z5t {x i:Nat}(hx:x<9223372036854775808) (hi:i<=64):(Qa .and .i64 (Jj .i64 x i) 1==1)=x.testBit i:=by have h1:x >>> i<9223372036854775808:=xe (by rw[x5];exact Nat.div_le_self _ _) hx;rw[Z4i hi,show (1:Int)=((1:Nat):Int) from rfl,Q5k h1 (by omega),Nat.testBit];rw[Bool.eq_iff_iff];simp only[zH,bne_iff_ne,ne_eq];rw[Nat.and_comm,Nat.one_and_eq_mod_two];omega
def CSp.or (a b:CSp):CSp:=λap args=>match a ap args with
 |some r=>some r
 |none=>b ap args
theorem OkC.or {P:Program}{f:Nat}{a b:CSp}(ha:OkC P f a) (hb:OkC P f b):OkC P f (a.or b):=by
 intro ap eI U args vs c v bs hs h;unfold CSp.or at h;split at h
 .rename_i r hr;exact ha ap eI U args vs c v bs hs (hr.trans h)
 .exact hb ap eI U args vs c v bs hs h
end Go.V
namespace Go.Proofs.Tryz
open Go Go.V Go.Proofs
abbrev q4 {A B C D E:Type}(x:A×B×C×D×E):E:=x.2.2.2.2
def inI (n a b:Int):Bool:=decide (a<=n)&&decide (n<=b)
def Wu (hk:Int) (lw:List Int):Int:=if !inI hk 1 24 then 2 else if 96<lw.length then 5 else if lw.length=0 then 7 else if lw.any (λx=>!inI x 0 (hk-1)) then 2 else 0
def Z16 (l:List Int) (p:Int->Bool):Int:=match l.findIdx? p with|some i=>(i:Int)|none=>-1
def Om {α:Type}(l:List α) (p:α->Bool):Int:=match l.findIdx? p with|some i=>(i:Int)|none=>-1
def u8s (l:List Int):Prop:=∀ x∈l,0<=x/\x<=255
def J1z (l:List Int):Prop:=∀ x∈l,0<=x/\x<=65535
def bOk (h8:Int) (ws rs ds:List Int):Prop:=0<=h8/\h8<=255/\u8s ws/\J1z rs/\u8s ds
def hkN (m h8:Int):Int:=1+Int.tmod h8 m
def Qv (hk:Int) (cap:Nat) (ws:List Int):List Int:=if ws=[] then [0] else (ws.take cap).map λx=>Int.tmod x hk
def ZJ (hk:Int) (cap:Nat) (rs:List Int):List Int:=if rs=[] then [21 % 2 ^ hk.toNat] else (rs.take cap).map λx=>x % 2 ^ hk.toNat
def Tk (b:Bool):Int:=if b then 120 else 46
def Gp (lw:List Int) (row:Int):List UInt8:=lw.map λk=>if row.toNat.testBit k.toNat then 120 else 46
def Zb (hd:Int) (rows:List Int):Int:=if !inI hd 1 24 then 2 else if 60<rows.length then 5 else if rows.length=0 then 7 else if rows.any (λx=>!inI x 0 (2 ^ hd.toNat-1)) then 2 else 0
def Q7 (hk:Int) (lw:List Int) (hd:Int) (rows:List Int):Int:=if Wu hk lw≠0 then Wu hk lw else if Zb hd rows≠0 then Zb hd rows else if hd≠hk then 4 else 0
def ZV (hk:Int) (lw:List Int) (hd:Int) (rows:List Int):List (List UInt8):=if Q7 hk lw hd rows=0 then rows.map (Gp lw) else []
theorem Dh {hk:Int}{lw:List Int}(h:Wu hk lw=0):1<=hk/\hk<=24/\lw.length<=96/\lw.length≠0/\∀ x∈lw,0<=x/\x<hk:=by
 unfold Wu at h;split at h
 .cases h
 .rename_i h1;split at h
  .cases h
  .rename_i h2;split at h
   .cases h
   .rename_i h3;split at h
    .cases h
    .rename_i h4;have h1:1<=hk/\hk<=24:=by simpa [inI] using h1
     refine⟨h1.1,h1.2,by omega,h3,λx hx=>?_⟩;have h5:∀ x∈lw,inI x 0 (hk-1)=true:=by simpa using h4
     have:=h5 x hx;simp only[inI,z1,z6] at this;omega
theorem AM {α:Type}{l:List α}{p:α->Bool}{k:Nat}(hk:k<l.length) (h:p l[k]=true) (hJ:(l.take k).any p=false):Om l p=k:=by
 have:l.findIdx? p=some k:=by rw[List.findIdx?_eq_some_iff_getElem];refine⟨hk,h,λj hj=>?_⟩;have hn:=xc.1 hJ l[j] (List.mem_take_iff_getElem.2 ⟨j,by omega,rfl⟩);simpa using hn
 simp[Om,this]
theorem R7 {α:Type}{l:List α}{p:α->Bool}(hJ:l.any p=false):Om l p=-1:=by
 have:l.findIdx? p=none:=by rw[List.findIdx?_eq_none_iff];intro x hx;have:=xc.1 hJ x hx;simpa using this
 simp[Om,this]
theorem O1 {α:Type}(l:List α) (p:α->Bool):(decide (Om l p>=0))=l.any p:=by
 cases h:l.any p with
 |false=>rw[R7 h];rfl
 |true =>
  have:(l.findIdx? p).isSome=true:=by rw[List.findIdx?_isSome,h]
  obtain⟨i,hi⟩:=Option.isSome_iff_exists.1 this;have e:Om l p=(i:Int):=by simp[Om,hi]
  rw[e];exact zG (Int.natCast_nonneg i)
def rowAt (rows:List Int) (p:Int):Nat:=(rows.getD (p.toNat % rows.length) 0).toNat
def FW:Nat->Nat->Nat
 |0,_=>0
 |h+1,n=>2*FW h n+(n / 2 ^ h) % 2
theorem Q9q:∀ h n,FW h n<2 ^ h
 |0,_=>by simp[FW]
 |h+1,n=>by have:=Q9q h n;have h2:(n / 2 ^ h) % 2<2:=xm _ (by omega);simp only[FW];rw[Nat.pow_succ];omega
theorem Rf:∀ h n i,(FW h n).testBit i=(decide (i<h)&&n.testBit (h-1-i))
 |0,n,i=>by simp[FW]
 |h+1,n,0=>by simp only[FW];rw[Nat.testBit_zero,Nat.testBit_eq_decide_div_mod_eq];simp
 |h+1,n,i+1=>by have h2:(n / 2 ^ h) % 2<2:=xm _ (by omega);simp only[FW];rw[Nat.testBit_succ,show (2*FW h n+n / 2 ^ h % 2) / 2=FW h n by omega,Rf h n i];rw[show h+1-1-(i+1)=h-1-i by omega];congr 1;rw[decide_eq_decide];omega
def GK (s m x:Nat):Nat:=((x >>> s) &&& m) ||| ((x &&& m) <<< s)
theorem Z2l (s m x i:Nat):(GK s m x).testBit i=((x.testBit (s+i)&&m.testBit i)||(decide (s<=i)&&(x.testBit (i-s)&&m.testBit (i-s)))):=by unfold GK;rw[Nat.testBit_or,Nat.testBit_and,Nat.testBit_shiftRight,Nat.testBit_shiftLeft,Nat.testBit_and]
def GL (s i:Nat):Nat:=if i / s % 2=0 then i+s else i-s
def J1e (s m:Nat):Bool:=(List.range 64).all λi=>m.testBit i==(i / s % 2==0)
theorem Q23 {s m x i:Nat}(hs:s=1\/s=2\/s=4\/s=8\/s=16\/s=32) (hm:J1e s m=true) (hx:x<2 ^ 64) (hi:i<64):(GK s m x).testBit i=x.testBit (GL s i):=by
 have rn:∀ j,j<64->m.testBit j=(j / s % 2==0):=λj hj=>by have:=z8.1 hm j (zQ.2 hj);simpa using this
 have hb:∀ j,64<=j->x.testBit j=false:=λj hj=>Nat.testBit_lt_two_pow (zT hx (Nat.pow_le_pow_right (by omega) hj));rw[Z2l,rn i hi];unfold GL;by_cases h0:i / s % 2=0
 .rw[z2 h0,h0];simp only[beq_self_eq_true,xH];have hz:(decide (s<=i)&&(x.testBit (i-s)&&m.testBit (i-s)))=false:=by
   by_cases h1:s<=i
   .rw[rn (i-s) (by omega)];have:¬ ((i-s) / s % 2=0):=by rcases hs with rfl|rfl|rfl|rfl|rfl|rfl<;>omega
    simp[this]
   .simp[h1]
  rw[hz,xy,xN]
 .rw[z0 h0];have h1:s<=i:=by rcases hs with rfl|rfl|rfl|rfl|rfl|rfl<;>omega
  have h2:(i-s) / s % 2=0:=by rcases hs with rfl|rfl|rfl|rfl|rfl|rfl<;>omega
  rw[rn (i-s) (by omega),h2];simp[h0,h1]
theorem Bv {s m x:Nat}(hs:s=1\/s=2\/s=4\/s=8\/s=16\/s=32) (hx:x<2 ^ 64) (hm:m<2 ^ (64-s)):GK s m x<2 ^ 64:=by
 unfold GK;refine Nat.or_lt_two_pow ?_ ?_
 .exact xe Nat.and_le_left (xe (by rw[x5];exact Nat.div_le_self _ _) hx)
 .have h1:x &&& m<2 ^ (64-s):=xe Nat.and_le_right hm;rw[Nat.shiftLeft_eq];have h2:2 ^ 64=2 ^ (64-s)*2 ^ s:=by rw[<-Nat.pow_add];congr 1;omega
  rw[h2];exact Nat.mul_lt_mul_of_pos_right h1 (Nat.two_pow_pos s)
def Z8p (x:Nat):Nat:=GK 4 1085102592571150095 (GK 2 3689348814741910323 (GK 1 6148914691236517205 x))
def Z1u (x:Nat):Nat:=(GK 16 281470681808895 (GK 8 71777214294589695 x)) >>> 32 ||| ((GK 16 281470681808895 (GK 8 71777214294589695 x)) <<< 32) % 2 ^ 64
theorem Q5y {x i:Nat}(hx:x<2 ^ 64) (hi:i<64):(Z8p x).testBit i=x.testBit (GL 1 (GL 2 (GL 4 i)))/\Z8p x<2 ^ 64:=by
 have b1:GK 1 6148914691236517205 x<2 ^ 64:=Bv (.inl rfl) hx (by decide);have b2:GK 2 3689348814741910323 (GK 1 6148914691236517205 x)<2 ^ 64:=Bv (.inr (.inl rfl)) b1 (by decide);have b3:=Bv (s:=4) (m:=1085102592571150095) (by omega) b2 (by decide);refine⟨?_,b3⟩;unfold Z8p;have e4:GL 4 i<64:=by unfold GL;split<;>omega
 have e2:GL 2 (GL 4 i)<64:=by generalize GL 4 i=j at e4;unfold GL;split<;>omega
 rw[Q23 (by omega) (by decide) b2 hi,Q23 (by omega) (by decide) b1 e4,Q23 (by omega) (by decide) hx e2]
theorem Z30 {x i:Nat}(hx:x<2 ^ 64) (hi:i<64):(Z1u x).testBit i=x.testBit (GL 8 (GL 16 (GL 32 i))):=by
 have b1:GK 8 71777214294589695 x<2 ^ 64:=Bv (by omega) hx (by decide);have b2:GK 16 281470681808895 (GK 8 71777214294589695 x)<2 ^ 64:=Bv (by omega) b1 (by decide);have vi:(Z1u x).testBit i=(GK 16 281470681808895 (GK 8 71777214294589695 x)).testBit (GL 32 i):=by
  unfold Z1u;generalize GK 16 281470681808895 (GK 8 71777214294589695 x)=y at b2;rw[Nat.testBit_or,Nat.testBit_shiftRight,Nat.testBit_mod_two_pow,Nat.testBit_shiftLeft];unfold GL;by_cases h:i / 32 % 2=0
  .rw[z2 h,xN];have:¬ 32<=i:=by omega
   simp[this]
  .rw[z0 h];have h1:32<=i:=by omega
   have h2:y.testBit (32+i)=false:=Nat.testBit_lt_two_pow (zT b2 (Nat.pow_le_pow_right (by omega) (by omega)));rw[h2];simp[h1,hi]
 have ai:GL 32 i<64:=by unfold GL;split<;>omega
 have cy:GL 16 (GL 32 i)<64:=by generalize GL 32 i=j at ai;unfold GL;split<;>omega
 rw[vi,Q23 (by omega) (by decide) b1 ai,Q23 (by omega) (by decide) hx cy]
theorem Z4g {x:Nat}(hx:x<2 ^ 64):Z1u x<2 ^ 64:=by unfold Z1u;have b1:GK 8 71777214294589695 x<2 ^ 64:=Bv (by omega) hx (by decide);have b2:GK 16 281470681808895 (GK 8 71777214294589695 x)<2 ^ 64:=Bv (by omega) b1 (by decide);refine Nat.or_lt_two_pow (xe (by rw[x5];exact Nat.div_le_self _ _) b2) (xm _ (by decide))
theorem Z5n:∀ i,i<64->GL 1 (GL 2 (GL 4 (GL 8 (GL 16 (GL 32 i)))))=63-i:=by decide
theorem J1j {x:Nat}(hx:x<2 ^ 64):Z1u (Z8p x)=FW 64 x:=by
 refine Nat.eq_of_testBit_eq λi=>?_;have h8:=(Q5y (i:=0) hx (by omega)).2;rw[Rf];by_cases hi:i<64
 .rw[Z30 h8 hi];have ai:GL 32 i<64:=by unfold GL;split<;>omega
  have cy:GL 16 (GL 32 i)<64:=by generalize GL 32 i=j at ai;unfold GL;split<;>omega
  have e8:GL 8 (GL 16 (GL 32 i))<64:=by generalize GL 16 (GL 32 i)=j at cy;unfold GL;split<;>omega
  rw[(Q5y hx e8).1,Z5n i hi];simp[hi]
 .rw[Nat.testBit_lt_two_pow (zT (Z4g h8) (Nat.pow_le_pow_right (by omega) (by omega)))];simp[hi]
theorem Q7b {f n:Nat}(hf:f<=64) (hn:n<2 ^ f):FW 64 n >>> (64-f)=FW f n:=by
 refine Nat.eq_of_testBit_eq λi=>?_;rw[Nat.testBit_shiftRight,Rf,Rf];by_cases hi:i<f
 .rw[zG hi,zG (show 64-f+i<64 by omega),Bool.true_and,Bool.true_and];congr 1;omega
 .rw[xW hi,xW (show ¬ 64-f+i<64 by omega)];rfl
theorem Z1k {x:Nat}(hx:x<2 ^ 64):(BitVec.ofInt 64 (x:Int)).toNat=x:=by rw[Q28,BitVec.toNat_ofNat,xJ hx]
theorem Z5q (x:Nat):IntKind.wrap .u64 (x:Int)=((x % 2 ^ 64:Nat):Int):=by show (x:Int) % 18446744073709551616=_;omega
theorem J2p {a b:Nat}(ha:a<2 ^ 64) (hb:b<2 ^ 64):Qa .and .u64 (a:Int) (b:Int)=((a &&& b:Nat):Int):=by
 have e:(BitVec.ofInt 64 (a:Int) &&& BitVec.ofInt 64 (b:Int)).toNat=a &&& b:=by rw[BitVec.toNat_and,Z1k ha,Z1k hb]
 show IntKind.wrap .u64 ((BitVec.ofInt 64 (a:Int) &&& BitVec.ofInt 64 (b:Int)).toNat:Int)=_;rw[e,Z5q,xJ (xe Nat.and_le_left ha)]
theorem orU {a b:Nat}(ha:a<2 ^ 64) (hb:b<2 ^ 64):Qa .or .u64 (a:Int) (b:Int)=((a ||| b:Nat):Int):=by
 have e:(BitVec.ofInt 64 (a:Int) ||| BitVec.ofInt 64 (b:Int)).toNat=a ||| b:=by rw[BitVec.toNat_or,Z1k ha,Z1k hb]
 show IntKind.wrap .u64 ((BitVec.ofInt 64 (a:Int) ||| BitVec.ofInt 64 (b:Int)).toNat:Int)=_;rw[e,Z5q,xJ (Nat.or_lt_two_pow ha hb)]
theorem J18 {x i:Nat}(hi:i<=64):Jj .u64 (x:Int) (i:Int)=((x >>> i:Nat):Int):=by have:Nat.min i 64=i:=xD hi;simp only[Jj,z7,IntKind.bits,this];rw[x5,Int.fdiv_eq_ediv_of_nonneg _ (Int.le_of_lt (Int.pow_pos (by omega)))];norm_cast
theorem J2o {x i:Nat}(hi:i<=64):Je .u64 (x:Int) (i:Int)=((x <<< i:Nat):Int):=by have:Nat.min i 64=i:=xD hi;simp only[Je,z7,IntKind.bits,this,Nat.shiftLeft_eq];norm_cast
theorem Z7h {s m x:Nat}(hs:s=1\/s=2\/s=4\/s=8\/s=16\/s=32) (hx:x<2 ^ 64) (hm:m<2 ^ (64-s)) :
  Qa .or .u64 (Qa .and .u64 (Jj .u64 (x:Int) (s:Int)) (m:Int)) (Je .u64 (Qa .and .u64 (x:Int) (m:Int)) (s:Int))=((GK s m x:Nat):Int)/\InK .u64 (Je .u64 (Qa .and .u64 (x:Int) (m:Int)) (s:Int))/\GK s m x<2 ^ 64:=by
 have oo:m<2 ^ 64:=zT hm (Nat.pow_le_pow_right (by omega) (by omega));have bj:x >>> s<2 ^ 64:=xe (by rw[x5];exact Nat.div_le_self _ _) hx;have hl:(x &&& m) <<< s<2 ^ 64:=by
  have h1:x &&& m<2 ^ (64-s):=xe Nat.and_le_right hm;rw[Nat.shiftLeft_eq];have h2:2 ^ 64=2 ^ (64-s)*2 ^ s:=by rw[<-Nat.pow_add];congr 1;omega
  rw[h2];exact Nat.mul_lt_mul_of_pos_right h1 (Nat.two_pow_pos s)
 rw[J18 (by omega),J2p bj oo,J2p hx oo,J2o (by omega),orU (xe Nat.and_le_left bj) hl];refine⟨rfl,?_,Bv hs hx hm⟩;rw[EI];generalize (x &&& m) <<< s=z at hl;omega
theorem sw1 {x:Nat}(hx:x<2 ^ 64):Qa .or .u64 (Qa .and .u64 (Jj .u64 (x:Int) 1) 6148914691236517205) (Je .u64 (Qa .and .u64 (x:Int) 6148914691236517205) 1)=((GK 1 6148914691236517205 x:Nat):Int)/\InK .u64 (Je .u64 (Qa .and .u64 (x:Int) 6148914691236517205) 1)/\GK 1 6148914691236517205 x<2 ^ 64:=Z7h (s:=1) (m:=6148914691236517205) (by omega) hx (by decide)
theorem sw2 {x:Nat}(hx:x<2 ^ 64):Qa .or .u64 (Qa .and .u64 (Jj .u64 (x:Int) 2) 3689348814741910323) (Je .u64 (Qa .and .u64 (x:Int) 3689348814741910323) 2)=((GK 2 3689348814741910323 x:Nat):Int)/\InK .u64 (Je .u64 (Qa .and .u64 (x:Int) 3689348814741910323) 2)/\GK 2 3689348814741910323 x<2 ^ 64:=Z7h (s:=2) (m:=3689348814741910323) (by omega) hx (by decide)
theorem sw4 {x:Nat}(hx:x<2 ^ 64):Qa .or .u64 (Qa .and .u64 (Jj .u64 (x:Int) 4) 1085102592571150095) (Je .u64 (Qa .and .u64 (x:Int) 1085102592571150095) 4)=((GK 4 1085102592571150095 x:Nat):Int)/\InK .u64 (Je .u64 (Qa .and .u64 (x:Int) 1085102592571150095) 4)/\GK 4 1085102592571150095 x<2 ^ 64:=Z7h (s:=4) (m:=1085102592571150095) (by omega) hx (by decide)
theorem sw8 {x:Nat}(hx:x<2 ^ 64):Qa .or .u64 (Qa .and .u64 (Jj .u64 (x:Int) 8) 71777214294589695) (Je .u64 (Qa .and .u64 (x:Int) 71777214294589695) 8)=((GK 8 71777214294589695 x:Nat):Int)/\InK .u64 (Je .u64 (Qa .and .u64 (x:Int) 71777214294589695) 8)/\GK 8 71777214294589695 x<2 ^ 64:=Z7h (s:=8) (m:=71777214294589695) (by omega) hx (by decide)
theorem J34 {x:Nat}(hx:x<2 ^ 64):Qa .or .u64 (Qa .and .u64 (Jj .u64 (x:Int) 16) 281470681808895) (Je .u64 (Qa .and .u64 (x:Int) 281470681808895) 16)=((GK 16 281470681808895 x:Nat):Int)/\InK .u64 (Je .u64 (Qa .and .u64 (x:Int) 281470681808895) 16)/\GK 16 281470681808895 x<2 ^ 64:=Z7h (s:=16) (m:=281470681808895) (by omega) hx (by decide)
theorem J3b {x:Nat}(hx:x<2 ^ 64):Qa .or .u64 (Jj .u64 (x:Int) 32) (IntKind.wrap .u64 (Je .u64 (x:Int) 32))=((x >>> 32 ||| (x <<< 32) % 2 ^ 64:Nat):Int):=by have h1:Jj .u64 (x:Int) 32=((x >>> 32:Nat):Int):=J18 (i:=32) (by omega);have h2:Je .u64 (x:Int) 32=((x <<< 32:Nat):Int):=J2o (i:=32) (by omega);rw[h1,h2,Z5q,orU (xe (by rw[x5];exact Nat.div_le_self _ _) hx) (xm _ (by decide))]
abbrev UK:=Int×Int×Bool
def Gz:UK:=(0,(0,false))
def Yl (hk:Int) (c:UK):Bool:=inI c.1 (-1) 59&&inI c.2.1 0 (2 ^ hk.toNat-1)
def Wf (hk:Int) (cs:List UK):Int:=if !inI hk 1 24 then 3 else if 60<cs.length then 5 else if cs=[]\/(cs.any λc=>!Yl hk c)=true then 2 else 0
def Z7o (f row:Int):Int:=((FW f.toNat row.toNat:Nat):Int)
def Dj (hk:Int) (c:UK):Int:=if c.2.2 then Z7o hk c.2.1 else c.2.1
def KG (hk:Int) (rows:List Int):Int:=if !inI hk 1 24 then 2 else if 60<rows.length then 5 else if rows=[] then 7 else if (rows.any λr=>!inI r 0 (2 ^ hk.toNat-1))=true then 2 else 0
def Hq (rows:List Int):List UK:=(List.range rows.length).map λ(i:Nat)=>((i:Int),(rows.getD i 0,false))
def NW (hk:Int) (rows:List Int):Int:=if KG hk rows=0 then hk else 0
def TW (hk:Int) (rows:List Int):List UK:=if KG hk rows=0 then Hq rows else []
def atK (n a:Int) (st:List Int):Nat->Int
 |0=>a
 |k+1=>Int.tmod (atK n a st k+st.getD k 0) n
def Fe (hk:Int) (cs:List UK) (a:Int) (st:List Int) (k:Nat):List Int:=(List.range k).map λi=>Dj hk (cs.getD (atK cs.length a st i).toNat Gz)
def XS (hk:Int) (cs:List UK) (a:Int) (st:List Int):Int:=if Wf hk cs≠0 then Wf hk cs else if !inI a 0 ((cs.length:Int)-1) then 7 else if 60<st.length then 5 else if (st.any λs=>!inI s 0 2)=true then 2 else 0
def Si (hk:Int) (cs:List UK) (a:Int) (st:List Int):List Int:=if XS hk cs a st=0 then Fe hk cs a st st.length else []
def Ty (hk:Int) (cs:List UK) (a:Int) (st:List Int):Int:=if XS hk cs a st=0 then atK cs.length a st st.length else 0
theorem IW {n a b:Int}(h:(!inI n a b)=false):a<=n/\n<=b:=by unfold inI at h;simp at h;omega
theorem J33 {k:Nat}(h:k<=62):Je .i64 1 (k:Int)=((2 ^ k:Nat):Int):=by have:=Z4c (x:=1) (i:=k) (by omega);rw[Nat.shiftLeft_eq,xu] at this;exact this
theorem Q5i (k:Nat):(2:Int) ^ k=((2 ^ k:Nat):Int):=by simp
theorem J04 {k:Nat}(h:k<=24):0<2 ^ k/\2 ^ k<=16777216:=⟨Nat.two_pow_pos k,Nat.pow_le_pow_right (n:=2) (by omega) h⟩
theorem Q70 {f:Int}{c:UK}(h:Yl f c=true):0<=c.2.1/\c.2.1<2 ^ f.toNat:=by unfold Yl inI at h;simp only[z1,z6] at h;omega
theorem Q66 {hk:Int}{cs:List UK}(h1:(!inI hk 1 24)=false) (h2:cs.length<=60) (h3:(!(!cs.isEmpty&&!(cs.any λc=>!Yl hk c)))=true):Wf hk cs=2:=by unfold Wf;rw[z0 (by rw[h1];decide),z0 (by omega),z2];simp only[Bool.not_and,Bool.not_not,zl,List.isEmpty_iff] at h3;exact h3
theorem Q2c {hk:Int}{cs:List UK}(h1:(!inI hk 1 24)=false) (h2:cs.length<=60) (h3:(!(!cs.isEmpty&&!(cs.any λc=>!Yl hk c)))=false):Wf hk cs=0/\cs≠[]/\∀ c∈cs,Yl hk c=true:=by
 simp only[Bool.not_and,Bool.not_not,Bool.or_eq_false_iff] at h3;have aJ:cs≠[]:=λe=>by rw[e] at h3;cases h3.1
 refine⟨?_,aJ,λc hc=>?_⟩
 .unfold Wf;rw[z0 (by rw[h1];decide),z0 (by omega),z0];rintro (h|h)
  .exact aJ h
  .rw[h3.2] at h;cases h
 .have:=xc.1 h3.2 c hc;simpa using this
def Z5j (rows:List Int) (k:Nat):List UK:=(List.range k).map λ(i:Nat)=>((i:Int),(rows.getD i 0,false))
theorem Q9m (rows:List Int) (k:Nat):Z5j rows (k+1)=Z5j rows k++[((k:Int),(rows.getD k 0,false))]:=by unfold Z5j;rw[List.range_succ,xi];rfl
theorem Z1o (rows:List Int) (k:Nat):(Z5j rows k).length=k:=by simp[Z5j]
theorem OS {hk:Int}{rows:List Int}{e:Int}(h:KG hk rows=e) (h0:e≠0):(0=NW hk rows/\e=KG hk rows)/\TW hk rows=[]/\(TW hk rows).isEmpty=true:=by
 have h1:KG hk rows≠0:=by omega
 have h2:TW hk rows=[]:=by unfold TW;rw[z0 h1]
 have h3:NW hk rows=0:=by unfold NW;rw[z0 h1]
 rw[h2,h3];exact⟨⟨rfl,h.symm⟩,rfl,rfl⟩
theorem GG {hk a:Int}{cs:List UK}{st:List Int}{e:Int}(h:XS hk cs a st=e) (h0:e≠0):(0=Ty hk cs a st/\e=XS hk cs a st)/\Si hk cs a st=[]/\(Si hk cs a st).isEmpty=true:=by
 have h1:XS hk cs a st≠0:=by omega
 have h2:Si hk cs a st=[]:=by unfold Si;rw[z0 h1]
 have h3:Ty hk cs a st=0:=by unfold Ty;rw[z0 h1]
 rw[h2,h3];exact⟨⟨rfl,h.symm⟩,rfl,rfl⟩
theorem Q7j (hk:Int) (cs:List UK) (a:Int) (st:List Int) (k:Nat):Fe hk cs a st (k+1)=Fe hk cs a st k++[Dj hk (cs.getD (atK cs.length a st k).toNat Gz)]:=by unfold Fe;rw[List.range_succ,xi];rfl
theorem Am (hk:Int) (cs:List UK) (a:Int) (st:List Int) (k:Nat):(Fe hk cs a st k).length=k:=by simp[Fe]
theorem Z3w {n:Nat}{a:Int}{st:List Int}(hn:0<n) (h0:0<=a) (h1:a<n) (hs:∀ s∈st,0<=s):∀ k,0<=atK n a st k/\atK n a st k<n
 |0=>⟨h0,h1⟩
 |k+1=>by
  have ih:=Z3w hn h0 h1 hs k;have hg:0<=st.getD k 0:=by
   rw[z5];cases h:st[k]? with
   |none=>exact Int.le_refl _
   |some x=>exact hs x (zX h)
  simp only[atK];rw[Int.tmod_eq_emod_of_nonneg (by omega)];exact⟨Int.emod_nonneg _ (by omega),Int.emod_lt_of_pos _ (by omega)⟩
def Q4t (a b:Int):Int:=if a<b then -1 else if b<a then 1 else 0
def Q9b:XSp:=λ_ _ _ _=>False
theorem Cy {P:Program}{f:Nat}:XOk P f Q9b:=λ_ _ _ _ _ _ _ _ _ _ _ _ _ _ hx _=>hx.elim
def len8T:List UInt8:=[0,1,2,2,3,3,3,3,4,4,4,4,4,4,4,4,5,5,5,5,5,5,5,5,5,5,5,5,5,5,5,5,6,6,6,6,6,6,6,6,6,6,6,6,6,6,6,6,6,6,6,6,6,6,6,6,6,6,6,6,6,6,6,6,7,7,7,7,7,7,7,7,7,7,7,7,7,7,7,7,7,7,7,7,7,7,7,7,7,7,7,7,7,7,7,7,7,7,7,7,7,7,7,7,7,7,7,7,7,7,7,7,7,7,7,7,7,7,7,7,7,7,7,7,7,7,7,7,8,8,8,8,8,8,8,8,8,8,8,8,8,8,8,8,8,8,8,8,8,8,8,8,8,8,8,8,8,8,8,8,8,8,8,8,8,8,8,8,8,8,8,8,8,8,8,8,8,8,8,8,8,8,8,8,8,8,8,8,8,8,8,8,8,8,8,8,8,8,8,8,8,8,8,8,8,8,8,8,8,8,8,8,8,8,8,8,8,8,8,8,8,8,8,8,8,8,8,8,8,8,8,8,8,8,8,8,8,8,8,8,8,8,8,8,8,8,8,8,8,8,8,8,8,8,8,8]
def IB (x:Int):Int:=((UInt8.toNat (List.getD len8T (Int.toNat x) 0):Nat):Int)
def Q3g {α:Type}[Inhabited α] (lt:α->α->Bool) (a:Nat):Nat->List α->List α
 |0,xs=>xs
 |j+1,xs=>if a<j+1/\lt (xs.getD (j+1) default) (xs.getD j default)=true then Q3g lt a j ((xs.set (j+1) (xs.getD j default)).set j (xs.getD (j+1) default)) else xs
def Z13 {α:Type}[Inhabited α] (lt:α->α->Bool) (a:Nat):Nat->List α->List α
 |0,xs=>xs
 |n+1,xs=>Q3g lt a (a+1+n) (Z13 lt a n xs)
def CL {α:Type}[Inhabited α] (f:α×α->Int) (xs:List α) (a b:Nat):List α:=Z13 (λx y=>decide (f (x,y)<0)) a (b-a-1) xs
section
variable {α:Type}[Inhabited α] {lt:α->α->Bool}
theorem Q0x {xs:List α}{j:Nat}(h:j+1<xs.length):((xs.set (j+1) (xs.getD j default)).set j (xs.getD (j+1) default)).Perm xs:=by rw[Qf (show j<xs.length by omega),Qf h];exact List.set_set_perm h (by omega)
theorem Q33 {a:Nat}:∀ j {xs:List α},j<xs.length->(Q3g lt a j xs).Perm xs
 |0,_,_=>.refl _
 |j+1,xs,h=>by
  unfold Q3g;split
  .exact(Q33 j (by simp;omega)).trans (Q0x h)
  .exact .refl _
theorem Re {a:Nat}{xs:List α}:∀ n,a+n<xs.length\/n=0->(Z13 lt a n xs).Perm xs
 |0,_=>.refl _
 |n+1,h=>by have ih:=Re (a:=a) (xs:=xs) n (by omega);unfold Z13;exact(Q33 _ (by rw[ih.length_eq];omega)).trans ih
theorem CZ {f:α×α->Int}{xs:List α}{a b:Nat}(h:b<=xs.length):(CL f xs a b).Perm xs:=Re _ (by omega)
theorem Q9u {a j:Nat}{xs:List α}(hj:a<j) (h:lt (xs.getD j default) (xs.getD (j-1) default)=true):Q3g lt a j xs=Q3g lt a (j-1) ((xs.set j (xs.getD (j-1) default)).set (j-1) (xs.getD j default)):=by obtain⟨k,rfl⟩:∃ k,j=k+1:=⟨j-1,by omega⟩;rw[Nat.add_sub_cancel] at h |-;rw[Q3g,z2 ⟨hj,h⟩]
theorem Q8q {a j:Nat}{xs:List α}(h:¬ (a<j/\lt (xs.getD j default) (xs.getD (j-1) default)=true)):Q3g lt a j xs=xs:=by
 cases j with
 |zero=>rfl
 |succ k=>rw[Nat.add_sub_cancel] at h;rw[Q3g,z0 h]
theorem Q6d {xs:List α}{j q:Nat}(h:j+1<xs.length):((xs.set (j+1) (xs.getD j default)).set j (xs.getD (j+1) default)).getD q default=if q=j then xs.getD (j+1) default else if q=j+1 then xs.getD j default else xs.getD q default:=by
 simp only[z5,xq,xl];by_cases h1:j=q
 .subst h1;rw[z2 rfl,z2 (by omega),z2 rfl];rfl
 .rw[z0 h1,z0 (show ¬ q=j from λe=>h1 e.symm)];by_cases h2:j+1=q
  .subst h2;rw[z2 rfl,z2 h,z2 rfl];rfl
  .rw[z0 h2,z0 (show ¬ q=j+1 from λe=>h2 e.symm)]
def Z3o (lt:α->α->Bool) (i:Nat) (xs:List α):Prop:=∀ p q,p<q->q<=i->lt (xs.getD q default) (xs.getD p default)=false
theorem Q3d (has:∀ x y,lt x y=true->lt y x=false) (lE:∀ x y z,lt y x=false->lt z y=false->lt z x=false) {i:Nat}:∀ j {xs:List α},j<=i->i<xs.length->(∀ p q,p<q->q<=i->q≠j->lt (xs.getD q default) (xs.getD p default)=false)->Z3o lt i (Q3g lt 0 j xs)
 |0,xs,_,_,h=>λp q h1 h2=>by rw[Q3g];exact h p q h1 h2 (by omega)
 |j+1,xs,hj,hi,h=>by
  rw[Q3g];split
  .rename_i hc;refine Q3d has lE j (by omega) (by simp;exact hi) λp q h1 h2 h3=>?_;rw[Q6d (by omega),Q6d (by omega),z0 h3];by_cases hq:q=j+1
   .rw[z2 hq];by_cases hp:p=j
    .rw[z2 hp];exact has _ _ hc.2
    .rw[z0 hp,z0 (by omega)];exact h p j (by omega) (by omega) (by omega)
   .rw[z0 hq];by_cases hp:p=j
    .rw[z2 hp];exact h (j+1) q (by omega) h2 (by omega)
    .rw[z0 hp];by_cases dX:p=j+1
     .rw[z2 dX];exact h j q (by omega) h2 (by omega)
     .rw[z0 dX];exact h p q h1 h2 (by omega)
  .rename_i hc;have hc:lt (xs.getD (j+1) default) (xs.getD j default)=false:=by
    cases h5:lt (xs.getD (j+1) default) (xs.getD j default) with
    |false=>rfl
    |true=>exact(hc ⟨by omega,h5⟩).elim
   intro p q h1 h2;by_cases hq:q=j+1
   .subst hq;by_cases hp:p=j
    .subst hp;exact hc
    .exact lE _ _ _ (h p j (by omega) (by omega) (by omega)) hc
   .exact h p q h1 h2 hq
theorem Q26 (has:∀ x y,lt x y=true->lt y x=false) (lE:∀ x y z,lt y x=false->lt z y=false->lt z x=false) {xs:List α}:∀ n,n<xs.length->Z3o lt n (Z13 lt 0 n xs)
 |0,_=>λp q h1 h2=>by omega
 |n+1,h=>by have ih:=Q26 has lE (xs:=xs) n (by omega);have hp:=Re (lt:=lt) (a:=0) (xs:=xs) n (by omega);unfold Z13;rw[show 0+1+n=n+1 by omega];exact Q3d has lE (n+1) (z4 _) (by rw[hp.length_eq];omega) λp q h1 h2 h3=>ih p q h1 (by omega)
theorem Z0y {f:α×α->Int}(has:∀ x y,f (x,y)<0->¬ f (y,x)<0) (lE:∀ x y z,¬ f (y,x)<0->¬ f (z,y)<0->¬ f (z,x)<0) (xs:List α):(CL f xs 0 xs.length).Pairwise λx y=>¬ f (y,x)<0:=by
 cases hx:xs with
 |nil=>exact List.Pairwise.nil
 |cons x0 t =>
  have hlen:0<xs.length:=by rw[hx];simp
  rw[<-hx];have h:=Q26 (lt:=λx y=>decide (f (x,y)<0)) (λx y h=>by simpa using has x y (by simpa using h)) (λx y z h1 h2=>by simpa using lE x y z (by simpa using h1) (by simpa using h2)) (xs:=xs) (xs.length-0-1) (by omega);have hl:=(CZ (f:=f) (a:=0) (z4 xs.length)).length_eq;refine List.pairwise_iff_getElem.2 λp q hp hq vj=>?_;have:=h p q vj (by omega);have dm:(Z13 (λx y=>decide (f (x,y)<0)) 0 (xs.length-0-1) xs).getD q default=(CL f xs 0 xs.length)[q]:=Qf hq;have bu:(Z13 (λx y=>decide (f (x,y)<0)) 0 (xs.length-0-1) xs).getD p default=(CL f xs 0 xs.length)[p]:=Qf hp;rw[dm,bu] at this;simpa using this
end
theorem Z4p {a j:Nat}{α:Type}[Inhabited α] {f:α×α->Int}{ys T:List α}(e:Q3g (λx y=>decide (f (x,y)<0)) a j ys=T) (h:¬ (a<j/\f (ys.getD j default,ys.getD (j-1) default)<0)):ys=T:=by rw[<-e,Q8q];intro hh;exact h ⟨hh.1,by simpa using hh.2⟩
theorem Z25 {a j:Nat}{α:Type}[Inhabited α] {f:α×α->Int}{ys T:List α}(e:Q3g (λx y=>decide (f (x,y)<0)) a j ys=T) (hj:a<j) (h:f (ys.getD j default,ys.getD (j-1) default)<0):Q3g (λx y=>decide (f (x,y)<0)) a (j-1) ((ys.set j (ys.getD (j-1) default)).set (j-1) (ys.getD j default))=T:=by rw[<-e,Q9u hj (by simpa using h)]
theorem Q75 {α:Type}[Inhabited α] {xs:List α}{j:Nat}(h0:0<j) (h:j<xs.length):((xs.set j (xs.getD (j-1) default)).set (j-1) (xs.getD j default)).Perm xs:=by obtain⟨k,rfl⟩:∃ k,j=k+1:=⟨j-1,by omega⟩;exact Q0x h
abbrev Dmg:=Int×Int×Int×Int×Bool
def P3 (hd:Int) (rows lw:List Int) (d:Dmg):Bool :=
 inI d.1 1 5&&(if d.1=1 then d.2.2.2.1==0&&!d.2.2.2.2 else if d.1=2 then d.2.1==0&&d.2.2.2.1==0 else if d.1=5 then d.2.1==0&&d.2.2.1==0&&!d.2.2.2.2 else d.2.2.1==0&&d.2.2.2.1==0&&!d.2.2.2.2) &&
  inI d.2.1 0 (rows.length-1)&&inI d.2.2.1 0 (hd-1)&&inI d.2.2.2.1 0 (lw.length-1)
def YD (hk:Int) (lw:List Int) (hd:Int) (rows:List Int) (ds:List Dmg):Int:=if Q7 hk lw hd rows≠0 then Q7 hk lw hd rows else if 100<ds.length then 5 else if ds.any (λd=>!P3 hd rows lw d) then 2 else 0
def JM (hk:Int) (lw:List Int) (hd:Int) (rows:List Int) (ds:List Dmg) (n:Int):Int:=if YD hk lw hd rows ds≠0 then YD hk lw hd rows ds else if inI n 1 120 then 0 else 3
def Pf (k:Int):Int:=if k=2 then 1 else if k=5 then 2 else 0
def Q8h (n:Nat) (r:Nat):Nat->Nat
 |0=>0
 |h+1=>Q8h n r h*2+(if r.testBit h then 1 else 0)
def Pg (hd:Int) (rows:List Int) (d:Dmg):List Int :=
 if d.1=1 then rows.set d.2.1.toNat (((rows.getD d.2.1.toNat 0).toNat ^^^ 2 ^ d.2.2.1.toNat:Nat):Int)
 else if d.1=2 then rows.map λr=>((if d.2.2.2.2 then r.toNat ||| 2 ^ d.2.2.1.toNat else (r.toNat ||| 2 ^ d.2.2.1.toNat) ^^^ 2 ^ d.2.2.1.toNat:Nat):Int)
 else if d.1=3 then rows.set d.2.1.toNat ((Q8h hd.toNat (rows.getD d.2.1.toNat 0).toNat hd.toNat:Nat):Int)
 else if d.1=4 then (rows.set d.2.1.toNat (rows.getD ((d.2.1.toNat+1) % rows.length) 0)).set ((d.2.1.toNat+1) % rows.length) (rows.getD d.2.1.toNat 0)
 else rows
def EV (d:Dmg) (s:List UInt8):List UInt8:=if d.1=5 then s.set d.2.2.2.1.toNat 46 else s
def Wy (lw:List Int) (hd:Int) (rows:List Int) (ds:List Dmg):List (List UInt8):=match ds with
 |[]=>rows.map (Gp lw)
 |d::_=>(Pg hd rows d).map λr=>EV d (Gp lw r)
def J0g (lw:List Int) (hd:Int) (rows:List Int) (ds:List Dmg) (n:Nat):List (List UInt8):=(List.range n).map λi=>(Wy lw hd rows ds).getD (i % (Wy lw hd rows ds).length) []
end Go.Proofs.Tryz