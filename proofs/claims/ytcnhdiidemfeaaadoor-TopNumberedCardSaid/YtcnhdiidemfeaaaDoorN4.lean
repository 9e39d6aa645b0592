/- A framework for walks, contracts of functions, and their proofs: part 4. -/
import Derived.Test.YtcnhdiidemfeaaaDoorN3
namespace Go.V
open Go
theorem DropTo.rename2 {σ0 σf U':Heap}{v v':Value}(π:Nat->Nat) (h1:σ0.n<=U'.n)
  (h2:∀ i,i<σ0.n->π i=i/\U'.get i=σf.get i/\(σf.get i=σ0.get i\/∃ b,σf.get i=some b/\b.plain=true))
  (h3:∀ i,σ0.n<=i->i<U'.n->σ0.n<=π i/\((U'.get i=none/\σf.get (π i)=none)\/∃ b' b,U'.get i=some b'/\σf.get (π i)=some b/\BRen U'.n π b' b))
  (h4:∀ i j,σ0.n<=i->i<U'.n->σ0.n<=j->j<U'.n->π i=π j->i=j) (h5:Ren U'.n π v' v):DropTo σ0 v σf v' U':=by
 intro ρ0 w0 ρ w c fA hE hH hv;have hπ:∀ i,i<σ0.n->π i=i:=λi hi=>(h2 i hi).1;have aC:∀ i b',U'.get i=some b'->∃ b,σf.get (π i)=some b/\BRen U'.n π b' b:=λi b' hb=>by
  have hi:=U'.lt hb;rcases zm i σ0.n with ai|cy
  .obtain⟨k1,k2,k3⟩:=h2 i ai;rw[k1];rw[k2] at hb;refine⟨b',hb,?_⟩;rcases k3 with k3|⟨b,k3,k4⟩
   .rw[k3] at hb;obtain⟨p,_,hB⟩:=fA.live i b' hb;exact hB.ren h1 hπ
   grind [osj,BRen.plain]
  grind
 have ew:∀ i j,i<U'.n->j<U'.n->π i=π j->i=j:=(by grind);have hX:Ext ρ0 σ0 w0 (λi=>if i<U'.n then ρ (π i) else none) U' w:=by
  refine⟨hE.os,hE.tape,hE.output,hE.size,hE.keep,?_,h1,λi hi p hp=>?_⟩
  .rintro B hB ⟨i,p,b,hp,hb,hw,rfl⟩;change (if i<U'.n then ρ (π i) else none)=some p at hp;split at hp
   .obtain⟨b0,bE,a_⟩:=aC i b hb;exact hE.wr _ hB ⟨π i,p,b0,hp,bE,by rw[<-a_.wr];exact hw,rfl⟩
   .cases hp
  .change (if i<U'.n then ρ (π i) else none)=some p at hp;split at hp
   .rw[hπ i hi] at hp;exact hE.pl i hi p hp
   .cases hp
 refine⟨λi=>if i<U'.n then ρ (π i) else none,h5.rel hv,fA.ext ⟨λi b' hb=>?_,λi hi=>?_,λi p hp=>?_,λi j p q b b_ hp hq hb hw hx=>?_⟩ hX,hX⟩
 .obtain⟨b,bE,a_⟩:=aC i b' hb;obtain⟨p,hp,hB⟩:=hH.live _ b bE;exact⟨p,by simp[U'.lt hb,hp],a_.rel hB⟩
 .show (if i<U'.n then ρ (π i) else none)=none;split
  .rename_i ai;rcases zm i σ0.n with cQ|cy
   .obtain⟨k1,k2,_⟩:=h2 i cQ;rw[k1];exact hH.dead i (by rw[<-k2];exact hi)
   .obtain⟨_,⟨_,k2⟩|⟨b1,b,k1,_⟩⟩:=h3 i cy ai
    .exact hH.dead _ k2
    .rw[k1] at hi;cases hi
  .rfl
 .change (if i<U'.n then ρ (π i) else none)=some p at hp;split at hp
  .exact hH.lt _ p hp
  .cases hp
 .change (if i<U'.n then ρ (π i) else none)=some p at hp;change (if j<U'.n then ρ (π j) else none)=some q at hq;split at hp
  .rename_i hi;split at hq
   .rename_i hj;obtain⟨b0,bE,a_⟩:=aC i b hb;exact hH.sep (π i) (π j) p q b0 (λe=>b_ (ew i j hi hj e)) hp hq bE (by rw[<-a_.wr];exact hw) hx
   .cases hq
  .cases hp
theorem KC.enc {h:Heap}:∀ {k:Kind}{x:k.T}{cs:List Value},k.flat=true->KC h k x cs->cs=Az k x
 |.i _,_,_,_,e|.bo,_,_,_,e|.st,_,_,_,e=>e
 |.list _,_,_,f,_=>by cases f
 |.pair a b,x,cs,f,e=>by simp only[Kind.flat,z8] at f;obtain⟨c1,c2,rfl,h1,h2⟩:=e;rw[KC.enc f.1 h1,KC.enc f.2 h2];rfl
theorem Rows.enc {h:Heap}{k:Kind}(hk:k.flat=true) {xs:List k.T}{cs:List Value}(hr:Rows (KC h k) xs cs):cs=(xs.map (Az k)).flatten:=by
 induction hr with
 |nil=>rfl
 |cons h _ ih=>rw[zJ,List.flatten_cons,<-ih,KC.enc hk h]
theorem H2:∀ {k:Kind}{x:k.T},k.flat=true->(Az k x).all Z4=true
 |.i _,_,_|.bo,_,_|.st,_,_=>rfl
 |.list _,_,h=>by cases h
 |.pair a b,x,h=>by simp only[Kind.flat,z8] at h;simp only[Az,List.all_append,z8];exact⟨H2 h.1,H2 h.2⟩
section
variable {P:Program}
mutual
theorem Un {B:Heap}{pl:Nat->Value}{tb:Nat->Option Bool}{n:Nat}:∀ (s:SV) (v:Value),s.ret n=true->VU s=true->SR P B pl tb s v->v=VG pl s
 |.val k x,v,h,_,hs=>by simp only[SR] at hs;have:=KC.enc h hs;simp only[VG,<-this,List.headD_cons]
 |.nilS,v,_,_,hs|.nilP,v,_,_,hs|.nilM,v,_,_,hs|.nilF,v,_,_,hs=>by simp only[SR] at hs;exact hs
 |.lst j,v,_,_,hs=>by simp only[SR] at hs;exact hs.1
 |.agg l,v,h,hb,hs=>by simp only[SR] at hs;obtain⟨cs,rfl,h2⟩:=hs;rw[DJ l cs h hb h2];rfl
 |.tup l,v,h,hb,hs=>by simp only[SR] at hs;obtain⟨cs,rfl,h2⟩:=hs;rw[DJ l cs h hb h2];rfl
 |.box _ _,_,_,hb,_|.map _,_,_,hb,_=>by cases hb
 |.any,_,h,_,_|.bid _ _,_,h,_,_|.grd _ _,_,h,_,_|.sub _ _ _ _,_,h,_,_|.elp _ _ _ _,_,h,_,_|.rop _ _ _ _,_,h,_,_|.cp _ _,_,h,_,_|.fn _ _ _,_,h,_,_|.pf _ _ _ _,_,h,_,_=>by cases h
theorem DJ {B:Heap}{pl:Nat->Value}{tb:Nat->Option Bool}{n:Nat}:∀ (s:List SV) (v:List Value),SVs.ret n s=true->MJ s=true->SRs P B pl tb s v->v=Km pl s
 |[],v,_,_,hs=>by simp only[SRs] at hs;exact hs
 |s::ss,v,h,hb,hs=>by simp only[SVs.ret,z8] at h;simp only[MJ,z8] at hb;simp only[SRs] at hs;obtain⟨x,y,rfl,h1,h2⟩:=hs;rw[Un s x h.1 hb.1 h1,DJ ss y h.2 hb.2 h2];rfl
end
theorem Q2a {k:Kind}{x:k.T}(h:k.flat=true):Z4 ((Az k x).headD poison)=true\/(Az k x).headD poison=poison:=by
 have:=H2 (x:=x) h;cases e:Az k x with
 |nil=>exact .inr rfl
 |cons a l=>rw[e] at this;simp only[zQ,z8] at this;exact .inl this.1
mutual
theorem IX {n m:Nat}{π:Nat->Nat}{p q:Nat->Value}(h:∀ j,j<m->Ren n π (p j) (q j)):∀ (s:SV),s.ret m=true->VU s=true->Ren n π (VG p s) (VG q s)
 |.val k x,hr,_=>by
  simp only[VG];rcases Q2a (x:=x) hr with h|h
  .exact .plain _ h
  .rw[h];exact .poison _
 |.nilS,_,_|.nilP,_,_|.nilM,_,_|.nilF,_,_=>.plain _ rfl
 |.lst j,hr,_=>h j (by simpa [SV.ret,zF] using hr)
 |.agg l,hr,hb=>by have:=TV h l hr hb;simp only[VG];refine .agg _ _ (by simpa using this.1) λi h1 h2=>this.2 i _ _ (by simp) (by simp)
 |.tup l,hr,hb=>by have:=TV h l hr hb;simp only[VG];refine .tuple _ _ (by simpa using this.1) λi h1 h2=>this.2 i _ _ (by simp) (by simp)
 |.box _ _,_,hb|.map _,_,hb=>by cases hb
 |.any,h,_|.bid _ _,h,_|.grd _ _,h,_|.sub _ _ _ _,h,_|.elp _ _ _ _,h,_|.rop _ _ _ _,h,_|.cp _ _,h,_|.fn _ _ _,h,_|.pf _ _ _ _,h,_=>by cases h
theorem TV {n m:Nat}{π:Nat->Nat}{p q:Nat->Value}(h:∀ j,j<m->Ren n π (p j) (q j)):∀ (s:List SV),SVs.ret m s=true->MJ s=true->LRen n π (Km p s) (Km q s)
 |[],_,_=>⟨rfl,λi v c hv=>by simp[Km] at hv⟩
 |s::ss,hr,hb=>by
  simp only[SVs.ret,z8] at hr;simp only[MJ,z8] at hb;have h1:=IX h s hr.1 hb.1;have h2:=TV h ss hr.2 hb.2;refine⟨by simp[Km,h2.1],λi v c hv hc=>?_⟩;cases i with
  |zero=>simp[Km] at hv hc;subst hv;subst hc;exact h1
  |succ i=>simp[Km] at hv hc;exact h2.2 i v c hv hc
end
mutual
theorem EP {m:Nat}{S:Nat->Prop}{p q:Nat->Value}(h:∀ j,j<m->Weak S (p j) (q j)):∀ (s:SV),s.ret m=true->VU s=true->Weak S (VG p s) (VG q s)
 |.val k x,_,_=>.refl _
 |.nilS,_,_|.nilP,_,_|.nilM,_,_|.nilF,_,_=>.refl _
 |.lst j,hr,_=>h j (by simpa [SV.ret,zF] using hr)
 |.agg l,hr,hb=>by have:=Hm h l hr hb;simp only[VG];exact .agg _ _ this.1 this.2
 |.tup l,hr,hb=>by have:=Hm h l hr hb;simp only[VG];exact .tuple _ _ this.1 this.2
 |.box _ _,_,hb|.map _,_,hb=>by cases hb
 |.any,h,_|.bid _ _,h,_|.grd _ _,h,_|.sub _ _ _ _,h,_|.elp _ _ _ _,h,_|.rop _ _ _ _,h,_|.cp _ _,h,_|.fn _ _ _,h,_|.pf _ _ _ _,h,_=>by cases h
theorem Hm {m:Nat}{S:Nat->Prop}{p q:Nat->Value}(h:∀ j,j<m->Weak S (p j) (q j)):∀ (s:List SV),SVs.ret m s=true->MJ s=true->(Km p s).length=(Km q s).length/\∀ (i:Nat) (a b:Value),(Km p s)[i]?=some a->(Km q s)[i]?=some b->Weak S a b
 |[],_,_=>⟨rfl,λi v c hv=>by simp[Km] at hv⟩
 |s::ss,hr,hb=>by
  simp only[SVs.ret,z8] at hr;simp only[MJ,z8] at hb;have h1:=EP h s hr.1 hb.1;have h2:=Hm h ss hr.2 hb.2;refine⟨by simp[Km,h2.1],λi v c hv hc=>?_⟩;cases i with
  |zero=>simp[Km] at hv hc;subst hv;subst hc;exact h1
  |succ i=>simp[Km] at hv hc;exact h2.2 i v c hv hc
end
theorem KC.ofEnc {h:Heap}:∀ {k:Kind}{x:k.T},k.flat=true->KC h k x (Az k x)
 |.i _,_,_|.bo,_,_|.st,_,_=>by simp[KC,Az]
 |.list _,_,f=>by cases f
 |.pair a b,x,f=>by simp only[Kind.flat,z8] at f;exact⟨_,_,rfl,KC.ofEnc f.1,KC.ofEnc f.2⟩
theorem Rows.ofEnc {h:Heap}{k:Kind}(hk:k.flat=true):∀ xs:List k.T,Rows (KC h k) xs (xs.map (Az k)).flatten
 |[]=>.nil
 |x::xs=>by rw[zJ,List.flatten_cons];exact .cons (KC.ofEnc hk) (Rows.ofEnc hk xs)
mutual
theorem CT {pl:Nat->Value}{m:Nat}(h:∀ j,j<m->∃ a n c,pl j=.slice a n c):∀ (s:SV),s.ret m=true->VU s=true->SR P hNil pl Ji s (VG pl s)
 |.val k x,hr,hb=>by have h1:=KC.ofEnc (h:=hNil) (x:=x) hr;have h2:=KC.length h1;rw[Kind.q1p hb] at h2;obtain⟨c,e⟩:=x4.1 h2;simp only[VG,SR,e,List.headD_cons];rw[e] at h1;exact h1
 |.nilS,_,_|.nilP,_,_|.nilM,_,_|.nilF,_,_=>by simp[VG,SR]
 |.lst j,hr,_=>by simp only[VG,SR];exact⟨trivial,h j (by simpa [SV.ret,zF] using hr)⟩
 |.agg l,hr,hb=>by simp only[VG,SR];exact⟨_,rfl,Ce h l hr hb⟩
 |.tup l,hr,hb=>by simp only[VG,SR];exact⟨_,rfl,Ce h l hr hb⟩
 |.box _ _,_,hb|.map _,_,hb=>by cases hb
 |.any,h,_|.bid _ _,h,_|.grd _ _,h,_|.sub _ _ _ _,h,_|.elp _ _ _ _,h,_|.rop _ _ _ _,h,_|.cp _ _,h,_|.fn _ _ _,h,_|.pf _ _ _ _,h,_=>by cases h
theorem Ce {pl:Nat->Value}{m:Nat}(h:∀ j,j<m->∃ a n c,pl j=.slice a n c):∀ (s:List SV),SVs.ret m s=true->MJ s=true->SRs P hNil pl Ji s (Km pl s)
 |[],_,_=>by simp[Km,SRs]
 |s::ss,hr,hb=>by simp only[SVs.ret,z8] at hr;simp only[MJ,z8] at hb;simp only[Km,SRs];exact⟨_,_,rfl,CT h s hr.1 hb.1,Ce h ss hr.2 hb.2⟩
end
theorem Q8b {U:Heap}{bs:List OB}(hl:bs.all OB.isL=true) {j:Nat}(hj:j<bs.length):∃ a n c,LS U bs j=.slice a n c:=by
 have hb:=zg.1 hl _ (zl hj);simp only[LS,z9 hj];cases e:bs[j] with
 |lst ty k xs nl=>cases nl<;>simp
 |_=>rw[e] at hb;cases hb
theorem Q0b {σ0 σf:Heap}(hA:Agree σ0 σf) (hn:σ0.n<=σf.n) {v:SV}{bs:List OB}(hv:v.ret bs.length=true) (cO:VU v=true) (hb:bs.all OB.ret=true) (hl:bs.all OB.isL=true) {pl:Nat->Value}{u:Value}
  (aj:∀ j b,bs[j]?=some b->OR P hNil pl Ji σf (pl j) b/\∀ i,oid (pl j)=some i->σ0.n<=i)
  (ia:∀ j j' i,j<bs.length->j'<bs.length->j≠j'->oid (pl j)=some i->oid (pl j')=some i->False) (hu:SR P hNil pl Ji v u) :
  DropTo σ0 u σf (VG (LS σ0 bs) v) (R3 σ0 bs):=by
 have de:=Un v u hv cO hu;subst de;have kind:∀ j,j<bs.length->∃ ty k xs nl,bs[j]?=some (.lst ty k xs nl)/\k.flat=true/\((nl=true/\xs=[]/\pl j=.slice none 0 0)\/(nl=false/\∃ i cap c t,pl j=.slice (some ⟨i,0,none⟩) xs.length cap/\xs.length<=cap/\σ0.n<=i/\σf.get i=some (.cells c ⟨k.size,ty⟩ true t)/\c.take (xs.length*k.size)=(xs.map (Az k)).flatten/\Rows (KC hNil k) xs (xs.map (Az k)).flatten)):=by
  intro j hj;have e:=z9 hj;have h1:=zg.1 hb _ (zl hj);have h2:=zg.1 hl _ (zl hj);obtain⟨ho,hi⟩:=aj j _ e;cases bS:bs[j] with
  |lst ty k xs nl =>
   rw[bS] at e ho h1;refine⟨ty,k,xs,nl,e,h1,?_⟩;rcases ho with⟨k1,k2,k3⟩|⟨k0,i,cap,c,t,k1,k2,k3,k4,k5⟩
   .exact .inl ⟨k1,k2,k3⟩
   .have k6:=Rows.enc h1 k5;exact .inr ⟨k0,i,cap,c,t,k1,k2,hi i (by rw[k1];rfl),k3,k6,by rw[<-k6];exact k5⟩
  |_=>rw[bS] at h2;cases h2
 let S:Nat->Bool:=λi=>(List.range bs.length).any λj=>decide (oid (pl j)=some i);have hS:∀ i,S i=true<->∃ j,j<bs.length/\oid (pl j)=some i:=(by grind);let σw:Heap:=⟨λi=>if S i=true then ((List.range bs.length).find? λj=>decide (oid (pl j)=some i)).bind λj=>(bs[j]?).bind Q4f else σf.get i,σf.n,λi hi=>by
  by_cases h:S i=true
  .obtain⟨j,hj,br⟩:=(hS i).1 h;obtain⟨ty,k,xs,nl,_,_,h3⟩:=kind j hj;rcases h3 with⟨_,_,k3⟩|⟨_,i',cap,c,t,k1,_,_,k3,_⟩
   .rw[k3] at br;cases br
   .rw[k1] at br;obtain rfl:=osj br;exact absurd (σf.lt k3) (wx.2 hi)
  .rw[z0 h];exact σf.wf i hi⟩
 have bY:∀ j i,j<bs.length->oid (pl j)=some i->σw.get i=(bs[j]?).bind Q4f:=λj i hj br=>by
  have h1:S i=true:=(hS i).2 ⟨j,hj,br⟩;show (if S i=true then _ else _)=_;rw[z6 h1];cases hf:(List.range bs.length).find? λj=>decide (oid (pl j)=some i) with
  |none=>have:=List.find?_eq_none.1 hf j (zW.2 hj);simp[br] at this
  |some j' =>have h2:=List.find?_some hf;have h3:=zW.1 (List.mem_of_find?_eq_some hf);have h4:j'=j:=(by grind);subst h4;rfl
 let q:Nat->Value:=λj=>match pl j with
  |.slice (some a) n _=>.slice (some a) n n
  |v=>v
 have hq:∀ j,j<bs.length->Weak (λi=>S i=true) (pl j) (q j):=λj hj=>by
  obtain⟨ty,k,xs,nl,_,_,h3⟩:=kind j hj;rcases h3 with⟨_,_,k3⟩|⟨_,i',cap,c,t,k1,k2,_,k3,_⟩
  .simp only[q,k3];exact .refl _
  .simp only[q,k1];exact .sl _ _ _ ((hS i').2 ⟨j,hj,by rw[k1];rfl⟩) k2
 have nF:DropTo σ0 (VG pl v) σf (VG q v) σw:=by
  refine DropTo.weaken S (λi hi=>?_) rfl hn (λi hi=>?_) (λi hi=>?_) (EP hq v hv cO)
  .grind
  .grind
  .obtain⟨j,hj,br⟩:=(hS i).1 hi;obtain⟨ty,k,xs,nl,e,_,h3⟩:=kind j hj;rcases h3 with⟨_,_,k3⟩|⟨k0,i',cap,c,t,k1,k2,_,k3,k4,_⟩
   .rw[k3] at br;cases br
   .rw[k1] at br;obtain rfl:=osj br;refine⟨c,_,true,t,xs.length*k.size,k3,?_⟩;rw[bY j _ hj (by rw[k1];rfl),e];simp only[xl,Q4f,k0];rw[k4];rfl
 have jR:∀ j i,j<bs.length->oid (pl j)=some i->i<σf.n:=λj i hj br=>by
  obtain⟨ty,k,xs,nl,_,_,h3⟩:=kind j hj;rcases h3 with⟨_,_,k3⟩|⟨_,i',cap,c,t,k1,_,_,k3,_⟩
  .rw[k3] at br;cases br
  .rw[k1] at br;obtain rfl:=osj br;exact σf.lt k3
 let π:Nat->Nat:=λi=>if i<σ0.n then i else match oid (pl (i-σ0.n)) with
  |some id=>id
  |none=>σf.n+i
 have tU:σw.n=σf.n:=rfl;have nG:DropTo σ0 (VG q v) σw (VG (LS σ0 bs) v) (R3 σ0 bs):=by
  refine DropTo.rename2 π (by simp[R3]) (λi hi=>⟨by simp[π,hi],?_,.inl ?_⟩) (λi h1 h2=>?_) (λi j h1 h2 h3 h4 he=>?_) (IX (λj hj=>?_) v hv cO)
  .have hs:S i=false:=by
    grind
   show (if i<σ0.n then _ else _)=(if S i=true then _ else _);rw[z6 hi,z0 (by simp[hs]),hA i hi]
  .have hs:S i=false:=by
    grind
   show (if S i=true then _ else _)=_;rw[z0 (by simp[hs]),hA i hi]
  .have hj:i-σ0.n<bs.length:=by simp[R3] at h2;omega
   have cy:¬ i<σ0.n:=by omega
   obtain⟨ty,k,xs,nl,e,ql,h3⟩:=kind _ hj;have nH:(R3 σ0 bs).get i=(bs[i-σ0.n]?).bind Q4f:=by show (if i<σ0.n then _ else _)=_;rw[z0 cy]
   rcases h3 with⟨k0,_,k3⟩|⟨k0,i',cap,c,t,k1,k2,ld,k3,k4,_⟩
   .have hp:π i=σf.n+i:=by simp only[π,z0 cy,k3,oid]
    refine⟨by omega,.inl ⟨?_,σw.wf _ (by rw[hp,tU];omega)⟩⟩;rw[nH,e];simp[Q4f,k0]
   .have hp:π i=i':=by simp only[π,z0 cy,k1,oid]
    rw[hp];have hw:=bY _ i' hj (by rw[k1];rfl);rw[e] at hw;simp only[xl,Q4f,k0] at hw;refine⟨ld,.inr ⟨_,_,?_,hw,BRen.plain ?_⟩⟩
    .rw[nH,e];simp[Q4f,k0]
    .simp only[Blk.plain,List.all_flatten,List.all_map];rw[zg];intro x _;exact H2 ql
  .have hi:i-σ0.n<bs.length:=by simp[R3] at h2;omega
   have hj:j-σ0.n<bs.length:=by simp[R3] at h4;omega
   grind
  .obtain⟨ty,k,xs,nl,e,_,h3⟩:=kind j hj;rcases h3 with⟨k0,kx,k3⟩|⟨k0,i',cap,c,t,k1,k2,_,k3,_⟩
   .simp only[LS,e,k0,zz,q,k3];exact .plain _ rfl
   .simp only[LS,e,k0,zw,if_false,q,k1];have hp:π (σ0.n+j)=i':=by
     have:¬ σ0.n+j<σ0.n:=by omega
     simp only[π,z0 this,Nat.add_sub_cancel_left,k1,oid]
    have:=Ren.sl (n:=(R3 σ0 bs).n) (π:=π) (σ0.n+j) 0 xs.length xs.length (by simp[R3];omega)
    rwa [hp] at this
 exact nF.trans nG
def OB.wfL:OB->Prop
 |.lst _ _ xs nl=>nl=true->xs=[]
 |_=>True
theorem Et (σ0:Heap) {v:SV}{bs:List OB}(hv:v.ret bs.length=true) (cO:VU v=true) (hb:bs.all OB.ret=true) (hl:bs.all OB.isL=true) (hw:∀ b∈bs,b.wfL):Ret P σ0 v bs (VG (LS σ0 bs) v) (R3 σ0 bs):=by
 have kind:∀ j,j<bs.length->∃ ty k xs nl,bs[j]?=some (.lst ty k xs nl)/\k.flat=true/\(nl=true->xs=[]):=λj hj=>by
  have e:=z9 hj;have h1:=zg.1 hb _ (zl hj);have h2:=zg.1 hl _ (zl hj);have h3:=hw _ (zl hj);cases bS:bs[j] with
  |lst ty k xs nl=>rw[bS] at e h1 h3;exact⟨ty,k,xs,nl,e,h1,h3⟩
  |_=>rw[bS] at h2;cases h2
 refine⟨⟨?_,?_⟩,?_,LS σ0 bs,λj b hj=>?_,λj j' i hj dF aB h1 h2=>?_,CT (λj hj=>Q8b hl hj) v hv cO⟩
 .refine⟨by simp[R3],λi b hg=>?_⟩;show (if i<σ0.n then _ else _)=_;rw[z6 (σ0.lt hg)];exact hg
 .refine⟨by simp[R3],λi hi hg=>?_⟩;show (if i<σ0.n then _ else _)=_;rw[z6 hi];exact hg
 .rintro rfl;apply Heap.ext'
  .intro i;show (if i<σ0.n then _ else _)=_;by_cases hi:i<σ0.n
   .rw[z6 hi]
   .rw[z0 hi,σ0.wf i (by omega)];rfl
  .simp[R3]
 .have cq:j<bs.length:=(zt.1 hj).1;obtain⟨ty,k,xs,nl,e,ql,h3⟩:=kind j cq;obtain rfl:=osj (e.symm.trans hj);cases nl with
  |true =>
   have hp:LS σ0 bs j=.slice none 0 0:=by simp[LS,e]
   rw[hp];exact⟨.inl ⟨rfl,h3 rfl,rfl⟩,λi hi=>by cases hi⟩
  |false =>
   have hp:LS σ0 bs j=.slice (some ⟨σ0.n+j,0,none⟩) xs.length xs.length:=by simp[LS,e]
   have k5:=Rows.ofEnc (h:=hNil) ql xs;have dX:=k5.length KC.q0h;rw[hp];refine⟨.inr ⟨rfl,σ0.n+j,xs.length,(xs.map (Az k)).flatten,false,rfl,zd _,?_,by omega,?_⟩,λi hi=>?_⟩
   .show (if σ0.n+j<σ0.n then _ else _)=_;rw[z0 (by omega),Nat.add_sub_cancel_left,e];simp[Q4f]
   .rw[x3 (by omega)];exact k5
   .obtain rfl:=osj hi;exact⟨σ0.wf _ (by simp),by simp⟩
 .obtain⟨ty,k,xs,nl,e,_,h3⟩:=kind j hj;obtain⟨iI,k',b9,jY,e',_,iJ⟩:=kind j' dF;simp only[LS,e] at h1;simp only[LS,e'] at h2;cases nl with
  |true=>simp[Oid,oid] at h1
  |false =>
   cases jY with
   |true=>simp[Oid,oid] at h2
   |false=>simp[Oid,oid] at h1 h2;omega
end
end Go.V
namespace Go.V
open Go
section
variable {P:Program}{B F:Heap}{pl:Nat->Value}{tb:Nat->Option Bool}{own:Own}{U:Heap}
mutual
theorem Q00 {bx:List SV->Nat->SV}(hle:B.Le U) (aw:∀ d,OR P B pl tb U (pl d) (Qa own d))
  (lf:∀ l off b c e t,U.get b=some (.cells c e true t)->SRs P B pl tb l c->SR P U Xd Ji (bx l off) (.pointer (some ⟨b,off,none⟩))) :
  ∀ (s:SV) (v:Value),SR P B pl tb s v->SR P U Xd Ji (S9 own bx s) v
 |.any,v,h=>by simp[S9,SR]
 |.val k x,v,h=>by simp only[S9,SR] at h |-;exact h.mono hle
 |.bid n c,v,h=>by simp only[S9,SR] at h |-;obtain⟨rfl,_⟩:=h;rfl
 |.grd gs s,v,h=>by simp[S9,SR]
 |.nilS,v,h=>by simp only[S9,SR] at h |-;exact h
 |.nilP,v,h=>by simp only[S9,SR] at h |-;exact h
 |.nilM,v,h=>by simp only[S9,SR] at h |-;exact h
 |.nilF,v,h=>by simp only[S9,SR] at h |-;exact h
 |.lst o,v,h=>by
  simp only[S9];split
  .rename_i ty k xs nl ho;have:view own k (.lst o)=some xs:=by simp[view,ho,M8]
   simp only[SR,KC];exact⟨v,rfl,(U5 hle aw this h).mono (Heap.Le.refl _) λ_ _ e=>e.mono hle⟩
  .simp[SR]
 |.sub o lo n sz,v,h=>by
  simp only[S9];split
  .rename_i ty k xs nl ho;split
   .rename_i aI;have:view own k (.sub o lo n sz)=some ((xs.drop lo).take n):=by simp[view,ho,M8,aI]
    simp only[SR,KC];exact⟨v,rfl,(U5 hle aw this h).mono (Heap.Le.refl _) λ_ _ e=>e.mono hle⟩
   .simp[SR]
  .simp[SR]
 |.elp o i off sz,v,h=>by simp[S9,SR]
 |.dd o w,v,h=>by
  simp only[S9];simp only[SR] at h;split
  .rename_i ty q k xs nl hole ho;have aj:=aw o;rw[ho] at aj;have cT:=DP.le aj;split
   .split
    .obtain⟨h1,_⟩:=h;simp only[SR,KC];refine⟨v,rfl,?_⟩;rw[h1];exact(DP.sl aj).mono cT λ_ _ e=>e.mono cT
    .simp[SR]
   .simp only[SR];exact KC.mono cT h
   .simp only[SR];exact KC.mono cT h.1
   .simp[SR]
  .simp[SR]
 |.map o,v,h=>by simp[S9,SR]
 |.tup l,v,h=>by simp[S9,SR]
 |.box o off,v,h=>by
  simp only[S9];split
  .rename_i l _ ho;have aj:=aw o;rw[ho] at aj;obtain⟨i,c,e,t,h1,h2,h3,_⟩:=aj;simp only[SR] at h
   grind
  .simp[SR]
 |.rop k l i off,v,h=>by simp only[S9];exact SR.mono (tb:=tb) hle (λn c hn=>hn) (.rop k l i off) v h |> λh=>by simp only[SR] at h |-;exact h
 |.cp l off,v,h=>by simp only[S9,SR] at h |-;obtain⟨b,c,e,wr,t,h1,h2,h3⟩:=h;exact⟨b,c,e,wr,t,hle.2 _ _ h1,h2,X8 hle aw lf l c h3⟩
 |.agg l,v,h=>by simp only[S9,SR] at h |-;obtain⟨cs,h1,h2⟩:=h;exact⟨cs,h1,X8 hle aw lf l cs h2⟩
 |.fn f a b,v,h=>by simp only[S9,SR] at h |-;obtain⟨x,y,h1,h2,h3⟩:=h;exact⟨x,y,h1,X8 hle aw lf a x h2,X8 hle aw lf b y h3⟩
 |.pf ks r cF p,v,h=>by simp only[S9,SR] at h |-;exact h.mono hle
theorem X8 {bx:List SV->Nat->SV}(hle:B.Le U) (aw:∀ d,OR P B pl tb U (pl d) (Qa own d))
  (lf:∀ l off b c e t,U.get b=some (.cells c e true t)->SRs P B pl tb l c->SR P U Xd Ji (bx l off) (.pointer (some ⟨b,off,none⟩))) :
  ∀ (s:List SV) (v:List Value),SRs P B pl tb s v->SRs P U Xd Ji (TU own bx s) v
 |[],v,h=>by simp only[TU,SRs] at h |-;exact h
 |s::ss,v,h=>by simp only[TU,SRs] at h |-;obtain⟨x,y,h1,h2,h3⟩:=h;exact⟨x,y,h1,Q00 hle aw lf s x h2,X8 hle aw lf ss y h3⟩
end
theorem Wh (hle:B.Le U) (aw:∀ d,OR P B pl tb U (pl d) (Qa own d)) {l:List SV}{v:List Value}(h:SRs P B pl tb l v):SRs P U Xd Ji (PT own l) v:=by
 have h0:∀ {l v},SRs P B pl tb l v->SRs P U Xd Ji (Z5g own l) v:=λh=>X8 hle aw (λ_ _ _ _ _ _ _ _=>by simp[SR]) _ _ h;have h1:∀ {l v},SRs P B pl tb l v->SRs P U Xd Ji (Z59 own l) v:=λh=>X8 hle aw (λl off b c e t hg hs=>by
  simp only[SR];grind) _ _ h
 exact X8 hle aw (λl off b c e t hg hs=>by
  simp only[SR];grind) _ _ h
mutual
theorem Q1f {p q:Nat->Value}{n:Nat}(h:∀ j,j<n->p j=q j):∀ (s:SV),s.ret n=true->VG p s=VG q s
 |.val _ _,_|.nilS,_|.nilP,_|.nilM,_|.nilF,_=>by simp[VG]
 |.lst j,hr=>by simp only[VG];exact h j (by simpa [SV.ret,zF] using hr)
 |.agg l,hr=>by simp only[VG];rw[Ch h l hr]
 |.tup l,hr=>by simp only[VG];rw[Ch h l hr]
 |.box _ _,_|.map _,_=>by simp[VG]
 |.dd _ _,_=>by simp[VG]
 |.any,h|.bid _ _,h|.grd _ _,h|.sub _ _ _ _,h|.elp _ _ _ _,h|.rop _ _ _ _,h|.cp _ _,h|.fn _ _ _,h|.pf _ _ _ _,h=>by cases h
theorem Ch {p q:Nat->Value}{n:Nat}(h:∀ j,j<n->p j=q j):∀ (s:List SV),SVs.ret n s=true->Km p s=Km q s
 |[],_=>rfl
 |s::ss,hr=>by simp only[SVs.ret,z8] at hr;simp only[Km];rw[Q1f h s hr.1,Ch h ss hr.2]
end
theorem J4 {cs:List (Nat×CSp)}(az:CsOk P cs) {f:SV}{args:List SV}{c:Prop}{v:SV}{bs:List OB}{fV:Value}{vs:List Value}(hf:SR P U Xd Ji f fV) (ha:SRs P U Xd Ji args vs)
  (h:VT cs f args=some (c,v,bs)) (hv:v.ret bs.length=true) (hb:bs.all OB.ret=true) (hc:c):∃ g a b,fV=.func (.func g) a b/\(VCalled P g (a.toList++vs++b.toList) U λu U'=>Ret P U v bs u U') /\
  (bs.all OB.isL=true->VU v=true->VCalled P g (a.toList++vs++b.toList) U λu U'=>u=VG (LS U bs) v/\U'=R3 U bs):=by
 have gen:(gap cs 3 f args).map (λx=>(x.1,x.2,([]:List OB)))=some (c,v,bs)->∃ g a b,fV=.func (.func g) a b/\(VCalled P g (a.toList++vs++b.toList) U λu U'=>Ret P U v bs u U') /\
   (bs.all OB.isL=true->VU v=true->VCalled P g (a.toList++vs++b.toList) U λu U'=>u=VG (LS U bs) v/\U'=R3 U bs):=λh=>by
  simp only[zq] at h;obtain⟨⟨c',v'⟩,h1,h2⟩:=h;simp only[Prod.mk.injEq] at h2;obtain⟨rfl,rfl,rfl⟩:=h2;obtain⟨h3,g,a,b,rfl,h4⟩:=Cc az 3 U f args c' v' fV vs hf ha h1 hc;refine⟨g,a,b,rfl,h4.mono λu U' hu=>?_,λ_ cO=>h4.mono λu U' hu=>?_⟩
  .obtain⟨rfl,hu⟩:=hu;exact⟨⟨Heap.Le.refl _,Dead.refl _⟩,λ_=>rfl,Xd,(λj b hj=>by simp at hj),(λj j' i hj=>by simp at hj),hu⟩
  .obtain⟨rfl,hu⟩:=hu;have hz:R3 U' []=U':=(Et (P:=P) U' (v:=v') (bs:=[]) h3 cO rfl rfl (λb hb=>by cases hb)).2.1 rfl;refine⟨?_,hz.symm⟩;rw[Un v' u h3 cO hu]
   grind [Q1f]
 cases f with
 |fn g a b =>
  simp only[VT] at h;split at h
  .rename_i sp cZ;simp only[SR] at hf;obtain⟨x,y,rfl,h1,h2⟩:=hf;refine⟨g,x.toArray,y.toArray,rfl,?_⟩;simpa using az g sp cZ (gap cs 3) (Cc az 3) U (a++args++b) (x++vs++y) c v bs ((h1.append ha).append h2) h hv hb hc
  .cases h
 |_=>exact gen h
theorem Gam.q1u {s:St}{env:Env}{U':Heap}(h:Gam P B F pl tb s env U) (hl:U.Le U') {d:Nat}(al:(Qa s.own d).live=true) {i:Nat}(hi:Oid (pl d) i):U'.get i=U.get i:=by
  have ai:=(h.obj d).q1a al hi;cases hb:U.get i with
  |none =>
   have aj:=h.obj d;cases ho:Qa s.own d with
   |dead=>rw[ho] at al;cases al
   |lst ty k xs nl =>
    rw[ho] at aj;rcases aj with⟨_,_,h2⟩|⟨_,i',cap,c,t,h2,_,h3,_⟩
    .rw[h2] at hi;cases hi
    .rw[h2] at hi;obtain rfl:=osj hi;rw[h3] at hb;cases hb
   |cells l u=>rw[ho] at aj;obtain⟨i',c,e,t,h2,h3,_⟩:=aj;rw[h2] at hi;obtain rfl:=osj hi;rw[h3] at hb;cases hb
   |mapE kk vk m key n=>rw[ho] at aj;obtain⟨i',es,cl,r,e,h2,h3,_⟩:=aj;rw[h2] at hi;obtain rfl:=osj hi;rw[h3] at hb;cases hb
   |map kk vk m=>rw[ho] at aj;obtain⟨i',es,cl,h2,h3,_⟩:=aj;rw[h2] at hi;obtain rfl:=osj hi;rw[h3] at hb;cases hb
   |fm ik l=>rw[ho] at aj;obtain⟨i',es,cl,h2,h3,_⟩:=aj;rw[h2] at hi;obtain rfl:=osj hi;rw[h3] at hb;cases hb
   |stk l vals=>rw[ho] at al;cases al
   |lpf l q s=>rw[ho] at aj al;obtain⟨h2,_,h3⟩:=aj;rw[h2] at hi;obtain rfl:=osj hi;have h3:=h3 al;rw[hb] at h3;cases h3
   |iter kk vk m dn=>rw[ho] at aj;obtain⟨j',i',es,cl,wr,seen,h2,h3,_⟩:=aj;rw[h2] at hi;obtain rfl:=osj hi;rw[h3] at hb;cases hb
   |deep ty q k xs nl hh =>rw[ho] at aj;obtain⟨is,_,d2,d3,_⟩:=DP.open aj;obtain⟨c,e,t,h⟩:=d2.cells i ((d3 i).1 hi);rw[h] at hb;cases hb
  |some b=>rw[hl.2 i b hb]
theorem Gam.heap {s:St}{env:Env}{U':Heap}(h:Gam P B F pl tb s env U) (hl:U.Le U'):Gam P B F pl tb s env U' :=
 ⟨h.bf,h.le.trans hl,h.env,λd=>(h.obj d).mono (Heap.Le.refl _) (λ_ _ h=>h) λal _i hi=>h.q1u hl al hi,h.fresh,h.sep,h.free⟩
theorem Re {env:Env}{σ0:Heap}{d nt:Nat}(dZ:0<nt) (fH:Nat->Value) (bs:List OB) (hB:F.Le σ0)
  (aj:∀ j b,bs[j]?=some b->b.ret=true/\OR P hNil fH Ji U (fH j) b/\∀ i,Oid (fH j) i->σ0.n<=i)
  (ia:∀ j j' i,j<bs.length->j'<bs.length->j≠j'->Oid (fH j) i->Oid (fH j') i->False) :
  ∀ (r:List OB) (j:Nat) (pl:Nat->Value) (s:St),bs.drop j=r->Gam P B F pl tb s env U->(∀ k i,(Qa s.own k).live=true->Oid (pl k) i->i<σ0.n\/∃ j'<j,j'<bs.length/\Oid (fH j') i/\k=d+j'*nt)->(∀ j'<j,j'<bs.length->pl (d+j'*nt)=fH j') ->
   ∃ pl',Gam P B F pl' tb (s.makes d nt j r) env U/\(∀ j'<bs.length,pl' (d+j'*nt)=fH j')/\∀ q,(∀ j'<bs.length,q≠d+j'*nt)->pl' q=pl q/\(Qa (s.makes d nt j r).own q).live=(Qa s.own q).live
 |[],j,pl,s,hr,hG,_,hp=>⟨pl,hG,λj' dF=>hp j' (by
   have:=congrArg List.length hr;simp at this;omega) dF,λq _=>⟨rfl,rfl⟩⟩
 |b::r,j,pl,s,hr,hG,hinv,hp=>by
  have cq:j<bs.length:=by
   grind [Nat.lt_or_ge,List.drop_eq_nil_of_le]
  have bS:bs[j]?=some b:=by
   have:(bs.drop j)[0]?=some b:=by rw[hr];rfl
   simpa using this
  have kC:bs.drop (j+1)=r:=by
   have:(bs.drop j).drop 1=r:=by rw[hr];rfl
   simpa [List.drop_drop,xX] using this
  obtain⟨h1,h2,h3⟩:=aj j b bS;have aJ:∀ j' ,j'≠j->d+j'*nt≠d+j*nt:=(by grind [Nat.eq_of_mul_eq_mul_right]);obtain⟨pl',k1,k2,k3⟩:∃ pl',Gam P B F pl' tb ((s.make (d+j*nt) b).makes d nt (j+1) r) env U/\(∀ j'<bs.length,pl' (d+j'*nt)=fH j')/\∀ q,(∀ j'<bs.length,q≠d+j'*nt)->pl' q=JH pl (d+j*nt) (fH j) q/\(Qa ((s.make (d+j*nt) b).makes d nt (j+1) r).own q).live=(Qa (s.make (d+j*nt) b).own q).live:=by
   refine Re dZ fH bs hB aj ia r (j+1) (JH pl (d+j*nt) (fH j)) _ kC (hG.make (d+j*nt) b (fH j) hG.le (λ_ _ _ _ _=>rfl) (h2.retd h1 λ_ _=>rfl) λi _ hi=>⟨F.wf _ (by have:=h3 i hi;have:=hB.1;omega),λk hk hl e=>?_⟩) (λk i hl hi=>?_) λj' dF qm=>?_
   .grind
   .by_cases hk:k=d+j*nt
    .subst hk;simp only[JH,zz] at hi
     grind
    .have cG:(Qa s.own k).live=true:=by
      simp only[St.make,St.kill,Qk,U9,z0 hk] at hl
      rwa [OB.q0t] at hl
     simp only[JH,z0 hk] at hi
     grind
   .by_cases e:j'=j
    .subst e;simp[JH]
    .simp only[JH,z0 (aJ j' e)];exact hp j' (by omega) qm
  refine⟨pl',k1,k2,λq hq=>?_⟩;obtain⟨e1,e2⟩:=k3 q hq;refine⟨by rw[e1];simp[JH,hq j cq],?_⟩;show (Qa ((s.make (d+j*nt) b).makes d nt (j+1) r).own q).live=_;rw[e2];simp only[St.make,St.kill,Qk,U9,z0 (hq j cq),OB.q0t]
theorem Ret.gamF {s:St}{env:Env}{d nt:Nat}(dZ:0<nt) (hG:Gam P B F pl tb s env U) {v:SV}{bs:List OB}{u:Value}{U':Heap}(hv:v.ret bs.length=true) (hb:bs.all OB.ret=true) (h:Ret P U v bs u U') :
  ∃ pl',Gam P B F pl' tb (s.makes d nt 0 bs) env U'/\SR P B pl' tb (v.ren d nt) u/\∀ q,(∀ j'<bs.length,q≠d+j'*nt)->(Qa (s.makes d nt 0 bs).own q).live=(Qa s.own q).live/\pl' q=pl q/\((Qa s.own q).live=true->∀ i,Oid (pl q) i->U'.get i=U.get i):=by
 obtain⟨⟨h1,_⟩,_,fH,h2,h3,h4⟩:=h
 obtain⟨pl',h5,h6,h7⟩:=Re (tb:=tb) (d:=d) dZ fH bs hG.le (by grind) h3 bs 0 pl s rfl (hG.heap h1)
  (λk i hl hi=>.inl ((hG.obj k).q1a hl hi)) (λj' dF=>by omega)
 exact⟨pl',h5,SR.ren (tb:=Ji) (λj hj=>h6 j hj) _ _ hv (SR.mono (tb:=Ji) (tb':=Ji) (Ob B) (λ_ _ h=>h) _ _ h4),λq hq=>⟨(h7 q hq).2,(h7 q hq).1,λhl i hi=>hG.q1u h1 hl hi⟩⟩
theorem Ret.gam {s:St}{env:Env}{d nt:Nat}(dZ:0<nt) (hG:Gam P B F pl tb s env U) {v:SV}{bs:List OB}{u:Value}{U':Heap}(hv:v.ret bs.length=true) (hb:bs.all OB.ret=true) (h:Ret P U v bs u U') :
  ∃ pl',Gam P B F pl' tb (s.makes d nt 0 bs) env U'/\SR P B pl' tb (v.ren d nt) u:=by
 obtain⟨pl',h1,h2,_⟩:=h.gamF dZ hG hv hb;exact⟨pl',h1,h2⟩
end
end Go.V
namespace Go.V
open Go
section
variable {P:Program}
structure GBase (B0 F0 D0 B F U:Heap):Prop where
 b:B0.Le B
 f:F0.Le F
 x:∀ i b,F0.get i=some b->B0.get i=none->B.get i=none
 d:Dead D0 U
theorem GBase.of {B F U:Heap}{U':Heap}(_hB:B.Le F) (h:Dead U U'):GBase B F U B F U':=⟨.refl _,.refl _,λ_ _ _ h=>h,h⟩
theorem GBase.trans {B0 F0 D0 B F U B' F' U':Heap}(h:GBase B0 F0 D0 B F U) (h':GBase B F U B' F' U'):GBase B0 F0 D0 B' F' U' :=
 ⟨h.b.trans h'.b,h.f.trans h'.f,λi b h1 h2=>h'.x i b (h.f.2 _ _ h1) (h.x i b h1 h2),h.d.trans h'.d⟩
def GRel (P:Program) (B0 F0 D0:Heap) (s:St) (env:Env) (U:Heap):Prop:=∃ B F pl tb,GBase B0 F0 D0 B F U/\Gam P B F pl tb s env U
theorem MB {B0 F0 D0 B F:Heap}{U U':Heap}(hB:GBase B0 F0 D0 B F U) (h:Dead U U'):GBase B0 F0 D0 B F U':=⟨hB.b,hB.f,hB.x,hB.d.trans h⟩
theorem Gam.evs {B F:Heap}{pl:Nat->Value}{tb:Nat->Option Bool}{s:St}{env:Env}{U:Heap}(h:Gam P B F pl tb s env U) {gs:List Gd}(hg:Gds tb gs) (x:Operand):SR P B pl tb (gev gs s.env x) (Q4 env x):=Q2u hg h.env x
theorem Gds.nil {tb:Nat->Option Bool}:Gds tb []:=λ_ h=>by cases h
theorem Q0a {gs:List Gd}{c:Prop}(h:Q9p gs c) (hg:∀ g∈gs,g.c=g.want):c:=by
 induction gs with
 |nil=>exact h
 |cons g gs ih=>exact ih (h (hg g (by simp))) λg' dq=>hg g' (by simp[dq])
theorem ZF {gs:List Gd}{cs:List Prop}{q:Prop}(h:F7 gs cs q):q/\((∀ g∈gs,g.c=g.want)->∀ c∈cs,c):=by
 induction cs with
 |nil=>exact⟨h,λ_ c hc=>by cases hc⟩
 |cons c cs ih =>obtain⟨h1,h2⟩:=h;obtain⟨h3,h4⟩:=ih h2;exact⟨h3,(by grind [Q0a])⟩
theorem Dead.push (U:Heap) (b:Blk):Dead U (U.push b):=⟨by simp,(by grind [Heap.q0k])⟩
theorem Dead.upd (U:Heap) (j:Nat) (b:Blk) (hj:(U.get j).isSome=true):Dead U (U.upd j b):=⟨by simp,(by grind [Heap.q0b])⟩
theorem Dead.kill (U:Heap) (j:Nat):Dead U (U.kill j):=⟨by simp,(by grind [Heap.q0f,Heap.q0d])⟩
theorem A_ {e:El}{bytes m:Nat}{U U':Heap}{s u:Value}{xs:List Value}(h:YT e bytes U s m xs=some (u,U')):Dead U U':=by
 unfold YT at h;split at h
 .grind [Zh,Dead.refl,Dead.push]
 .split at h
  .rename_i hg;split at h
   .split at h
    .grind [Zh,Dead.refl]
    .split at h
     .grind [Zh,Dead.upd]
     .split at h
      .split at h
       .grind [Zh,Dead.push]
       .split at h
        .obtain⟨rfl,rfl⟩:=Zh h;exact(Dead.kill _ _).trans (Dead.push _ _)
        .cases h
      .cases h
   .cases h
  .cases h
 .grind [Zh,Dead.push]
 .cases h
theorem V7 {o:VOp}{ev:Operand->Value}{U U':Heap}{u:Value}(h:Q7 o ev U=some (u,U')):Dead U U':=by
 by_cases hk:o.kind=2
 .cases o<;>first|(cases hk;done)|skip
  case alloc t z=>obtain⟨rfl,rfl⟩:=Zh h;exact Dead.push _ _
  case box t x =>
   simp only[Q7] at h
   grind [Zh,Dead.push]
  case buildSlice e z n ps =>
   simp only[Q7] at h
   grind [Zh,Dead.push]
  case makeSlice e b z l c =>
   simp only[Q7] at h
   grind [Zh,Dead.push]
  case store size a x =>
   simp only[Q7] at h
   grind [Zh,Dead.upd]
  case append e b x y =>
   simp only[Q7] at h
   grind [A_]
  case slice size x lo hi mx =>
   simp only[Q7] at h;split at h
   .have sl:∀ {l hh:Nat}{m:Option Nat}{v:Value},WU size U v l hh m=some (u,U')->Dead U U':=λ{l hh m v} h=>by
     unfold WU at h
     grind [Zh,Dead.refl,Dead.push]
    grind
   .cases h
  case callF f a=>cases h
  case callV f a=>cases h
  case ext x =>
   cases x<;>first|(cases hk;done)|skip
   case makeMap=>obtain⟨rfl,rfl⟩:=Zh h;exact Dead.push _ _
   case mapUpdate mk m k v =>
    simp only[Q7,ZA] at h;split at h
    .split at h
     .rename_i hm;split at h
      .obtain⟨rfl,rfl⟩:=Zh h;refine Dead.upd _ _ _ ?_;unfold Heap.mapAt at hm
       grind
      .cases h
     .cases h
    .cases h
   case mapEntry mk z m k =>
    simp only[Q7,ZA] at h;split at h
    .split at h
     .rename_i hm;split at h
      .split at h
       all_goals
        obtain⟨rfl,rfl⟩:=Zh h;refine Dead.upd _ _ _ ?_;unfold Heap.mapAt at hm;split at hm
        .rename_i hg;rw[hg];rfl
        .cases hm
      .cases h
     .cases h
    .cases h
   case entryStore m s v =>
    simp only[Q7,ZA] at h;split at h
    .split at h
     .rename_i hm;split at h
      .split at h
       .obtain⟨rfl,rfl⟩:=Zh h;refine Dead.upd _ _ _ ?_;unfold Heap.mapAt at hm
        grind
       .cases h
      .cases h
     .cases h
    .cases h
   case delete mk m k =>
    simp only[Q7,ZA] at h;split at h
    .split at h
     .rename_i hm;split at h
      .obtain⟨rfl,rfl⟩:=Zh h;refine Dead.upd _ _ _ ?_;unfold Heap.mapAt at hm
       grind
      .cases h
     .cases h
    .cases h
   case rangeMap x =>
    simp only[Q7,ZA] at h
    grind [Zh,Dead.push]
   case nextMap x=>cases h
   case copy size a b =>
    simp only[Q7,ZA] at h
    grind [Zh,Dead.refl,Dead.upd]
   case clear z x =>
    simp only[Q7,ZA] at h
    grind [Zh,Dead.refl,Dead.upd]
   case strBytes e x =>
    simp only[Q7,ZA] at h
    grind [Zh,Dead.push]
   case unsafeStr e x n =>
    simp only[Q7,ZA] at h;split at h
    .grind [Zh,Dead.refl,Dead.upd]
    .cases h
 grind [H0,Dead.refl]
theorem MN {B F:Heap}{pl:Nat->Value}{tb:Nat->Option Bool}{s:St}{env:Env}{U:Heap}(hG:Gam P B F pl tb s env U) {x:Operand}{b:Bool}(h:EN s.env x=some b):Q4 env x=.bool b:=by
 unfold EN at h;split at h
 .rename_i j;split at h
  .rename_i gs v he;split at h
   .split at h
    .rename_i k y;split at h
     .obtain rfl:=osj h;have:=hG.env.getD j undef;rw[he] at this;simp only[SR] at this;have h2:=this.2.1 (λg hg=>by cases hg);have h3:[env.getD j undef]=[Value.bool _]:=h2;exact(zR h3).1
     .cases h
    .cases h
   .cases h
  .cases h
 .cases h
theorem Ky {B F:Heap}{pl:Nat->Value}{tb:Nat->Option Bool}{s:St}{env:Env}{U:Heap}(hG:Gam P B F pl tb s env U) {g:Option (Nat×Bool)}{t:Bool}(h:Q3d s.env g=some t):Jl env g=some t:=by
 unfold Q3d at h;split at h
 .cases h
 .rename_i j want;split at h
  .rename_i b hb;obtain rfl:=osj h;have:=MN hG hb;simp only[Q4] at this;simp only[Jl,this]
  .cases h
theorem UT {B F:Heap}{pl:Nat->Value}{tb:Nat->Option Bool}{s:St}{env:Env}{U:Heap}(hG:Gam P B F pl tb s env U) {gs:List Gd}(hg:Gds tb gs) {c a b:Operand}{v:SV}(h:Og gs s.env c a b=some v) :
  ∃ u,Q7 (.pick c a b) (Q4 env) U=some (u,U)/\SR P B pl tb v u:=by
 unfold Og at h;split at h
 .rename_i t ht;have e:=MN hG ht;obtain rfl:=osj h;cases t with
  |true=>exact⟨Q4 env a,by simp only[Q7,e];rfl,hG.evs hg a⟩
  |false=>exact⟨Q4 env b,by simp only[Q7,e];rfl,hG.evs hg b⟩
 have hc:=hG.evs hg c;unfold Q6u at h;split at h
 .rename_i n t heq;rw[heq] at hc;simp only[SR] at hc;obtain⟨e,di⟩:=hc;have ht:∀ w,t=w->Gds tb (gs++[⟨n,w,t⟩]):=λw hw g dq=>by
   rcases x6.1 dq with h1|h1
   .exact hg g h1
   simp_all
  have hv:∀ u,(if t then Q4 env a else Q4 env b)=u->Q7 (.pick c a b) (Q4 env) U=some (u,U):=λu hu=>by simp only[Q7,e];rw[<-hu]
  split at h
  .rename_i b';simp only[zq] at h;obtain⟨y,h1,rfl⟩:=h;refine⟨.bool (t||y),hv _ ?_,J7 _⟩;cases t with
   |true=>rfl
   |false=>simpa using W4 h1 (hG.evs (ht false rfl) _)
  .rename_i a' aB;simp only[zq] at h;obtain⟨x,h1,rfl⟩:=h;refine⟨.bool (t&&x),hv _ ?_,J7 _⟩;cases t with
   |true=>simpa using W4 h1 (hG.evs (ht true rfl) _)
   |false=>rfl
  .split at h
   .rename_i k x k' y h1 h2;split at h
    .rename_i hk;subst hk;obtain rfl:=osj h;refine⟨.int k (if t then x else y),hv _ ?_,Wi _ _⟩;cases t with
     |true=>have:=hG.evs (ht true rfl) a;rw[h1] at this;exact ZJ rfl this
     |false=>have:=hG.evs (ht false rfl) b;rw[h2] at this;exact ZJ rfl this
    .cases h
   .rename_i x y h1 h2;obtain rfl:=osj h;refine⟨.bool (if t then x else y),hv _ ?_,J7 _⟩;cases t with
    |true=>have:=hG.evs (ht true rfl) a;rw[h1] at this;exact W4 rfl this
    |false=>have:=hG.evs (ht false rfl) b;rw[h2] at this;exact W4 rfl this
   .cases h
 .cases h
theorem Gam.bid {B F:Heap}{pl:Nat->Value}{tb:Nat->Option Bool}{s:St}{env:Env}{U:Heap}(hG:Gam P B F pl tb s env U) {j:Nat}{v:SV}{c:Bool}(hv:∀ tb',(∀ n c,tb n=some c->tb' n=some c)->tb' s.nx=some c->SR P B pl tb' v (env.getD j undef)) :
  ∃ tb',(∀ n c,tb n=some c->tb' n=some c)/\tb' s.nx=some c/\Gam P B F pl tb' ⟨s.env.set j v,s.own,s.nx+1⟩ env U:=by
 refine⟨λn=>if n=s.nx then some c else tb n,?_,by simp,?_⟩
 .intro n c' hn;by_cases e:n=s.nx
  .rw[e,hG.free _ (zd _)] at hn;cases hn
  .simp only[z0 e];exact hn
 .have hm:∀ n c',tb n=some c'->(λn=>if n=s.nx then some c else tb n) n=some c':=λn c' hn=>by
   by_cases e:n=s.nx
   .rw[e,hG.free _ (zd _)] at hn;cases hn
   .simp only[z0 e];exact hn
  refine⟨hG.bf,hG.le,?_,λd=>(hG.obj d).mono (Heap.Le.refl _) hm λ_ _ _=>rfl,hG.fresh,hG.sep,λn hn=>?_⟩
  .have h1:=SRs.mono (Heap.Le.refl B) hm _ _ hG.env;by_cases hj:j<env.length
   .have:=h1.set j (hv _ hm (by simp));simp_all
   .have:s.env.set j v=s.env:=List.set_eq_of_length_le (by rw[hG.env.length];omega);rw[this];exact h1
  .have:n≠s.nx:=by simp only at hn;omega
   simp only[z0 this];exact hG.free n (by simp only at hn;omega)
theorem Q1n {gs:List Gd}(h:¬ ∀ g∈gs,g.c=g.want):∃ g∈gs,g.c≠g.want:=by simp_all
theorem W8 {B F:Heap}{pl:Nat->Value}{tb:Nat->Option Bool}{s:St}{env:Env}{U:Heap}(hG:Gam P B F pl tb s env U) {j:Nat}{want:Bool}{gs:List Gd}{s':St}(h:P3 s j want=some (gs,s')) :
  ∃ tb',Gam P B F pl tb' s' env U/\(∀ g∈gs,tb' g.id=some g.c)/\∃ b,Jl env (some (j,want))=some b/\(b=true->∀ g∈gs,g.c=g.want)/\(b=false->∃ g∈gs,g.c≠g.want):=by
 have hj:=hG.env.getD j undef;unfold P3 at h;split at h
 .rename_i c heq;obtain⟨rfl,rfl⟩:=Zh h;rw[heq] at hj;have hb:env.getD j undef=.bool c:=W4 (s:=.val .bo c) rfl hj;obtain⟨tb',h1,h2,h3⟩:=hG.bid (j:=j) (v:=.bid s.nx c) (c:=c) λtb' _ h=>by simp only[SR];exact⟨hb,h⟩
  refine⟨tb',h3,(by simp_all),c==want,by simp only[Jl,hb],λe g hg=>?_,λe=>⟨_,zI.2 rfl,?_⟩⟩
  .simp_all
  .simpa using e
 .rename_i n c heq;obtain⟨rfl,rfl⟩:=Zh h;rw[heq] at hj;simp only[SR] at hj;refine⟨tb,hG,(by simp_all),c==want,by simp only[Jl,hj.1],λe g hg=>?_,λe=>⟨_,zI.2 rfl,?_⟩⟩
  .simp_all
  .simpa using e
 .rename_i oW c heq;obtain⟨rfl,rfl⟩:=Zh h;rw[heq] at hj;simp only[SR] at hj;obtain⟨⟨k1,k0⟩,k2,k3⟩:=hj;obtain⟨tb',h1,h2,h3⟩:=hG.bid (j:=j) (v:=.grd oW (.bid s.nx c)) (c:=c) λtb' hm h=>by
   simp only[SR];exact⟨⟨λg hg=>hm _ _ (k1 g hg),h⟩,λhall=>⟨W4 (s:=.val .bo c) (P:=P) (B:=B) (pl:=pl) (tb:=tb) rfl (by simpa only [SR] using k2 hall),h⟩,k3⟩
  refine⟨tb',h3,λg hg=>?_,?_⟩
  .grind
  .by_cases hall:∀ g∈oW,g.c=g.want
   .have hb:env.getD j undef=.bool c:=W4 (s:=.val .bo c) (P:=P) (B:=B) (pl:=pl) (tb:=tb) rfl (by simpa only [SR] using k2 hall);refine⟨c==want,by simp only[Jl,hb],λe g hg=>?_,(by simp_all)⟩
    grind
   .have hex:=Q1n hall;refine⟨false,by simp only[Jl,k3 hex];rfl,(λe=>by cases e),λ_=>?_⟩;simp_all
 .rename_i oW n c heq;obtain⟨rfl,rfl⟩:=Zh h;rw[heq] at hj;simp only[SR] at hj;obtain⟨⟨k1,k0⟩,k2,k3⟩:=hj;refine⟨tb,hG,λg hg=>?_,?_⟩
  .rcases x6.1 hg with h4|h4
   .exact k1 g h4
   .obtain rfl:=zI.1 h4;exact k0
  .by_cases hall:∀ g∈oW,g.c=g.want
   .obtain⟨hb,di⟩:=k2 hall;refine⟨c==want,by simp only[Jl,hb],λe g hg=>?_,(by simp_all)⟩
    grind
   .have hex:=Q1n hall;refine⟨false,by simp only[Jl,k3 hex];rfl,(λe=>by cases e),λ_=>?_⟩;simp_all
 .cases h
theorem Gam.gcall {B F:Heap}{pl:Nat->Value}{tb:Nat->Option Bool}{s:St}{env:Env}{U:Heap}(hG:Gam P B F pl tb s env U) {gs:List Gd}(hg:Gds tb gs) (args:List Operand):SRs P U Xd Ji (PT s.own (args.map (gev gs s.env))) (args.map (Q4 env)) :=
 Wh hG.leB hG.obj (SRs.map λx _=>hG.evs hg x)
theorem Gam.gfun {B F:Heap}{pl:Nat->Value}{tb:Nat->Option Bool}{s:St}{env:Env}{U:Heap}(hG:Gam P B F pl tb s env U) {gs:List Gd}(hg:Gds tb gs) (f:Operand):SR P U Xd Ji ((PT s.own [gev gs s.env f]).getD 0 .any) (Q4 env f):=by have:=(Wh hG.leB hG.obj (show SRs P B pl tb [gev gs s.env f] [Q4 env f] by simp only[SRs];exact⟨_,[],rfl,hG.evs hg f,rfl⟩)).getD 0 poison;simpa using this
theorem Mi {env:Env}{f:Operand}{args:List Operand}{U:Heap}{K:Value->Heap->Prop}{g:FuncId}{a b:Array Value}(e:Q4 env f=.func (.func g) a b) (h:VCalled P g (a.toList++args.map (Q4 env)++b.toList) U K) :
  vop (Q3 P) (.callV f args) env U K:=by
 simp only[vop,e];exact h
def XOk (P:Program) (f:Nat) (x:XSp):Prop :=
 ∀ (B F:Heap) (pl:Nat->Value) (tb:Nat->Option Bool) (s:St) (env:Env) (U:Heap) (d:Nat) (args:List SV) (vs:List Value) (K:SV->St->Prop) (R:Value->Heap->Prop),
  Gam P B F pl tb s env U->SRs P B pl tb args vs->x d args s K ->
  (∀ v s' B' F' pl' tb' u U',K v s'->GBase B F U B' F' U'->Gam P B' F' pl' tb' s' env U'->SR P B' pl' tb' v u->R u U')->VCalled P f vs U R
def Z51 (P:Program) (f:Nat) (x:XSp) (j:Nat):Prop :=
 ∀ (B F:Heap) (pl:Nat->Value) (tb:Nat->Option Bool) (s:St) (env:Env) (U:Heap) (d:Nat) (args:List SV) (vs:List Value) (K:SV->St->Prop) (R:Value->Heap->Prop) (t:Nat),
  Gam P B F pl tb s env U->SRs P B pl tb args vs->Q71 s.own j args=some t->x d args s K ->
  (∀ v s' u U',K v s'->Dead U U'->Gam P B F pl tb s' env U'->SR P B pl tb v u->FrL [t] s s' pl pl U U'->R u U')->VCalled P f vs U R
def Z5r (P:Program) (f:Nat) (it:ISp):Prop:=XQ P f /\
 ∀ (B:Heap) (args:List SV) (vs:List Value) (c:Prop) (m ar:Nat) (xs:Nat->List SV),SRs P B Xd Ji args vs->it args=some (c,m,ar,xs)->c ->
  (∀ k,(xs k).length=ar/\SVs.pure (xs k)=true)/\∀ (i:Nat) (Y:SG) (J:Nat->Heap->Prop) (E:Heap->Prop) (τ0:Heap),VL P i Y->(∀ k Z,J k Z->B.Le Z) ->
   (∀ k us Z,k<m->J k Z->SRs P B Xd Ji (xs k) us->Y us Z λv Z'=>(v=.bool true/\J (k+1) Z')\/(v=.bool false/\E Z')) ->
   J 0 τ0->VCallsTo P f (.func (.yield i) #[] #[]::vs) τ0 λ_ Z=>J m Z\/E Z
def Q61 (P:Program) (o:Nat) (y:YSp):Prop :=
 ∀ (B F:Heap) (pl:Nat->Value) (tb:Nat->Option Bool) (s:St) (env:Env) (U:Heap) (args:List SV) (us:List Value) (K:SV->St->Prop) (R:Value->Heap->Prop) (i:Nat),
  Gam P B F pl tb s env U->SRs P B pl tb args us->y args s K->pl o=.pointer (some ⟨i,0,none⟩) ->
  (∀ v s' B' F' pl' tb' u U',K v s'->GBase B F U B' F' U'->Gam P B' F' pl' tb' s' env U'->SR P B' pl' tb' v u->R u U')->Rt P i us U R
def Q9q (P:Program) (f:Nat) (x:Q9j):Prop:=XQ P f /\
 ∀ (B F:Heap) (pl:Nat->Value) (tb:Nat->Option Bool) (s:St) (env:Env) (U:Heap) (o:Nat) (args:List SV) (vs:List Value) (y:YSp) (K:St->Prop) (R:Heap->Prop),
  Gam P B F pl tb s env U->SRs P B pl tb args vs->Q61 P o y->x o args (o,y) s K ->
  (∀ s' B' F' pl' tb' ae U',K s'->GBase B F U B' F' U'->Gam P B' F' pl' tb' s' ae U'->R U')->VCallsTo P f vs U λ_=>R
structure COk (P:Program) (C:Cx):Prop where
 cs:CsOk P C.cs
 xs:∀ f x,QF C.xs f=some x->XOk P f x
 it:∀ f x,QF C.it f=some x->Z5r P f x
 yl:∀ o y,QF C.yl o=some y->Q61 P o y
 iy:∀ f x,QF C.iy f=some x->Q9q P f x
 xf:∀ f j,QF C.xf f=some j->∀ x,QF C.xs f=some x->Z51 P f x j
theorem TI {C:Cx}(az:CsOk P C.cs) {B F:Heap}{pl:Nat->Value}{tb:Nat->Option Bool}{s:St}{env:Env}{U:Heap}(hG:Gam P B F pl tb s env U) {gs:List Gd}(hg:Gds tb gs) {raw:Bool}{o:VOp}{cs:List Prop}{v:SV}
  (h:gqc C raw o (gev gs s.env) s.own=some (cs,v)) (hc:∀ c∈cs,c) {K:Value->Heap->Prop}(hK:∀ u,SR P B pl tb v u->K u U):vop (Q3 P) o env U K:=by
 have flat:∀ {c:Prop}{v':SV},(bif v'.ret 0 then some ([c],v') else none)=some (cs,v)->v'.ret 0=true/\c/\v'=v:=λ{c v'} h=>by
  cases hv:v'.ret 0 with
  |false=>rw[hv] at h;cases h
  |true =>rw[hv] at h;obtain⟨rfl,rfl⟩:=Zh h;exact⟨rfl,hc _ (by simp),rfl⟩
 have quiet:∀ o,gq C.kt raw o (gev gs s.env) s.own=some (cs,v)->(∀ K,QV (Q7 o (Q4 env) U) (λp=>K p.1 p.2)->vop (Q3 P) o env U K)->vop (Q3 P) o env U K:=λo h hv=>by obtain⟨u,h1,h2⟩:=CV (hG.evs hg) (λ_=>rfl) hG.leB hG.obj h hc;exact hv K (by rw[h1];exact hK u h2)
 cases o
 case callF f args =>
  simp only[gqc] at h;split at h
  .rename_i c v' heq;obtain⟨h1,h2,rfl⟩:=flat h;obtain⟨g,a,b,h3,h4,_⟩:=J4 az (show SR P U Xd Ji (.fn f [] []) (.func (.func f) #[] #[]) by simp only[SR,SRs];exact⟨[],[],rfl,rfl,rfl⟩) (hG.gcall hg args) heq h1 rfl h2;obtain⟨rfl,rfl,rfl⟩:=(by simpa using h3:f=g/\#[]=a/\#[]=b);have:=h4.mono (R':=K) λu U' hr=>by
    obtain⟨rfl,hu⟩:=hr.flat h1;exact hK u (hu.retd (λj hj=>by omega) _ _ h1)
   show VCalled P f (args.map (Q4 env)) U K;simpa using this
  .cases h
 case callV f args =>
  simp only[gqc] at h;split at h
  .rename_i c v' heq;obtain⟨h1,h2,rfl⟩:=flat h;obtain⟨g,a,b,h3,h4,_⟩:=J4 az (hG.gfun hg f) (hG.gcall hg args) heq h1 rfl h2;exact Mi h3 (h4.mono λu U' hr=>by
    obtain⟨rfl,hu⟩:=hr.flat h1;exact hK u (hu.retd (λj hj=>by omega) _ _ h1))
  .cases h
 case ext x =>
  cases x
  case nextMap x=>cases h
  all_goals exact quiet _ h λ_ h=>h
 all_goals exact quiet _ h λ_ h=>h
end
end Go.V
namespace Go.V
open Go
section
variable {P:Program}
mutual
theorem Ix:∀ (v:SV) {K:SV->Prop},nmV v K->K v
 |.val k x,K,h=>by simp only[nmV] at h;exact h x rfl
 |.agg l,K,h=>by simp only[nmV] at h;exact TM l h
 |.tup l,K,h=>by simp only[nmV] at h;exact TM l h
 |.any,_,h|.dd _ _,_,h|.bid _ _,_,h|.grd _ _,_,h|.nilS,_,h|.nilP,_,h|.nilM,_,h|.nilF,_,h|.lst _,_,h|.sub _ _ _ _,_,h|.elp _ _ _ _,_,h|.rop _ _ _ _,_,h|.box _ _,_,h|.cp _ _,_,h|.map _,_,h|.fn _ _ _,_,h|.pf _ _ _ _,_,h=>by simp only[nmV] at h;exact h
theorem TM:∀ (l:List SV) {K:List SV->Prop},Q9m l K->K l
 |[],K,h=>by simp only[Q9m] at h;exact h
 |v::r,K,h=>by simp only[Q9m] at h;exact TM r (Ix v h)
end
theorem ZC {C:Cx}{o:VOp}{ev:Operand->SV}{v:SV}{K:SV->Prop}(h:gnm C o ev v K):K v:=by
 unfold gnm at h
 grind [Ix]
theorem Tj {B:Heap}{pl:Nat->Value}{tb:Nat->Option Bool}{v:SV}{u:Value}(h:SR P B pl tb v u):SR P B pl tb (He v) u/\gtb tb (He v):=by
 cases v with
 |bid n c=>simp only[SR] at h;obtain⟨rfl,_⟩:=h;exact⟨J7 _,trivial⟩
 |_=>exact⟨h,trivial⟩
theorem Tn {tb:Nat->Option Bool}(v:SV):gtb tb (He v):=by cases v<;>trivial
theorem Pf {C:Cx}(az:COk P C) {B F:Heap}{pl:Nat->Value}{tb:Nat->Option Bool}{s:St}{env:Env}{U:Heap}(hG:Gam P B F pl tb s env U) {d:Nat}{f:SV}{args:List SV}{fV:Value}{vs:List Value}(hf:SR P B pl tb f fV) (ha:SRs P B pl tb args vs) {K:SV->St->Prop}(h:IK C d f args s K) {R:Value->Heap->Prop}
  (hK:∀ v s' B' F' pl' tb' u U',K v s'->GBase B F U B' F' U'->Gam P B' F' pl' tb' s' env U'->SR P B' pl' tb' v u->R u U'):∃ g a b,fV=.func (.func g) a b/\VCalled P g (a.toList++vs++b.toList) U R:=by
 unfold IK at h;have qb:SR P U Xd Ji ((PT s.own [f]).getD 0 .any) fV:=by have:=(Wh hG.leB hG.obj (show SRs P B pl tb [f] [fV] by simp only[SRs];exact⟨_,[],rfl,hf,rfl⟩)).getD 0 poison;simpa using this
 have jB:=Wh hG.leB hG.obj ha;split at h
 .rename_i c v bs heq;cases hb:(v.ret bs.length&&(bs.all OB.ret&&Nat.blt 0 C.nt)) with
  |false=>rw[hb] at h;exact h.elim
  |true =>rw[hb] at h;obtain⟨h1,h2⟩:=h;simp only[z8] at hb;obtain⟨g,a,b,e,aD,_⟩:=J4 az.cs qb jB heq hb.1 hb.2.1 h1;refine⟨g,a,b,e,aD.mono λu U' hr=>?_⟩;obtain⟨pl',h3,h4⟩:=hr.gam (nt:=C.nt) (d:=d) (by simpa [zF] using hb.2.2) hG hb.1 hb.2.1;exact hK _ _ B F pl' tb u U' h2 (.of hG.bf hr.1.2) h3 h4
 .exact h.elim
theorem Pd {C:Cx}(az:COk P C) {B F:Heap}{pl:Nat->Value}{tb:Nat->Option Bool}{s:St}{env:Env}{U:Heap}(hG:Gam P B F pl tb s env U) {d:Nat}{f:SV}{args:List SV}{fV:Value}{vs:List Value}(hf:SR P B pl tb f fV) (ha:SRs P B pl tb args vs) {K:SV->St->Prop}(h:C7 C d f args s K) (tV:∀ o,f≠.dd o .yv) {R:Value->Heap->Prop}
  (hK:∀ v s' B' F' pl' tb' u U',K v s'->GBase B F U B' F' U'->Gam P B' F' pl' tb' s' env U'->SR P B' pl' tb' v u->R u U'):∃ g a b,fV=.func (.func g) a b/\VCalled P g (a.toList++vs++b.toList) U R:=by
 unfold C7 at h;split at h
 .rename_i g a b;split at h
  .rename_i x hx;have vM:=hf;simp only[SR] at hf;obtain⟨a',b',rfl,h1,h2⟩:=hf;refine⟨g,a'.toArray,b'.toArray,rfl,?_⟩;have:=az.xs g x hx B F pl tb s env U d _ _ K R hG (h1.append (ha.append h2)) h hK;simpa using this
  .exact Pf az hG hf ha h hK
 .exact(tV _ rfl).elim
 .exact Pf az hG hf ha h hK
theorem Q0s {C:Cx}{B F:Heap}{pl:Nat->Value}{tb:Nat->Option Bool}{s:St}{env:Env}{U:Heap}(hG:Gam P B F pl tb s env U) {d:Nat}{o:VOp}{K:SV->St->Prop}(h:gnd C d o (gev [] s.env) s K) {R:Value->Heap->Prop}
  (hK:∀ v s' B' F' pl' tb' u U',K v s'->GBase B F U B' F' U'->Gam P B' F' pl' tb' s' env U'->SR P B' pl' tb' v u->R u U'):vop (Q3 P) o env U R:=by
 obtain⟨u,U',pl',v,s',h1,h2,h3,h4⟩:=S8 (λx=>hG.evs (Gds.nil (tb:=tb)) x) hG h;have fin:QV (Q7 o (Q4 env) U) (λp=>R p.1 p.2):=by rw[h1];exact hK v s' B F pl' tb u U' h2 (.of hG.bf (V7 h1)) h3.1 h4
 cases o
 case buildSlice e z n ps=>exact fin
 case makeSlice e b z l c=>exact fin
 case append e b x y=>exact fin
 case store size a x=>exact fin
 all_goals exact h.elim
section
variable {B F:Heap}{pl:Nat->Value}{tb:Nat->Option Bool}{s:St}{env:Env}{U:Heap}
def Heap.ins (B U:Heap) (i:Nat) (h:B.n<=U.n):Heap where
 get j:=if j=i then U.get i else B.get j
 n:=U.n
 wf j hj:=by
  by_cases e:j=i
  .simp only[z6 e];subst e;exact U.wf j hj
  .simp only[z0 e];exact B.wf j (x5 h hj)
theorem Heap.q0n (B U:Heap) (i:Nat) (h:B.n<=U.n):(B.ins U i h).get i=U.get i:=by simp[Heap.ins]
theorem Heap.q1b (B U:Heap) {i j:Nat}(h:B.n<=U.n) (e:j≠i):(B.ins U i h).get j=B.get j:=by simp[Heap.ins,e]
theorem Heap.Le.ins {B U:Heap}(h:B.Le U) (i:Nat):B.Le (B.ins U i h.1):=⟨h.1,λj b hb=>by
 by_cases e:j=i
 .subst e;rw[Heap.q0n];exact h.2 _ _ hb
 .rw[Heap.q1b _ _ _ e];exact hb⟩
theorem Heap.Le.q1v {B U:Heap}(h:B.Le U) (i:Nat):(B.ins U i h.1).Le U:=⟨zd _,λj b hb=>by
 by_cases e:j=i
 .grind [Heap.q0n]
 .rw[Heap.q1b _ _ _ e] at hb;exact h.2 _ _ hb⟩
theorem Heap.q1w {B F U:Heap}(h:B.Le F) (i:Nat) (hB:B.n<=U.n) (hF:F.n<=U.n):(B.ins U i hB).Le (F.ins U i hF):=⟨zd _,λj b hb=>by
 by_cases e:j=i
 .grind [Heap.q0n]
 .rw[Heap.q1b _ _ _ e] at hb |-;exact h.2 _ _ hb⟩
theorem Gam.freeze (hG:Gam P B F pl tb s env U) {o i:Nat}(hl:(Qa s.own o).live=true) (hi:Oid (pl o) i) :
  GBase B F U (B.ins U i hG.leB.1) (F.ins U i hG.le.1) U/\Gam P (B.ins U i hG.leB.1) (F.ins U i hG.le.1) pl tb ⟨s.env,oset s.own o .dead,s.nx⟩ env U:=by
 have nJ:=hG.fresh o i hl hi;have lv:∀ d,(Qa (oset s.own o .dead) d).live=true->d≠o/\(Qa s.own d).live=true:=λd h=>by
  rw[Qk] at h;by_cases e:d=o
  .rw[z6 e] at h;cases h
  .rw[z0 e] at h;exact⟨e,h⟩
 refine⟨⟨hG.leB.ins i,hG.le.ins i,λj b h1 h2=>?_,.refl _⟩,⟨Heap.q1w hG.bf i _ _,hG.le.q1v i,SRs.mono (hG.leB.ins i) (λ_ _ h=>h) _ _ hG.env,λd=>?_,λd j h1 h2=>?_,λd d' j aB h1 h2 h3 h4=>hG.sep d d' j aB (lv d h1).2 (lv d' h2).2 h3 h4,hG.free⟩⟩
 .grind [Heap.q1b]
 .simp only[Qk];by_cases e:d=o
  .rw[z6 e];trivial
  .rw[z0 e];exact(hG.obj d).mono (hG.leB.ins i) (λ_ _ h=>h) λ_ _ _=>rfl
 .obtain⟨aB,bP⟩:=lv d h1;have e:j≠i:=by rintro rfl;exact hG.sep d o j aB bP hl h2 hi
  rw[Heap.q1b _ _ _ e];exact hG.fresh d j bP h2
theorem Gam.own {s':St}(hG:Gam P B F pl tb s env U) (h1:s'.env=s.env) (h2:∀ d,Qa s'.own d=Qa s.own d) (h3:s'.nx=s.nx):Gam P B F pl tb s' env U :=
 ⟨hG.bf,hG.le,by rw[h1];exact hG.env,λd=>by rw[h2];exact hG.obj d,λd i=>by rw[h2];exact hG.fresh d i,λd d' i aB=>by rw[h2,h2];exact hG.sep d d' i aB,λn hn=>hG.free n (by rw[<-h3];exact hn)⟩
theorem Gam.drop (hG:Gam P B F pl tb s env U) (o:Nat):Gam P B F pl tb ⟨s.env,oset s.own o .dead,s.nx⟩ env U:=by
 have lv:∀ d,(Qa (oset s.own o .dead) d).live=true->d≠o/\(Qa s.own d).live=true:=λd h=>by
  rw[Qk] at h;by_cases e:d=o
  .rw[z6 e] at h;cases h
  .rw[z0 e] at h;exact⟨e,h⟩
 refine⟨hG.bf,hG.le,hG.env,λd=>?_,λd j h1 h2=>hG.fresh d j (lv d h1).2 h2,λd d' j aB h1 h2 h3 h4=>hG.sep d d' j aB (lv d h1).2 (lv d' h2).2 h3 h4,hG.free⟩;simp only[Qk];by_cases e:d=o
 .rw[z6 e];trivial
 .rw[z0 e];exact hG.obj d
theorem EX (s:St) (d:Nat) (b:OB) (q:Nat):Qa (s.make d .dead).own q=Qa (oset (s.make d b).own d .dead) q:=by simp only[St.make,Qk];simp_all
theorem Oi {C:Cx}(hG:Gam P B F pl tb s env U) {d:Nat}{x:Operand}{K:SV->St->Prop}(h:gn C d (.ext (.rangeMap x)) (gev [] s.env) s K) {R:Value->Heap->Prop}
  (hK:∀ v s' B' F' pl' tb' u U',K v s'->GBase B F U B' F' U'->Gam P B' F' pl' tb' s' env U'->SR P B' pl' tb' v u->R u U'):vop (Q3 P) (.ext (.rangeMap x)) env U R:=by
 have ha:=hG.evs (Gds.nil (tb:=tb)) x;simp only[gn] at h;split at h
 .rename_i o h1;rw[h1] at ha;simp only[SR] at ha;split at h
  .rename_i kk vk m ho;split at h
   .have aj:=hG.obj o;rw[ho] at aj;obtain⟨i,es,clock,h2,h3,h4⟩:=aj;obtain⟨g1,g2⟩:=hG.freeze (o:=o) (i:=i) (by rw[ho];rfl) (by rw[h2];rfl)
    have ic:=g2.push d (.iter kk vk m []) (.pointer (some ⟨U.n,0,none⟩)) (.obj (.iter i clock [] clock) true) rfl
     ⟨U.n,i,es,clock,true,[],rfl,Heap.q0a _ _,by rw[Heap.q0n];exact h3,h4.mono g1.b,rfl,λt r h=>by simp at h⟩
    show QV (Q7 (.ext (.rangeMap x)) (Q4 env) U) _;have hv:Q7 (.ext (.rangeMap x)) (Q4 env) U=some (.pointer (some ⟨U.n,0,none⟩),U.push (.obj (.iter i clock [] clock) true)):=by simp only[Q7,ZA,ha.1,h2,Heap.mapAt,h3]
    rw[hv];exact hK _ _ _ _ _ _ _ _ h (g1.trans (.of g2.bf (Dead.push _ _))) ic (by simp only[SR,W1];exact⟨_,rfl,rfl⟩)
   .exact h.elim
  .exact h.elim
 .exact h.elim
theorem Q3y {C:Cx}(hG:Gam P B F pl tb s env U) {d:Nat}{x:Operand}{K:SV->St->Prop}(h:gn C d (.ext (.nextMap x)) (gev [] s.env) s K) {R:Value->Heap->Prop}
  (hK:∀ v s' B' F' pl' tb' u U',K v s'->GBase B F U B' F' U'->Gam P B' F' pl' tb' s' env U'->SR P B' pl' tb' v u->R u U'):vop (Q3 P) (.ext (.nextMap x)) env U R:=by
 have ha:=hG.evs (Gds.nil (tb:=tb)) x;simp only[gn] at h;split at h
 .rename_i o f h1;rw[h1] at ha;simp only[SR] at ha;split at h
  .rename_i kk vk m dn ho;split at h
   .rename_i hf;obtain⟨rfl,nK⟩:=hf;have al:(Qa s.own o).live=true:=by rw[ho];rfl
    have aj:=hG.obj o;rw[ho] at aj;obtain⟨j,i,es,clock,wr,seen,h2,h3,h4,h5,h6⟩:=aj;obtain⟨b,e2,e3⟩:=ha;rw[h2] at e2;obtain rfl:j=b:=by simpa using e2
    have aA:U.mapAt i=some (es,clock,wr):=by simp[Heap.mapAt,hG.leB.2 _ _ h4]
    have hlen:=h5.1.length;obtain⟨hA,hB⟩:=h;have br:F.get j=none:=hG.fresh o j al (by rw[h2];rfl);have bZ:∀ q i',q≠o->(Qa s.own q).live=true->Oid (pl q) i'->i'≠j:=λq i' hq hl hi e=>by subst e;exact hG.sep q o i' hq hl al hi (by rw[h2];rfl)
    show Fa (Q4 env x) U R;unfold Fa;rw[e3];simp only[h3,aA];refine⟨?_,?_,λhall=>?_,λe he nu=>?_⟩
    .cases es with
     |nil=>simp
     |cons e es=>simp[h5.2.2 e (by simp)]
    .rw[zg];intro e he;obtain⟨r,hr⟩:=xe.1 he;obtain⟨_,k1,_⟩:=MR.at h5.1 hr;exact Ev nK k1
    .refine hK _ _ _ _ _ _ _ _ (hA λr hr=>?_) (.of hG.bf (Dead.refl U)) hG (by simp only[SR,SRs];exact⟨[.bool false],rfl,_,[],rfl,rfl,rfl⟩);have dX:r<es.length:=by omega
     have he:=z9 dX;have:=zg.1 hall es[r] (zl dX);have ai:=h5.2.2 _ (zl dX);rw[zy,zr] at this;rcases this with this|this
     .rw[List.contains_iff_mem] at this;obtain⟨t,ht⟩:=xe.1 this;have vN:t<seen.length:=(zt.1 ht).1;have rW:t<dn.length:=by have:=h6.1;omega
      obtain⟨e',k1,k2⟩:=h6.2 t dn[t] (z9 rW);rw[ht] at k2;have:=DY h5.2 he k1 (osj k2);rw[this];exact zl rW
     .omega
    .obtain⟨r,hr⟩:=xe.1 he;have dX:r<es.length:=(zt.1 hr).1;have tW:r∉dn:=λhm=>by
      obtain⟨t,ht⟩:=xe.1 hm;obtain⟨e',k1,k2⟩:=h6.2 t r ht
      grind
     refine hK _ _ _ _ _ _ _ _ (hB r (by omega) tW) (.of hG.bf (Dead.upd _ _ _ (by rw[h3];rfl))) (hG.write o _ (hG.le.upd br _) al (by grind [Heap.q0b]) ⟨j,i,es,clock,wr,seen++[e.2.2],h2,Heap.q0c _ _ (U.lt h3),h4,h5,?_,λt r' ht=>?_⟩) (by simp only[SR,SRs];exact⟨[.bool true,e.1,e.2.1],rfl,_,_,rfl,rfl,_,_,rfl,trivial,_,_,rfl,trivial,rfl⟩)
     .simp[h6.1]
     .rw[List.getElem?_append] at ht;split at ht
      .rename_i ai;obtain⟨e',k1,k2⟩:=h6.2 t r' ht
       grind
      .rename_i cy;have h0:t-dn.length=0:=by
        grind
       rw[h0] at ht;obtain rfl:r=r':=by simpa using ht
       refine⟨e,hr,?_⟩;rw[xy (by have:=h6.1;omega),show t-seen.length=0 by have:=h6.1;omega];rfl
   .exact h.elim
  .exact h.elim
 .exact h.elim
theorem Ag {d:Nat}(lg:B.Le F) {ty:Nat}{k:Kind}{xs:List k.T}{nl:Bool}(hk:k.flat=true) {pl':Nat->Value}{u:Value}{U':Heap}(h1:Gam P B F pl' tb (s.make d (.lst ty k xs nl)) env U') (h2:SR P B pl' tb (.lst d) u) (hd:Dead U U') :
  ∃ B' F',GBase B F U B' F' U'/\Gam P B' F' pl' tb (s.make d .dead) env U'/\SR P B' pl' tb (.val (.list k) xs) u:=by
 have aj:=h1.obj d;have bG:Qa (s.make d (.lst ty k xs nl)).own d=.lst ty k xs nl:=by simp only[St.make,Qk,zz]
 rw[bG] at aj;simp only[SR] at h2;obtain⟨rfl,_⟩:=h2;rcases aj with⟨_,hx,hp⟩|⟨_,i,cap,c,t,hp,cw,hg,hlen,dD⟩
 .refine⟨B,F,.of lg hd,(h1.drop d).own rfl (EX s d _) rfl,?_⟩;simp only[SR];exact⟨_,rfl,.inl ⟨hx,hp⟩⟩
 .obtain⟨g1,g2⟩:=h1.freeze (o:=d) (i:=i) (by rw[bG];rfl) (by rw[hp];rfl);refine⟨_,_,(GBase.of lg hd).trans g1,g2.own rfl (EX s d _) rfl,?_⟩;simp only[SR];refine⟨_,rfl,.inr ⟨i,0,cap,c,⟨k.size,ty⟩,true,t,hp,cw,by rw[Heap.q0n];exact hg,rfl,by have:=zu k.size cw;omega,?_⟩⟩;rw[xK];exact dD.mono λ_ _ e=>KC.flat hk e
theorem Iq {d nt:Nat}(dZ:0<nt) (hG:Gam P B F pl tb s env U) {ty:Nat}{k:Kind}{xs:List k.T}{nl:Bool}(hk:k.flat=true) {u:Value}{U':Heap}(h:Ret P U (.lst 0) [.lst ty k xs nl] u U') :
  ∃ B' F' pl',GBase B F U B' F' U'/\Gam P B' F' pl' tb (s.make d .dead) env U'/\SR P B' pl' tb (.val (.list k) xs) u:=by
 obtain⟨pl',h1,h2⟩:=h.gam (d:=d) dZ hG (by rfl) (by simp only[zQ,List.all_nil,xU,OB.ret];exact hk);simp only[St.makes,Nat.zero_mul,zY,SV.ren] at h1 h2;obtain⟨B',F',k⟩:=Ag hG.bf hk h1 h2 h.1.2;exact⟨B',F',pl',k⟩
theorem Gk {nt:Nat}{r:Option (Prop×SV×List OB)}{c:Prop}{v:SV}(h:IA nt r=some (c,v)):∃ ty k xs nl,r=some (c,.lst 0,[.lst ty k xs nl])/\v=.val (.list k) xs/\k.flat=true/\0<nt:=by
 unfold IA at h;split at h
 .split at h
  .rename_i k xs _;cases hc:(k.flat&&Nat.blt 0 nt) with
   |false=>rw[hc] at h;cases h
   |true =>rw[hc] at h;obtain⟨rfl,rfl⟩:=Zh h;simp only[z8,zF] at hc;exact⟨_,_,_,_,rfl,rfl,hc.1,hc.2⟩
  .cases h
 .cases h
theorem FU {C:Cx}(az:CsOk P C.cs) (hG:Gam P B F pl tb s env U) {gs:List Gd}(hg:Gds tb gs) {o:VOp}{c:Prop}{v:SV}{d:Nat}(h:Cd C o (gev gs s.env) s.own=some (c,v)) (hc:c) {K:Value->Heap->Prop}
  (hK:∀ u U' B' F' pl',GBase B F U B' F' U'->Gam P B' F' pl' tb (s.make d .dead) env U'->SR P B' pl' tb v u->K u U'):vop (Q3 P) o env U K:=by
 cases o<;>first|(cases h;done)|skip
 case callF f args =>
  simp only[Cd] at h;obtain⟨ty,k,xs,nl,heq,rfl,hk,dZ⟩:=Gk h;obtain⟨g,a,b,h3,h4,_⟩:=J4 az (show SR P U Xd Ji (.fn f [] []) (.func (.func f) #[] #[]) by simp only[SR,SRs];exact⟨[],[],rfl,rfl,rfl⟩) (hG.gcall hg args) heq (by rfl) (by simp only[zQ,List.all_nil,xU,OB.ret];exact hk) hc;obtain⟨rfl,rfl,rfl⟩:=(by simpa using h3:f=g/\#[]=a/\#[]=b);have:=h4.mono (R':=K) λu U' hr=>by obtain⟨B',F',pl',k1,k2,k3⟩:=Iq (d:=d) dZ hG hk hr;exact hK u U' B' F' pl' k1 k2 k3
  show VCalled P f (args.map (Q4 env)) U K;simpa using this
 case callV f args =>
  simp only[Cd] at h;obtain⟨ty,k,xs,nl,heq,rfl,hk,dZ⟩:=Gk h;obtain⟨g,a,b,h3,h4,_⟩:=J4 az (hG.gfun hg f) (hG.gcall hg args) heq (by rfl) (by simp only[zQ,List.all_nil,xU,OB.ret];exact hk) hc;exact Mi h3 (h4.mono λu U' hr=>by
   obtain⟨B',F',pl',k1,k2,k3⟩:=Iq (d:=d) dZ hG hk hr;exact hK u U' B' F' pl' k1 k2 k3)
 case buildSlice e z n ps =>
  simp only[Cd] at h;split at h
  .rename_i k tX;split at h
   .rename_i eF;split at h
    .rename_i xs hx;obtain⟨rfl,rfl⟩:=Zh h;have tY:gn C d (.buildSlice e z n ps) (gev gs s.env) s (λv s'=>v=.lst d/\s'=s.make d (.lst e.ty k xs false)):=by
      simp only[gn,tX,hx];simp_all
     obtain⟨u,U',pl',v,s',h1,⟨rfl,rfl⟩,⟨h3,_⟩,h4⟩:=MQ (λx=>hG.evs hg x) hG tY;obtain⟨B',F',k1,k2,k3⟩:=Ag hG.bf eF.2.2 h3 h4 (V7 h1);show QV (Q7 (.buildSlice e z n ps) (Q4 env) U) _;rw[h1];exact hK u U' B' F' pl' k1 k2 k3
    .cases h
   .cases h
  .cases h
theorem AV {C:Cx}{o:VOp}{ev:Operand->SV}{own:Own}{c:Prop}{v:SV}(h:Cd C o ev own=some (c,v)):∃ (k:Kind) (xs:List k.T),v=.val (.list k) xs:=by
 cases o<;>first|(cases h;done)|skip
 case callF=>simp only[Cd] at h;grind [Gk]
 case callV=>simp only[Cd] at h;grind [Gk]
 case buildSlice e z n ps =>
  simp only[Cd] at h
  grind
theorem Q5m {C:Cx}(az:COk P C) {B F:Heap}{pl:Nat->Value}{tb:Nat->Option Bool}{s:St}{env:Env}{U:Heap}(hG:Gam P B F pl tb s env U) {d:Nat}{o:VOp}{K:SV->St->Prop}(h:gn C d o (gev [] s.env) s K) {R:Value->Heap->Prop}
  (hK:∀ v s' B' F' pl' tb' u U',K v s'->GBase B F U B' F' U'->Gam P B' F' pl' tb' s' env U'->SR P B' pl' tb' v u->R u U'):vop (Q3 P) o env U R:=by
 have ah:=hG.evs (Gds.nil (tb:=tb));have act:∀ o {T:Nat},NOk P B F tb o (Q4 env) env U K T s pl->(∀ R',QV (Q7 o (Q4 env) U) (λp=>R' p.1 p.2)->vop (Q3 P) o env U R')->vop (Q3 P) o env U R:=λo _ ⟨u,U',pl',v,s',h1,h2,h3,h4⟩ hv=>hv R (by rw[h1];exact hK v s' B F pl' tb u U' h2 (.of hG.bf (V7 h1)) h3.1 h4);have aq:∀ args:List Operand,SRs P B pl tb (args.map (gev [] s.env)) (args.map (Q4 env)):=(by grind [SRs.map,Gds.nil]);cases o
 case alloc t z=>exact act _ (Q1k ah hG h) λ_ h=>h
 case box t x=>exact act _ (Z1z ah hG h) λ_ h=>h
 case buildSlice e z n ps=>exact act _ (MQ ah hG h) λ_ h=>h
 case makeSlice e b z l c=>exact act _ (T_ ah hG h) λ_ h=>h
 case append e b x y=>exact act _ (O7 ah hG h) λ_ h=>h
 case store size a x=>exact act _ (Q15 ah hG h) λ_ h=>h
 case callF f args =>
  simp only[gn] at h;obtain⟨g,a,b,h3,h4⟩:=Pd az hG (show SR P B pl tb (.fn f [] []) (.func (.func f) #[] #[]) by simp only[SR,SRs];exact⟨[],[],rfl,rfl,rfl⟩) (aq args) h (λ_ e=>by cases e) hK;obtain⟨rfl,rfl,rfl⟩:=(by simpa using h3:f=g/\#[]=a/\#[]=b);show VCalled P f (args.map (Q4 env)) U R;simpa using h4
 case callV f args =>
  simp only[gn] at h;by_cases hy:∃ o,gev [] s.env f=.dd o .yv
  .obtain⟨o,hy⟩:=hy;have hf:=hG.evs (Gds.nil (tb:=tb)) f;have h':C7 C d (gev [] s.env f) (args.map (gev [] s.env)) s K:=h;rw[hy] at hf h';simp only[SR,DR] at hf;obtain⟨i,hp,hv⟩:=hf;simp only[C7] at h';split at h'
   .rename_i y rX;have:=az.yl o y rX B F pl tb s env U _ _ K R i hG (aq args) h' hp hK;simp only[vop,hv];exact this
   .exact h'.elim
  obtain⟨g,a,b,h3,h4⟩:=Pd az hG (hG.evs Gds.nil f) (aq args) h (λo e=>hy ⟨o,e⟩) hK;exact Mi h3 h4
 case ext x =>
  cases x
  case mapUpdate mk m k v=>exact act _ (Rb ah hG h) λ_ h=>h
  case delete mk m k=>exact act _ (O1 ah hG h) λ_ h=>h
  case mapEntry mk z m k=>exact act _ (LW ah hG h) λ_ h=>h
  case entryStore m s v=>exact act _ (P2 ah hG h) λ_ h=>h
  case copy size a b=>exact False.elim h
  case unsafeStr e a n=>exact False.elim h
  case strBytes e a=>exact False.elim h
  case rangeMap a=>exact Oi hG h hK
  case nextMap a=>exact Q3y hG h hK
  all_goals exact h.elim
 all_goals exact h.elim
theorem Gam.frz (hG:Gam P B F pl tb s env U) (o:Nat):∃ B' F',GBase B F U B' F' U/\Gam P B' F' pl tb (s.frz o) env U:=by
 unfold St.frz;split
 .rename_i ty k xs nl ho;have fin:∀ {B' F':Heap},Gam P B' F' pl tb ⟨s.env,oset s.own o .dead,s.nx⟩ env U->KC B' (.list k) xs [pl o]->Gam P B' F' pl tb ⟨SVs.frz o k xs s.env,Q5j o k xs s.own,s.nx⟩ env U:=λ{B' F'} h hk=>by
   have e1:∀ d,Qa (Q5j o k xs s.own) d=(Qa (oset s.own o .dead) d).frz o k xs:=λd=>by
    rw[Q2c,Qk];by_cases e:d=o
    .rw[z6 e,z6 e];rfl
    .rw[z0 e,z0 e]
   have lv:∀ d,(Qa (Q5j o k xs s.own) d).live=(Qa (oset s.own o .dead) d).live:=λd=>by rw[e1,OB.q2d]
   refine⟨h.bf,h.le,SRs.frz hk _ _ h.env,λd=>?_,λd i h1 h2=>?_,λd d' i aB h1 h2=>?_,h.free⟩
   .simp only[e1];exact(h.obj d).frz hk
   .simp only[lv] at h1;exact h.fresh d i h1 h2
   .simp only[lv] at h1 h2;exact h.sep d d' i aB h1 h2
  have aj:=hG.obj o;rw[ho] at aj;rcases aj with⟨_,hx,hp⟩|⟨_,i,cap,c,t,hp,cw,hg,hlen,dD⟩
  .exact⟨B,F,.of hG.bf (.refl _),fin (hG.drop o) ⟨_,rfl,.inl ⟨hx,hp⟩⟩⟩
  .obtain⟨g1,g2⟩:=hG.freeze (o:=o) (i:=i) (by rw[ho];rfl) (by rw[hp];rfl);refine⟨_,_,g1,fin g2 ⟨_,rfl,.inr ⟨i,0,cap,c,⟨k.size,ty⟩,true,t,hp,cw,by rw[Heap.q0n];exact hg,rfl,by have:=zu k.size cw;omega,?_⟩⟩⟩;rw[xK];exact dD.mono λ_ _ e=>KC.mono g1.b e
 .exact⟨B,F,.of hG.bf (.refl _),hG⟩
theorem GRel.frzs {B0 F0 D0:Heap}:∀ (l:List Nat) {s:St},GRel P B0 F0 D0 s env U->GRel P B0 F0 D0 (s.frzs l) env U
 |[],_,h=>h
 |o::r,s,⟨B,F,pl,tb,hB,hG⟩=>by obtain⟨B',F',g1,g2⟩:=hG.frz o;exact GRel.frzs r ⟨B',F',pl,tb,hB.trans g1,g2⟩
end
theorem TQ {j:Nat}{f:Nat->Prop}:∀ {n i:Nat},IY (j:Int) f n i->i<=j->j<i+n->f j
 |0,i,_,h1,h2=>by omega
 |n+1,i,h,h1,h2=>by
  rcases zm i j with h3|h3
  .exact TQ h.2 h3 (by omega)
  .have:j=i:=by omega
   subst this;exact h.1 rfl
theorem Q24 {o:VOp}{len i:Nat}{f:Nat->VOp}(h:Z2m o=some (len,i,f)) {n:Nat}:(∃ size x,f n=.indexAddrArr len size x (.const (.int .i64 (Int.ofNat n))))\/∃ agg size x,f n=.indexArr len agg size x (.const (.int .i64 (Int.ofNat n))):=by
 unfold Z2m at h;split at h
 .cases h;exact .inl ⟨_,_,rfl⟩
 .cases h;exact .inr ⟨_,_,_,rfl⟩
 .cases h
theorem Q4i {o:VOp}{len i:Nat}{f:Nat->VOp}(h:Z2m o=some (len,i,f)) {S:VSpecs}{env:Env}{U:Heap}{k:IntKind}{n:Nat}(he:Q4 env (.tmp i)=.int k (n:Int)) {R:Value->Heap->Prop}(hv:vop S (f n) env U R):vop S o env U R:=by
 have hc:Q4 env (.const (.int .i64 (Int.ofNat n)))=.int .i64 (n:Int):=rfl;unfold Z2m at h;split at h
 .rename_i len size x t;cases h;change QV (Q7 _ (Q4 env) U) _ at hv;change QV (Q7 _ (Q4 env) U) _;simp only[Q7,he,hc] at hv |-
  grind
 .rename_i len agg size x t;cases h;change QV (Q7 _ (Q4 env) U) _ at hv;change QV (Q7 _ (Q4 env) U) _;simp only[Q7,he,hc] at hv |-
  grind
 .cases h
theorem C5 {C:Cx}(az:COk P C) {B0 F0 D0:Heap}{s:St}{env:Env}{U:Heap}(hR:GRel P B0 F0 D0 s env U) {o:VOper}{K:St->Prop}(h:Z34 C o s K) {R:Env->Heap->Prop}(hK:∀ s' ae U',K s'->GRel P B0 F0 D0 s' ae U'->R ae U') :
  QV (Jl env o.guard) λb=>vif b (vop (Q3 P) o.op env U λv U'=>R (X6 env o.dst v) U') (R (X6 env o.dst undef) U):=by
 unfold Z34 at h;split at h
 .rename_i hg;rw[hg];refine⟨λ_=>?_,λe=>by cases e⟩
  replace hR:=hR.frzs (Q8v C (o.dst.getD 0) o.op (gev [] s.env) s.own)
  generalize s.frzs (Q8v C (o.dst.getD 0) o.op (gev [] s.env) s.own)=s at h hR;obtain⟨B,F,pl,tb,hB,hG⟩:=hR;unfold Z5c at h;split at h
  .rename_i len i f rY;split at h
   .rename_i k j hj;obtain⟨h1,h2,h3⟩:=h;obtain⟨n,rfl⟩:=zM h1;have hn:n<len:=by omega
    have h4:=TQ h3 (Nat.zero_le n) (by omega);have he:=ZJ hj (hG.evs (Gds.nil (tb:=tb)) (.tmp i));split at h4
    .rename_i cs v dj;obtain⟨k1,k2⟩:=ZF h4
     replace k1:=ZC k1
     have hv:=TI (C:=C) az.cs hG Gds.nil (o:=f n) (raw:=C.raw.contains (o.dst.getD 0)) (cs:=cs) (v:=v) (by
      rw[<-dj];obtain⟨size,x,hf⟩|⟨agg,size,x,hf⟩:=Q24 rY<;>rw[hf];rfl;rfl) (k2 λg hg=>by cases hg) λu hu=>hK _ _ _ k1 ⟨B,F,pl,tb,hB,hG.put o.dst hu⟩
     exact Q4i rY he hv
    .exact h4.elim
   .exact h.elim
  unfold Z56 at h;split at h
  .rename_i c a b bz;split at h
   .rename_i v hv;obtain⟨u,h1,h2⟩:=UT hG Gds.nil hv;rw[bz];show QV (Q7 (.pick c a b) (Q4 env) U) _;rw[h1];exact hK _ _ _ (ZC h) ⟨B,F,pl,tb,hB,hG.put o.dst h2⟩
   .exact h.elim
  .rename_i vO;cases hq:Q1j o.op with
   |true =>
    rw[hq] at h;simp only[zi] at h;split at h
    .rename_i cs v dj;obtain⟨h1,h2⟩:=ZF h
     replace h1:=ZC h1
     refine TI (C:=C) az.cs hG Gds.nil (raw:=C.raw.contains (o.dst.getD 0)) (cs:=cs) (v:=v) ?_ (h2 λg hg=>by cases hg) λu hu=>hK _ _ _ h1 ⟨B,F,pl,tb,hB,hG.put o.dst hu⟩;rw[<-dj];cases ho:o.op<;>first|rfl|(rw[ho] at hq;cases hq)
    .exact h.elim
   |false =>
    rw[hq] at h;simp only[zP] at h;split at h
    .rename_i bz;split at h
     .rename_i kk vk _;obtain⟨h1,h2⟩:=Q28 hG (C.off+o.dst.getD 0) kk vk;rw[bz];change R (X6 env o.dst (.map (some U.n))) (U.push (.obj (.map [] 0) true));exact hK _ _ _ h ⟨B,F,_,tb,MB hB (Dead.push _ _),h1.put o.dst h2⟩
     .rename_i ik _;obtain⟨h1,h2⟩:=Q6c hG (C.off+o.dst.getD 0) ik;rw[bz];change R (X6 env o.dst (.map (some U.n))) (U.push (.obj (.map [] 0) true));exact hK _ _ _ h ⟨B,F,_,tb,MB hB (Dead.push _ _),h1.put o.dst h2⟩
     .exact h.elim
    .rename_i bz;cases j7:Ea C (o.dst.getD 0) o.op (gev [] s.env) with
     |true =>rw[j7] at h;simp only[zi] at h;exact Q0s hG h λv s' B' F' pl' tb' u U' h1 hd h2 h3=>hK _ _ _ h1 ⟨B',F',pl',tb',hB.trans hd,h2.put o.dst h3⟩
     |false =>rw[j7] at h;simp only[zP] at h;exact Q5m az hG h λv s' B' F' pl' tb' u U' h1 hd h2 h3=>hK _ _ _ h1 ⟨B',F',pl',tb',hB.trans hd,h2.put o.dst h3⟩
 .rename_i j want hg;obtain⟨B,F,pl,tb,hB,hG⟩:=hR;rw[hg];split at h
  .exact h.elim
  .rename_i gs s' dB;obtain⟨tb',a8,di,b,hw,bE,a_⟩:=W8 hG dB;rw[hw];refine⟨λe=>?_,λe=>?_⟩
   .have gd:Gds tb' gs:=λg hg=>⟨bE e g hg,di g hg⟩;have fin:∀ {v u},SR P B pl tb' v u->SR P B pl tb' (.grd gs (He v)) u:=λ{v u} hs=>by
     simp only[SR]
     grind [Tj]
    split at h
    .rename_i c a b' bz;split at h
     .rename_i v hv;obtain⟨u,h1,h2⟩:=UT a8 gd hv;rw[bz];show QV (Q7 (.pick c a b') (Q4 env) U) _;rw[h1];exact hK _ _ _ (ZC h) ⟨B,F,pl,tb',hB,a8.put o.dst (fin h2)⟩
     .exact h.elim
    .split at h
     .rename_i cs v dj;obtain⟨h1,h2⟩:=ZF h
      replace h1:=ZC h1
      exact TI az.cs a8 gd dj (h2 (bE e)) λu hu=>hK _ _ _ h1 ⟨B,F,pl,tb',hB,a8.put o.dst (fin hu)⟩
     .split at h
      .rename_i c v j8;obtain⟨h1,h2⟩:=ZF h
       replace h1:=ZC h1
       refine FU az.cs a8 gd (d:=C.off+o.dst.getD 0) j8 (h2 (bE e) c (by simp)) λu U' B' F' pl' k1 k2 k3=>hK _ _ _ h1 ⟨B',F',pl',tb',hB.trans k1,k2.put o.dst ?_⟩;simp only[SR];refine⟨⟨di,?_⟩,λ_=>k3,(by grind)⟩;obtain⟨k,xs,rfl⟩:=AV j8;trivial
      .exact h.elim
   .have fin:∀ v,SR P B pl tb' (.grd gs (He v)) undef:=λv=>by
     simp only[SR];obtain⟨g,hg,aB⟩:=a_ e;exact⟨⟨di,Tn v⟩,λhall=>absurd (hall g hg) aB,λ_=>trivial⟩
    split at h
    .split at h
     .exact hK _ _ _ (ZC h) ⟨B,F,pl,tb',hB,a8.put o.dst (fin _)⟩
     .exact h.elim
    .split at h
     .exact hK _ _ _ (ZC (ZF h).1) ⟨B,F,pl,tb',hB,a8.put o.dst (fin _)⟩
     .split at h
      .rename_i c v j8;refine hK _ _ _ (ZC (ZF h).1) ⟨B,F,_,tb',hB,(a8.make (C.off+o.dst.getD 0) .dead undef a8.le (λ_ _ _ _ _=>rfl) trivial (λi hl _=>by cases hl)).put o.dst ?_⟩;simp only[SR];obtain⟨g,hg,aB⟩:=a_ e;refine⟨⟨di,?_⟩,λhall=>absurd (hall g hg) aB,λ_=>trivial⟩;obtain⟨k,xs,rfl⟩:=AV j8;trivial
      .exact h.elim
theorem Q1u {C:Cx}(az:COk P C) {B0 F0 D0:Heap}{s:St}{env:Env}{U:Heap}(hR:GRel P B0 F0 D0 s env U) {o:VOper}{K:St->Prop}(h:gop C o s K) {R:Env->Heap->Prop}(hK:∀ s' ae U',K s'->GRel P B0 F0 D0 s' ae U'->R ae U') :
  QV (Jl env o.guard) λb=>vif b (vop (Q3 P) o.op env U λv U'=>R (X6 env o.dst v) U') (R (X6 env o.dst undef) U):=by
 unfold gop at h;split at h
 .rename_i t ht;have qn:=hR;obtain⟨B,F,pl,tb,hB,hG⟩:=hR;rw[Ky hG ht];cases t with
  |true =>simp only[zi] at h;exact C5 az qn (o:=⟨o.dst,o.op,none⟩) h hK
  |false =>simp only[zP] at h;exact⟨(λe=>by cases e),λ_=>hK _ _ _ h ⟨B,F,pl,tb,hB,hG.put o.dst (by simp[SR])⟩⟩
 .exact C5 az hR h hK
theorem I2 {B0 F0 D0:Heap}{s s':St}{env:Env}{U:Heap}(hR:GRel P B0 F0 D0 s env U) {d:Nat}(h:Q84 d s=some s'):GRel P B0 F0 D0 s' env U:=by
 unfold Q84 at h;split at h
 .rename_i o off hd;cases hz:Nat.beq off 0 with
  |false=>rw[hz] at h;cases h
  |true =>
   rw[hz] at h;simp only[zi] at h;have hz:off=0:=zN hz;subst hz;split at h
   .rename_i l _ ho;simp only[xq] at h;subst h;obtain⟨B,F,pl,tb,hB,hG⟩:=hR;have aj:=hG.obj o;rw[ho] at aj;obtain⟨i,c,e,t,e1,e2,e3,_⟩:=aj;obtain⟨k1,k2⟩:=hG.freeze (o:=o) (i:=i) (by rw[ho];rfl) (by rw[e1];rfl);have h1:=hG.env.getD d undef;rw[hd] at h1;have sr:SR P (B.ins U i hG.leB.1) pl tb (.cp l 0) (env.getD d undef):=by
     simp only[SR] at h1 |-;obtain⟨b,q1,q2⟩:=h1;rw[e1] at q1;obtain rfl:i=b:=by simpa using q1
     refine⟨i,c,e,true,t,?_,q2,SRs.mono k1.b (λ_ _ h=>h) _ _ e3⟩;rw[Heap.q0n];exact e2
    have:=k2.put (some d) sr;refine⟨_,_,pl,tb,hB.trans k1,?_⟩;have e2:X6 env (some d) (env.getD d undef)=env:=by
     show env.set d _=env;rcases zm d env.length with h|h
     .simp_all
     .rw[List.set_eq_of_length_le h]
    rw[e2] at this;exact this
   .cases h
 .cases h
theorem OH {C:Cx}{B0 F0 D0:Heap}{s:St}{env:Env}{U:Heap}(hR:GRel P B0 F0 D0 s env U) {d:Option Nat}{K:St->Prop}(h:Z2y C d K s):∃ s2,K s2/\GRel P B0 F0 D0 s2 env U:=by
 unfold Z2y at h;split at h
 .exact⟨s,h,hR⟩
 .rename_i d;cases hb:C.spl.contains d with
  |false=>rw[hb] at h;exact⟨s,h,hR⟩
  |true =>
   rw[hb] at h;simp only[zi] at h;split at h
   .rename_i t ht;obtain⟨B,F,pl,tb,hB,hG⟩:=hR;have he:=W4 ht (hG.env.getD d undef);have a7:∀ v,SR P B pl tb v (env.getD d undef)->GRel P B0 F0 D0 (s.put (some d) v) env U:=λv hv=>by
     have:=hG.put (some d) hv;refine⟨B,F,pl,tb,hB,?_⟩;have e2:X6 env (some d) (env.getD d undef)=env:=by
      show env.set d _=env;rcases zm d env.length with h|h
      .rw[ze,z9 h];simp
      .rw[List.set_eq_of_length_le h]
     rw[e2] at this;exact this
    have sr:SR P B pl tb (.grd [] (.val .bo t)) (env.getD d undef):=by simp only[SR];exact⟨⟨(λg hg=>by cases hg),trivial⟩,(λ_=>by rw[he];simp[KC]),λ⟨g,hg,_⟩=>by cases hg⟩
    cases hc:C.raw.contains (3000000+d) with
    |true =>
     rw[hc] at h;cases t with
     |true=>exact⟨_,h,a7 _ sr⟩
     |false=>exact⟨_,h,a7 _ sr⟩
    |false =>
     rw[hc] at h;cases t with
     |true=>exact⟨_,h.1 rfl,a7 _ sr⟩
     |false=>exact⟨_,h.2 rfl,a7 _ sr⟩
   .split at h
    .rename_i ik x r hx hr;obtain⟨B,F,pl,tb,hB,hG⟩:=hR;have he:=ZJ hx (hG.env.getD d undef);obtain⟨h1,h2,h3⟩:=h;obtain⟨n,rfl⟩:=zM (show 0<=x by omega);have h4:=TQ h3 (by omega) (by omega);refine⟨_,h4,B,F,pl,tb,hB,?_⟩;have:=hG.put (some d) (v:=.val (.i ik) (n:Int)) (u:=env.getD d undef) (by rw[he];simp[SR,KC]);have e2:X6 env (some d) (env.getD d undef)=env:=by
      show env.set d _=env;rcases zm d env.length with h|h
      .rw[ze,z9 h];simp
      .rw[List.set_eq_of_length_le h]
     rw[e2] at this;exact this
    .grind [I2]
theorem Gp {C:Cx}(az:COk P C) {B0 F0 D0:Heap}:∀ (ops:List VOper) {s:St}{env:Env}{U:Heap},GRel P B0 F0 D0 s env U->∀ {K:St->Prop},Z32 C ops s K->∀ {R:Env->Heap->Prop},(∀ s' ae U',K s'->GRel P B0 F0 D0 s' ae U'->R ae U')->S2 (Q3 P) ops env U R
 |[],s,env,U,hR,_K,h,_R,hK=>hK s env U h hR
 |_o::r,_s,_env,_σ,hR,_K,h,_R,hK=>Q1u (R:=λenv U=>S2 (Q3 P) r env U _R) az hR h λ_ _ _ h1 h2=>by obtain⟨s2,k1,k2⟩:=OH h2 h1;exact Gp az r k2 k1 hK
theorem Q3q {S:VSpecs}{l:List DOper}{rest:List DSeg}{env:Env}{U:Heap}{K:Env->Heap->Prop}(h:l.all (λo=>!(o.kind==2)&&!(o.op.kind==2))=true) (hv:S2 S (l.map dv) env U λenv U=>Gs S rest env U K):Gs S (.alts [l]::rest) env U K:=by
 intro ops ho;obtain rfl:=zI.1 ho;have key:∀ (l:List DOper) (env:Env) (pend:List (Nat×(Heap->Prop))) (K':Env->Heap->Prop),l.all (λo=>!(o.kind==2)&&!(o.op.kind==2))=true->S2 S (l.map dv) env U K'->ZI S l env [U] U pend K':=by
  intro l;induction l with
  |nil=>intro env pend K' _ h;exact h
  |cons o rest ih =>
   intro env pend K' hk h;simp only[zQ,z8,Bool.not_eq_true',x7] at hk;obtain⟨⟨bg,au⟩,hr⟩:=hk;have hr:rest.all (λo=>!(o.kind==2)&&!(o.op.kind==2))=true:=by simpa using hr
   simp only[zJ,S2,dv] at h;simp only[ZI];cases hw:Jl env o.guard with
   |none=>rw[hw] at h;exact h.elim
   |some b =>
    rw[hw] at h;obtain⟨ht,hf⟩:=h;refine⟨λe=>?_,λe=>?_⟩
    .have ht:=ht e;obtain⟨p,hp,kC⟩:∃ p,Q7 o.op (Q4 env) U=some p/\S2 S (rest.map dv) (X6 env o.dst p.1) p.2 K':=by
      have:=ht;unfold vop at this;split at this
      .rename_i f bM heq;rw[heq] at au;exact absurd rfl au
      .rename_i f bM heq;rw[heq] at au;exact absurd rfl au
      .rename_i x heq;rw[heq] at au;exact absurd rfl au
      .cases dy:Q7 o.op (Q4 env) U with
       |none=>rw[dy] at this;exact this.elim
       |some p=>rw[dy] at this;exact⟨p,rfl,this⟩
     have hq:p.2=U:=(by grind [H0]);rw[hq] at kC;rw[z0 bg];split
     .rw[hp];refine⟨λZ hτ=>?_,ih _ _ _ hr kC⟩;have:Z=U:=by
       grind
      subst this;show QV (Q7 o.op (Q4 env) Z) _;rw[hp];rfl
     .rw[hp];exact ih _ _ _ hr kC
    .simp_all
 have:=key ops env [] _ h hv;have mono:∀ (l:List DOper) (env:Env) (hs:List Heap) (Z:Heap) (pend:List (Nat×(Heap->Prop))) (A B:Env->Heap->Prop),l.all (λo=>!(o.kind==2)&&!(o.op.kind==2))=true->(∀ e s,A e s->B e s)->ZI S l env hs Z pend A->ZI S l env hs Z pend B:=by
  intro l;induction l with
  |nil=>intro env hs Z pend A B _ l8 h;exact l8 _ _ h
  |cons o rest ih =>
   intro env hs Z pend A B hk l8 h;simp only[zQ,z8,Bool.not_eq_true',x7] at hk;obtain⟨⟨bg,au⟩,hr⟩:=hk;have hr:rest.all (λo=>!(o.kind==2)&&!(o.op.kind==2))=true:=by simpa using hr
   simp only[ZI] at h |-;cases hw:Jl env o.guard with
   |none=>rw[hw] at h;exact h.elim
   |some b =>
    rw[hw] at h;obtain⟨ht,hf⟩:=h;refine⟨λe=>?_,λe=>?_⟩
    .have ht:=ht e;rw[z0 bg] at ht |-;by_cases oP:o.kind=1
     .rw[z6 oP] at ht |-;cases dy:Q7 o.op (Q4 env) Z with
      |none=>rw[dy] at ht;exact ht.elim
      |some p=>rw[dy] at ht;exact⟨ht.1,ih _ _ _ _ _ _ hr l8 ht.2⟩
     .rw[z0 oP] at ht |-;cases dy:Q7 o.op (Q4 env) Z with
      |none=>rw[dy] at ht;exact ht.elim
      |some p=>rw[dy] at ht;exact ih _ _ _ _ _ _ hr l8 ht
    .grind
 exact mono ops env _ _ _ _ _ h (λe s hs=>⟨e,s,.refl _ _ _,hs⟩) this
theorem J0 {op:VOp}{ev:Operand->Value}{u:Value}{Z Z':Heap}(h:Q7 op ev Z=some (u,Z')):X9 op ev u Z:=by unfold X9;rw[h];rfl
theorem Zy (s:St) (d:Option Nat) (v:SV):(s.put d v).own=s.own:=by cases d<;>rfl
theorem Kp {s s':St}{j:Nat}{want:Bool}{gs:List Gd}(h:P3 s j want=some (gs,s')):s'.own=s.own:=by
 unfold P3 at h
 grind
theorem Ub {C:Cx}{B F:Heap}{pl:Nat->Value}{tb:Nat->Option Bool}{s:St}{env:Env}{U:Heap}(hG:Gam P B F pl tb s env U) {o:DOper}{K:St->Prop}(h:gd1 C o s K) :
  ∃ b,Jl env o.guard=some b/\(b=true->∃ u s' tb',Q7 o.op (Q4 env) U=some (u,U)/\K s'/\s'.own=s.own/\Gam P B F pl tb' s' (X6 env o.dst u) U)/\(b=false->∃ s' tb',K s'/\s'.own=s.own/\Gam P B F pl tb' s' (X6 env o.dst undef) U):=by
 unfold gd1 at h;split at h
 .rename_i hg;rw[hg];refine⟨true,rfl,λ_=>?_,λe=>by cases e⟩;split at h
  .rename_i c a b bz;split at h
   .rename_i v hv;obtain⟨u,h1,h2⟩:=UT hG Gds.nil hv;exact⟨u,_,tb,by rw[bz];exact h1,ZC h,Zy _ _ _,hG.put o.dst h2⟩
   .exact h.elim
  .split at h
   .rename_i cs v dj;obtain⟨h1,h2⟩:=ZF h;obtain⟨u,h3,h4⟩:=CV (hG.evs (Gds.nil (tb:=tb))) (λ_=>rfl) hG.leB hG.obj dj (h2 λg hg=>by cases hg);exact⟨u,_,tb,h3,ZC h1,Zy _ _ _,hG.put o.dst h4⟩
   .exact h.elim
 .rename_i j want hg;rw[hg];split at h
  .exact h.elim
  .rename_i gs s' dB;obtain⟨tb',a8,di,b,hw,bE,a_⟩:=W8 hG dB;refine⟨b,hw,λe=>?_,λe=>?_⟩
   .have gd:Gds tb' gs:=λg hg=>⟨bE e g hg,di g hg⟩;have fin:∀ {v u},SR P B pl tb' v u->SR P B pl tb' (.grd gs (He v)) u:=λ{v u} hs=>by
     simp only[SR]
     grind [Tj]
    split at h
    .rename_i c a b' bz;split at h
     .rename_i v hv;obtain⟨u,h1,h2⟩:=UT a8 gd hv;exact⟨u,_,tb',by rw[bz];exact h1,ZC h,(Zy _ _ _).trans (Kp dB),a8.put o.dst (fin h2)⟩
     .exact h.elim
    .split at h
     .rename_i cs v dj;obtain⟨h1,h2⟩:=ZF h;obtain⟨u,h3,h4⟩:=CV (a8.evs gd) (λ_=>rfl) a8.leB a8.obj dj (h2 (bE e));exact⟨u,_,tb',h3,ZC h1,(Zy _ _ _).trans (Kp dB),a8.put o.dst (fin h4)⟩
     .exact h.elim
   .have fin:∀ v,SR P B pl tb' (.grd gs (He v)) undef:=λv=>by
     simp only[SR];obtain⟨g,hg,aB⟩:=a_ e;exact⟨⟨di,Tn v⟩,λhall=>absurd (hall g hg) aB,λ_=>trivial⟩
    split at h
    .split at h
     .exact⟨_,tb',ZC h,(Zy _ _ _).trans (Kp dB),a8.put o.dst (fin _)⟩
     .exact h.elim
    .split at h
     .exact⟨_,tb',ZC (ZF h).1,(Zy _ _ _).trans (Kp dB),a8.put o.dst (fin _)⟩
     .exact h.elim
theorem Fe {bs:List OB}{q:Prop}(h:Q3v bs q):(∀ b∈bs,b.wf)/\q:=by
 induction bs with
 |nil=>exact⟨(λb hb=>by cases hb),h⟩
 |cons b r ih =>obtain⟨h1,h2⟩:=h;obtain⟨h3,h4⟩:=ih h2;exact(by simp_all)
mutual
theorem Is {d nt:Nat}:∀ (v:SV),v.ret 0=true->(v.ren d nt).ret 0=true
 |.val k x,h=>h
 |.nilS,_|.nilP,_|.nilM,_|.nilF,_=>rfl
 |.lst j,h|.box j _,h|.map j,h=>by simp[SV.ret,Nat.blt] at h
 |.agg l,h=>by simp only[SV.ren,SV.ret] at h |-;exact TP l h
 |.tup l,h=>by simp only[SV.ren,SV.ret] at h |-;exact TP l h
 |.any,h|.bid _ _,h|.grd _ _,h|.sub _ _ _ _,h|.elp _ _ _ _,h|.rop _ _ _ _,h|.cp _ _,h|.fn _ _ _,h|.pf _ _ _ _,h=>by cases h
theorem TP {d nt:Nat}:∀ (v:List SV),SVs.ret 0 v=true->SVs.ret 0 (SVs.ren d nt v)=true
 |[],_=>rfl
 |s::ss,h=>by simp only[SVs.ret,SVs.ren,z8] at h |-;exact⟨Is s h.1,TP ss h.2⟩
end
theorem Wa {C:Cx}(az:COk P C) {B F:Heap}{pl:Nat->Value}{tb:Nat->Option Bool}{s:St}{env:Env}{U:Heap}(hG:Gam P B F pl tb s env U) {d:Nat}{f:SV}{args:List SV}{K:List Nat->SV->St->Prop}(h:GO C d f args s K) {fV:Value}{vs:List Value}
  (hf:SR P U Xd Ji f fV) (ha:SRs P U Xd Ji args vs):∃ g a b u U' ts v s' pl',fV=.func (.func g) a b/\(VCalled P g (a.toList++vs++b.toList) U λu' aE=>u'=u/\aE=U')/\K ts v s'/\Gam P B F pl' tb s' env U'/\SR P B pl' tb v u/\(ts=[]->U'=U/\pl'=pl/\s'=s)/\U.Le U'/\Dead U U'/\FrL ts s s' pl pl' U U':=by
 unfold GO at h;split at h
 .rename_i c v bs heq;cases hb:(v.ret bs.length&&(bs.all OB.ret&&(Nat.blt 0 C.nt&&(bs.all OB.isL&&VU v)))) with
  |false=>rw[hb] at h;exact h.elim
  |true =>
   rw[hb] at h;obtain⟨h1,h2⟩:=h;obtain⟨h3,h4⟩:=Fe h2;simp only[z8] at hb;obtain⟨hv,mc,dZ,hl,cO⟩:=hb;obtain⟨g,a,b,e,_,hx⟩:=J4 az.cs hf ha heq hv mc h1;have dh:=Et (P:=P) U hv cO mc hl (λb hb=>by have:=h3 b hb;cases b<;>exact this);by_cases bT:bs=[]
   .subst bT;obtain⟨k1,k2⟩:=dh.flat hv;refine⟨g,a,b,_,_,_,_,_,pl,e,hx hl cO,h4,?_,?_,λ_=>⟨k1,rfl,rfl⟩,dh.1.1,dh.1.2,λq _=>⟨rfl,rfl,λ_ _ _=>by rw[k1]⟩⟩
    .rw[k1];exact hG
    .exact SR.retd (B:=hNil) (pl:=pl) (tb:=Ji) (n:=0) (λj hj=>by omega) _ _ (Is v hv) (by grind [SR.ren])
   .obtain⟨pl',h5,h6,h7⟩:=dh.gamF (nt:=C.nt) (d:=d) (by simpa [zF] using dZ) hG hv mc;refine⟨g,a,b,_,_,_,_,_,pl',e,hx hl cO,h4,h5,h6,(by simp_all),dh.1.1,dh.1.2,λq hq=>h7 q λj hj e=>hq ?_⟩;exact zB.2 ⟨j,zW.2 hj,e.symm⟩
 .exact h.elim
def IP:VOp->Bool
 |.callF ..|.callV ..=>true
 |.ext (.rangeMap _)|.ext (.nextMap _)=>true
 |_=>false
theorem Z2w {C:Cx}{B F:Heap}{pl:Nat->Value}{tb:Nat->Option Bool}{s:St}{env:Env}{U:Heap}(hG:Gam P B F pl tb s env U) {d:Nat}{o:VOp}{K:SV->St->Prop}(h:gn C d o (gev [] s.env) s K) (hc:IP o=false) :
  NOk P B F tb o (Q4 env) env U K (QT d o (gev [] s.env)) s pl:=by
 have ah:=hG.evs (Gds.nil (tb:=tb));cases o
 case alloc t z=>exact Q1k ah hG h
 case box t x=>exact Z1z ah hG h
 case buildSlice e z n ps=>exact MQ ah hG h
 case makeSlice e b z l c=>exact T_ ah hG h
 case append e b x y=>exact O7 ah hG h
 case store size a x=>exact Q15 ah hG h
 case callF=>cases hc
 case callV=>cases hc
 case ext x =>
  cases x
  case mapUpdate mk m k v=>exact Rb ah hG h
  case delete mk m k=>exact O1 ah hG h
  case mapEntry mk z m k=>exact LW ah hG h
  case entryStore m s v=>exact P2 ah hG h
  case copy size a b=>exact False.elim h
  case unsafeStr e a n=>exact False.elim h
  case strBytes e a=>exact False.elim h
  case rangeMap=>cases hc
  case nextMap=>cases hc
  all_goals exact h.elim
 all_goals exact h.elim
theorem Am {o:VOp}{ev:Operand->Value}{U U':Heap}{u:Value}(hm:Ru o=true) (h:Q7 o ev U=some (u,U')):U.Le U':=by
 have push:∀ b:Blk,U.Le (U.push b):=λb=>(Heap.Le.refl U).push b;cases o<;>first|(cases hm;done)|skip
 case alloc t z=>obtain⟨rfl,rfl⟩:=Zh h;exact push _
 case box t x =>
  simp only[Q7] at h
  grind
 case buildSlice e z n ps =>
  simp only[Q7] at h
  grind
 case makeSlice e b z l c =>
  simp only[Q7] at h
  grind
def stM:MK:=.agg [.int .i64,.int .i64]
def Q7t:Option Jp->Value
 |some e=>e.2.1
 |none=>.int .i64 0
def LkE (es bF:List Jp):Prop:=(es.all (λe=>Zm stM e.1)=true->bF.all (λe=>Zm stM e.1)=true)/\(es.all (λe=>Zm stM e.1)=true->∀ k,Zm stM k=true->Q7t (Qf k bF)=Q7t (Qf k es))
theorem LkE.trans {a b c:List Jp}(h:LkE a b) (h':LkE b c):LkE a c:=⟨λk=>h'.1 (h.1 k),λk x hx=>(h'.2 (h.1 k) x hx).trans (h.2 k x hx)⟩
theorem F_ {v:Value}(h:Zm stM v=true):∃ a b,v=.agg #[.int .i64 a,.int .i64 b]:=by
 cases v with
 |agg l =>
  simp only[Zm,stM] at h;obtain⟨l⟩:=l
  match l,h with
  |[],h=>simp[fits] at h
  |[x],h=>cases x<;>simp[fits,OA] at h
  |[x,y],h =>simp only[fits,z8] at h;obtain⟨hx,hy,_⟩:=h;cases x<;>simp[OA] at hx;cases y<;>simp[OA] at hy;simp_all
  |x::y::z::r,h=>simp[fits] at h
 |_=>simp[Zm,stM] at h
theorem Q6s {a b c e:Int}:Xz (.agg #[.int .i64 a,.int .i64 b]) (.agg #[.int .i64 c,.int .i64 e])=(a==c&&b==e):=by simp[Xz,Qn,KR]
theorem Q2t {k0:Value}{clock:Nat}(i_:Zm stM k0=true):∀ {es:List Jp},LkE es (Qt k0 (Q7t (Qf k0 es)) clock es).1
 |[]=>by refine⟨λ_=>by simp[Qt,i_],λ_ k hk=>?_⟩;simp only[Qt,Qf];cases Xz k k0<;>rfl
 |e::es=>by
  have ih:=Q2t (clock:=clock) i_ (es:=es);simp only[Qt,Qf];cases he:Xz k0 e.1 with
  |true =>
   simp only[zz];refine⟨λh=>?_,λh k hk=>?_⟩
   .grind
   .simp only[zQ,z8] at h;obtain⟨a,b,rfl⟩:=F_ i_;obtain⟨a1,b1,h1⟩:=F_ h.1;obtain⟨a2,b2,rfl⟩:=F_ hk;have heq:(a==a1&&b==b1)=true:=by rw[<-Q6s,<-h1];exact he
    simp only[z8,zK] at heq;obtain⟨rfl,rfl⟩:=heq;simp only[Qf,h1,Q6s];cases (a2==a&&b2==b)<;>rfl
  |false =>
   simp only[zw,if_false];refine⟨λh=>?_,λh k hk=>?_⟩
   .simp only[zQ,z8] at h |-;exact⟨h.1,ih.1 h.2⟩
   .simp only[zQ,z8] at h;simp only[Qf];cases Xz k e.1 with
    |true=>rfl
    |false=>exact ih.2 h.2 k hk
theorem Q3x {mk:MK}{z:Value}(h:stP mk z=true):mk=stM/\z=.int .i64 0:=by
 unfold stP at h;split at h
 .exact⟨rfl,by rw[eq_of_beq h]⟩
 .cases h
def Q07 (U:Heap) (own:Own) (pl:Nat->Value) (Q:Heap->Prop):Option Nat->Prop
 |none=>∀ Z,U.Le Z->Q Z
 |some q=>(Qa own (q / 2)).live=true/\∃ i b,Oid (pl (q / 2)) i/\U.get i=some b/\(∀ Z,Z.get i=some b->Q Z)/\(q % 2=1->∃ es c wr,b=.obj (.map es c) wr/\∀ Z bF c',LkE es bF->Z.get i=some (.obj (.map bF c') wr)->Q Z)
structure DSt (hs:List Heap) (U:Heap) (pend:List (Nat×(Heap->Prop))) (hl chg:Nat) (A R:List (Nat×Option Nat)) (own:Own) (pl:Nat->Value):Prop where
 len:hs.length=hl
 same:∀ j Z,chg<=j->hs[j]?=some Z->Z=U
 pend:∀ c∈pend,c.1<hl\/∃ r∈R,c.1<=r.1/\Q07 U own pl c.2 r.2
 fr:∀ j Z q i,hs[j]?=some Z->Zz A j q=true->(Qa own q).live=true->Oid (pl q) i->Z.get i=U.get i
theorem K3 {r:Nat}{U:Heap}:∀ {l:List (Nat×(Heap->Prop))},(∀ c∈l,r<=c.1->c.2 U)->Xa r U l
 |[],_=>trivial
 |c::l,h=>⟨h c (by simp),K3 λc' c_=>h c' (by simp[c_])⟩
theorem Xs {hs:List Heap}{U' Z:Heap}{j:Nat}(h:(hs++[U'])[j]?=some Z):(j<hs.length/\hs[j]?=some Z)\/(j=hs.length/\Z=U'):=by
 grind
theorem Li {a:Nat×Option Nat}{A:List (Nat×Option Nat)}{j q:Nat}(h:Zz (a::A) j q=true) (hj:j<=a.1):(∃ t,a.2=some t/\t≠q)/\Zz A j q=true:=by
 simp only[Zz,zQ,z8,zy,zF] at h;refine⟨?_,h.2⟩;rcases h.1 with h|h
 .omega
 .split at h
  .rename_i t ht;exact⟨t,ht,λe=>by subst e;simp at h⟩
  .cases h
theorem DSt.stay {hs:List Heap}{U:Heap}{pend:List (Nat×(Heap->Prop))}{hl chg:Nat}{A R:List (Nat×Option Nat)}{own:Own}{pl:Nat->Value}(h:DSt hs U pend hl chg A R own pl) :
  Xa hs.length U pend/\DSt (hs++[U]) U pend (hl+1) chg A R own pl:=by
 have hr:∀ c∈pend,∀ r∈R,Q07 U own pl c.2 r.2->c.2 U:=λc _ r _ ak=>by
  unfold Q07 at ak;split at ak
  .exact ak U (.refl _)
  grind
 refine⟨K3 λc hc hle=>?_,⟨by simp[h.len],λj Z hj ht=>?_,λc hc=>?_,λj Z q i ht hu hl hi=>?_⟩⟩
 .rcases h.pend c hc with h1|⟨r,h1,_,h2⟩
  .rw[h.len] at hle;omega
  .exact hr c hc r h1 h2
 .rcases Xs ht with⟨_,h1⟩|⟨_,h1⟩
  .exact h.same j Z hj h1
  .exact h1
 .rcases h.pend c hc with h1|h1
  .exact .inl (by omega)
  .exact .inr h1
 .rcases Xs ht with⟨_,h1⟩|⟨_,rfl⟩
  .exact h.fr j Z q i h1 hu hl hi
  .rfl
theorem DSt.write {hs:List Heap}{U U':Heap}{pend:List (Nat×(Heap->Prop))}{hl chg:Nat}{A R:List (Nat×Option Nat)}{s s':St}{pl pl':Nat->Value}(h:DSt hs U pend hl chg A R s.own pl) {T:Nat}(hf:Fr T s s' pl pl' U U') {mk ext:Bool}(hm:mk=true->U.Le U')
  (hE:ext=true->(Qa s'.own T).live=true/\pl' T=pl T/\∃ i es c bF c',pl T=.map (some i)/\U.get i=some (.obj (.map es c) true)/\U'.get i=some (.obj (.map bF c') true)/\LkE es bF)
  (hc:((mk&&EC R hl T)||LJ R hl T||(ext&&Q9g R hl T))=true) (bj:0<hl):Xa hs.length U' pend/\DSt (hs++[U']) U' pend (hl+1) hl ((hl-1,some T)::A) R s'.own pl':=by
 have hr:∀ Q:Heap->Prop,∀ r∈R,hl<=r.1->Q07 U s.own pl Q r.2->Q07 U' s'.own pl' Q r.2:=λQ r lh cy ak=>by
  have hq:∀ q,r.2=some q->q / 2=T->q % 2=1/\ext=true:=λq hq e=>by
   subst e;simp only[zy,z8,EC,LJ,Q9g] at hc;rcases hc with (⟨_,hc⟩|hc)|⟨he,hc⟩
   .have:=zg.1 hc r lh;rw[hq] at this;simp only[zy,zF,Nat.beq_refl,wh,zw,or_false] at this;omega
   .have:=zg.1 hc r lh;rw[hq] at this;simp only[zy,zF,Nat.beq_refl,wh,zw,or_false] at this;omega
   .have:=zg.1 hc r lh;rw[hq] at this;simp only[zy,zF,Nat.beq_refl,wh,zw,false_or] at this
    grind [Nat.eq_of_beq_eq_true]
  cases e:r.2 with
  |none =>
   rw[e] at ak;have bI:mk=true:=by
    simp only[zy,z8,LJ,Q9g] at hc;rcases hc with (⟨hc,_⟩|hc)|⟨_,hc⟩
    .exact hc
    .have:=zg.1 hc r lh;rw[e] at this;simp only[zy,zF,zw,or_false] at this;omega
    .have:=zg.1 hc r lh;rw[e] at this;simp only[zy,zF,zw,or_false] at this;omega
   exactλZ ht=>ak Z ((hm bI).trans ht)
  |some q =>
   rw[e] at ak;obtain⟨k1,i,b,k2,k3,k4⟩:=ak;by_cases nL:q / 2=T
   .obtain⟨ho,he⟩:=hq q e nL;obtain⟨g1,g2,i',es,c,bF,c',g3,g4,g5,g6⟩:=hE he;obtain⟨k5,k6⟩:=k4;obtain⟨vP,c0,wr,rfl,k7⟩:=k6 ho;rw[nL] at k1 k2;have hi:i=i':=Q2h (by rw[g3];rfl) k2;subst hi;rw[g4] at k3;cases k3;refine⟨by rw[nL];exact g1,i,_,by rw[nL,g2];exact k2,g5,λZ hτ=>k7 Z _ _ g6 hτ,λ_=>⟨_,_,_,rfl,λZ tZ vQ hl hτ=>k7 Z _ _ (g6.trans hl) hτ⟩⟩
   .obtain⟨f1,f2,f3⟩:=hf (q / 2) nL;exact⟨by rw[f1];exact k1,i,b,by rw[f2];exact k2,by rw[f3 k1 i k2];exact k3,k4⟩
 have now:∀ Q:Heap->Prop,∀ r,Q07 U' s'.own pl' Q r->Q U':=λQ r ak=>by
  unfold Q07 at ak;split at ak
  .exact ak U' (.refl _)
  grind
 refine⟨K3 λc hc hle=>?_,⟨by simp[h.len],λj Z hj ht=>?_,λc hc=>?_,λj Z q i ht hu cG hi=>?_⟩⟩
 .rw[h.len] at hle;rcases h.pend c hc with h1|⟨r,h1,h2,h3⟩
  .omega
  grind
 .rcases Xs ht with⟨h1,_⟩|⟨_,h1⟩
  .rw[h.len] at h1;omega
  .exact h1
 .rcases h.pend c hc with h1|⟨r,h1,h2,h3⟩
  .exact .inl (by omega)
  grind
 .rcases Xs ht with⟨h1,h2⟩|⟨_,rfl⟩
  .rw[h.len] at h1;obtain⟨⟨t,ht,t_⟩,de⟩:=Li hu (by simp only;omega);obtain rfl:=osj ht;obtain⟨f1,f2,f3⟩:=hf q (Ne.symm t_);rw[f1] at cG;rw[f2] at hi;rw[f3 cG i hi];exact h.fr j Z q i h2 de cG hi
  .rfl
theorem Bo {ts:List Nat}{hl j q:Nat}{A:List (Nat×Option Nat)}(h:Zz (ts.map (λt=>(hl,some t))++A) j q=true) (hj:j<=hl):q∉ts/\Zz A j q=true:=by simp only[Zz,List.all_append,z8] at h |-;refine⟨λhm=>?_,h.2⟩;have:=zg.1 h.1 (hl,some q) (zB.2 ⟨q,hm,rfl⟩);simp only[zy,zF,Nat.beq_refl,wh,zw,or_false] at this;omega
theorem DSt.call {hs:List Heap}{U U':Heap}{pend:List (Nat×(Heap->Prop))}{hl chg:Nat}{A R:List (Nat×Option Nat)}{s s':St}{pl pl':Nat->Value}(h:DSt hs U pend hl chg A R s.own pl) (hle:U.Le U') {Ts:List Nat}(hf:FrL Ts s s' pl pl' U U') (bj:0<hl) :
  Xa hs.length U' pend/\DSt (hs++[U']) U' pend (hl+1) hl (Ts.map (λt=>(hl-1,some t))++A) (R.map λr=>(r.1,none)) s'.own pl':=by
 have hr:∀ Q r,Q07 U s.own pl Q r->∀ Z,U'.Le Z->Q Z:=λQ r ak Z ht=>by
  unfold Q07 at ak;split at ak
  .exact ak Z (hle.trans ht)
  .obtain⟨_,i,b,_,h2,h3,_⟩:=ak;exact h3 Z (ht.2 _ _ (hle.2 _ _ h2))
 refine⟨K3 λc hc hle=>?_,⟨by simp[h.len],λj Z hj ht=>?_,λc hc=>?_,λj Z q i ht hu cG hi=>?_⟩⟩
 .rcases h.pend c hc with h1|⟨r,h1,_,h2⟩
  .rw[h.len] at hle;omega
  .exact hr _ _ h2 _ (.refl _)
 .rcases Xs ht with⟨h1,_⟩|⟨_,h1⟩
  .rw[h.len] at h1;omega
  .exact h1
 .rcases h.pend c hc with h1|⟨r,h1,h2,h3⟩
  .exact .inl (by omega)
  .exact .inr ⟨(r.1,none),zB.2 ⟨r,h1,rfl⟩,h2,hr _ _ h3⟩
 .rcases Xs ht with⟨h1,h2⟩|⟨_,rfl⟩
  .rw[h.len] at h1;obtain⟨hq,de⟩:=Bo hu (by omega);obtain⟨f1,f2,f3⟩:=hf q hq;rw[f1] at cG;rw[f2] at hi;rw[f3 cG i hi];exact h.fr j Z q i h2 de cG hi
  .rfl
theorem DSt.writeD {hs:List Heap}{U U':Heap}{pend:List (Nat×(Heap->Prop))}{hl chg:Nat}{A R:List (Nat×Option Nat)}{s s':St}{pl pl':Nat->Value}(h:DSt hs U pend hl chg A R s.own pl) {Ts:List Nat}(hf:FrL Ts s s' pl pl' U U') {mk:Bool}(hm:mk=true->U.Le U')
  (hc:OU mk R hl Ts=true) (bj:0<hl):Xa hs.length U' pend/\DSt (hs++[U']) U' pend (hl+1) hl (Ts.map (λt=>(hl-1,some t))++A) R s'.own pl':=by
 have hr:∀ Q:Heap->Prop,∀ r∈R,hl<=r.1->Q07 U s.own pl Q r.2->Q07 U' s'.own pl' Q r.2:=λQ r lh cy ak=>by
  have lj:=zg.1 hc r lh;have lj:(match r.2 with|some q=>Ts.all (λt=>!(Nat.beq (q / 2) t))|none=>mk)=true:=by rw[zy,zF] at lj;exact lj.resolve_left (by omega)
  cases e:r.2 with
  |none =>rw[e] at ak lj;exactλZ ht=>ak Z ((hm lj).trans ht)
  |some q =>
   rw[e] at ak lj;obtain⟨k1,i,b,k2,k3,k4⟩:=ak;obtain⟨f1,f2,f3⟩:=hf (q / 2) λhq=>by have:=zg.1 lj (q / 2) hq;simp at this
   exact⟨by rw[f1];exact k1,i,b,by rw[f2];exact k2,by rw[f3 k1 i k2];exact k3,k4⟩
 have now:∀ Q:Heap->Prop,∀ r,Q07 U' s'.own pl' Q r->Q U':=λQ r ak=>by
  unfold Q07 at ak;split at ak
  .exact ak U' (.refl _)
  grind
 refine⟨K3 λc hc hle=>?_,⟨by simp[h.len],λj Z hj ht=>?_,λc hc=>?_,λj Z q i ht hu cG hi=>?_⟩⟩
 .rw[h.len] at hle;rcases h.pend c hc with h1|⟨r,h1,h2,h3⟩
  .omega
  grind
 .rcases Xs ht with⟨h1,_⟩|⟨_,h1⟩
  .rw[h.len] at h1;omega
  .exact h1
 .rcases h.pend c hc with h1|⟨r,h1,h2,h3⟩
  .exact .inl (by omega)
  grind
 .rcases Xs ht with⟨h1,h2⟩|⟨_,rfl⟩
  .rw[h.len] at h1;obtain⟨hq,de⟩:=Bo hu (by omega);obtain⟨f1,f2,f3⟩:=hf q hq;rw[f1] at cG;rw[f2] at hi;rw[f3 cG i hi];exact h.fr j Z q i h2 de cG hi
  .rfl
theorem Lf {hl d j q:Nat}{A:List (Nat×Option Nat)}(h:Zz ((hl,none)::A) j q=true):Zz ([d].map (λt=>(hl,some t))++A) j q=true:=by simp only[Zz,zQ,z8,zy,zw,or_false,zJ,List.map_nil,xu,xN] at h |-;exact⟨.inl h.1,h.2⟩
theorem DSt.frozen {hs:List Heap}{U:Heap}{pend:List (Nat×(Heap->Prop))}{hl chg m d:Nat}{A R:List (Nat×Option Nat)}{own:Own}{pl:Nat->Value}(h:DSt hs U pend hl chg ([d].map (λt=>(m,some t))++A) R own pl):DSt hs U pend hl chg ((m,none)::A) R own pl :=
 ⟨h.len,h.same,h.pend,λj Z q i ht hu=>h.fr j Z q i ht (Lf hu)⟩
theorem Tl {ts:List Nat}{m j:Nat}{A:List (Nat×Option Nat)}(h:H4 (ts.map (λt=>(m,some t))++A) j=true):H4 A j=true:=by simp only[H4,List.all_append,z8] at h;exact h.2
theorem RR {a:Nat×Option Nat}{j:Nat}{A:List (Nat×Option Nat)}(h:H4 (a::A) j=true):H4 A j=true:=by simp only[H4,zQ,z8] at h;exact h.2
theorem Lu {C:Cx}{f:SV}{args:List SV}{cs:List Prop}{v:SV}(h:Q3w C f args=some (cs,v)):∃ c ty k xs nl,VT C.cs f args=some (c,.lst 0,[.lst ty k xs nl])/\cs=[c,nl=true->xs=[]]/\v=.val (.list k) xs/\k.flat=true/\0<C.nt:=by
 unfold Q3w at h;split at h
 .rename_i heq;split at h
  .rename_i k xs nl;cases hc:(k.flat&&Nat.blt 0 C.nt) with
   |false=>rw[hc] at h;cases h
   |true =>rw[hc] at h;obtain⟨rfl,rfl⟩:=Zh h;simp only[z8,zF] at hc;exact(by grind)
  .cases h
 .cases h
theorem EM {b:OB}(h:b.here=true):b.live=true:=by cases b<;>first|rfl|cases h
theorem Ki {B F:Heap}{pl:Nat->Value}{tb:Nat->Option Bool}{s:St}{env:Env}{U:Heap}(hG:Gam P B F pl tb s env U) {o:VOp}{q:Nat}(h:M_ o (gev [] s.env) s.own=some q) {u:Value}{σ2:Heap}(hv:Q7 o (Q4 env) U=some (u,σ2)) :
  (Qa s.own (q / 2)).live=true/\∃ i b,Oid (pl (q / 2)) i/\U.get i=some b/\(∀ Z,Z.get i=some b->Q7 o (Q4 env) Z=some (u,Z))/\(q % 2=1->∃ es c wr,b=.obj (.map es c) wr/\∀ Z bF c',LkE es bF->Z.get i=some (.obj (.map bF c') wr)->Q7 o (Q4 env) Z=some (u,Z)):=by
 have two:∀ q,2*q / 2=q:=λq=>by omega
 have nM:∀ q,(2*q+1) / 2=q:=λq=>by omega
 have odd:∀ {q} {X:Prop},2*q % 2=1->X:=λ{q X} h=>by omega
 unfold M_ at h;split at h
 .rename_i agg size a;have ha:=hG.evs (Gds.nil (tb:=tb)) a;have key:∀ q i off,(Qa s.own q).live=true->Oid (pl q) i->Q4 env a=.pointer (some ⟨i,off,none⟩)->(Qa s.own q).live=true/\∃ i b,Oid (pl q) i/\U.get i=some b/\∀ Z,Z.get i=some b->Q7 (.load agg size a) (Q4 env) Z=some (u,Z):=λq i off hl hi he=>by
   simp only[Q7,he] at hv;cases hb:U.get i with
   |none=>rw[hb] at hv;cases hv
   |some b =>
    refine⟨hl,i,b,hi,hb,λZ ht=>?_⟩;rw[hb] at hv;simp only[Q7,he,ht];cases b with
    |obj o wr=>cases hv
    |cells c e wr t =>
     simp only at hv |-;split at hv
     .obtain⟨rfl,rfl⟩:=Zh hv;rfl
     .cases hv
  split at h
  .rename_i q' off hx;rw[hx] at ha;simp only[SR] at ha;obtain⟨b,h1,h2⟩:=ha;cases hh:(Qa s.own q').here with
   |false=>rw[hh] at h;cases h
   |true =>rw[hh] at h;obtain rfl:=osj h;obtain⟨x1,y1,y2,y3,y4,y5⟩:=key q' b off (EM hh) (by rw[h1];rfl) h2;exact⟨by rw[two];exact x1,y1,y2,by rw[two];exact y3,y4,y5,odd⟩
  .rename_i q' i off sz hx;rw[hx] at ha;simp only[SR] at ha;obtain⟨b,len,cap,h1,h2,h3,h4⟩:=ha;cases hh:(Qa s.own q').here with
   |false=>rw[hh] at h;cases h
   |true =>rw[hh] at h;obtain rfl:=osj h;obtain⟨x1,y1,y2,y3,y4,y5⟩:=key q' b _ (EM hh) (by rw[h1];rfl) h4;exact⟨by rw[two];exact x1,y1,y2,by rw[two];exact y3,y4,y5,odd⟩
  .cases h
 .rename_i mk z x y;cases aY:stP mk z with
  |false=>rw[aY] at h;cases h
  |true =>
   rw[aY] at h;simp only[zi] at h;obtain⟨rfl,rfl⟩:=Q3x aY;split at h
   .rename_i q' hx;split at h
    .rename_i kk vk l ho;obtain rfl:=osj h;have ha:=hG.evs (Gds.nil (tb:=tb)) x;rw[hx] at ha;simp only[SR] at ha;have aj:=hG.obj q';rw[ho] at aj;obtain⟨id,es,c,h2,h3,_⟩:=aj;have aA:∀ (Z:Heap) bF c' wr,Z.get id=some (.obj (.map bF c') wr)->Z.mapAt id=some (bF,c',wr):=λZ bF c' wr hτ=>by simp[Heap.mapAt,hτ]
     simp only[Q7,ZA,ha.1,h2,aA _ _ _ _ h3] at hv;refine⟨by rw[nM,ho];rfl,id,_,by rw[nM,h2];rfl,h3,λZ hτ=>?_,λ_=>⟨es,c,true,rfl,λZ bF c' hl hτ=>?_⟩⟩
     .simp only[Q7,ZA,ha.1,h2,aA _ _ _ _ hτ]
      grind
     .simp only[Q7,ZA,ha.1,h2,aA _ _ _ _ hτ];split at hv
      .rename_i iE;split at hv
       .rename_i iF;rw[z6 iE,z6 (hl.1 iF)];have bW:=hl.2 iF _ iE;cases he:Qf (Q4 env y) es with
        |some e =>
         rw[he] at hv bW;obtain⟨rfl,rfl⟩:=Zh hv;cases hm:Qf (Q4 env y) bF with
         |some e'=>rw[hm] at bW;simp only[Q7t] at bW;simp[bW]
         |none=>rw[hm] at bW;simp only[Q7t] at bW;simp[<-bW]
        |none =>
         rw[he] at hv bW;obtain⟨rfl,rfl⟩:=Zh hv;cases hm:Qf (Q4 env y) bF with
         |some e'=>rw[hm] at bW;simp only[Q7t] at bW;simp[bW]
         |none=>rfl
       .cases hv
      .cases hv
    .cases h
   .cases h
 .rename_i sz x lo hi;split at h
  .rename_i q' hx;split at h
   .rename_i ty k xs nl ho;cases nl with
    |true=>cases h
    |false =>
     obtain rfl:=osj h;have ha:=hG.evs (Gds.nil (tb:=tb)) x;rw[hx] at ha;simp only[SR] at ha;have aj:=hG.obj q';rw[ho] at aj;rcases aj with⟨h0,_⟩|⟨_,i,cap,c,t,h3,h4,h5,h6,h7⟩
     .cases h0
     .refine⟨by rw[two,ho];rfl,i,_,by rw[two,h3];rfl,h5,λZ hτ=>?_,odd⟩;simp only[Q7,ha.1,h3] at hv |-;cases e1:Jg (Q4 env) lo 0 with
      |none=>rw[e1] at hv;cases hv
      |some a =>
       cases e2:Jg (Q4 env) hi xs.length with
       |none=>rw[e1,e2] at hv;cases hv
       |some b =>
        rw[e1,e2] at hv;simp only[WU,h5] at hv;simp only[WU,hτ];split at hv
        .simp_all
        .cases hv
   .cases h
  .cases h
 .cases h
theorem Gm {r:Nat}{U:Heap}:∀ {l:List (Nat×(Heap->Prop))},Xa r U l->∀ {c},c∈l->r<=c.1->c.2 U
 |c::l,h,c',hc,hr=>by
  rcases zA.1 hc with rfl|hc
  .exact h.1 hr
  .exact Gm h.2 hc hr
theorem Gn {B F:Heap}{pl:Nat->Value}{tb:Nat->Option Bool}{s:St}{env:Env}{U:Heap}(hG:Gam P B F pl tb s env U) {gs:List Gd}(hg:Gds tb gs) {o:VOp}(h:Q9l o (gev gs s.env)=true) {u:Value}{σ2:Heap}(hv:Q7 o (Q4 env) U=some (u,σ2)) :
  ∀ Z,B.Le Z->Q7 o (Q4 env) Z=some (u,Z):=by
 unfold Q9l at h;split at h
 .rename_i agg size a;have ha:=hG.evs hg a;have key:∀ i off,(∃ b,B.get i=some b)->Q4 env a=.pointer (some ⟨i,off,none⟩)->∀ Z,B.Le Z->Q7 (.load agg size a) (Q4 env) Z=some (u,Z):=λi off ⟨b,hb⟩ he Z hτ=>by
   simp only[Q7,he,hG.leB.2 _ _ hb] at hv;simp only[Q7,he,hτ.2 _ _ hb]
   grind
  split at h
  .rename_i k l i off hx;rw[hx] at ha;simp only[SR] at ha
   grind
  .rename_i l off hx;rw[hx] at ha;simp only[SR] at ha
   grind
  .cases h
 .cases h
theorem Q1w {C:Cx}{B F:Heap}{pl:Nat->Value}{tb:Nat->Option Bool}{s:St}{env:Env}{U:Heap}(hG:Gam P B F pl tb s env U) {d:Nat}{o:VOp}{K:SV->St->Prop}(h:gn C d o (gev [] s.env) s K) (hc:IP o=false) :
  ∃ u U' pl' v s',Q7 o (Q4 env) U=some (u,U')/\K v s'/\(Gam P B F pl' tb s' env U'/\Fr (QT d o (gev [] s.env)) s s' pl pl' U U')/\SR P B pl' tb v u /\
  (LZ o=true->(Qa s'.own (QT d o (gev [] s.env))).live=true/\pl' (QT d o (gev [] s.env))=pl (QT d o (gev [] s.env))/\∃ i es c bF c',pl (QT d o (gev [] s.env))=.map (some i)/\U.get i=some (.obj (.map es c) true)/\U'.get i=some (.obj (.map bF c') true)/\LkE es bF):=by
 cases he:LZ o with
 |false =>obtain⟨u,U',pl',v,s',h1,h2,h3,h4⟩:=Z2w hG h hc;exact(by grind)
 |true =>
  unfold LZ at he;split at he
  .rename_i mk z m kx;obtain⟨rfl,rfl⟩:=Q3x he;obtain⟨u,U',v,s',T,kv,aW,i,es,c,rfl,h1,h2,h3,h4,h5,h6,h7,h8,h9,bQ,gp⟩:=RL (hG.evs (Gds.nil (tb:=tb))) hG h;refine⟨u,U',pl,v,s',h1,h2,h3,h4,λ_=>⟨h5,rfl,i,es,c,_,_,h6,h7,h8,?_⟩⟩;have:aW=Q7t (Qf kv es):=by rw[gp];cases Qf kv es<;>rfl
   rw[this];exact Q2t h9
  .cases he
def Jr (S:VSpecs):List DOper->Env->List Heap->Heap->List (Nat×(Heap->Prop))->(Env->Heap->Prop)->Prop
 |[],env,_,U,_,K=>K env U
 |o::rest,env,hs,U,pend,K=>QV (Jl env o.guard) λb =>
   vif b (if o.kind=2 then B3 (λR=>vop S o.op env U R) λv U'=>Xa hs.length U' pend/\Jr S rest (X6 env o.dst v) (hs++[U']) U' pend K
     else if o.kind=1 then QV (Q7 o.op (Q4 env) U) λp=>(∀ Z∈hs.drop o.kmin,X9 o.op (Q4 env) p.1 Z) /\
      Jr S rest (X6 env o.dst p.1) hs U (if hs.length<=o.kmax then (o.kmax,X9 o.op (Q4 env) p.1)::pend else pend) K
     else QV (Q7 o.op (Q4 env) U) λp=>Jr S rest (X6 env o.dst p.1) hs U pend K)
    (if o.kind=2 then Xa hs.length U pend/\Jr S rest (X6 env o.dst undef) (hs++[U]) U pend K else Jr S rest (X6 env o.dst undef) hs U pend K)
theorem RQ {α:Type}{o:Option α}{f g:α->Prop}(h:QV o f) (ua:∀ a,f a->g a):QV o g:=by
 cases o with
 |none=>exact h.elim
 |some a=>exact ua a h
theorem Yf {S:VSpecs}{K:Env->Heap->Prop}:∀ {ops:List DOper}{env:Env}{hs:List Heap}{U:Heap}{pend:List (Nat×(Heap->Prop))},Jr S ops env hs U pend K->ZI S ops env hs U pend K
 |[],_,_,_,_,h=>h
 |o::r,env,hs,U,pend,h=>by
  simp only[Jr] at h;simp only[ZI];refine RQ h λb h=>⟨λe=>?_,λe=>?_⟩
  .have h:=h.1 e;split at h
   .rename_i hk;rw[z6 hk];obtain⟨v,U',h1,h2,h3⟩:=h;exact .inl ⟨v,U',h1,h2,Yf h3⟩
   .rename_i hk;rw[z0 hk];split at h
    .rename_i bg;rw[z6 bg];exact RQ h λp h=>⟨h.1,Yf h.2⟩
    .rename_i bg;rw[z0 bg];exact RQ h λp h=>Yf h
  .have h:=h.2 e;split at h
   .rename_i hk;rw[z6 hk];exact⟨h.1,Yf h.2⟩
   .rename_i hk;rw[z0 hk];exact Yf h
theorem Qq {C:Cx}(az:COk P C) (bq:C.xs=[]) {B0 F0 D0:Heap}:∀ (ops:List DOper),(∀ o∈ops,o.kind=o.op.kind)->∀ {s:St}{env:Env}{U:Heap}{B F:Heap}{pl:Nat->Value}{tb:Nat->Option Bool},GBase B0 F0 D0 B F U->Gam P B F pl tb s env U->∀ {hl chg:Nat}{A Rd:List (Nat×Option Nat)}{hs:List Heap}{pend pd:List (Nat×(Heap->Prop))},DSt hs U pd hl chg A Rd s.own pl->(∀ c∈pend,(∀ Z,B.Le Z->c.2 Z)\/c∈pd)->(∀ j Z,hs[j]?=some Z->H4 A j=true->B.Le Z)->chg<=hl->0<hl ->
  ∀ {K:St->Prop},XP C ops s hl chg A Rd K->∀ {R:Env->Heap->Prop},(∀ s' ae U',K s'->GRel P B0 F0 D0 s' ae U'->R ae U')->Jr (Q3 P) ops env hs U pend R
 |[],_,s,env,U,B,F,pl,tb,hB,hG,_,_,_,_,_,_,_,_,_,_,_,_,K,h,R,hK=>hK s env U h ⟨B,F,pl,tb,hB,hG⟩
 |o0::r,ie,s,env,U,B,F,pl,tb,hB,hG,hl,chg,A,Rd,hs,pend,pd,hD,hp,bT,dx,bj,K,h,R,hK=>by
  have d_:∀ {n:Nat}{Z:Heap},B.Le Z->Xa n Z pd->Xa n Z pend:=λ{n Z} hb hv=>K3 λc hc hn=>(by grind [Gm]);have snoc:∀ {Z:Heap}{A':List (Nat×Option Nat)},B.Le Z->(∀ j,H4 A' j=true->H4 A j=true)->∀ j Z',(hs++[Z])[j]?=some Z'->H4 A' j=true->B.Le Z':=(by grind);have bV:∀ o∈r,o.kind=o.op.kind:=(by simp_all);have lk:=ie o0 zp;unfold XP at h;split at h
  .rename_i aY;have hw:=Ky hG aY;simp only[Jr];rw[hw];refine⟨λe=>(by cases e),λ_=>?_⟩;have a7:=hG.put o0.dst (show SR P B pl tb .any undef by simp[SR]);by_cases au:o0.kind=2
   .rw[z6 au] at h |-;obtain⟨k1,k2⟩:=hD.stay;exact⟨d_ hG.leB k1,Qq az bq r bV hB a7 (by rw[Zy];exact k2) hp (snoc hG.leB λ_ h=>h) (by omega) (by omega) h hK⟩
   .rw[z0 au] at h |-;exact Qq az bq r bV hB a7 (by rw[Zy];exact hD) hp bT dx bj h hK
  have bC:(Q06 s.env o0).kind=(Q06 s.env o0).op.kind:=by unfold Q06;split<;>exact lk
  have cL:Jr (Q3 P) (Q06 s.env o0::r) env hs U pend R->Jr (Q3 P) (o0::r) env hs U pend R:=λhv=>by
   unfold Q06 at hv;split at hv
   .rename_i aY;simp only[Jr] at hv |-;rw[Ky hG aY];exact hv
   .exact hv
  refine cL ?_;clear cL;generalize Q06 s.env o0=o at h bC |-
  replace h:=id h
  simp only[Jr];by_cases au:o.kind=2
  .rw[z6 au] at h
   have fin:∀ {u:Value}{U':Heap}{ts:List Nat}{v:SV}{s':St}{pl':Nat->Value},(∀ R',R' u U'->vop (Q3 P) o.op env U R')->XP C r (s'.put o.dst v) (hl+1) (bif ts.isEmpty then chg else hl) (ts.map (λt=>(hl-1,some t))++A) (bif ts.isEmpty then Rd else Rd.map λr=>(r.1,none)) K->Gam P B F pl' tb s' env U'->SR P B pl' tb v u->(ts=[]->U'=U/\pl'=pl/\s'=s)->U.Le U'->Dead U U'->FrL ts s s' pl pl' U U' ->
     B3 (λR=>vop (Q3 P) o.op env U R) λv U'=>Xa hs.length U' pend/\Jr (Q3 P) r (X6 env o.dst v) (hs++[U']) U' pend R:=λ{u U' ts v s' pl'} bz nN a8 iK he hle hd cY=>by
    cases ts with
    |nil =>obtain⟨rfl,rfl,rfl⟩:=he rfl;obtain⟨k1,k2⟩:=hD.stay;exact⟨u,U',bz _ ⟨rfl,rfl⟩,d_ a8.leB k1,Qq az bq r bV (MB hB hd) (a8.put o.dst iK) (by rw[Zy];exact k2) hp (snoc a8.leB λ_ h=>h) (by grind) (by omega) nN hK⟩
    |cons t ts =>obtain⟨k1,k2⟩:=hD.call hle cY bj;exact⟨u,U',bz _ ⟨rfl,rfl⟩,d_ a8.leB k1,Qq az bq r bV (MB hB hd) (a8.put o.dst iK) (by rw[Zy];exact k2) hp (snoc a8.leB λ_ h=>Tl h) (by simp_all) (by omega) nN hK⟩
   split at h
   .rename_i f args bz;split at h
    .rename_i hg;rw[hg];refine⟨λ_=>?_,λe=>by cases e⟩;rw[z6 au];rw[bq] at h;simp only[QF] at h;obtain⟨g,a,b,u,U',e,v,s',pl',h1,h2,h3,h4,h5,h6,h7,h8,h9⟩:=Wa az hG h (show SR P U Xd Ji (.fn f [] []) (.func (.func f) #[] #[]) by simp only[SR,SRs];exact⟨[],[],rfl,rfl,rfl⟩) (hG.gcall Gds.nil args);obtain⟨rfl,rfl,rfl⟩:=(by simpa using h1:f=g/\#[]=a/\#[]=b);refine fin (u:=u) (U':=U') (λR' hr=>?_) h3 h4 h5 h6 h7 h8 h9;rw[bz];show VCalled P f (args.map (Q4 env)) U R';have:=h2.mono (R':=R') (by simp_all);simpa using this
    .rename_i j want hg;rw[hg];split at h
     .exact h.elim
     .rename_i gs s1 dB;obtain⟨tb',a8,di,b,hw,bE,a_⟩:=W8 hG dB;have aL:=Kp dB;rw[hw];split at h
      .rename_i cs v dj;cases cO:VU v with
       |false=>rw[cO] at h;exact h.elim
       |true =>
       rw[cO] at h;simp only[zi] at h;obtain⟨h1,h2⟩:=ZF h;obtain⟨k1,k2⟩:=hD.stay;have ld:∀ x,DSt (hs++[U]) U pd (hl+1) chg A Rd (s1.put o.dst x).own pl:=(by grind [Zy]);refine⟨λe=>?_,λe=>?_⟩
       .rw[z6 au];have gd:Gds tb' gs:=λg hg=>⟨bE e g hg,di g hg⟩;have ll:∀ {v u},SR P B pl tb' v u->SR P B pl tb' (.grd gs (He v)) u:=λ{v u} hs=>by
         simp only[SR]
         grind [Tj]
        simp only[gqc] at dj;split at dj
        .rename_i c v' heq;cases cz:v'.ret 0 with
         |false=>rw[cz] at dj;cases dj
         |true =>
          rw[cz] at dj;obtain⟨rfl,rfl⟩:=Zh dj;obtain⟨g,a,b',h3,h4,_⟩:=J4 az.cs (show SR P U Xd Ji (.fn f [] []) (.func (.func f) #[] #[]) by simp only[SR,SRs];exact⟨[],[],rfl,rfl,rfl⟩) (a8.gcall gd args) heq cz rfl (h2 (bE e) _ (by simp));obtain⟨rfl,rfl,rfl⟩:=(by simpa using h3:f=g/\#[]=a/\#[]=b');refine⟨VG Xd v',U,?_,d_ hG.leB k1,Qq az bq r bV hB (a8.put o.dst (ll ?_)) (ld _) hp (snoc hG.leB λ_ h=>h) (by omega) (by omega) (ZC h1) hK⟩
          .rw[bz];show VCalled P f (args.map (Q4 env)) U _;have:=h4.mono (R':=λu U'=>u=VG Xd v'/\U'=U) λu U' hr=>by
            obtain⟨rfl,hu⟩:=hr.flat cz
            grind [Un]
           simpa using this
          .exact SR.retd (λj hj=>by omega) _ _ cz (CT (P:=P) (pl:=Xd) (m:=0) (λj hj=>by omega) v' cz cO)
        .cases dj
       .rw[z6 au];obtain⟨g,dq,aB⟩:=a_ e;exact⟨d_ hG.leB k1,Qq az bq r bV hB (a8.put o.dst (by simp only[SR];exact⟨⟨di,Tn v⟩,λhall=>absurd (hall g dq) aB,λ_=>trivial⟩)) (ld _) hp (snoc hG.leB λ_ h=>h) (by omega) (by omega) (ZC h1) hK⟩
      .split at h
       .rename_i cs v j8;obtain⟨c,ty,k,xs,nl,heq,rfl,rfl,hk,dZ⟩:=Lu j8;obtain⟨h1,h2⟩:=ZF h;have frz:∀ {B' U':Heap},B'.Le U'->∀ j Z',(hs++[U'])[j]?=some Z'->H4 ((hl-1,none)::A) j=true->B'.Le Z':=λ{B' U'} hb j Z' hm hn=>by
         rcases Xs hm with⟨h1,_⟩|⟨_,rfl⟩
         .simp only[H4,zQ,z8,zy,zF,Option.isSome_none,zw,or_false] at hn;have:=hD.len;omega
         .exact hb
        refine⟨λe=>?_,λe=>?_⟩
        .rw[z6 au];have gd:Gds tb' gs:=λg hg=>⟨bE e g hg,di g hg⟩;have iE:=h2 (bE e) c (by simp);have iF:=h2 (bE e) (nl=true->xs=[]) (by simp);have dB:GO C (C.off+o.dst.getD 0) (.fn f [] []) (PT s1.own (args.map (gev gs s1.env))) s1 (λts v' s'=>ts=[C.off+o.dst.getD 0]/\v'=.lst (C.off+o.dst.getD 0)/\s'=s1.make (C.off+o.dst.getD 0) (.lst ty k xs nl)):=by
          unfold GO;rw[heq];dsimp only;have af:(SV.ret [OB.lst ty k xs nl].length (.lst 0)&&([OB.lst ty k xs nl].all OB.ret&&(Nat.blt 0 C.nt&&([OB.lst ty k xs nl].all OB.isL&&VU (.lst 0)))))=true:=by
           simp only[SV.ret,xF,zQ,List.all_nil,xU,OB.ret,hk,Bool.true_and,OB.isL,VU];rw[z8]
           grind [Nat.blt_eq]
          rw[af];simp only[zi,Q3v,OB.wf];refine⟨iE,iF,?_,?_,?_⟩
          .simp[List.range_succ]
          .simp[SV.ren]
          .simp[St.makes]
         obtain⟨g,a,b',u,U',ts,v',s',pl',h3,h4,⟨rfl,rfl,rfl⟩,h5,h6,_,h7,h8,h9⟩:=Wa az a8 dB (show SR P U Xd Ji (.fn f [] []) (.func (.func f) #[] #[]) by simp only[SR,SRs];exact⟨[],[],rfl,rfl,rfl⟩) (a8.gcall gd args);obtain⟨rfl,rfl,rfl⟩:=(by simpa using h3:f=g/\#[]=a/\#[]=b');obtain⟨B',F',m1,m2,m3⟩:=Ag a8.bf hk h5 h6 h8;have cY:FrL [C.off+o.dst.getD 0] s ((s1.make (C.off+o.dst.getD 0) .dead).put o.dst (.grd gs (.val (.list k) xs))) pl pl' U U':=λq hq=>by
          obtain⟨f1,f2,f3⟩:=h9 q hq
          grind [Zy,Uh]
         obtain⟨k1,k2⟩:=hD.call h7 cY bj;refine⟨u,U',?_,d_ (m1.b.trans m2.leB) k1,Qq az bq r bV (hB.trans m1) (m2.put o.dst ?_) k2.frozen (λc hc=>(hp c hc).imp (λh Z hτ=>h Z (m1.b.trans hτ)) id) (frz m2.leB) (by omega) (by omega) h1 hK⟩
         .rw[bz];show VCalled P f (args.map (Q4 env)) U _;simpa using h4
         .simp only[SR];exact⟨⟨di,trivial⟩,λ_=>m3,(by grind)⟩
        .rw[z6 au];obtain⟨g,dq,aB⟩:=a_ e;have cY:FrL [C.off+o.dst.getD 0] s ((s1.make (C.off+o.dst.getD 0) .dead).put o.dst (.grd gs (.val (.list k) xs))) pl (JH pl (C.off+o.dst.getD 0) undef) U U:=λq hq=>by
          have cu:q≠C.off+o.dst.getD 0:=by simpa using hq
          refine⟨?_,by simp[JH,cu],λ_ _ _=>rfl⟩;rw[Zy,Uh _ _ _ cu,aL]
         obtain⟨k1,k2⟩:=hD.call (.refl U) cY bj;refine⟨d_ hG.leB k1,Qq az bq r bV hB ((a8.make (C.off+o.dst.getD 0) .dead undef a8.le (λ_ _ _ _ _=>rfl) trivial (λi hl _=>by cases hl)).put o.dst ?_) k2.frozen hp (frz hG.leB) (by omega) (by omega) h1 hK⟩;simp only[SR];exact⟨⟨di,trivial⟩,λhall=>absurd (hall g dq) aB,λ_=>trivial⟩
       .exact h.elim
   .rename_i f args bz;split at h
    .rename_i hg;rw[hg];refine⟨λ_=>?_,λe=>by cases e⟩;rw[z6 au];obtain⟨g,a,b,u,U',e,v,s',pl',h1,h2,h3,h4,h5,h6,h7,h8,h9⟩:=Wa az hG h (hG.gfun Gds.nil f) (hG.gcall Gds.nil args);refine fin (u:=u) (U':=U') (λR' hr=>?_) h3 h4 h5 h6 h7 h8 h9;rw[bz];exact Mi h1 (h2.mono (R':=R') (by simp_all))
    .exact h.elim
   .exact h.elim
   .exact h.elim
   .rename_i qo oL qp jj;split at h
    .rename_i hg;rw[hg];refine⟨λ_=>?_,λe=>by cases e⟩;rw[z6 au];have aD:IP o.op=false:=by
      cases ho:o.op<;>first|rfl|(exact absurd ho (qo _ _))|(exact absurd ho (oL _ _))|skip
      case ext x=>cases x<;>first|rfl|(exact absurd ho (qp _))|(exact absurd ho (jj _))
     cases j7:Ea C (o.dst.getD 0) o.op (gev [] s.env) with
     |true =>
      rw[j7] at h;simp only[zi] at h;cases hm:OU (Ru o.op) Rd hl (E7 (C.off+o.dst.getD 0) o.op (gev [] s.env)) with
      |false=>rw[hm] at h;exact h.elim
      |true =>
       rw[hm] at h;simp only[zi] at h;obtain⟨u,U',pl',v,s',h1,h2,⟨h3,iJ⟩,h4⟩:=S8 (λx=>hG.evs (Gds.nil (tb:=tb)) x) hG h;have fI:∀ R',R' u U'->vop (Q3 P) o.op env U R':=λR' hr=>by
        have:vop (Q3 P) o.op env U R'=QV (Q7 o.op (Q4 env) U) λp=>R' p.1 p.2:=by
         cases ho:o.op with
         |callF f a=>rw[ho] at aD;cases aD
         |callV f a=>rw[ho] at aD;cases aD
         |ext x =>
          cases x with
          |nextMap y=>rw[ho] at h1;cases h1
          |_=>rfl
         |_=>rfl
        rw[this,h1];exact hr
       obtain⟨k1,k2⟩:=hD.writeD iJ (λbI=>Am bI h1) hm bj;exact⟨u,U',fI _ ⟨rfl,rfl⟩,d_ h3.leB k1,Qq az bq r bV (MB hB (V7 h1)) (h3.put o.dst h4) (by rw[Zy];exact k2) hp (snoc h3.leB λ_ h=>Tl h) (by omega) (by omega) h2 hK⟩
     |false =>
     rw[j7] at h;simp only[zP] at h;cases hm:((Ru o.op&&EC Rd hl (QT (C.off+o.dst.getD 0) o.op (gev [] s.env)))||LJ Rd hl (QT (C.off+o.dst.getD 0) o.op (gev [] s.env))||(LZ o.op&&Q9g Rd hl (QT (C.off+o.dst.getD 0) o.op (gev [] s.env)))) with
     |false=>rw[hm] at h;exact h.elim
     |true =>
      rw[hm] at h;simp only[zi] at h;obtain⟨u,U',pl',v,s',h1,h2,⟨h3,iJ⟩,h4,hE⟩:=Q1w hG h aD;have fI:∀ R',R' u U'->vop (Q3 P) o.op env U R':=λR' hr=>by
       have:vop (Q3 P) o.op env U R'=QV (Q7 o.op (Q4 env) U) λp=>R' p.1 p.2:=by
        cases ho:o.op with
        |callF f a=>rw[ho] at aD;cases aD
        |callV f a=>rw[ho] at aD;cases aD
        |ext x =>
         cases x with
         |nextMap y=>rw[ho] at h1;cases h1
         |_=>rfl
        |_=>rfl
       rw[this,h1];exact hr
      obtain⟨k1,k2⟩:=hD.write iJ (λbI=>Am bI h1) hE hm bj;exact⟨u,U',fI _ ⟨rfl,rfl⟩,d_ h3.leB k1,Qq az bq r bV (MB hB (V7 h1)) (h3.put o.dst h4) (by rw[Zy];exact k2) hp (snoc h3.leB λ_ h=>RR h) (by omega) (by omega) h2 hK⟩
    .exact h.elim
  .rw[z0 au] at h;have ln:o.op.kind≠2:=by rw[<-bC];exact au
   by_cases bg:o.kind=1
   .rw[z6 bg] at h
    have rd:∀ (rq:Option Nat),(∀ q,rq=some q->M_ o.op (gev [] s.env) s.own=some q)->(Nat.ble chg o.kmin||S1 A o.kmin rq)=true->gd1 C o s (λs'=>XP C r s' hl chg A ((o.kmax,rq)::Rd) K) ->
      QV (Jl env o.guard) λb=>vif b (if o.kind=2 then B3 (λR=>vop (Q3 P) o.op env U R) λv U'=>Xa hs.length U' pend/\Jr (Q3 P) r (X6 env o.dst v) (hs++[U']) U' pend R
       else if o.kind=1 then QV (Q7 o.op (Q4 env) U) λp=>(∀ Z∈hs.drop o.kmin,X9 o.op (Q4 env) p.1 Z) /\
        Jr (Q3 P) r (X6 env o.dst p.1) hs U (if hs.length<=o.kmax then (o.kmax,X9 o.op (Q4 env) p.1)::pend else pend) R
       else QV (Q7 o.op (Q4 env) U) λp=>Jr (Q3 P) r (X6 env o.dst p.1) hs U pend R)
      (if o.kind=2 then Xa hs.length U pend/\Jr (Q3 P) r (X6 env o.dst undef) (hs++[U]) U pend R else Jr (Q3 P) r (X6 env o.dst undef) hs U pend R):=λrq nO hc h=>by
     obtain⟨b,hw,h1,h2⟩:=Ub hG h;rw[hw];have lq:DSt hs U pd hl chg A ((o.kmax,rq)::Rd) s.own pl:=⟨hD.len,hD.same,λc hc=>(hD.pend c hc).imp id (by simp_all),hD.fr⟩;refine⟨λe=>?_,λe=>?_⟩
     .obtain⟨u,s',tb',h3,h4,aL,h5⟩:=h1 e;rw[z0 au,z6 bg,h3];refine⟨λZ hτ=>?_,?_⟩
      .obtain⟨j,hj⟩:=xe.1 hτ;rw[zX] at hj;rw[zy] at hc;rcases hc with hc|hc
       .have:=hD.same (o.kmin+j) Z (by have:=zD hc;omega) hj;subst this;exact J0 h3
       .unfold S1 at hc;split at hc
        .rename_i q;obtain⟨k1,i,bl,k2,k3,k4,k5⟩:=Ki hG (nO q rfl) h3;have hu:Zz A (o.kmin+j) (q / 2)=true:=by
          simp only[Zz,zg,zy,zF] at hc |-
          grind
         have:=hD.fr (o.kmin+j) Z (q / 2) i hj hu k1 k2
         grind [J0]
        .cases hc
      .by_cases hle:hs.length<=o.kmax
       .rw[z6 hle];refine Qq az bq r bV hB h5 (A:=A) (Rd:=(o.kmax,rq)::Rd) (hl:=hl) (chg:=chg) (pd:=(o.kmax,X9 o.op (Q4 env) u)::pd) ?_ (λc hc=>?_) bT dx bj h4 hK
        .rw[aL];refine⟨hD.len,hD.same,λc hc=>?_,hD.fr⟩;rcases zA.1 hc with rfl|hc
         .refine .inr ⟨_,zp,zd _,?_⟩;cases rq with
          |none=>exactλZ hτ=>J0 (RW ln h3 hτ)
          |some q =>obtain⟨k1,i,bl,k2,k3,k4,k5⟩:=Ki hG (nO q rfl) h3;exact⟨k1,i,bl,k2,k3,λZ ht=>J0 (k4 Z ht),(by grind [J0])⟩
         .exact lq.pend c hc
        grind
       .rw[z0 hle];exact Qq az bq r bV hB h5 (A:=A) (Rd:=(o.kmax,rq)::Rd) (hl:=hl) (chg:=chg) (pd:=pd) (by rw[aL];exact lq) hp bT dx bj h4 hK
     .obtain⟨s',tb',h4,aL,h5⟩:=h2 e;rw[z0 au];exact Qq az bq r bV hB h5 (by rw[aL];exact lq) hp bT dx bj h4 hK
    have ro:H4 A o.kmin=true->(∀ u,Q7 o.op (Q4 env) U=some (u,U)->(Jl env o.guard=some true)->∀ Z,B.Le Z->Q7 o.op (Q4 env) Z=some (u,Z))->gd1 C o s (λs'=>XP C r s' hl chg A Rd K) ->
      QV (Jl env o.guard) λb=>vif b (if o.kind=2 then B3 (λR=>vop (Q3 P) o.op env U R) λv U'=>Xa hs.length U' pend/\Jr (Q3 P) r (X6 env o.dst v) (hs++[U']) U' pend R
       else if o.kind=1 then QV (Q7 o.op (Q4 env) U) λp=>(∀ Z∈hs.drop o.kmin,X9 o.op (Q4 env) p.1 Z) /\
        Jr (Q3 P) r (X6 env o.dst p.1) hs U (if hs.length<=o.kmax then (o.kmax,X9 o.op (Q4 env) p.1)::pend else pend) R
       else QV (Q7 o.op (Q4 env) U) λp=>Jr (Q3 P) r (X6 env o.dst p.1) hs U pend R)
      (if o.kind=2 then Xa hs.length U pend/\Jr (Q3 P) r (X6 env o.dst undef) (hs++[U]) U pend R else Jr (Q3 P) r (X6 env o.dst undef) hs U pend R):=λlr bL h=>by
     obtain⟨b,hw,h1,h2⟩:=Ub hG h;rw[hw];refine⟨λe=>?_,λe=>?_⟩
     .obtain⟨u,s',tb',h3,h4,aL,h5⟩:=h1 e;have bL:=bL u h3 (by rw[hw,e]);rw[z0 au,z6 bg,h3];refine⟨λZ hτ=>?_,?_⟩
      .obtain⟨j,hj⟩:=xe.1 hτ;rw[zX] at hj;refine J0 (bL Z (bT _ Z hj ?_));simp only[H4,zg,zy,zF] at lr |-
       grind
      refine Qq az bq r bV hB h5 (A:=A) (Rd:=Rd) (hl:=hl) (chg:=chg) (pd:=pd) (by rw[aL];exact hD) (λc hc=>?_) bT dx bj h4 hK;split at hc
      .rcases zA.1 hc with rfl|hc
       .grind [J0]
       .exact hp c hc
      .exact hp c hc
     .obtain⟨s',tb',h4,aL,h5⟩:=h2 e;rw[z0 au];exact Qq az bq r bV hB h5 (by rw[aL];exact hD) hp bT dx bj h4 hK
    split at h
    .rename_i hg;cases hr:(Q9l o.op (gev [] s.env)&&H4 A o.kmin) with
     |true =>rw[hr] at h;rw[z8] at hr;exact ro hr.2 (λu hu _=>Gn hG Gds.nil hr.1 hu) h
     |false =>
     rw[hr] at h;simp only[zP] at h;cases hb:(Nat.ble chg o.kmin||S1 A o.kmin (M_ o.op (gev [] s.env) s.own)) with
     |false=>rw[hb] at h;exact h.elim
     |true =>rw[hb] at h;exact rd _ (λq hq=>hq) hb h
    .rename_i j want hg;cases hr:(Q30 s j want o.op&&H4 A o.kmin) with
     |true =>
      rw[hr] at h;rw[z8] at hr;obtain⟨hr,lr⟩:=hr;refine ro lr (λu hu hw=>?_) h;unfold Q30 at hr;split at hr
      .rename_i gs s1 dB;obtain⟨tb',a8,di,b,gk,bE,a_⟩:=W8 hG dB;rw[hg,gk] at hw;have e:=osj hw;exact Gn a8 (λg hg=>⟨bE e g hg,di g hg⟩) hr hu
      .cases hr
     |false =>
     rw[hr] at h;simp only[zP] at h;cases hb:Nat.ble chg o.kmin with
     |false=>rw[hb] at h;exact h.elim
     |true =>rw[hb] at h;exact rd none (λq hq=>by cases hq) (by rw[hb];rfl) h
   .rw[z0 bg] at h;obtain⟨b,hw,h1,h2⟩:=Ub hG h;rw[hw];refine⟨λe=>?_,λe=>?_⟩
    .obtain⟨u,s',tb',h3,h4,aL,h5⟩:=h1 e;rw[z0 au,z0 bg,h3];exact Qq az bq r bV hB h5 (by rw[aL];exact hD) hp bT dx bj h4 hK
    .obtain⟨s',tb',h4,aL,h5⟩:=h2 e;rw[z0 au];exact Qq az bq r bV hB h5 (by rw[aL];exact hD) hp bT dx bj h4 hK
theorem Qs {C:Cx}(az:COk P C) {B0 F0 D0:Heap}:∀ (ops:List DOper),(∀ o∈ops,o.kind=o.op.kind)->∀ {s:St}{env:Env}{U:Heap}{B F:Heap}{pl:Nat->Value}{tb:Nat->Option Bool},GBase B0 F0 D0 B F U->Gam P B F pl tb s env U->∀ {hl chg:Nat}{A Rd:List (Nat×Option Nat)}{hs:List Heap}{pend pd:List (Nat×(Heap->Prop))},DSt hs U pd hl chg A Rd s.own pl->(∀ c∈pend,(∀ Z,B.Le Z->c.2 Z)\/c∈pd)->(∀ j Z,hs[j]?=some Z->H4 A j=true->B.Le Z)->chg<=hl->0<hl ->
  ∀ {K:St->Prop},XP C ops s hl chg A Rd K->∀ {R:Env->Heap->Prop},(∀ s' ae U',K s'->GRel P B0 F0 D0 s' ae U'->R ae U')->ZI (Q3 P) ops env hs U pend R
 |[],_,s,env,U,B,F,pl,tb,hB,hG,_,_,_,_,_,_,_,_,_,_,_,_,K,h,R,hK=>hK s env U h ⟨B,F,pl,tb,hB,hG⟩
 |o0::r,ie,s,env,U,B,F,pl,tb,hB,hG,hl,chg,A,Rd,hs,pend,pd,hD,hp,bT,dx,bj,K,h,R,hK=>by
  have d_:∀ {n:Nat}{Z:Heap},B.Le Z->Xa n Z pd->Xa n Z pend:=λ{n Z} hb hv=>K3 λc hc hn=>(by grind [Gm]);have snoc:∀ {Z:Heap}{A':List (Nat×Option Nat)},B.Le Z->(∀ j,H4 A' j=true->H4 A j=true)->∀ j Z',(hs++[Z])[j]?=some Z'->H4 A' j=true->B.Le Z':=(by grind);have bV:∀ o∈r,o.kind=o.op.kind:=(by simp_all);have lk:=ie o0 zp;unfold XP at h;split at h
  .rename_i aY;have hw:=Ky hG aY;simp only[ZI];rw[hw];refine⟨λe=>(by cases e),λ_=>?_⟩;have a7:=hG.put o0.dst (show SR P B pl tb .any undef by simp[SR]);by_cases au:o0.kind=2
   .rw[z6 au] at h |-;obtain⟨k1,k2⟩:=hD.stay;exact⟨d_ hG.leB k1,Qs az r bV hB a7 (by rw[Zy];exact k2) hp (snoc hG.leB λ_ h=>h) (by omega) (by omega) h hK⟩
   .rw[z0 au] at h |-;exact Qs az r bV hB a7 (by rw[Zy];exact hD) hp bT dx bj h hK
  have bC:(Q06 s.env o0).kind=(Q06 s.env o0).op.kind:=by unfold Q06;split<;>exact lk
  have cL:ZI (Q3 P) (Q06 s.env o0::r) env hs U pend R->ZI (Q3 P) (o0::r) env hs U pend R:=λhv=>by
   unfold Q06 at hv;split at hv
   .rename_i aY;simp only[ZI] at hv |-;rw[Ky hG aY];exact hv
   .exact hv
  refine cL ?_;clear cL;generalize Q06 s.env o0=o at h bC |-
  replace h:=id h
  simp only[ZI];by_cases au:o.kind=2
  .rw[z6 au] at h
   have fin:∀ {u:Value}{U':Heap}{ts:List Nat}{v:SV}{s':St}{pl':Nat->Value},(∀ R',R' u U'->vop (Q3 P) o.op env U R')->XP C r (s'.put o.dst v) (hl+1) (bif ts.isEmpty then chg else hl) (ts.map (λt=>(hl-1,some t))++A) (bif ts.isEmpty then Rd else Rd.map λr=>(r.1,none)) K->Gam P B F pl' tb s' env U'->SR P B pl' tb v u->(ts=[]->U'=U/\pl'=pl/\s'=s)->U.Le U'->Dead U U'->FrL ts s s' pl pl' U U' ->
     B3 (λR=>vop (Q3 P) o.op env U R) λv U'=>Xa hs.length U' pend/\ZI (Q3 P) r (X6 env o.dst v) (hs++[U']) U' pend R:=λ{u U' ts v s' pl'} bz nN a8 iK he hle hd cY=>by
    cases ts with
    |nil =>obtain⟨rfl,rfl,rfl⟩:=he rfl;obtain⟨k1,k2⟩:=hD.stay;exact⟨u,U',bz _ ⟨rfl,rfl⟩,d_ a8.leB k1,Qs az r bV (MB hB hd) (a8.put o.dst iK) (by rw[Zy];exact k2) hp (snoc a8.leB λ_ h=>h) (by grind) (by omega) nN hK⟩
    |cons t ts =>obtain⟨k1,k2⟩:=hD.call hle cY bj;exact⟨u,U',bz _ ⟨rfl,rfl⟩,d_ a8.leB k1,Qs az r bV (MB hB hd) (a8.put o.dst iK) (by rw[Zy];exact k2) hp (snoc a8.leB λ_ h=>Tl h) (by simp_all) (by omega) nN hK⟩
   split at h
   .rename_i f args bz;split at h
    .rename_i hg;rw[hg];refine⟨λ_=>?_,λe=>by cases e⟩;rw[z6 au]
     have nP:∀ {K':List Nat->SV->St->Prop},GO C (C.off+o.dst.getD 0) (.fn f [] []) (PT s.own (args.map (gev [] s.env))) s K'->(∀ ts v s',K' ts v s'->XP C r (s'.put o.dst v) (hl+1) (bif ts.isEmpty then chg else hl) (ts.map (λt=>(hl-1,some t))++A) (bif ts.isEmpty then Rd else Rd.map λr=>(r.1,none)) K) ->
       B3 (λR=>vop (Q3 P) o.op env U R) λv U'=>Xa hs.length U' pend/\ZI (Q3 P) r (X6 env o.dst v) (hs++[U']) U' pend R:=λ{K'} h qq=>by
      obtain⟨g,a,b,u,U',e,v,s',pl',h1,h2,h3,h4,h5,h6,h7,h8,h9⟩:=Wa az hG h (show SR P U Xd Ji (.fn f [] []) (.func (.func f) #[] #[]) by simp only[SR,SRs];exact⟨[],[],rfl,rfl,rfl⟩) (hG.gcall Gds.nil args);obtain⟨rfl,rfl,rfl⟩:=(by simpa using h1:f=g/\#[]=a/\#[]=b);refine fin (u:=u) (U':=U') (λR' hr=>?_) (qq _ _ _ h3) h4 h5 h6 h7 h8 h9;rw[bz];show VCalled P f (args.map (Q4 env)) U R';have:=h2.mono (R':=R') (by simp_all);simpa using this
     split at h
     .rename_i x hx;split at h
      .rename_i jf ub;split at h
       .rename_i tt uc;cases gB:(waits o.dst.toList r&&OU false Rd hl [tt]) with
        |false=>rw[gB] at h;exact h.elim
        |true =>rw[gB] at h;simp only[zi] at h;rw[z8] at gB;refine .inr ⟨gB.1,?_⟩;rw[bz];show VCalled P f (args.map (Q4 env)) U _;refine az.xf f jf ub x hx B F pl tb s env U _ _ _ _ _ tt hG (SRs.map λx _=>hG.evs Gds.nil x) uc h λv s' u U' k1 k2 k3 k4 k5=>?_;obtain⟨q1,q2⟩:=hD.writeD k5 (mk:=false) (λh=>by cases h) gB.2 bj;exact⟨d_ k3.leB q1,Qs az r bV (MB hB k2) (k3.put o.dst k4) (by rw[Zy];exact q2) hp (snoc k3.leB λ_ h=>RR h) (by omega) (by omega) k1 hK⟩
       .exact h.elim
      .cases gB:(waits o.dst.toList r&&Rd.all (λq=>Nat.blt q.1 hl)) with
       |false=>rw[gB] at h;simp only[zP] at h;exact .inl (nP h λ_ _ _ h=>h)
       |true =>
        rw[gB] at h;simp only[zi] at h;rw[z8] at gB;refine .inr ⟨gB.1,?_⟩;rw[bz];show VCalled P f (args.map (Q4 env)) U _;have aq:∀ args:List Operand,SRs P B pl tb (args.map (gev [] s.env)) (args.map (Q4 env)):=λargs=>SRs.map λx _=>hG.evs Gds.nil x;refine az.xs f x hx B F pl tb s env U _ _ _ _ _ hG (aq args) h λv s' B' F' pl' tb' u U' k1 k2 k3 k4=>?_;have hall:∀ c∈pd,c.1<hl:=λc hc=>by
         rcases hD.pend c hc with h1|⟨q,h1,h2,_⟩
         .exact h1
         grind [List.all_eq_true,Nat.blt_eq]
        have jN:Xa hs.length U' pd:=K3 λc hc hle=>by have:=hall c hc;have:=hD.len;omega
        have qs:Xa hs.length U' pend:=K3 λc hc hn=>(hp c hc).elim (λh=>h U' (k2.b.trans k3.leB)) λh=>Gm jN h hn;refine⟨qs,Qs az r bV (hB.trans k2) (k3.put o.dst k4) (pd:=pd) ⟨by simp[hD.len],λj Z hj ht=>?_,(by grind),λj Z q i ht hu cG hi=>?_⟩ (λc hc=>(hp c hc).imp (λh Z hτ=>h Z (k2.b.trans hτ)) id) (λj Z ht hn=>?_) (by omega) (by omega) k1 hK⟩
        .rcases Xs ht with⟨h1,_⟩|⟨_,h1⟩
         .rw[hD.len] at h1;omega
         .exact h1
        .rcases Xs ht with⟨h1,_⟩|⟨_,h1⟩
         .exfalso;rw[hD.len] at h1;simp only[Zz,zQ,z8,zy,zF,zw,or_false] at hu;omega
         .rw[h1]
        .rcases Xs ht with⟨h1,_⟩|⟨_,h1⟩
         .exfalso;rw[hD.len] at h1;simp only[H4,zQ,z8,zy,zF,Option.isSome_none,zw,or_false] at hn;omega
         .rw[h1];exact k3.leB
     .exact .inl (nP h λ_ _ _ h=>h)
    .rename_i j want hg;rw[hg];split at h
     .exact h.elim
     .rename_i gs s1 dB;obtain⟨tb',a8,di,b,hw,bE,a_⟩:=W8 hG dB;have aL:=Kp dB;rw[hw];split at h
      .rename_i cs v dj;cases cO:VU v with
       |false=>rw[cO] at h;exact h.elim
       |true =>
       rw[cO] at h;simp only[zi] at h;obtain⟨h1,h2⟩:=ZF h;obtain⟨k1,k2⟩:=hD.stay;have ld:∀ x,DSt (hs++[U]) U pd (hl+1) chg A Rd (s1.put o.dst x).own pl:=(by grind [Zy]);refine⟨λe=>?_,λe=>?_⟩
       .rw[z6 au];have gd:Gds tb' gs:=λg hg=>⟨bE e g hg,di g hg⟩;have ll:∀ {v u},SR P B pl tb' v u->SR P B pl tb' (.grd gs (He v)) u:=λ{v u} hs=>by
         simp only[SR]
         grind [Tj]
        simp only[gqc] at dj;split at dj
        .rename_i c v' heq;cases cz:v'.ret 0 with
         |false=>rw[cz] at dj;cases dj
         |true =>
          rw[cz] at dj;obtain⟨rfl,rfl⟩:=Zh dj;obtain⟨g,a,b',h3,h4,_⟩:=J4 az.cs (show SR P U Xd Ji (.fn f [] []) (.func (.func f) #[] #[]) by simp only[SR,SRs];exact⟨[],[],rfl,rfl,rfl⟩) (a8.gcall gd args) heq cz rfl (h2 (bE e) _ (by simp));obtain⟨rfl,rfl,rfl⟩:=(by simpa using h3:f=g/\#[]=a/\#[]=b');refine .inl ⟨VG Xd v',U,?_,d_ hG.leB k1,Qs az r bV hB (a8.put o.dst (ll ?_)) (ld _) hp (snoc hG.leB λ_ h=>h) (by omega) (by omega) (ZC h1) hK⟩
          .rw[bz];show VCalled P f (args.map (Q4 env)) U _;have:=h4.mono (R':=λu U'=>u=VG Xd v'/\U'=U) λu U' hr=>by
            obtain⟨rfl,hu⟩:=hr.flat cz
            grind [Un]
           simpa using this
          .exact SR.retd (λj hj=>by omega) _ _ cz (CT (P:=P) (pl:=Xd) (m:=0) (λj hj=>by omega) v' cz cO)
        .cases dj
       .rw[z6 au];obtain⟨g,dq,aB⟩:=a_ e;exact⟨d_ hG.leB k1,Qs az r bV hB (a8.put o.dst (by simp only[SR];exact⟨⟨di,Tn v⟩,λhall=>absurd (hall g dq) aB,λ_=>trivial⟩)) (ld _) hp (snoc hG.leB λ_ h=>h) (by omega) (by omega) (ZC h1) hK⟩
      .split at h
       .rename_i cs v j8;obtain⟨c,ty,k,xs,nl,heq,rfl,rfl,hk,dZ⟩:=Lu j8;obtain⟨h1,h2⟩:=ZF h;have frz:∀ {B' U':Heap},B'.Le U'->∀ j Z',(hs++[U'])[j]?=some Z'->H4 ((hl-1,none)::A) j=true->B'.Le Z':=λ{B' U'} hb j Z' hm hn=>by
         rcases Xs hm with⟨h1,_⟩|⟨_,rfl⟩
         .simp only[H4,zQ,z8,zy,zF,Option.isSome_none,zw,or_false] at hn;have:=hD.len;omega
         .exact hb
        refine⟨λe=>?_,λe=>?_⟩
        .rw[z6 au];have gd:Gds tb' gs:=λg hg=>⟨bE e g hg,di g hg⟩;have iE:=h2 (bE e) c (by simp);have iF:=h2 (bE e) (nl=true->xs=[]) (by simp);have dB:GO C (C.off+o.dst.getD 0) (.fn f [] []) (PT s1.own (args.map (gev gs s1.env))) s1 (λts v' s'=>ts=[C.off+o.dst.getD 0]/\v'=.lst (C.off+o.dst.getD 0)/\s'=s1.make (C.off+o.dst.getD 0) (.lst ty k xs nl)):=by
          unfold GO;rw[heq];dsimp only;have af:(SV.ret [OB.lst ty k xs nl].length (.lst 0)&&([OB.lst ty k xs nl].all OB.ret&&(Nat.blt 0 C.nt&&([OB.lst ty k xs nl].all OB.isL&&VU (.lst 0)))))=true:=by
           simp only[SV.ret,xF,zQ,List.all_nil,xU,OB.ret,hk,Bool.true_and,OB.isL,VU];rw[z8]
           grind [Nat.blt_eq]
          rw[af];simp only[zi,Q3v,OB.wf];refine⟨iE,iF,?_,?_,?_⟩
          .simp[List.range_succ]
          .simp[SV.ren]
          .simp[St.makes]
         obtain⟨g,a,b',u,U',ts,v',s',pl',h3,h4,⟨rfl,rfl,rfl⟩,h5,h6,_,h7,h8,h9⟩:=Wa az a8 dB (show SR P U Xd Ji (.fn f [] []) (.func (.func f) #[] #[]) by simp only[SR,SRs];exact⟨[],[],rfl,rfl,rfl⟩) (a8.gcall gd args);obtain⟨rfl,rfl,rfl⟩:=(by simpa using h3:f=g/\#[]=a/\#[]=b');obtain⟨B',F',m1,m2,m3⟩:=Ag a8.bf hk h5 h6 h8;have cY:FrL [C.off+o.dst.getD 0] s ((s1.make (C.off+o.dst.getD 0) .dead).put o.dst (.grd gs (.val (.list k) xs))) pl pl' U U':=λq hq=>by
          obtain⟨f1,f2,f3⟩:=h9 q hq
          grind [Zy,Uh]
         obtain⟨k1,k2⟩:=hD.call h7 cY bj;refine .inl ⟨u,U',?_,d_ (m1.b.trans m2.leB) k1,Qs az r bV (hB.trans m1) (m2.put o.dst ?_) k2.frozen (λc hc=>(hp c hc).imp (λh Z hτ=>h Z (m1.b.trans hτ)) id) (frz m2.leB) (by omega) (by omega) h1 hK⟩
         .rw[bz];show VCalled P f (args.map (Q4 env)) U _;simpa using h4
         .simp only[SR];exact⟨⟨di,trivial⟩,λ_=>m3,(by grind)⟩
        .rw[z6 au];obtain⟨g,dq,aB⟩:=a_ e;have cY:FrL [C.off+o.dst.getD 0] s ((s1.make (C.off+o.dst.getD 0) .dead).put o.dst (.grd gs (.val (.list k) xs))) pl (JH pl (C.off+o.dst.getD 0) undef) U U:=λq hq=>by
          have cu:q≠C.off+o.dst.getD 0:=by simpa using hq
          refine⟨?_,by simp[JH,cu],λ_ _ _=>rfl⟩;rw[Zy,Uh _ _ _ cu,aL]
         obtain⟨k1,k2⟩:=hD.call (.refl U) cY bj;refine⟨d_ hG.leB k1,Qs az r bV hB ((a8.make (C.off+o.dst.getD 0) .dead undef a8.le (λ_ _ _ _ _=>rfl) trivial (λi hl _=>by cases hl)).put o.dst ?_) k2.frozen hp (frz hG.leB) (by omega) (by omega) h1 hK⟩;simp only[SR];exact⟨⟨di,trivial⟩,λhall=>absurd (hall g dq) aB,λ_=>trivial⟩
       .exact h.elim
   .rename_i f args bz;split at h
    .rename_i hg;rw[hg];refine⟨λ_=>?_,λe=>by cases e⟩;rw[z6 au];refine .inl ?_;obtain⟨g,a,b,u,U',e,v,s',pl',h1,h2,h3,h4,h5,h6,h7,h8,h9⟩:=Wa az hG h (hG.gfun Gds.nil f) (hG.gcall Gds.nil args);refine fin (u:=u) (U':=U') (λR' hr=>?_) h3 h4 h5 h6 h7 h8 h9;rw[bz];exact Mi h1 (h2.mono (R':=R') (by simp_all))
    .exact h.elim
   .exact h.elim
   .exact h.elim
   .rename_i qo oL qp jj;split at h
    .rename_i hg;rw[hg];refine⟨λ_=>?_,λe=>by cases e⟩;rw[z6 au];have aD:IP o.op=false:=by
      cases ho:o.op<;>first|rfl|(exact absurd ho (qo _ _))|(exact absurd ho (oL _ _))|skip
      case ext x=>cases x<;>first|rfl|(exact absurd ho (qp _))|(exact absurd ho (jj _))
     cases j7:Ea C (o.dst.getD 0) o.op (gev [] s.env) with
     |true =>
      rw[j7] at h;simp only[zi] at h;cases hm:OU (Ru o.op) Rd hl (E7 (C.off+o.dst.getD 0) o.op (gev [] s.env)) with
      |false=>rw[hm] at h;exact h.elim
      |true =>
       rw[hm] at h;simp only[zi] at h;obtain⟨u,U',pl',v,s',h1,h2,⟨h3,iJ⟩,h4⟩:=S8 (λx=>hG.evs (Gds.nil (tb:=tb)) x) hG h;have fI:∀ R',R' u U'->vop (Q3 P) o.op env U R':=λR' hr=>by
        have:vop (Q3 P) o.op env U R'=QV (Q7 o.op (Q4 env) U) λp=>R' p.1 p.2:=by
         cases ho:o.op with
         |callF f a=>rw[ho] at aD;cases aD
         |callV f a=>rw[ho] at aD;cases aD
         |ext x =>
          cases x with
          |nextMap y=>rw[ho] at h1;cases h1
          |_=>rfl
         |_=>rfl
        rw[this,h1];exact hr
       obtain⟨k1,k2⟩:=hD.writeD iJ (λbI=>Am bI h1) hm bj;exact .inl ⟨u,U',fI _ ⟨rfl,rfl⟩,d_ h3.leB k1,Qs az r bV (MB hB (V7 h1)) (h3.put o.dst h4) (by rw[Zy];exact k2) hp (snoc h3.leB λ_ h=>Tl h) (by omega) (by omega) h2 hK⟩
     |false =>
     rw[j7] at h;simp only[zP] at h;cases hm:((Ru o.op&&EC Rd hl (QT (C.off+o.dst.getD 0) o.op (gev [] s.env)))||LJ Rd hl (QT (C.off+o.dst.getD 0) o.op (gev [] s.env))||(LZ o.op&&Q9g Rd hl (QT (C.off+o.dst.getD 0) o.op (gev [] s.env)))) with
     |false=>rw[hm] at h;exact h.elim
     |true =>
      rw[hm] at h;simp only[zi] at h;obtain⟨u,U',pl',v,s',h1,h2,⟨h3,iJ⟩,h4,hE⟩:=Q1w hG h aD;have fI:∀ R',R' u U'->vop (Q3 P) o.op env U R':=λR' hr=>by
       have:vop (Q3 P) o.op env U R'=QV (Q7 o.op (Q4 env) U) λp=>R' p.1 p.2:=by
        cases ho:o.op with
        |callF f a=>rw[ho] at aD;cases aD
        |callV f a=>rw[ho] at aD;cases aD
        |ext x =>
         cases x with
         |nextMap y=>rw[ho] at h1;cases h1
         |_=>rfl
        |_=>rfl
       rw[this,h1];exact hr
      obtain⟨k1,k2⟩:=hD.write iJ (λbI=>Am bI h1) hE hm bj;exact .inl ⟨u,U',fI _ ⟨rfl,rfl⟩,d_ h3.leB k1,Qs az r bV (MB hB (V7 h1)) (h3.put o.dst h4) (by rw[Zy];exact k2) hp (snoc h3.leB λ_ h=>RR h) (by omega) (by omega) h2 hK⟩
    .exact h.elim
  .rw[z0 au] at h;have ln:o.op.kind≠2:=by rw[<-bC];exact au
   by_cases bg:o.kind=1
   .rw[z6 bg] at h
    have rd:∀ (rq:Option Nat),(∀ q,rq=some q->M_ o.op (gev [] s.env) s.own=some q)->(Nat.ble chg o.kmin||S1 A o.kmin rq)=true->gd1 C o s (λs'=>XP C r s' hl chg A ((o.kmax,rq)::Rd) K) ->
      QV (Jl env o.guard) λb=>vif b (if o.kind=2 then (B3 (λR=>vop (Q3 P) o.op env U R) λv U'=>Xa hs.length U' pend/\ZI (Q3 P) r (X6 env o.dst v) (hs++[U']) U' pend R)\/(waits o.dst.toList r=true/\vop (Q3 P) o.op env U λv U'=>Xa hs.length U' pend/\ZI (Q3 P) r (X6 env o.dst v) (hs++[U']) U' pend R)
       else if o.kind=1 then QV (Q7 o.op (Q4 env) U) λp=>(∀ Z∈hs.drop o.kmin,X9 o.op (Q4 env) p.1 Z) /\
        ZI (Q3 P) r (X6 env o.dst p.1) hs U (if hs.length<=o.kmax then (o.kmax,X9 o.op (Q4 env) p.1)::pend else pend) R
       else QV (Q7 o.op (Q4 env) U) λp=>ZI (Q3 P) r (X6 env o.dst p.1) hs U pend R)
      (if o.kind=2 then Xa hs.length U pend/\ZI (Q3 P) r (X6 env o.dst undef) (hs++[U]) U pend R else ZI (Q3 P) r (X6 env o.dst undef) hs U pend R):=λrq nO hc h=>by
     obtain⟨b,hw,h1,h2⟩:=Ub hG h;rw[hw];have lq:DSt hs U pd hl chg A ((o.kmax,rq)::Rd) s.own pl:=⟨hD.len,hD.same,λc hc=>(hD.pend c hc).imp id (by simp_all),hD.fr⟩;refine⟨λe=>?_,λe=>?_⟩
     .obtain⟨u,s',tb',h3,h4,aL,h5⟩:=h1 e;rw[z0 au,z6 bg,h3];refine⟨λZ hτ=>?_,?_⟩
      .obtain⟨j,hj⟩:=xe.1 hτ;rw[zX] at hj;rw[zy] at hc;rcases hc with hc|hc
       .have:=hD.same (o.kmin+j) Z (by have:=zD hc;omega) hj;subst this;exact J0 h3
       .unfold S1 at hc;split at hc
        .rename_i q;obtain⟨k1,i,bl,k2,k3,k4,k5⟩:=Ki hG (nO q rfl) h3;have hu:Zz A (o.kmin+j) (q / 2)=true:=by
          simp only[Zz,zg,zy,zF] at hc |-
          grind
         have:=hD.fr (o.kmin+j) Z (q / 2) i hj hu k1 k2
         grind [J0]
        .cases hc
      .by_cases hle:hs.length<=o.kmax
       .rw[z6 hle];refine Qs az r bV hB h5 (A:=A) (Rd:=(o.kmax,rq)::Rd) (hl:=hl) (chg:=chg) (pd:=(o.kmax,X9 o.op (Q4 env) u)::pd) ?_ (λc hc=>?_) bT dx bj h4 hK
        .rw[aL];refine⟨hD.len,hD.same,λc hc=>?_,hD.fr⟩;rcases zA.1 hc with rfl|hc
         .refine .inr ⟨_,zp,zd _,?_⟩;cases rq with
          |none=>exactλZ hτ=>J0 (RW ln h3 hτ)
          |some q =>obtain⟨k1,i,bl,k2,k3,k4,k5⟩:=Ki hG (nO q rfl) h3;exact⟨k1,i,bl,k2,k3,λZ ht=>J0 (k4 Z ht),(by grind [J0])⟩
         .exact lq.pend c hc
        grind
       .rw[z0 hle];exact Qs az r bV hB h5 (A:=A) (Rd:=(o.kmax,rq)::Rd) (hl:=hl) (chg:=chg) (pd:=pd) (by rw[aL];exact lq) hp bT dx bj h4 hK
     .obtain⟨s',tb',h4,aL,h5⟩:=h2 e;rw[z0 au];exact Qs az r bV hB h5 (by rw[aL];exact lq) hp bT dx bj h4 hK
    have ro:H4 A o.kmin=true->(∀ u,Q7 o.op (Q4 env) U=some (u,U)->(Jl env o.guard=some true)->∀ Z,B.Le Z->Q7 o.op (Q4 env) Z=some (u,Z))->gd1 C o s (λs'=>XP C r s' hl chg A Rd K) ->
      QV (Jl env o.guard) λb=>vif b (if o.kind=2 then (B3 (λR=>vop (Q3 P) o.op env U R) λv U'=>Xa hs.length U' pend/\ZI (Q3 P) r (X6 env o.dst v) (hs++[U']) U' pend R)\/(waits o.dst.toList r=true/\vop (Q3 P) o.op env U λv U'=>Xa hs.length U' pend/\ZI (Q3 P) r (X6 env o.dst v) (hs++[U']) U' pend R)
       else if o.kind=1 then QV (Q7 o.op (Q4 env) U) λp=>(∀ Z∈hs.drop o.kmin,X9 o.op (Q4 env) p.1 Z) /\
        ZI (Q3 P) r (X6 env o.dst p.1) hs U (if hs.length<=o.kmax then (o.kmax,X9 o.op (Q4 env) p.1)::pend else pend) R
       else QV (Q7 o.op (Q4 env) U) λp=>ZI (Q3 P) r (X6 env o.dst p.1) hs U pend R)
      (if o.kind=2 then Xa hs.length U pend/\ZI (Q3 P) r (X6 env o.dst undef) (hs++[U]) U pend R else ZI (Q3 P) r (X6 env o.dst undef) hs U pend R):=λlr bL h=>by
     obtain⟨b,hw,h1,h2⟩:=Ub hG h;rw[hw];refine⟨λe=>?_,λe=>?_⟩
     .obtain⟨u,s',tb',h3,h4,aL,h5⟩:=h1 e;have bL:=bL u h3 (by rw[hw,e]);rw[z0 au,z6 bg,h3];refine⟨λZ hτ=>?_,?_⟩
      .obtain⟨j,hj⟩:=xe.1 hτ;rw[zX] at hj;refine J0 (bL Z (bT _ Z hj ?_));simp only[H4,zg,zy,zF] at lr |-
       grind
      refine Qs az r bV hB h5 (A:=A) (Rd:=Rd) (hl:=hl) (chg:=chg) (pd:=pd) (by rw[aL];exact hD) (λc hc=>?_) bT dx bj h4 hK;split at hc
      .rcases zA.1 hc with rfl|hc
       .grind [J0]
       .exact hp c hc
      .exact hp c hc
     .obtain⟨s',tb',h4,aL,h5⟩:=h2 e;rw[z0 au];exact Qs az r bV hB h5 (by rw[aL];exact hD) hp bT dx bj h4 hK
    split at h
    .rename_i hg;cases hr:(Q9l o.op (gev [] s.env)&&H4 A o.kmin) with
     |true =>rw[hr] at h;rw[z8] at hr;exact ro hr.2 (λu hu _=>Gn hG Gds.nil hr.1 hu) h
     |false =>
     rw[hr] at h;simp only[zP] at h;cases hb:(Nat.ble chg o.kmin||S1 A o.kmin (M_ o.op (gev [] s.env) s.own)) with
     |false=>rw[hb] at h;exact h.elim
     |true =>rw[hb] at h;exact rd _ (λq hq=>hq) hb h
    .rename_i j want hg;cases hr:(Q30 s j want o.op&&H4 A o.kmin) with
     |true =>
      rw[hr] at h;rw[z8] at hr;obtain⟨hr,lr⟩:=hr;refine ro lr (λu hu hw=>?_) h;unfold Q30 at hr;split at hr
      .rename_i gs s1 dB;obtain⟨tb',a8,di,b,gk,bE,a_⟩:=W8 hG dB;rw[hg,gk] at hw;have e:=osj hw;exact Gn a8 (λg hg=>⟨bE e g hg,di g hg⟩) hr hu
      .cases hr
     |false =>
     rw[hr] at h;simp only[zP] at h;cases hb:Nat.ble chg o.kmin with
     |false=>rw[hb] at h;exact h.elim
     |true =>rw[hb] at h;exact rd none (λq hq=>by cases hq) (by rw[hb];rfl) h
   .rw[z0 bg] at h;obtain⟨b,hw,h1,h2⟩:=Ub hG h;rw[hw];refine⟨λe=>?_,λe=>?_⟩
    .obtain⟨u,s',tb',h3,h4,aL,h5⟩:=h1 e;rw[z0 au,z0 bg,h3];exact Qs az r bV hB h5 (by rw[aL];exact hD) hp bT dx bj h4 hK
    .obtain⟨s',tb',h4,aL,h5⟩:=h2 e;rw[z0 au];exact Qs az r bV hB h5 (by rw[aL];exact hD) hp bT dx bj h4 hK
def NW (pl:Nat->Value) (mp:List (Nat×Option Nat)):Nat->Value:=λt=>match QF mp t with
 |some (some a)=>pl a
 |_=>.slice none 0 0
theorem Ek {h:Heap}{k k':Kind}{x:k.T}{y:k'.T}(e:GZ x y) {cs:List Value}(hk:KC h k' y cs):KC h k x cs:=by
 unfold GZ at e
 grind [LG,LV]
mutual
theorem Kq {B:Heap}{pl:Nat->Value}{tb:Nat->Option Bool}{mp:List (Nat×Option Nat)}:∀ (p a:SV) (v:Value),PS mp p a->SR P B pl tb a v->SR P B (NW pl mp) Ji p v
 |.any,a,v,_,_=>trivial
 |.val k x,a,v,h,hs=>by
  simp only[PS] at h;split at h
  .simp only[SR] at hs |-;exact Ek h hs
  .simp only[SR] at hs |-;exact Ek h (by simp[KC,hs.1])
  .split at h
   .subst h;simp only[SR] at hs |-;subst hs;exact⟨_,rfl,.inl ⟨rfl,rfl⟩⟩
   .exact h.elim
  .exact h.elim
 |.lst t,a,v,h,hs=>by
  simp only[PS] at h;split at h
  .split at h
   .rename_i e;simp only[SR,NW,e] at hs |-;exact hs
   .exact h.elim
  .split at h
   .rename_i e;simp only[SR,NW,e] at hs |-;exact⟨hs,_,_,_,hs⟩
   .exact h.elim
  .exact h.elim
 |.box t off,a,v,h,hs=>by
  simp only[PS] at h;split at h
  .split at h
   .rename_i e;obtain⟨e,rfl⟩:=e;simp only[SR,NW,e] at hs |-;exact hs
   .exact h.elim
  .exact h.elim
 |.map t,a,v,h,hs=>by
  simp only[PS] at h;split at h
  .split at h
   .rename_i e;simp only[SR,NW,e] at hs |-;exact hs
   .exact h.elim
  .exact h.elim
 |.dd t w,a,v,h,hs=>by
  simp only[PS] at h;split at h
  .split at h
   .simp only[SR] at hs |-;simp only[DR];exact .inl ⟨h,hs⟩
   .split at h
    .rename_i e;obtain⟨e,rfl⟩:=e;simp only[SR,DR,NW,e] at hs |-;obtain⟨b,h1,h2⟩:=hs;exact .inr ⟨h,b,by rw[h1];rfl,h2⟩
    .exact h.elim
   .split at h
    .split at h
     .rename_i e;subst h;simp only[SR,DR,NW,e] at hs |-;exact hs
     .exact h.elim
    .exact h.elim
   .exact h.elim
  .split at h
   .split at h
    .split at h
     .rename_i e;simp only[SR,NW,e] at hs |-;exact hs
     .exact h.elim
    .exact h.elim
   .exact h.elim
  .split at h
   .split at h
    .split at h
     .rename_i e;simp only[SR,NW,e] at hs |-;exact hs
     .exact h.elim
    .exact h.elim
   .split at h
    .rename_i e;simp only[SR,NW,e] at hs |-;exact⟨hs,_,_,_,hs⟩
    .exact h.elim
   .exact h.elim
  .exact h.elim
 |.agg l,a,v,h,hs=>by
  simp only[PS] at h;split at h
  .rename_i l';simp only[SR] at hs |-;obtain⟨cs,h1,h2⟩:=hs;exact⟨cs,h1,Zf l l' cs h h2⟩
  .exact h.elim
 |.tup l,a,v,h,hs=>by
  simp only[PS] at h;split at h
  .rename_i l';simp only[SR] at hs |-;obtain⟨cs,h1,h2⟩:=hs;exact⟨cs,h1,Zf l l' cs h h2⟩
  .exact h.elim
 |.fn f x y,a,v,h,hs=>by
  simp only[PS] at h;split at h
  .split at h
   .rename_i e;subst e;simp only[SR] at hs |-;obtain⟨cs,ds,h1,h2,h3⟩:=hs;exact⟨cs,ds,h1,Zf x _ cs h.1 h2,Zf y _ ds h.2 h3⟩
   .exact h.elim
  .exact h.elim
 |.nilS,a,v,h,hs=>by
  simp only[PS] at h;split at h
  .simp only[SR] at hs |-;exact hs
  .exact h.elim
 |.nilP,a,v,h,hs=>by
  simp only[PS] at h;split at h
  .simp only[SR] at hs |-;exact hs
  .exact h.elim
 |.nilM,a,v,h,hs=>by
  simp only[PS] at h;split at h
  .simp only[SR] at hs |-;exact hs
  .exact h.elim
 |.nilF,a,v,h,hs=>by
  simp only[PS] at h;split at h
  .simp only[SR] at hs |-;exact hs
  .exact h.elim
 |.cp l off,a,v,h,hs=>by
  simp only[PS] at h;cases qt:SVs.pure l with
  |true =>rw[qt] at h;simp only[zi] at h;obtain⟨rfl,_⟩:=h;simp only[SR] at hs |-;obtain⟨b,c,e,wr,t,h1,h2,h3⟩:=hs;exact⟨b,c,e,wr,t,h1,h2,Zg l c qt h3⟩
  |false =>
   rw[qt] at h;simp only[zP] at h;split at h
   .split at h
    .rename_i l' dg he;subst he;simp only[SR] at hs |-;obtain⟨b,c,e,wr,t,h1,h2,h3⟩:=hs;exact⟨b,c,e,wr,t,h1,h2,Zf l l' c h h3⟩
    .exact h.elim
   .exact h.elim
 |.pf ks r cF p,a,v,h,hs=>by simp only[PS] at h;subst h;simp only[SR] at hs |-;exact hs
 |.sub t lo n sz,a,v,h,hs=>by
  simp only[PS] at h;split at h
  .split at h
   .rename_i e;obtain⟨rfl,rfl,rfl⟩:=h;simp only[SR,NW,e] at hs |-;exact hs
   .exact h.elim
  .exact h.elim
 |.elp _ _ _ _,_,_,h,_|.grd _ _,_,_,h,_|.bid _ _,_,_,h,_|.rop _ _ _ _,_,_,h,_=>by simp only[PS] at h
theorem Zf {B:Heap}{pl:Nat->Value}{tb:Nat->Option Bool}{mp:List (Nat×Option Nat)}:∀ (p a:List SV) (v:List Value),Uj mp p a->SRs P B pl tb a v->SRs P B (NW pl mp) Ji p v
 |[],a,v,h,hs=>by simp only[Uj] at h;subst h;exact hs
 |s::ss,[],v,h,hs=>by simp only[Uj] at h
 |s::ss,a::bM,v,h,hs=>by simp only[Uj] at h;simp only[SRs] at hs |-;obtain⟨x,y,h1,h2,h3⟩:=hs;exact⟨x,y,h1,Kq s a x h.1 h2,Zf ss bM y h.2 h3⟩
theorem Ly {B:Heap}{pl pl':Nat->Value}{tb tb':Nat->Option Bool}:∀ (s:SV) (v:Value),s.pure=true->SR P B pl tb s v->SR P B pl' tb' s v
 |.any,v,_,_=>trivial
 |.val k x,v,_,h=>by simp only[SR] at h |-;exact h
 |.nilS,v,_,h|.nilP,v,_,h|.nilM,v,_,h|.nilF,v,_,h=>by simp only[SR] at h |-;exact h
 |.rop k l i off,v,_,h=>by simp only[SR] at h |-;exact h
 |.pf ks r cF p,v,_,h=>by simp only[SR] at h |-;exact h
 |.agg l,v,hp,h=>by simp only[SR] at h |-;obtain⟨cs,h1,h2⟩:=h;exact⟨cs,h1,Zg l cs hp h2⟩
 |.tup l,v,hp,h=>by simp only[SR] at h |-;obtain⟨cs,h1,h2⟩:=h;exact⟨cs,h1,Zg l cs hp h2⟩
 |.cp l off,v,hp,h=>by simp only[SR] at h |-;obtain⟨b,c,e,wr,t,h1,h2,h3⟩:=h;exact⟨b,c,e,wr,t,h1,h2,Zg l c hp h3⟩
 |.fn f a b,v,hp,h=>by simp only[SV.pure,z8] at hp;simp only[SR] at h |-;obtain⟨x,y,h1,h2,h3⟩:=h;exact⟨x,y,h1,Zg a x hp.1 h2,Zg b y hp.2 h3⟩
 |.lst _,_,h,_|.sub _ _ _ _,_,h,_|.elp _ _ _ _,_,h,_|.box _ _,_,h,_|.map _,_,h,_|.grd _ _,_,h,_|.bid _ _,_,h,_=>by cases h
theorem Zg {B:Heap}{pl pl':Nat->Value}{tb tb':Nat->Option Bool}:∀ (s:List SV) (v:List Value),SVs.pure s=true->SRs P B pl tb s v->SRs P B pl' tb' s v
 |[],v,_,h=>by simp only[SRs] at h |-;exact h
 |s::ss,v,hp,h=>by simp only[SVs.pure,z8] at hp;simp only[SRs] at h |-;obtain⟨x,y,h1,h2,h3⟩:=h;exact⟨x,y,h1,Ly s x hp.1 h2,Zg ss y hp.2 h3⟩
end
end
end Go.V
namespace Go.V
open Go
section
variable {P:Program}{B F:Heap}{pl:Nat->Value}{tb:Nat->Option Bool}{s:St}{env:Env}{U:Heap}
theorem UI {k k':Kind}{xs:List k.T}{ys:List k'.T}(h:GZ (k:=.list k) xs (k':=.list k') ys):∃ e:k'=k,e▸ys=xs:=by
 unfold GZ at h
 grind [LG,Kind.list.inj,LV]
theorem Zd (hG:Gam P B F pl tb s env U) {mp:List (Nat×Option Nat)}{t:Nat}{b:OB}(h:Q1g s mp t b) :
  OR P B (NW pl mp) Ji U (NW pl mp t) b/\(b.live=true->∀ i,Oid (NW pl mp t) i->∃ a,QF mp t=some (some a)/\(Qa s.own a).live=true/\Oid (pl a) i):=by
 unfold Q1g at h;split at h
 .rename_i a ha;have aU:NW pl mp t=pl a:=by simp[NW,ha]
  rw[aU];have aj:=hG.obj a;split at h
  .exact⟨trivial,λh=>by cases h⟩
  .rename_i ty k xs nl iI k' b9 jY ho;split at h
   .rename_i e;subst e;obtain⟨h1,rfl⟩:=h;obtain⟨rfl,rfl⟩:=UI h1;rw[ho] at aj;exact⟨aj,(by simp_all)⟩
   .exact h.elim
  .rename_i l u l' u' ho;split at h
   .rename_i e0;subst e0;rw[ho] at aj;obtain⟨i,c,e,t',h1,h2,h3,h4⟩:=aj;exact⟨⟨i,c,e,t',h1,h2,Zf l l' c h h3,h4⟩,λ_ i hi=>⟨a,ha,by rw[ho];rfl,hi⟩⟩
   .exact h.elim
  .rename_i kk vk m ji k_ m' ho;split at h
   .obtain⟨e,h1⟩:=UI h;obtain⟨rfl,rfl⟩:=Kind.pair.inj e;subst h1;rw[ho] at aj;exact⟨aj,(by simp_all)⟩
   .exact h.elim
  .rename_i l vals l' jZ ho;rw[ho] at aj;obtain⟨rfl,h⟩:=h;exact⟨Zf l l' vals h aj,λh=>by cases h⟩
  .rename_i l q u l' q' u' ho;rw[ho] at aj;split at h
   .obtain⟨rfl,h⟩:=h;exact⟨⟨aj.1,Zf l l' q.vals h aj.2.1,aj.2.2⟩,λ_ i hi=>⟨a,ha,by rw[ho];rfl,hi⟩⟩
   .obtain⟨rfl,h⟩:=h;exact⟨⟨aj.1,Zf l l' q.vals h aj.2.1,aj.2.2⟩,λh=>by cases h⟩
   .exact h.elim
  .rename_i kk vk m dn ji k_ m' rP ho;split at h
   .obtain⟨h,rfl⟩:=h;obtain⟨e,h1⟩:=UI h;obtain⟨rfl,rfl⟩:=Kind.pair.inj e;subst h1;rw[ho] at aj;exact⟨aj,(by simp_all)⟩
   .exact h.elim
  .rename_i ty q k xs nl h0 iI q' k' b9 jY ry ho;split at h
   .rename_i e;obtain⟨rfl,rfl⟩:=e;split at h
    .obtain⟨h1,rfl⟩:=h;obtain⟨rfl,rfl⟩:=UI h1;rw[ho] at aj;exact⟨aj,(by simp_all)⟩
    .exact h.elim
   .exact h.elim
  .rename_i ik l gF l' ho;split at h
   .rename_i e;obtain⟨rfl,rfl⟩:=e;rw[ho] at aj;exact⟨aj,(by simp_all)⟩
   .exact h.elim
  .exact h.elim
 .rename_i ha;have aU:NW pl mp t=.slice none 0 0:=by simp[NW,ha]
  rw[aU];split at h
  .exact⟨.inl ⟨h.2,h.1,rfl⟩,λ_ i hi=>by cases hi⟩
  .split at h
   .obtain⟨rfl,rfl⟩:=h;refine⟨⟨[],λi=>⟨λh=>(by cases h),λ⟨b,h⟩=>(by cases h)⟩,List.nodup_nil,.inl ⟨rfl,rfl,rfl⟩,λi=>⟨λ⟨b,h⟩=>(by cases h),λh=>(by cases h)⟩,(λi b h=>by cases h),by simp[phd]⟩,λ_ i hi=>by cases hi⟩
   .exact h.elim
  .exact h.elim
 .exact h.elim
theorem Vm {α:Type _}(l:List (Nat×α)) (t:Nat) (x:α) (d:Nat):QF (l++[(t,x)]) d=match QF l d with|some y=>some y|none=>if t=d then some x else none:=by
 induction l with
 |nil =>
  simp only[xN,QF];by_cases h:t=d
  .subst h;simp
  .rw[ZG h];simp[h]
 |cons p l ih =>obtain⟨k,y⟩:=p;simp only[xu,QF,ih];cases Nat.beq k d<;>rfl
theorem EE {α:Type _}{l:List (Nat×α)}{d:Nat}{x:α}(h:QF l d=some x):∃ p∈l,p.1=d/\p.2=x:=by
 induction l with
 |nil=>cases h
 |cons p l ih =>
  obtain⟨k,y⟩:=p;simp only[QF] at h;cases hb:Nat.beq k d with
  |true=>rw[hb] at h;obtain rfl:=osj h;exact(by simp_all)
  |false =>rw[hb] at h;obtain⟨p,h1,h2⟩:=ih h;exact⟨p,zo _ h1,h2⟩
def Inj (mp:List (Nat×Option Nat)):Prop:=∀ t t' a,QF mp t=some (some a)->QF mp t'=some (some a)->t=t'
theorem P_:∀ (l:List (Nat×Src)) (mp bR:List (Nat×Option Nat)),Z2a s l mp=some bR->Inj mp->Inj bR
 |[],mp,bR,h,hi=>by obtain rfl:=osj h;exact hi
 |(t,src)::r,mp,bR,h,hi=>by
  simp only[Z2a] at h;split at h
  .rename_i a _;split at h
   .cases h
   .rename_i hc;refine P_ r _ _ h ?_;have cY:∀ d,QF mp d≠some (some a):=λd hd=>by
     obtain⟨p,h1,h2,h3⟩:=EE hd
     grind
    intro t1 t2 a' h1 h2;rw[Vm] at h1 h2;split at h1
    .rename_i y1 e1;split at h2
     .rename_i y2 e2;obtain rfl:=osj h1;obtain rfl:=osj h2;exact hi t1 t2 a' e1 e2
     simp_all
    .split at h1
     .rename_i e1;obtain rfl:=osj (osj h1);split at h2
      .simp_all
      simp_all
     .cases h1
  .split at h
   .cases h
   .refine P_ r _ _ h ?_;intro t1 t2 a' h1 h2;rw[Vm] at h1 h2;split at h1
    .rename_i y1 e1;split at h2
     .rename_i y2 e2;obtain rfl:=osj h1;obtain rfl:=osj h2;exact hi t1 t2 a' e1 e2
     .split at h2<;>cases h2
    .split at h1<;>cases h1
  .cases h
theorem CI {mp:List (Nat×Option Nat)}:∀ {ow:List (Nat×Src×OB)},gmatch.obs s mp ow->∀ p∈ow,Q1g s mp p.1 p.2.2
 |[],_,p,hp=>by cases hp
 |(t,src,b)::r,h,p,hp=>by
  simp only[gmatch.obs] at h;rcases zA.1 hp with rfl|hp
  .exact h.1
  .exact CI h.2 p hp
theorem U2 {f:List (Nat×Src×OB)}:∀ (own:Own) (t:Nat),(∃ p∈f,p.1=t/\Qa (f.foldl (λo p=>oset o p.1 p.2.2) own) t=p.2.2)\/Qa (f.foldl (λo p=>oset o p.1 p.2.2) own) t=Qa own t:=by
 induction f with
 |nil=>intro own t;exact .inr rfl
 |cons p f ih =>
  intro own t;simp only[wj];rcases ih (oset own p.1 p.2.2) t with⟨q,h1,h2⟩|h
  .grind
  .rw[h,Qk]
   grind
theorem RM (hG:Gam P B F pl tb s env U) {mp:List (Nat×Option Nat)}:∀ (st:List (Nat×SV)) {e:List SV}{eV:Env},gmatch.slots s mp st->SRs P B (NW pl mp) Ji e eV->SRs P B (NW pl mp) Ji (st.foldl (λe p=>e.set p.1 p.2) e) (W5 (st.map (·.1)) (Pn (st.map (·.1)) env) eV)
 |[],e,eV,_,h=>h
 |(j,v)::r,e,eV,hs,h=>by simp only[gmatch.slots] at hs;simp only[wj,zJ,Pn,W5];exact RM hG r hs.2 (h.set j (Kq v _ _ hs.1 (hG.env.getD j poison)))
theorem Q41 {B:Heap}{pl:Nat->Value}{tb:Nat->Option Bool}:∀ n,SRs P B pl tb (List.replicate n .any) (List.replicate n poison)
 |0=>by simp[SRs]
 |n+1=>by simp only[xE,SRs];exact⟨_,_,rfl,by simp[SR],Q41 n⟩
theorem HU {B0 F0 D0:Heap}(hR:GRel P B0 F0 D0 s env U) {st:List (Nat×SV)}{ow:List (Nat×Src×OB)}(h:gmatch s st ow) (len:Nat):GRel P B0 F0 D0 (Zu len st ow) (W5 (st.map (·.1)) (Pn (st.map (·.1)) env) (List.replicate len poison)) U:=by
 obtain⟨B,F,pl,tb,hB,hG⟩:=hR;unfold gmatch at h;split at h
 .rename_i mp lu;obtain⟨h1,h2⟩:=h;have ew:=P_ _ _ _ lu (λt t' a h=>by cases h);have aN:=CI h2;have aj:∀ t,(Qa (Zu len st ow).own t).live=true->Q1g s mp t (Qa (Zu len st ow).own t):=λt hl=>by
   rcases U2 (f:=ow) [] t with⟨p,h3,h4,h5⟩|h3
   .have:=aN p h3;rw[h4,<-h5] at this;exact this
   .simp only[Zu] at hl;rw[h3] at hl;cases hl
  refine⟨B,F,NW pl mp,Ji,hB,hG.bf,hG.le,RM hG st h1 (Q41 len),λt=>?_,λt i hl hi=>?_,λt t' i aB hl cG hi cW=>?_,λ_ _=>rfl⟩
  .cases hl:(Qa (Zu len st ow).own t).live with
   |true=>exact(Zd hG (aj t hl)).1
   |false =>
    cases ho:Qa (Zu len st ow).own t with
    |dead=>trivial
    |stk l vals =>
     rcases U2 (f:=ow) [] t with⟨p,h3,h4,h5⟩|h3
     .have:=aN p h3;simp only[Zu] at ho
      grind [Zd]
     .simp only[Zu] at ho;rw[h3] at ho;cases ho
    |lpf l q u =>
     rcases U2 (f:=ow) [] t with⟨p,h3,h4,h5⟩|h3
     .have:=aN p h3;simp only[Zu] at ho
      grind [Zd]
     .simp only[Zu] at ho;rw[h3] at ho;cases ho
    |_=>rw[ho] at hl;cases hl
  .obtain⟨a,_,h4,h5⟩:=(Zd hG (aj t hl)).2 hl i hi;exact hG.fresh a i h4 h5
  .obtain⟨a,e1,h4,h5⟩:=(Zd hG (aj t hl)).2 hl i hi;obtain⟨a',e2,iw,qu⟩:=(Zd hG (aj t' cG)).2 cG i cW;by_cases e:a=a'
   .subst e;exact aB (ew t t' a e1 e2)
   .exact hG.sep a a' i e h4 iw h5 qu
 .exact h.elim
theorem HH:∀ {df ck:List SV}{vs:List Value}{B F:Heap}{s s':St},Gam P B F pl tb s env U->SRs P B pl tb df vs->Q7p s df=some (s',ck) ->
  ∃ B' F',GBase B F U B' F' U/\Gam P B' F' pl tb s' env U/\SRs P B' Xd Ji ck vs/\s'.env=s.env
 |[],ck,vs,B,F,s,s',hG,hs,h=>by simp only[Q7p,xq,Prod.mk.injEq] at h;obtain⟨rfl,rfl⟩:=h;exact⟨B,F,.of hG.bf (.refl _),hG,hs,rfl⟩
 |v::df,ck,vs,B,F,s,s',hG,hs,h=>by
  simp only[SRs] at hs;obtain⟨u,us,rfl,h1,h2⟩:=hs
  have nQ:∀ w:SV,SR P B pl tb w u->(bif w.pure then (match Q7p s df with|some (s',r)=>some (s',w::r)|none=>none) else none)=some (s',ck) ->
    ∃ B' F',GBase B F U B' F' U/\Gam P B' F' pl tb s' env U/\SRs P B' Xd Ji ck (u::us)/\s'.env=s.env:=λw hw h=>by
   cases hp:w.pure with
   |false=>rw[hp] at h;cases h
   |true =>
    rw[hp] at h;simp only[zi] at h;split at h
    .rename_i s1 r heq;simp only[xq,Prod.mk.injEq] at h;obtain⟨rfl,rfl⟩:=h;obtain⟨B',F',k1,k2,k3,k4⟩:=HH hG h2 heq;exact⟨B',F',k1,k2,by simp only[SRs];exact⟨u,us,rfl,SR.mono k1.b (λ_ _ h=>h) _ _ (Ly w u hp hw),k3⟩,k4⟩
    .cases h
  simp only[Q7p] at h;split at h
  .rename_i o;split at h
   .rename_i l _ ho;cases hp:SVs.pure l with
    |false=>rw[hp] at h;cases h
    |true =>
     rw[hp] at h;simp only[zi] at h;split at h
     .rename_i s1 r heq;simp only[xq,Prod.mk.injEq] at h;obtain⟨rfl,rfl⟩:=h;have aj:=hG.obj o;rw[ho] at aj;obtain⟨i,c,e,t,e1,e2,e3,_⟩:=aj;obtain⟨k1,k2⟩:=hG.freeze (o:=o) (i:=i) (by rw[ho];rfl) (by rw[e1];rfl);obtain⟨B',F',j1,j2,j3,j4⟩:=HH k2 (SRs.mono k1.b (λ_ _ h=>h) _ _ h2) heq;refine⟨B',F',k1.trans j1,j2,?_,j4⟩;simp only[SRs];refine⟨u,us,rfl,?_,j3⟩;simp only[SR] at h1 |-;obtain⟨b,q1,q2⟩:=h1;rw[e1] at q1;obtain rfl:i=b:=by simpa using q1
      refine⟨i,c,e,true,t,j1.b.2 _ _ ?_,q2,SRs.mono (k1.trans j1).b (λ_ _ h=>h) _ _ (Zg l c hp e3)⟩;rw[Heap.q0n];exact e2
     .cases h
   .cases h
  .exact nQ _ h1 h
theorem Gam.lpUpd (hG:Gam P B F pl tb s env U) {n:Nat}{b b0:Blk}(hF:F.get n=some b0) (hB:B.get n=none):Gam P B (F.upd n b) pl tb s env (U.upd n b):=by
 have aB:∀ {d i},(Qa s.own d).live=true->Oid (pl d) i->i≠n:=λh1 h2 e=>by have:=hG.fresh _ _ h1 h2;subst e;rw[hF] at this;cases this
 refine⟨⟨hG.bf.1,λi c hc=>?_⟩,⟨hG.le.1,λi c hc=>?_⟩,hG.env,λd=>(hG.obj d).mono (.refl _) (λ_ _ h=>h) (by grind [Heap.q0b]),λd i h1 h2=>?_,hG.sep,hG.free⟩
 .have:i≠n:=by rintro rfl;rw[hB] at hc;cases hc
  rw[Heap.q0b _ _ this];exact hG.bf.2 _ _ hc
 .by_cases e:i=n
  .subst e;rw[Heap.q0c _ _ (F.lt hF)] at hc;rw[Heap.q0c _ _ (zZ (F.lt hF) hG.le.1)];exact hc
  .rw[Heap.q0b _ _ e] at hc |-;exact hG.le.2 _ _ hc
 .rw[Heap.q0b _ _ (aB h1 h2)];exact hG.fresh _ _ h1 h2
theorem Gam.lpKill (hG:Gam P B F pl tb s env U) {n:Nat}{b0:Blk}(hF:F.get n=some b0) (hB:B.get n=none):Gam P B (F.kill n) pl tb s env (U.kill n):=by
 have aB:∀ {d i},(Qa s.own d).live=true->Oid (pl d) i->i≠n:=λh1 h2 e=>by have:=hG.fresh _ _ h1 h2;subst e;rw[hF] at this;cases this
 refine⟨⟨hG.bf.1,λi c hc=>?_⟩,⟨hG.le.1,λi c hc=>?_⟩,hG.env,λd=>(hG.obj d).mono (.refl _) (λ_ _ h=>h) (by grind [Heap.q0d]),λd i h1 h2=>?_,hG.sep,hG.free⟩
 .have:i≠n:=by rintro rfl;rw[hB] at hc;cases hc
  rw[Heap.q0d _ this];exact hG.bf.2 _ _ hc
 .by_cases e:i=n
  .grind [Heap.q0f]
  .rw[Heap.q0d _ e] at hc |-;exact hG.le.2 _ _ hc
 .rw[Heap.q0d _ (aB h1 h2)];exact hG.fresh _ _ h1 h2
theorem GRel.lpUpd {B1 F1 D0:Heap}(h:GRel P B1 F1 D0 s env U) {n:Nat}{b b0:Blk}(hF:F1.get n=some b0) (hB:B1.get n=none):GRel P B1 (F1.upd n b) D0 s env (U.upd n b):=by
 obtain⟨B,F,pl,tb,dk,hG⟩:=h;have nR:=dk.f.2 _ _ hF;have nS:=dk.x _ _ hF hB;refine⟨B,F.upd n b,pl,tb,⟨dk.b,⟨dk.f.1,λi c hc=>?_⟩,λi c h1 h2=>?_,⟨dk.d.1,λi h1 h2=>?_⟩⟩,hG.lpUpd nR nS⟩
 .by_cases e:i=n
  .subst e;rw[Heap.q0c _ _ (F1.lt hF)] at hc;rw[Heap.q0c _ _ (F.lt nR)];exact hc
  .rw[Heap.q0b _ _ e] at hc |-;exact dk.f.2 _ _ hc
 .by_cases e:i=n
  .subst e;exact nS
  .rw[Heap.q0b _ _ e] at h1;exact dk.x _ _ h1 h2
 .have hd:=dk.d.2 i h1 h2;have:i≠n:=by rintro rfl;rw[hG.le.2 _ _ nR] at hd;cases hd
  rw[Heap.q0b _ _ this];exact hd
theorem GRel.lpKill {B1 F1 D0:Heap}(h:GRel P B1 F1 D0 s env U) {n:Nat}{b0:Blk}(hF:F1.get n=some b0) (hB:B1.get n=none):GRel P B1 (F1.kill n) D0 s env (U.kill n):=by
 obtain⟨B,F,pl,tb,dk,hG⟩:=h;have nR:=dk.f.2 _ _ hF;have nS:=dk.x _ _ hF hB;refine⟨B,F.kill n,pl,tb,⟨dk.b,⟨dk.f.1,λi c hc=>?_⟩,λi c h1 h2=>?_,⟨dk.d.1,λi h1 h2=>?_⟩⟩,hG.lpKill nR nS⟩
 .by_cases e:i=n
  .grind [Heap.q0f]
  .rw[Heap.q0d _ e] at hc |-;exact dk.f.2 _ _ hc
 .by_cases e:i=n
  .subst e;exact nS
  .rw[Heap.q0d _ e] at h1;exact dk.x _ _ h1 h2
 .have hd:=dk.d.2 i h1 h2
  grind [Heap.q0f,Heap.q0d]
theorem GRel.base {B0 F0 B1 F1 D0:Heap}(h:GRel P B1 F1 D0 s env U) (hb:B0.Le B1) (hf:F0.Le F1) (hx:∀ i b,F0.get i=some b->B0.get i=none->B1.get i=none):GRel P B0 F0 D0 s env U:=by obtain⟨B,F,pl,tb,dk,hG⟩:=h;exact⟨B,F,pl,tb,⟨hb.trans dk.b,hf.trans dk.f,λi b h1 h2=>dk.x i b (hf.2 _ _ h1) (hx i b h1 h2),dk.d⟩,hG⟩
theorem P1 (hG:Gam P B F pl tb s env U) {mp:List (Nat×Option Nat)}:∀ (st:List (Nat×SV)) {e:List SV},gmatch.slots s mp st->SRs P B (NW pl mp) Ji e env->SRs P B (NW pl mp) Ji (st.foldl (λe p=>e.set p.1 p.2) e) env
 |[],e,_,h=>h
 |(j,v)::r,e,hs,h=>by
  simp only[gmatch.slots] at hs;simp only[wj];refine P1 hG r hs.2 ?_;have:=h.set j (Kq v _ _ hs.1 (hG.env.getD j poison))
  grind [List.getElem?_eq_getElem,List.set_getElem_self,List.set_eq_of_length_le]
theorem Ii {B:Heap}{pl:Nat->Value}{tb:Nat->Option Bool}:∀ (env:Env),SRs P B pl tb (List.replicate (List.length env) .any) env
 |[]=>by simp[SRs]
 |v::env=>by simp only[zG,xE,SRs];exact⟨_,_,rfl,by simp[SR],Ii env⟩
theorem U_ {B0 F0 D0:Heap}(hR:GRel P B0 F0 D0 s env U) {st:List (Nat×SV)}{ow:List (Nat×Src×OB)}(h:gmatch s st ow):GRel P B0 F0 D0 (Zu (List.length env) st ow) env U:=by
 obtain⟨B,F,pl,tb,hB,hG⟩:=hR;unfold gmatch at h;split at h
 .rename_i mp lu;obtain⟨h1,h2⟩:=h;have ew:=P_ _ _ _ lu (λt t' a h=>by cases h);have aN:=CI h2;have aj:∀ t,(Qa (Zu (List.length env) st ow).own t).live=true->Q1g s mp t (Qa (Zu (List.length env) st ow).own t):=λt hl=>by
   rcases U2 (f:=ow) [] t with⟨p,h3,h4,h5⟩|h3
   .have:=aN p h3;rw[h4,<-h5] at this;exact this
   .simp only[Zu] at hl;rw[h3] at hl;cases hl
  refine⟨B,F,NW pl mp,Ji,hB,hG.bf,hG.le,P1 hG st h1 (Ii env),λt=>?_,λt i hl hi=>?_,λt t' i aB hl cG hi cW=>?_,λ_ _=>rfl⟩
  .cases hl:(Qa (Zu (List.length env) st ow).own t).live with
   |true=>exact(Zd hG (aj t hl)).1
   |false =>
    cases ho:Qa (Zu (List.length env) st ow).own t with
    |dead=>trivial
    |stk l vals =>
     rcases U2 (f:=ow) [] t with⟨p,h3,h4,h5⟩|h3
     .have:=aN p h3;simp only[Zu] at ho
      grind [Zd]
     .simp only[Zu] at ho;rw[h3] at ho;cases ho
    |lpf l q u =>
     rcases U2 (f:=ow) [] t with⟨p,h3,h4,h5⟩|h3
     .have:=aN p h3;simp only[Zu] at ho
      grind [Zd]
     .simp only[Zu] at ho;rw[h3] at ho;cases ho
    |_=>rw[ho] at hl;cases hl
  .obtain⟨a,_,h4,h5⟩:=(Zd hG (aj t hl)).2 hl i hi;exact hG.fresh a i h4 h5
  .obtain⟨a,e1,h4,h5⟩:=(Zd hG (aj t hl)).2 hl i hi;obtain⟨a',e2,iw,qu⟩:=(Zd hG (aj t' cG)).2 cG i cW;by_cases e:a=a'
   .subst e;exact aB (ew t t' a e1 e2)
   .exact hG.sep a a' i e h4 iw h5 qu
 .exact h.elim
theorem An {α:Type}{o:Option α}{f:α->Prop}(h:QV o f):∃ a,f a:=by
 cases o with
 |none=>exact h.elim
 |some a=>exact⟨a,h⟩
theorem COk.nx {C:Cx}(h:COk P C):COk P C.nx:=⟨h.cs,λf x hx=>(by cases hx),h.it,h.yl,h.iy,λf j _ x hx=>(by cases hx)⟩
theorem Yd {S:VSpecs}{Q:Prop}:∀ {ops:List DOper}{env:Env}{hs:List Heap}{U:Heap}{pend:List (Nat×(Heap->Prop))},Jr S ops env hs U pend (λ_ _=>Q)->Q
 |[],_,_,_,_,h=>h
 |o::r,env,hs,U,pend,h=>by
  simp only[Jr] at h;obtain⟨b,h⟩:=An h;cases b with
  |true =>
   have h:=h.1 rfl;split at h
   .obtain⟨v,U',_,_,h⟩:=h;exact Yd h
   .split at h
    .obtain⟨p,_,h⟩:=An h;exact Yd h
    .obtain⟨p,h⟩:=An h;exact Yd h
  |false =>
   have h:=h.2 rfl;split at h
   .exact Yd h.2
   .exact Yd h
theorem RP {C:Cx}{s:St}{st:List (Nat×SV)}{ow:List (Nat×Src×OB)}{Q:Prop}:∀ (ls:List (List DOper)),Q8u C ls s st ow Q->(∀ l∈ls,XP C.nx l s 1 0 [] [] λs'=>HM s.env.length s' st ow)/\Q
 |[],h=>⟨λl hl=>(by cases hl),h⟩
 |l::ls,h=>by obtain⟨h1,h2⟩:=h;obtain⟨h3,h4⟩:=RP ls h2;simp_all
theorem UX {B0 F0 D0:Heap}{s:St}{env:Env}{U:Heap}{n:Nat}(hR:GRel P B0 F0 D0 s env U) {st:List (Nat×SV)}{ow:List (Nat×Src×OB)}(h:HM n s st ow):GRel P B0 F0 D0 (Zu n st ow) env U:=by
 unfold HM at h;cases hb:Nat.beq s.env.length n with
 |false=>rw[hb] at h;exact h.elim
 |true =>
  rw[hb] at h;have hl:env.length=n:=by rw[<-zN hb];obtain⟨_,_,_,_,_,hG⟩:=hR;exact hG.env.length.symm
  rw[<-hl];exact U_ hR h
theorem Ye {C:Cx}(az:COk P C) {B0 F0 D0:Heap}:∀ (aQ:List DSeg) {s:St}{env:Env}{U:Heap},GRel P B0 F0 D0 s env U->∀ {K:St->Prop},Aq C aQ s K->∀ {R:Env->Heap->Prop},(∀ s' ae U',K s'->GRel P B0 F0 D0 s' ae U'->R ae U')->Gs (Q3 P) aQ env U R
 |[],s,env,U,hR,K,h,R,hK=>hK s env U h hR
 |.one o::r,s,env,U,hR,K,h,R,hK=>by refine Gp az [o] hR (K:=λs'=>Aq C r s' K) h λs' ae U' h1 h2=>?_;exact Ye az r h2 h1 hK
 |.alts [l]::r,s,env,U,hR,K,h,R,hK=>by
  simp only[Aq] at h;cases hd:Q74 l with
  |false =>
   rw[hd] at h;simp only[zP] at h;cases hk:l.all (λo=>o.kind==o.op.kind) with
   |false=>rw[hk] at h;exact h.elim
   |true =>rw[hk] at h;simp only[zi] at h;intro ops ho;obtain rfl:=zI.1 ho;obtain⟨B,F,pl,tb,hB,hG⟩:=hR;have one:∀ (j:Nat) (Z:Heap),([U]:List Heap)[j]?=some Z->Z=U:=(by grind);exact Qs az ops (by simp_all) hB hG (hl:=1) (chg:=0) (A:=[]) (Rd:=[]) ⟨rfl,λj Z _ ht=>one j Z ht,(λc hc=>absurd hc (by simp)),(by grind)⟩ (pend:=[]) (pd:=[]) (λc hc=>absurd hc (by simp)) (λj Z ht _=>by rw[one j Z ht];exact hG.leB) (Nat.zero_le _) (Nat.succ_pos _) h λs' ae U' h1 h2=>⟨ae,U',.refl _ _ _,Ye az r h2 h1 hK⟩
  |true =>rw[hd] at h;refine Q3q (l:=l) hd ?_;exact Gp az _ hR h λs' ae U' h1 h2=>Ye az r h2 h1 hK
 |.alts []::r,s,env,U,hR,K,h,R,hK=>h.elim
 |.alts (l::l2::ls)::r,s,env,U,hR,K,h,R,hK=>by
  simp only[Aq] at h;cases hk:(l::l2::ls).all (λl=>l.all λo=>o.kind==o.op.kind) with
  |false=>rw[hk] at h;exact h.elim
  |true =>
   rw[hk] at h;simp only[zi] at h;obtain⟨B,F,pl,tb,hB,hG⟩:=hR;have one:∀ (j:Nat) (Z:Heap),([U]:List Heap)[j]?=some Z->Z=U:=(by grind);have run:∀ l'∈l::l2::ls,∀ {K':St->Prop},XP C.nx l' s 1 0 [] [] K'->∀ {R':Env->Heap->Prop},(∀ s' ae U',K' s'->GRel P B0 F0 D0 s' ae U'->R' ae U')->Jr (Q3 P) l' env [U] U [] R':=λl' cG K' h' R' qq =>
    Qq az.nx rfl l' (by grind) hB hG (hl:=1) (chg:=0) (A:=[]) (Rd:=[]) ⟨rfl,λj Z _ ht=>one j Z ht,(λc hc=>absurd hc (by simp)),(by grind)⟩ (pend:=[]) (pd:=[]) (λc hc=>absurd hc (by simp)) (λj Z ht _=>by rw[one j Z ht];exact hG.leB) (Nat.zero_le _) (Nat.succ_pos _) h' qq
   obtain⟨s0,h0,h1⟩:=Yd (run l zp h (R':=λ_ _=>∃ s0:St,_) λs' _ _ h' _=>⟨s',h'⟩);obtain⟨h2,h3⟩:=RP _ h1;intro ops ho;rcases zA.1 ho with rfl|gL
   .refine Yf ?_;exact run ops ho h λs' ae U' h' qv=>⟨ae,U',.refl _ _ _,by
     obtain⟨k1,k2⟩:=h';exact Ye az r (UX qv k1) (RP _ k2).2 hK⟩
   .refine Yf ?_;exact run ops ho (h2 ops gL) λs' ae U' h' qv=>⟨ae,U',.refl _ _ _,Ye az r (UX qv h') h3 hK⟩
theorem Rm:∀ (l:List Nat) (vs:List SV),(Q9b l vs).map (·.1)=l
 |[],_=>rfl
 |j::js,[]=>by simp[Q9b,Rm js []]
 |j::js,v::vs=>by simp[Q9b,Rm js vs]
theorem MT {B:Heap}{pl:Nat->Value}{tb:Nat->Option Bool}:∀ {ps:List Nat}{xs:List SV}{us:List Value}{e:List SV}{env:Env},SRs P B pl tb xs us->SRs P B pl tb e env->SRs P B pl tb (Bu e ps xs) (Tq env ps us)
 |[],xs,us,e,env,_,h=>by simpa [Bu,Tq] using h
 |p::ps,[],us,e,env,hx,h=>by simp only[SRs] at hx;subst hx;simpa [Bu,Tq] using h
 |p::ps,x::xs,us,e,env,hx,h=>by simp only[SRs] at hx;obtain⟨u,iG,rfl,h1,h2⟩:=hx;simp only[Bu,Tq];exact MT h2 (h.set p h1)
def Z4r (F0:Heap):Option Nat->Prop
 |none=>True
 |some i=>∃ env r st pend,F0.get i=some (.obj (.lp env r st pend) true)
theorem Gam.dropLp {B F:Heap}{pl:Nat->Value}{tb:Nat->Option Bool}{s:St}{env:Env}{U:Heap}(hG:Gam P B F pl tb s env U) {o:Nat}{l:List SV}{q:LpD}{u:LpS}(ho:Qa s.own o=.lpf l q u) (hl:u.live=true) :
  Gam P B F pl tb ⟨l,oset s.own o .dead,s.nx⟩ q.vals (U.kill q.i)/\U.get q.i=some (.obj (.lp q.vals q.r u.st u.pend) true):=by
 have aj:=hG.obj o;rw[ho] at aj;obtain⟨h1,h2,h3⟩:=aj;have iX:(Qa s.own o).live=true:=by rw[ho];exact hl
 have me:Oid (pl o) q.i:=by rw[h1];rfl
 have hF:=hG.fresh o q.i iX me;have lv:∀ d,(Qa (oset s.own o .dead) d).live=true->d≠o/\(Qa s.own d).live=true:=λd h=>by
  rw[Qk] at h;by_cases e:d=o
  .rw[z6 e] at h;cases h
  .rw[z0 e] at h;exact⟨e,h⟩
 refine⟨⟨hG.bf,⟨hG.le.1,λj b hb=>?_⟩,h2,λd=>?_,λd i hd hi=>hG.fresh d i (lv d hd).2 hi,λd d' i e h h'=>hG.sep d d' i e (lv d h).2 (lv d' h').2,hG.free⟩,h3 hl⟩
 .have e:j≠q.i:=by rintro rfl;rw[hF] at hb;cases hb
  rw[Heap.q0d _ e];exact hG.le.2 _ _ hb
 .rw[Qk];by_cases e:d=o
  .rw[z6 e];trivial
  .rw[z0 e];refine (hG.obj d).mono (.refl _) (λ_ _ h=>h) λhd i hi=>?_;have:i≠q.i:=by rintro rfl;exact hG.sep d o q.i e hd iX hi me
   exact Heap.q0d _ this
theorem Q14 (s:St) (o:Nat) (b:OB) (j:Nat):Qa (s.make o b).own j=if j=o then b else (Qa s.own j).kill o:=by
 simp only[St.make,Qk];by_cases h:j=o
 .subst h;simp
 .simp only[h,if_false,St.kill,U9]
theorem Gam.enterLp {B F:Heap}{pl:Nat->Value}{tb:Nat->Option Bool}{s:St}{env:Env}{U:Heap}(hG:Gam P B F pl tb s env U) {o aH:Nat}{l:List SV}{q:LpD}(ho:Qa s.own o=.lpf l q .rdy) (aB:o≠aH)
  {args:List SV}{us:List Value}(aq:SRs P B pl tb args us) (ps:List Nat) :
  Gam P B (F.ins U q.i hG.le.1) (JH pl aH poison) tb ⟨Bu (SVs.kill aH l) ps (SVs.kill aH args),oset (F9 aH env s).own o (.lpf (SVs.kill aH l) q .busy),s.nx⟩ (Tq q.vals ps us) U:=by
 have q3:Gam P B F (JH pl aH poison) tb (F9 aH env s) env U:=by refine hG.make aH _ poison hG.le (λ_ _ _ _ _=>rfl) ?_ (λi hl _=>by cases hl);exact SRs.upd (.refl _) (λ_ _ h=>h) (λj hj=>by simp[JH,hj]) _ _ hG.env
 have aj:=hG.obj o;rw[ho] at aj;obtain⟨h1,h2,h3⟩:=aj;have iX:(Qa s.own o).live=true:=by rw[ho];rfl
 have ig:JH pl aH poison o=.pointer (some ⟨q.i,0,none⟩):=by simp[JH,aB,h1]
 have ud:Qa (F9 aH env s).own o=.lpf (SVs.kill aH l) q .rdy:=by have:=Q14 s aH (.stk (SVs.kill aH s.env) env) o;unfold F9;rw[this,z0 aB,ho];rfl
 have nT:(Qa (F9 aH env s).own o).live=true:=by rw[ud];rfl
 have me:Oid (JH pl aH poison o) q.i:=by rw[ig];rfl
 have hF:=q3.fresh o q.i nT me;have bW:SRs P B (JH pl aH poison) tb (SVs.kill aH l) q.vals:=SRs.upd (.refl _) (λ_ _ h=>h) (λj hj=>by simp[JH,hj]) _ _ h2;have uf:SRs P B (JH pl aH poison) tb (SVs.kill aH args) us:=SRs.upd (.refl _) (λ_ _ h=>h) (λj hj=>by simp[JH,hj]) _ _ aq;have lv:∀ d,(Qa (oset (F9 aH env s).own o (.lpf (SVs.kill aH l) q .busy)) d).live=true->d≠o/\(Qa (F9 aH env s).own d).live=true:=λd h=>by
  rw[Qk] at h;by_cases e:d=o
  .rw[z6 e] at h;cases h
  .rw[z0 e] at h;exact⟨e,h⟩
 refine⟨q3.bf.trans (hG.le.ins _),hG.le.q1v _,MT uf bW,λd=>?_,λd i hd hi=>?_,λd d' i e h h'=>q3.sep d d' i e (lv d h).2 (lv d' h').2,q3.free⟩
 .show OR P B _ tb U _ (Qa (oset _ o _) d);rw[Qk];by_cases e:d=o
  .subst e;rw[z6 rfl];exact⟨ig,bW,λh=>by cases h⟩
  .rw[z0 e];exact q3.obj d
 .obtain⟨e,rZ⟩:=lv d hd;have:i≠q.i:=by rintro rfl;exact q3.sep d o q.i e rZ nT hi me
  rw[Heap.q1b _ _ _ this];exact q3.fresh d i rZ hi
theorem Gam.leaveLp {B F:Heap}{pl:Nat->Value}{tb:Nat->Option Bool}{s:St}{env:Env}{U:Heap}(hG:Gam P B F pl tb s env U) {o aH:Nat}{l l2:List SV}{j5:List Value}{q:LpD}{b0:Blk}(hF:F.get q.i=some b0) (hB:B.get q.i=none)
  (h2:Qa s.own aH=.stk l2 j5) (ho:Qa s.own o=.lpf l q .busy) (u:LpS) :
  Gam P B (F.kill q.i) pl tb ⟨l2,oset (oset s.own aH .dead) o (.lpf l q u),s.nx⟩ j5 (U.upd q.i (.obj (.lp q.vals q.r u.st u.pend) true)):=by
 have aj:=hG.obj o;rw[ho] at aj;obtain⟨k1,k2,_⟩:=aj;have hk:=hG.obj aH;rw[h2] at hk;have hi:q.i<U.n:=U.lt (hG.le.2 _ _ hF);have aB:∀ {d i},(Qa s.own d).live=true->Oid (pl d) i->i≠q.i:=λh1 h2 e=>by have:=hG.fresh _ _ h1 h2;subst e;rw[hF] at this;cases this
 have me:∀ i,Oid (pl o) i->i=q.i:=λi h=>by rw[k1] at h;exact(osj h).symm
 have hg:∀ d,Qa (oset (oset s.own aH .dead) o (.lpf l q u)) d=if d=o then .lpf l q u else if d=aH then .dead else Qa s.own d:=λd=>by rw[Qk,Qk]
 have lv:∀ d,d≠o->(Qa (oset (oset s.own aH .dead) o (.lpf l q u)) d).live=true->(Qa s.own d).live=true:=λd e h=>by
  rw[hg,z0 e] at h;split at h
  .cases h
  .exact h
 refine⟨⟨hG.bf.1,λj b hb=>?_⟩,⟨hG.le.1,λj b hb=>?_⟩,hk,λd=>?_,λd i hd cW=>?_,λd d' i e h h' h1 kR=>?_,hG.free⟩
 .have e:j≠q.i:=by rintro rfl;rw[hB] at hb;cases hb
  rw[Heap.q0d _ e];exact hG.bf.2 _ _ hb
 .by_cases e:j=q.i
  .grind [Heap.q0f]
  .rw[Heap.q0d _ e] at hb;rw[Heap.q0b _ _ e];exact hG.le.2 _ _ hb
 .show OR P B pl tb _ _ (Qa (oset _ o _) d);rw[hg];by_cases e:d=o
  .subst e;rw[z6 rfl];exact⟨k1,k2,λ_=>Heap.q0c _ _ hi⟩
  .rw[z0 e];split
   .trivial
   .exact(hG.obj d).mono (.refl _) (λ_ _ h=>h) (by grind [Heap.q0b])
 .by_cases e:d=o
  .grind [Heap.q0f]
  .rw[Heap.q0d _ (aB (lv d e hd) cW)];exact hG.fresh d i (lv d e hd) cW
 .by_cases e1:d=o
  .grind
  .by_cases e2:d'=o
   .grind
   .exact hG.sep d d' i e (lv d e1 h) (lv d' e2 h') h1 kR
theorem Vd {C:Cx}(az:COk P C) {L:List (Nat×LoopAnn)}(vc:VCode):∀ {B0 F0 D0:Heap}(n:Nat) (K:Exit->St->Prop) (s:St) (env:Env) (U:Heap) (ro:Option Nat) (Q:Exit->Env->Heap->Prop),Z4r F0 ro->GRel P B0 F0 D0 s env U->gwp C L vc n K s->(∀ e s' ae U',K e s'->GRel P B0 F0 D0 s' ae U'->Q e ae U')->vwp (Q3 P) vc ro Q env U:=by
 induction vc with
 |skip=>intro B0 F0 D0 n K s env U ro Q bL hR h hK;exact hK _ _ _ _ h hR
 |region ops=>intro B0 F0 D0 n K s env U ro Q bL hR h hK;exact Gp az ops hR h (by grind)
 |regionD aQ=>intro B0 F0 D0 n K s env U ro Q bL hR h hK;exact Ye az aQ hR h (by grind)
 |rangeF g ps a b fh eK =>
  intro B0 F0 D0 n K s env U ro Q bL hR h hK;simp only[gwp] at h;split at h
  .rename_i f first df hg
   split at h
   .
    rename_i x hx;obtain⟨B,F,pl,tb,hB,hG⟩:=hR;have gi:=hG.evs (Gds.nil (tb:=tb)) g;rw[hg] at gi;simp only[SR] at gi;obtain⟨x',y',cy,lx,nU⟩:=gi;obtain⟨gR,mb⟩:=az.iy f x hx;show vwp (Q3 P) (.rangeF g ps a b) ro Q env U;simp only[vwp,ED,cy];have ly:(Q3 P).it f=some λi Y args U K=>VL P i Y->VCallsTo P f args U K:=by simp only[Q3];rw[z6 gR]
    rw[ly];refine⟨?_,λr hY=>?_⟩
    .cases ro with
     |none=>trivial
     |some i =>obtain⟨e1,r1,st1,qw,hi⟩:=bL;exact⟨e1,r1,st1,qw,hG.le.2 _ _ (hB.f.2 _ _ hi)⟩
    generalize jC:C.off+2000000+n=o at h;generalize fx:100000*(o+1)-1=aH at h;have ak:o≠aH:=by omega
    let q:LpD:=⟨U.n,env,r⟩;let rdy:Blk:=.obj (.lp env r .ready none) true;let eL:Blk:=.obj (.lp env r .busy none) true;let p0:Value:=.pointer (some ⟨U.n,0,none⟩);have ic:Gam P B F (JH pl o p0) tb (Z4w o q s) env (U.push rdy):=by refine hG.push o (.lpf (SVs.kill o s.env) q .rdy) p0 rdy rfl ⟨rfl,SRs.upd (.refl _) (λ_ _ h=>h) (λj hj=>by simp[JH,hj]) _ _ hG.env,λ_=>Heap.q0a _ _⟩
    have kl:∀ {xs us},SRs P B pl tb xs us->SRs P B (JH pl o p0) tb (SVs.kill o xs) us:=λh=>SRs.upd (.refl _) (λ_ _ h=>h) (λj hj=>by simp[JH,hj]) _ _ h;have aq:SRs P B (JH pl o p0) tb (SVs.kill o first++(.dd o .yv::SVs.kill o df)) (x'++(.func (.yield U.n) #[] #[]::y')):=by refine (kl lx).append ?_;simp only[SRs,SR,DR];exact⟨_,_,rfl,⟨U.n,by simp[JH,p0],rfl⟩,kl nU⟩
    have ug:Q61 P o (Q32 o aH ps.length q (λK' s'=>gwp C L a n (Q69 (λs3=>gwp C L b n K' s3) λ_ _=>False) s') ps):=by
     intro B F pl tb s ae U args us K R i hG ha hy ig hK;unfold Q32 at hy;split at hy
     .rename_i l q' u ho;split at hy
      .cases hlen:Nat.beq args.length ps.length with
       |false=>rw[hlen] at hy;exact hy.elim
       |true =>
       rw[hlen] at hy;simp only[zi] at hy;obtain⟨rfl,hy⟩:=hy;have aj:=hG.obj o;rw[ho] at aj;have hi:i=q.i:=by have h1:=aj.1;simp_all
       subst hi;have mf:U.get q.i=some rdy:=aj.2.2 rfl;have iX:(Qa s.own o).live=true:=by rw[ho];rfl
       have nJ:F.get q.i=none:=hG.fresh o q.i iX (by rw[aj.1];rfl);have r4:B.get q.i=none:=by
        cases hb:B.get q.i with
        |none=>rfl
        |some b=>rw[hG.bf.2 _ _ hb] at nJ;cases nJ
       have j9:=hG.enterLp ho ak ha ps;have jk:(F.ins U q.i hG.le.1).get q.i=some rdy:=by rw[Heap.q0n];exact mf
       have gu:(F.ins U q.i hG.le.1).n=U.n:=rfl;have aO:q.i<U.n:=U.lt mf;refine hY us U R ⟨mf,by rw[<-ha.length];exact(zN hlen),?_⟩;refine fh (B0:=B) (F0:=F.ins U q.i hG.le.1) (D0:=U) n _ _ _ U (some q.i) _ ⟨env,r,_,_,jk⟩ ⟨B,_,_,tb,.of j9.bf (Dead.refl _),j9⟩ (hy ae) λe s3 qx σ3 h7 h8=>?_;cases e with
       |normal =>
        have kJ:σ3.get q.i=some rdy:=by obtain⟨B',F',pl',tb',q1,q2⟩:=h8;exact q2.le.2 _ _ (q1.f.2 _ _ jk)
        refine⟨kJ,?_⟩;have h9:=h8.lpUpd (b:=eL) jk r4;have mg:((F.ins U q.i hG.le.1).upd q.i eL).get q.i=some eL:=(by grind [Heap.q0c]);refine eK (B0:=B) (F0:=(F.ins U q.i hG.le.1).upd q.i eL) (D0:=U) n _ _ _ _ (some q.i) _ ⟨env,r,_,_,mg⟩ h9 h7 λe s4 qy σ4 bQ gp=>?_;obtain⟨B',F',pl',tb',q1,q2⟩:=gp;have oX:=q1.f.2 _ _ mg;have qz:=q1.x _ _ mg r4;have ij:σ4.get q.i=some eL:=q2.le.2 _ _ oX;unfold gyK at bQ;split at bQ
        .rename_i l2 j5 l3 q3 u3 au qA;split at bQ
         .obtain⟨rfl,rfl,bQ⟩:=bQ;have base:∀ b,GBase B F U B' (F'.kill q.i) (σ4.upd q.i b):=λb=>by
           refine⟨q1.b,⟨?_,λj c hc=>?_⟩,λj c h1 h2=>?_,q1.d.trans (Dead.upd _ _ _ (by rw[ij];rfl))⟩
           .have h1:=q1.f.1;have h2:=hG.le.1;show F.n<=F'.n;have h3:((F.ins U q.i hG.le.1).upd q.i eL).n=U.n:=rfl;omega
           .have e:j≠q.i:=by rintro rfl;rw[nJ] at hc;cases hc
            rw[Heap.q0d _ e];refine q1.f.2 _ _ ?_
            grind [Heap.q0b,Heap.q1b]
           .have e:j≠q.i:=by rintro rfl;rw[nJ] at h1;cases h1
            refine q1.x j c ?_ h2
            grind [Heap.q0b,Heap.q1b]
          refine⟨ij,?_⟩;cases e with
          |normal=>exact hK _ _ B' _ pl' tb' _ _ bQ (base _) (q2.leaveLp oX qz au qA .rdy) (by simp[SR,KC])
          |ret=>exact hK _ _ B' _ pl' tb' _ _ bQ (base _) (q2.leaveLp oX qz au qA .ret) (by simp[SR,KC])
          |exit id=>exact hK _ _ B' _ pl' tb' _ _ bQ (base _) (q2.leaveLp oX qz au qA (.exit id)) (by simp[SR,KC])
          |_=>exact bQ.elim
         .exact bQ.elim
        .exact bQ.elim
       |_=>exact h7.elim
      .exact hy.elim
     .exact hy.elim
    have aT:=mb B F _ tb _ env (U.push rdy) o _ _ _ (Q7s o q K) (λZ=>Q5f Q env U.n poison Z) ic aq ug (h q) λs' B' F' pl' tb' ae U' hk hb dq=>by
     unfold Q7s at hk;split at hk
     .rename_i l q' u ho;have fin:∀ {e:Exit},u.live=true->q'=q->K e ⟨l,oset s'.own o .dead,s'.nx⟩->Q e env (U'.kill U.n)/\U'.get U.n=some (.obj (.lp env r u.st u.pend) true):=λ{e} hu hq uh=>by
       subst hq;obtain⟨g1,g2⟩:=dq.dropLp ho hu;refine⟨hK _ _ _ _ uh ⟨B',F',pl',tb',⟨hB.b.trans hb.b,hB.f.trans hb.f,λj c h1 h2=>hb.x j c (hB.f.2 _ _ h1) (hB.x j c h1 h2),hB.d.trans ((Dead.push _ _).trans (hb.d.trans (Dead.kill _ _)))⟩,g1⟩,g2⟩
      cases u with
      |busy=>exact hk.elim
      |rdy =>obtain⟨hq,hk⟩:=hk;obtain⟨k1,k2⟩:=fin rfl hq hk;unfold Q5f;rw[k2];exact⟨(by intro h;cases h),k1⟩
      |ret =>obtain⟨hq,hk⟩:=hk;obtain⟨k1,k2⟩:=fin rfl hq hk;unfold Q5f;rw[k2];exact⟨(by intro h;cases h),k1⟩
      |exit id =>obtain⟨hq,hk⟩:=hk;obtain⟨k1,k2⟩:=fin rfl hq hk;unfold Q5f;rw[k2];exact⟨(by intro h;cases h),k1⟩
     .exact hk.elim
    refine VCallsTo.mono (R:=λ_ Z=>Q5f Q env U.n poison Z) (by simpa using aT) λv Z h=>h
   split at h
   rotate_left
   .exact h.elim
   split at h
   .rename_i it s1 ck A mP qB hA;split at h
    .rename_i c m ar xs hc;cases dI:Nat.beq ps.length ar with
     |false=>rw[dI] at h;exact h.elim
     |true =>
     rw[dI] at h;simp only[zi] at h;obtain⟨eF,p,d0,eG,I,ui,r6,uj⟩:=h;have dI:=zN dI;have hlen:s.env.length=env.length:=by obtain⟨B,F,pl,tb,_,hG⟩:=hR;exact hG.env.length
     rw[hlen] at r6 uj;have qn:=hR;obtain⟨B,F,pl,tb,hB,hG⟩:=hR;have gi:=hG.evs Gds.nil g;rw[hg] at gi;simp only[SR] at gi;obtain⟨x,y,cy,hx,hy⟩:=gi;simp only[SRs] at hx;subst hx;obtain⟨B1,F1,nV,nW,uk,l6⟩:=HH hG hy qB;obtain⟨gR,qC⟩:=az.it f it mP;obtain⟨nX,qD⟩:=qC B1 ck y c m ar xs uk hc eF;have um:GRel P B1 F1 D0 (Zu (List.length env) (A.st p d0) (A.own p d0)) env U:=U_ ⟨B1,F1,pl,tb,⟨.refl _,.refl _,λ_ _ _ h=>h,(hB.trans nV).d⟩,nW⟩ eG;have mh:B1.get U.n=none:=B1.wf _ nW.leB.1;have vR:F1.get U.n=none:=F1.wf _ nW.le.1;show vwp (Q3 P) (.rangeF g ps a b) ro Q env U;simp only[vwp,ED,cy];have ly:(Q3 P).it f=some λi Y args U K=>VL P i Y->VCallsTo P f args U K:=by simp only[Q3];rw[z6 gR]
     rw[ly];refine⟨?_,λr hY=>?_⟩
     .cases ro with
      |none=>trivial
      |some i =>obtain⟨e1,r1,st1,qw,hi⟩:=bL;exact⟨e1,r1,st1,qw,hG.le.2 _ _ (hB.f.2 _ _ hi)⟩
     .let rdy:Blk:=.obj (.lp env r .ready none) true;let eL:Blk:=.obj (.lp env r .busy none) true;have j_:F1.Le (U.push rdy):=nW.le.push rdy;let Fr:=F1.ins (U.push rdy) U.n j_.1;have jk:Fr.get U.n=some rdy:=by
       grind [Heap.q0n,Heap.q0a]
      have gu:Fr.n=U.n+1:=rfl;have uo:F1.Le Fr:=j_.ins U.n;let J:Nat->Heap->Prop:=λk Z=>∃ d,I k d/\GRel P B1 Fr D0 (Zu (List.length env) (A.st p d) (A.own p d)) env Z;let E:Heap->Prop:=λZ=>∃ cd e,Z.get U.n=some (.obj (.lp env r .done (some cd)) true)/\((cd=.ret/\e=Exit.ret)\/∃ id,cd=.exit id/\e=Exit.exit id)/\Q e env (Z.kill U.n);have back:∀ {s':St}{Z:Heap},GRel P B1 (Fr.upd U.n eL) D0 s' env Z->∀ b,GRel P B1 ((Fr.upd U.n eL).upd U.n b) D0 s' env (Z.upd U.n b):=λh b =>
       h.lpUpd (b0:=eL) (Heap.q0c _ _ (by rw[gu];omega)) mh
      have ka:∀ {Fx:Heap}{b0:Blk}{s':St}{Z:Heap},Fx.get U.n=some b0->(∀ i,i≠U.n->Fx.get i=F1.get i)->Fx.n=U.n+1->GRel P B1 Fx D0 s' env Z->GRel P B0 F0 D0 s' env (Z.kill U.n):=λ{Fx b0 s' Z} h1 h2 h3 h4=>by
       refine (h4.lpKill h1 mh).base (hB.b.trans nV.b) ⟨?_,λi b hb=>?_⟩ λi b k1 k2=>(hB.trans nV).x i b k1 k2
       .show F0.n<=Fx.n;rw[h3];have:=(hB.trans nV).f.1;have:=nW.le.1;omega
       .have bE:=(hB.trans nV).f.2 _ _ hb
        grind [Heap.q0d]
      have qE:∀ i,i≠U.n->Fr.get i=F1.get i:=λi e=>Heap.q1b _ _ _ e;have aT:=qD U.n _ J E (U.push rdy) hY (λk Z ⟨d,_,hd⟩=>?_) (λk us Z hk ⟨d,r7,hd⟩ ef=>?_) ⟨d0,ui,?_⟩
      .refine VCallsTo.mono (R:=λ_ Z=>J m Z\/E Z) (by simpa using aT) λv Z rL=>?_;unfold Q5f;rcases rL with⟨d,r7,hd⟩|⟨cd,e,h1,h2,h3⟩
       .have mf:Z.get U.n=some rdy:=by
         obtain⟨B',F',pl',tb',q1,q2⟩:=hd;exact q2.le.2 _ _ (q1.f.2 _ _ jk)
        grind
       grind
      .obtain⟨B',F',pl',tb',q1,q2⟩:=hd;exact q1.b.trans q2.leB
      .
       have mf:Z.get U.n=some rdy:=by obtain⟨B',F',pl',tb',q1,q2⟩:=hd;exact q2.le.2 _ _ (q1.f.2 _ _ jk)
       refine⟨mf,by rw[dI,<-(nX k).1,ef.length],?_⟩;have hF:=r6 k d hk r7 env;have aY:GRel P B1 Fr D0 ⟨Bu (F9 (2000000+n) env (Zu (List.length env) (A.st p d) (A.own p d))).env ps (xs k),(F9 (2000000+n) env (Zu (List.length env) (A.st p d) (A.own p d))).own,0⟩ (Tq env ps us) Z:=by
        obtain⟨B',F',pl',tb',q1,q2⟩:=hd;have q3:Gam P B' F' (JH pl' (2000000+n) poison) tb' (F9 (2000000+n) env (Zu (List.length env) (A.st p d) (A.own p d))) env Z:=by refine q2.make (2000000+n) _ poison q2.le (λ_ _ _ _ _=>rfl) ?_ (λi hl _=>by cases hl);exact SRs.upd (.refl _) (λ_ _ h=>h) (λj hj=>by simp[JH,hj]) _ _ q2.env
        refine⟨B',F',JH pl' (2000000+n) poison,tb',q1,⟨q3.bf,q3.le,MT ?_ q3.env,q3.obj,q3.fresh,q3.sep,?_⟩⟩
        .exact SRs.mono q1.b (λ_ _ h=>h) _ _ (Zg _ _ (nX k).2 ef)
        .exact q3.free
       refine fh (B0:=B1) (F0:=Fr) n _ _ _ Z (some U.n) _ ⟨env,r,_,_,jk⟩ aY hF λe s3 qx σ3 h7 h8=>?_;cases e with
       |normal =>
        have kJ:σ3.get U.n=some rdy:=by obtain⟨B',F',pl',tb',q1,q2⟩:=h8;exact q2.le.2 _ _ (q1.f.2 _ _ jk)
        refine⟨kJ,?_⟩;have h9:=h8.lpUpd (b:=eL) jk mh;have mg:(Fr.upd U.n eL).get U.n=some eL:=Heap.q0c _ _ (by rw[gu];omega);refine eK (B0:=B1) (F0:=Fr.upd U.n eL) n _ _ _ _ (some U.n) _ ⟨env,r,_,_,mg⟩ h9 h7 λe s4 qy σ4 bQ gp=>?_;have ij:σ4.get U.n=some eL:=by obtain⟨B',F',pl',tb',q1,q2⟩:=gp;exact q2.le.2 _ _ (q1.f.2 _ _ mg)
        have r8:U.n<σ4.n:=σ4.lt ij;unfold Q2v at bQ;split at bQ
        .rename_i l vs fJ;obtain⟨rfl,bQ⟩:=bQ;have cY:GRel P B1 (Fr.upd U.n eL) D0 ⟨l,s4.own,s4.nx⟩ vs σ4:=by
          obtain⟨B',F',pl',tb',q1,q2⟩:=gp;have:=q2.obj (2000000+n);rw[fJ] at this;exact⟨B',F',pl',tb',q1,q2.bf,q2.le,this,q2.obj,q2.fresh,q2.sep,q2.free⟩
         have nY:∀ b,((Fr.upd U.n eL).upd U.n b).get U.n=some b:=λb=>Heap.q0c _ _ (by show U.n<Fr.n;rw[gu];omega);have r9:∀ b i,i≠U.n->((Fr.upd U.n eL).upd U.n b).get i=F1.get i:=(by grind [Heap.q0b]);refine⟨ij,?_⟩;cases e with
         |normal =>
          obtain⟨d',lb,uq⟩:=bQ;refine .inl ⟨rfl,d',uq,?_⟩;have:=(back (U_ cY lb) rdy).base (B0:=B1) (F0:=Fr) (.refl _) ⟨zd _,λi b hb=>?_⟩ λi b k1 k2=>k2
          .exact this
          .grind
         |ret =>refine .inr ⟨rfl,_,_,Heap.q0c _ _ r8,.inl ⟨rfl,rfl⟩,hK _ _ _ _ bQ (ka (nY _) (r9 _) (by show Fr.n=_;exact gu) (back cY _))⟩
         |exit id =>refine .inr ⟨rfl,_,_,Heap.q0c _ _ r8,.inr ⟨id,rfl,rfl⟩,hK _ _ _ _ bQ (ka (nY _) (r9 _) (by show Fr.n=_;exact gu) (back cY _))⟩
         |_=>exact bQ.elim
        .exact bQ.elim
       |_=>exact h7.elim
      .
       obtain⟨B',F',pl',tb',q1,q2⟩:=um;have hle:F'.Le (U.push rdy):=q2.le.push rdy;have ur:F'.get U.n=none:=F'.wf _ q2.le.1;have aj:∀ d i,(Qa (Zu (List.length env) (A.st p d0) (A.own p d0)).own d).live=true->Oid (pl' d) i->i<U.n:=λd i h1 h2=>(q2.obj d).q1a h1 h2;refine⟨B',F'.ins (U.push rdy) U.n hle.1,pl',tb',⟨q1.b,Heap.q1w q1.f _ _ _,λi b k1 k2=>?_,q1.d.trans (Dead.push _ _)⟩,⟨q2.bf.trans (hle.ins _),hle.q1v _,q2.env,λd=>(q2.obj d).mono (.refl _) (λ_ _ h=>h) (by grind [Heap.q0k]),λd i h1 h2=>?_,q2.sep,q2.free⟩⟩
       .by_cases e:i=U.n
        .subst e;exact B'.wf _ q2.leB.1
        .rw[qE i e] at k1;exact q1.x i b k1 k2
       .rw[Heap.q1b _ _ _ (Nat.ne_of_lt (aj d i h1 h2))];exact q2.fresh d i h1 h2
    .exact h.elim
   .exact h.elim
  .exact h.elim
 |bad=>intro B0 F0 D0 n K s env U ro Q bL hR h hK;exact h.elim
 |ret=>intro B0 F0 D0 n K s env U ro Q bL hR h hK;exact hK _ _ _ _ h hR
 |exit id=>intro B0 F0 D0 n K s env U ro Q bL hR h hK;exact hK _ _ _ _ h hR
 |seq a b fh eK =>
  intro B0 F0 D0 n K s env U ro Q bL hR h hK;refine fh n _ s env U ro _ bL hR h λe s' ae U' h1 h2=>?_;cases e with
  |normal=>exact eK n K s' ae U' ro Q bL h2 h1 hK
  |_=>exact hK _ _ _ _ h1 h2
 |cond c a b fh eK =>
  intro B0 F0 D0 n K s env U ro Q bL hR h hK;simp only[gwp] at h;split at h
  .rename_i t ht;have qn:=hR;obtain⟨B,F,pl,tb,hB,hG⟩:=hR;have:=MN hG ht;simp only[vwp,this,Q1z];cases t with
   |true=>exact⟨(by grind),λe=>by cases e⟩
   |false=>exact⟨(λe=>by cases e),(by grind)⟩
  split at h
  .rename_i t ht;obtain⟨B,F,pl,tb,hB,hG⟩:=hR;have:=W4 ht (hG.evs Gds.nil c);simp only[vwp,this,Q1z];split at h
   .rename_i A hA;obtain⟨p,I,hF,hI⟩:=h;have fin:∀ e s' ae U',Q8y s.env.length A p I K e s'->GRel P B0 F0 D0 s' ae U'->Q e ae U':=λe s' ae U' h1 h2=>by
     cases e with
     |normal =>obtain⟨d,h3,h4⟩:=h1;exact hK _ _ _ _ (hI d h4) (UX h2 h3)
     |_=>exact hK _ _ _ _ h1 h2
    exact⟨λe=>fh n _ s env U ro Q bL ⟨B,F,pl,tb,hB,hG⟩ (hF.1 e) fin,λe=>eK n _ s env U ro Q bL ⟨B,F,pl,tb,hB,hG⟩ (hF.2 e) fin⟩
   exact⟨λe=>fh n K s env U ro Q bL ⟨B,F,pl,tb,hB,hG⟩ (h.1 e) hK,λe=>eK n K s env U ro Q bL ⟨B,F,pl,tb,hB,hG⟩ (h.2 e) hK⟩
  .exact h.elim
 |block id b ih =>
  intro B0 F0 D0 n K s env U ro Q bL hR h hK;refine ih id _ s env U ro _ bL hR h λe s' ae U' h1 h2=>?_;cases e with
  |exit gH =>
   simp only[Q19] at h1;simp only[O5];split
   .grind
   .grind
  |_=>exact hK _ _ _ _ h1 h2
 |loop b ih =>
  intro B0 F0 D0 n K s env U ro Q bL hR h hK;simp only[gwp] at h;split at h
  .rename_i A hA;obtain⟨p,d0,h1,I,μ,h2,h3⟩:=h;have hlen:s.env.length=env.length:=by obtain⟨B,F,pl,tb,_,hG⟩:=hR;exact hG.env.length
   have hk:∀ d,(A.st p d).map (·.1)=A.sl:=λd=>Rm _ _;refine⟨A.sl,λm vs U'=>∃ d,I d/\μ d=m/\GRel P B0 F0 D0 (Zu s.env.length (A.st p d) (A.own p d)) (W5 A.sl vs (List.replicate env.length poison)) U',μ d0,⟨d0,h2,rfl,?_⟩,λm vs U' ⟨d,h4,h5,h6⟩=>?_⟩
   .grind [HU]
   .refine ih n _ _ _ U' ro _ bL h6 (h3 d h4) λe s' ae aE h7 h8=>?_;cases e with
    |normal =>
     simp only[Q78] at h7;cases nk:Z3c s'.own with
     |false=>rw[nk] at h7;exact h7.elim
     |true =>
     rw[nk] at h7;obtain⟨d',h9,bQ,gp⟩:=h7;refine⟨μ d',by omega,d',bQ,rfl,?_⟩;have:=HU h8 h9 s.env.length;rw[hk d',hlen] at this;rw[hlen];exact this
    |_=>exact hK _ _ _ _ h7 h8
  .exact h.elim
end
end Go.V
namespace Go.V
open Go
def F4 (s:St):VResult->Option SV
 |.tmp t=>some (s.env.getD t .any)
 |.cell a agg size=>bif Nat.blt 0 size then Q6e s.own agg size (s.env.getD a .any) else none
def XC (s:St) (rs:List VResult):Option SV :=
 match rs with
 |[r]=>F4 s r
 |rs=>(rs.mapM (F4 s)).map .tup
def Q7a (mp:List (Nat×Option Nat)) (j:Nat) (a:Option Nat):Option (List (Nat×Option Nat)) :=
 if (QF mp j).isSome then none else match a with
 |some x=>if mp.any λp=>p.2==some x then none else some (mp++[(j,a)])
 |none=>some (mp++[(j,a)])
mutual
def Q2o:SV->SV->List (Nat×Option Nat)->Option (List (Nat×Option Nat))
 |.lst j,v,mp=>match v with|.lst a=>Q7a mp j (some a)|.nilS=>Q7a mp j none|_=>none
 |.map j,v,mp=>match v with|.map a=>Q7a mp j (some a)|_=>none
 |.dd j w,v,mp=>match w with
  |.out=>(match v with
   |.dd a w'=>(match w' with|.out=>Q7a mp j (some a)|_=>none)
   |.nilS=>Q7a mp j none
   |_=>none)
  |_=>none
 |.box j _,v,mp=>match v with|.box a _=>Q7a mp j (some a)|_=>none
 |.agg l,v,mp=>match v with|.agg l'=>OT l l' mp|_=>none
 |.tup l,v,mp=>match v with|.tup l'=>OT l l' mp|_=>none
 |.any,_,mp=>some mp
 |.val _ _,_,mp=>some mp
 |.nilS,_,mp=>some mp
 |.nilP,_,mp=>some mp
 |.nilM,_,mp=>some mp
 |.nilF,_,mp=>some mp
 |.sub _ _ _ _,_,_|.elp _ _ _ _,_,_|.grd _ _,_,_|.cp _ _,_,_|.fn _ _ _,_,_|.rop _ _ _ _,_,_|.pf _ _ _ _,_,_|.bid _ _,_,_=>none
def OT:List SV->List SV->List (Nat×Option Nat)->Option (List (Nat×Option Nat))
 |[],_,mp=>some mp
 |s::ss,l,mp=>match l with
  |v::vs=>match Q2o s v mp with|some mp=>OT ss vs mp|none=>none
  |[]=>none
end
def Q4s (s:St) (mp:List (Nat×Option Nat)):Nat->List OB->Prop
 |_,[]=>True
 |j,b::r=>Q1g s mp j b/\Q4s s mp (j+1) r
def K9 (rs:List VResult) (v:SV) (bs:List OB):Exit->St->Prop:=λe s =>
 let fin:=match XC s rs with
  |some r=>(match Q2o v r [] with
   |some mp=>PS mp v r/\Q4s s mp 0 bs
   |none=>False)
  |none=>False
 match e with
 |.normal=>fin
 |.ret=>fin
 |_=>False
section
variable {P:Program}{B F:Heap}{pl:Nat->Value}{tb:Nat->Option Bool}{s:St}{env:Env}{U:Heap}
theorem Rp (hG:Gam P B F pl tb s env U) {r:VResult}{v:SV}(h:F4 s r=some v):∃ u,JI env U r=some u/\SR P B pl tb v u:=by
 cases r with
 |tmp t=>obtain rfl:=osj h;exact⟨_,rfl,hG.env.getD t undef⟩
 |cell a agg size =>
  simp only[F4] at h;cases hb:Nat.blt 0 size with
  |false=>rw[hb] at h;cases h
  |true =>rw[hb] at h;obtain⟨i,o,c,e,wr,t,u,h1,h2,h3,h4⟩:=RZ hG.leB hG.obj (by simpa [zF] using hb) h (hG.env.getD a undef);refine⟨u,?_,h4⟩;simp only[JI,Q7,Q4,h1,h2,h3];rfl
theorem JP (hG:Gam P B F pl tb s env U) {rs:List VResult}{v:SV}(h:XC s rs=some v):∃ u,J6 env U rs=some u/\SR P B pl tb v u:=by
 have all:∀ (rs:List VResult) (l:List SV),rs.mapM (F4 s)=some l->∃ us,rs.mapM (JI env U)=some us/\SRs P B pl tb l us:=by
  intro rs;induction rs with
  |nil=>intro l h;simp at h;subst h;exact⟨[],rfl,rfl⟩
  |cons r rs ih =>
   intro l h;rw[xg] at h;cases h1:F4 s r with
   |none=>simp[h1] at h
   |some a =>
    cases h2:rs.mapM (F4 s) with
    |none=>simp[h1,h2] at h
    |some l' =>simp[h1,h2] at h;subst h;obtain⟨u,h3,h4⟩:=Rp hG h1;obtain⟨us,h5,h6⟩:=ih l' h2;exact⟨u::us,by rw[xg];simp[h3,h5],by simp only[SRs];exact⟨u,us,rfl,h4,h6⟩⟩
 have tup:(rs.mapM (F4 s)).map SV.tup=some v->∃ u,(rs.mapM (JI env U)).map (λvs=>Value.tuple vs.toArray)=some u/\SR P B pl tb v u:=λh=>by simp only[zq] at h;obtain⟨l,h1,rfl⟩:=h;obtain⟨us,h2,h3⟩:=all rs l h1;exact⟨.tuple us.toArray,by rw[h2];rfl,by simp only[SR];exact⟨us,rfl,h3⟩⟩
 match rs,h,tup with
 |[r],h,_=>exact Rp hG h
 |[],h,tup=>exact tup h
 |_::_::_,h,tup=>exact tup h
theorem Th {mp bR:List (Nat×Option Nat)}{j:Nat}{a:Option Nat}(h:Q7a mp j a=some bR) (hi:Inj mp):Inj bR:=by
 unfold Q7a at h;split at h
 .cases h
 .split at h
  .rename_i x;split at h
   .cases h
   .rename_i hc;obtain rfl:=osj h;have cY:∀ d,QF mp d≠some (some x):=(by grind [EE,List.any_eq_true]);intro t1 t2 a' h1 h2;rw[Vm] at h1 h2;split at h1
    .rename_i y1 e1;split at h2
     .rename_i y2 e2;obtain rfl:=osj h1;obtain rfl:=osj h2;exact hi t1 t2 a' e1 e2
     simp_all
    grind
  .obtain rfl:=osj h;intro t1 t2 a' h1 h2;rw[Vm] at h1 h2;split at h1
   .rename_i y1 e1;split at h2
    .rename_i y2 e2;obtain rfl:=osj h1;obtain rfl:=osj h2;exact hi t1 t2 a' e1 e2
    .split at h2<;>cases h2
   .split at h1<;>cases h1
mutual
theorem IJ:∀ (v r:SV) (mp bR:List (Nat×Option Nat)),Q2o v r mp=some bR->Inj mp->Inj bR
 |.lst j,r,mp,bR,h,hi=>by
  simp only[Q2o] at h
  grind [Th]
 |.map j,r,mp,bR,h,hi=>by
  simp only[Q2o] at h
  grind [Th]
 |.dd j w,r,mp,bR,h,hi=>by
  simp only[Q2o] at h
  grind [Th]
 |.box j _,r,mp,bR,h,hi=>by
  simp only[Q2o] at h
  grind [Th]
 |.agg l,r,mp,bR,h,hi=>by
  simp only[Q2o] at h;split at h
  .exact TT l _ mp bR h hi
  .cases h
 |.tup l,r,mp,bR,h,hi=>by
  simp only[Q2o] at h;split at h
  .exact TT l _ mp bR h hi
  .cases h
 |.any,r,mp,bR,h,hi|.val _ _,r,mp,bR,h,hi|.nilS,r,mp,bR,h,hi|.nilP,r,mp,bR,h,hi|.nilM,r,mp,bR,h,hi|.nilF,r,mp,bR,h,hi=>by simp only[Q2o] at h;simp_all
 |.sub _ _ _ _,r,mp,bR,h,hi|.elp _ _ _ _,r,mp,bR,h,hi|.grd _ _,r,mp,bR,h,hi|.cp _ _,r,mp,bR,h,hi|.fn _ _ _,r,mp,bR,h,hi|.rop _ _ _ _,r,mp,bR,h,hi|.pf _ _ _ _,r,mp,bR,h,hi|.bid _ _,r,mp,bR,h,hi=>by cases h
theorem TT:∀ (v r:List SV) (mp bR:List (Nat×Option Nat)),OT v r mp=some bR->Inj mp->Inj bR
 |[],r,mp,bR,h,hi=>by simp only[OT] at h;simp_all
 |s::ss,[],mp,bR,h,hi=>by cases h
 |s::ss,r::rs,mp,bR,h,hi=>by
  simp only[OT] at h;split at h
  .rename_i r_ h1;exact TT ss rs r_ bR h (IJ s r mp r_ h1 hi)
  .cases h
end
theorem Em {mp:List (Nat×Option Nat)}:∀ (bs:List OB) (n:Nat),Q4s s mp n bs->∀ j b,bs[j]?=some b->Q1g s mp (n+j) b
 |[],n,_,j,b,hj=>by simp at hj
 |b0::r,n,h,j,b,hj=>by
  obtain⟨h1,h2⟩:=h;cases j with
  |zero=>simp at hj;subst hj;exact h1
  |succ j =>
   have:=Em r (n+1) h2 j b (by simpa using hj)
   rwa [zC,xX 1 j] at this
mutual
theorem Iy {n:Nat}{π:Nat->Nat}:∀ (v:SV) (u:Value),v.ret 0=true->SR P B pl tb v u->Ren n π u u
 |.val k x,u,h,hs=>by
  simp only[SR] at hs;cases k with
  |i ik=>simp only[KC] at hs;obtain rfl:=(zR hs).1;exact .plain _ rfl
  |bo=>simp only[KC] at hs;obtain rfl:=(zR hs).1;exact .plain _ rfl
  |st=>simp only[KC] at hs;obtain rfl:=(zR hs).1;exact .plain _ rfl
  |list k=>cases h
  |pair a b =>have h1:=KC.length hs;have h2:=a.size_pos;have h3:=b.size_pos;simp only[Kind.size,xF] at h1;omega
 |.nilS,u,_,hs|.nilP,u,_,hs|.nilM,u,_,hs|.nilF,u,_,hs=>by simp only[SR] at hs;subst hs;exact .plain _ rfl
 |.lst j,u,h,_|.box j _,u,h,_|.map j,u,h,_=>by simp[SV.ret,zF] at h
 |.dd j w,u,h,_=>by cases w<;>simp[SV.ret,zF] at h
 |.agg l,u,h,hs=>by simp only[SR] at hs;obtain⟨cs,rfl,h2⟩:=hs;have:=Ty (n:=n) (π:=π) l cs h h2;exact .agg _ _ rfl λi h3 _=>this _ (by simp)
 |.tup l,u,h,hs=>by simp only[SR] at hs;obtain⟨cs,rfl,h2⟩:=hs;have:=Ty (n:=n) (π:=π) l cs h h2;exact .tuple _ _ rfl λi h3 _=>this _ (by simp)
 |.any,_,h,_|.bid _ _,_,h,_|.grd _ _,_,h,_|.sub _ _ _ _,_,h,_|.elp _ _ _ _,_,h,_|.rop _ _ _ _,_,h,_|.cp _ _,_,h,_|.fn _ _ _,_,h,_|.pf _ _ _ _,_,h,_=>by cases h
theorem Ty {n:Nat}{π:Nat->Nat}:∀ (v:List SV) (u:List Value),SVs.ret 0 v=true->SRs P B pl tb v u->∀ x∈u,Ren n π x x
 |[],u,_,hs=>by simp only[SRs] at hs;subst hs;intro x hx;cases hx
 |s::ss,u,h,hs=>by
  simp only[SVs.ret,z8] at h;simp only[SRs] at hs;obtain⟨x,y,rfl,h1,h2⟩:=hs;intro z hz;rcases zA.1 hz with rfl|hz
  .exact Iy s z h.1 h1
  .exact Ty ss y h.2 h2 z hz
end
theorem Oe (exact:Bool) {σ0:Heap}{sf:St}{lz:Env}{σf:Heap}(hR:GRel P σ0 σ0 σ0 sf lz σf) {rs:List VResult}{v:SV}{bs:List OB}{e:Exit}(hv:v.ret bs.length=true) (hb:bs.all OB.ret=true) (h:K9 rs v bs e sf) (hx:exact=true->bs.all OB.isL=true/\VU v=true) :
  Z33 σ0 rs (λu U'=>if exact then u=VG (LS σ0 bs) v/\U'=R3 σ0 bs else Ret P σ0 v bs u U') e lz σf:=by
 have main:(match XC sf rs with
  |some r=>(match Q2o v r [] with
   |some mp=>PS mp v r/\Q4s sf mp 0 bs
   |none=>False)
  |none=>False)->QV (J6 lz σf rs) λu=>∃ v' U',DropTo σ0 u σf v' U'/\(if exact then v'=VG (LS σ0 bs) v/\U'=R3 σ0 bs else Ret P σ0 v bs v' U'):=λh=>by
  split at h
  .rename_i r hr;split at h
   .rename_i mp lu;obtain⟨h1,h2⟩:=h;obtain⟨B,F,pl,tb,⟨hB,hF,_,hd⟩,hG⟩:=hR;obtain⟨u,h3,h4⟩:=JP hG hr;have iK:=Kq v r u h1 h4;have ew:=IJ v r [] mp lu (λt t' a h=>by cases h);have aj:∀ j b,bs[j]?=some b->Q1g sf mp j b:=λj b hj=>by have:=Em bs 0 h2 j b hj;rwa [xi] at this
    rw[h3];have hle:σ0.Le σf:=hF.trans hG.le;have hA:Agree σ0 σf:=λi hi=>by
     cases hg:σ0.get i with
     |none=>exact hd.2 i hi hg
     |some b=>exact hle.2 i b hg
    have aU:∀ j b,bs[j]?=some b->OR P hNil (NW pl mp) Ji σf (NW pl mp j) b/\∀ i,Oid (NW pl mp j) i->σ0.get i=none/\σ0.n<=i:=λj b hj=>by
     obtain⟨k1,k2⟩:=Zd hG (aj j b hj);have dh:=zg.1 hb b (x8 hj);have al:b.live=true:=by cases b<;>first|rfl|cases dh
     refine⟨k1.retd dh λ_ _=>rfl,λi hi=>?_⟩;obtain⟨a,e1,e2,e3⟩:=k2 al i hi;have mh:=hG.fresh a i e2 e3;have hn:σ0.get i=none:=by
      cases hg:σ0.get i with
      |none=>rfl
      |some b=>rw[hF.2 i b hg] at mh;cases mh
     refine⟨hn,Nat.le_of_not_lt λai=>?_⟩;have bB:=hd.2 i ai hn;have aj:=hG.obj a;cases ho:Qa sf.own a with
     |dead=>rw[ho] at e2;cases e2
     |lst ty k xs nl =>
      rw[ho] at aj;rcases aj with⟨_,_,h2⟩|⟨_,i',cap,c,t,h2,_,h3,_⟩
      .rw[h2] at e3;cases e3
      .rw[h2] at e3;obtain rfl:=osj e3;rw[h3] at bB;cases bB
     |cells l u=>rw[ho] at aj;obtain⟨i',c,e,t,h2,h3,_⟩:=aj;rw[h2] at e3;obtain rfl:=osj e3;rw[h3] at bB;cases bB
     |mapE kk vk m key n=>rw[ho] at aj;obtain⟨i',es,cl,r,e,h2,h3,_⟩:=aj;rw[h2] at e3;obtain rfl:=osj e3;rw[h3] at bB;cases bB
     |map kk vk m=>rw[ho] at aj;obtain⟨i',es,cl,h2,h3,_⟩:=aj;rw[h2] at e3;obtain rfl:=osj e3;rw[h3] at bB;cases bB
     |fm ik l=>rw[ho] at aj;obtain⟨i',es,cl,h2,h3,_⟩:=aj;rw[h2] at e3;obtain rfl:=osj e3;rw[h3] at bB;cases bB
     |stk l vals=>rw[ho] at e2;cases e2
     |lpf l q s=>rw[ho] at aj e2;obtain⟨h2,_,h3⟩:=aj;rw[h2] at e3;obtain rfl:=osj e3;have h3:=h3 e2;rw[bB] at h3;cases h3
     |iter kk vk m dn=>rw[ho] at aj;obtain⟨j',i',es,cl,wr,seen,h2,h3,_⟩:=aj;rw[h2] at e3;obtain rfl:=osj e3;rw[h3] at bB;cases bB
     |deep ty q k xs nl hh =>rw[ho] at aj;obtain⟨is,_,d2,d3,_⟩:=DP.open aj;obtain⟨c,e,t,h⟩:=d2.cells i ((d3 i).1 e3);rw[h] at bB;cases bB
    have ia:∀ j j' i,j<bs.length->j'<bs.length->j≠j'->Oid (NW pl mp j) i->Oid (NW pl mp j') i->False:=λj j' i hj dF aB hi cW=>by
     have bE:=z9 hj;have a_:=z9 dF;have r1:=zg.1 hb _ (zl hj);have r2:=zg.1 hb _ (zl dF);have l1:(bs[j]).live=true:=by cases mA:bs[j]<;>first|rfl|(rw[mA] at r1;cases r1)
     have l2:(bs[j']).live=true:=by cases mA:bs[j']<;>first|rfl|(rw[mA] at r2;cases r2)
     obtain⟨a,e1,e2,e3⟩:=(Zd hG (aj j _ bE)).2 l1 i hi;obtain⟨a',uu,jX,uv⟩:=(Zd hG (aj j' _ a_)).2 l2 i cW;by_cases e:a=a'
     .subst e;exact aB (ew j j' a e1 uu)
     .exact hG.sep a a' i e e2 jX e3 uv
    cases hex:exact with
    |true =>obtain⟨hl,cO⟩:=hx hex;have nZ:=Q0b (P:=P) hA hle.1 hv cO hb hl (pl:=NW pl mp) (u:=u) (λj b hj=>⟨(aU j b hj).1,λi hi=>((aU j b hj).2 i (Hn hi)).2⟩) (λj j' i a b c d e=>ia j j' i a b c (Hn d) (Hn e)) (iK.retd (λj hj=>rfl) _ _ hv);exact⟨_,_,nZ,by simp⟩
    |false =>
     simp only[zw,if_false];by_cases bT:bs=[]
     .subst bT;refine⟨u,σ0,.rename (λi=>i) (zd _) (λi hi=>⟨rfl,(hA i hi).symm,.inl (hA i hi)⟩) (λi k1 k2=>by omega) (λ_ _ _ _ _ _ h=>h) (Iy v u hv iK),?_⟩;exact⟨⟨Heap.Le.refl _,Dead.refl _⟩,λ_=>rfl,Xd,(λj b hj=>by simp at hj),(λj j' i hj=>by simp at hj),iK.retd (λj hj=>by simp at hj) _ _ hv⟩
     .exact⟨u,σf,.refl _ _ _,⟨hle,hd⟩,λe=>absurd e bT,NW pl mp,aU,ia,iK.retd (λj hj=>rfl) _ _ hv⟩
   .exact h.elim
  .exact h.elim
 cases e with
 |normal=>exact main h
 |ret=>exact main h
 |_=>exact h.elim
def QC (nt:Nat) (args:List SV):St:=⟨args++List.replicate (nt-args.length) .any,[],0⟩
theorem Q0t {args:List SV}{vs:List Value}(h:SRs P U Xd Ji args vs) (nt:Nat):GRel P U U U (QC nt args) (vs++List.replicate (nt-vs.length) undef) U:=by
 have uw:∀ n,SRs P U Xd Ji (List.replicate n .any) (List.replicate n undef):=by
  intro n;induction n with
  |zero=>simp[SRs]
  |succ n ih=>simp only[xE,SRs];exact⟨_,_,rfl,by simp[SR],ih⟩
 refine⟨U,U,Xd,Ji,⟨Heap.Le.refl _,Heap.Le.refl _,(by simp_all),Dead.refl _⟩,Heap.Le.refl _,Heap.Le.refl _,?_,λd=>trivial,(λd i hl=>by cases hl),(λd d' i _ hl=>by cases hl),λ_ _=>rfl⟩;have:=h.length;simp only[QC,this];exact h.append (uw _)
theorem Fun.okC {f:Nat}{vc:VCode}{rs:List VResult}{nt:Nat}(h:Fun P f vc rs nt) (hm:P.follows .mixedOrders=true) {sp:CSp}
  (hb:∀ ap,Q2f P ap->∀ args c v bs,sp ap args=some (c,v,bs)->c->∃ (C:Cx) (L:List (Nat×LoopAnn)) (b7:List SV),(∀ U vs,SRs P U Xd Ji args vs->SRs P U Xd Ji b7 vs)/\COk P C/\gwp C L vc 0 (K9 rs v bs) (QC nt b7)):OkC P f sp:=by
 intro ap du U args vs c v bs aq cZ hv bT hc;obtain⟨C,L,b7,h1,h2,h3⟩:=hb ap du args c v bs cZ hc;have main:∀ exact:Bool,(exact=true->bs.all OB.isL=true/\VU v=true)->VCalled P f vs U λu U'=>if exact then u=VG (LS U bs) v/\U'=R3 U bs else Ret P U v bs u U':=λexact hx=>by refine h.calls hm Hk ?_;exact Vd h2 vc 0 _ _ _ U none _ trivial (Q0t (h1 U vs aq) nt) h3 λe s' ae U' k1 k2=>Oe exact k2 hv bT k1 hx
 simp_all
theorem OkC.true {f:Nat}{sp:CSp}(h:OkC P f sp) (he:XQ P f) {U:Heap}{args:List SV}{vs:List Value}(ha:SRs P U Xd Ji args vs) {c:Prop}(hs:sp (λ_ _=>none) args=some (c,.val .bo true,[])) (hc:c) :
  VCallsTo P f vs U λv _=>v=.bool true:=by
 have:=(h (λ_ _=>none) (λ_ _ _ _ _ _ _ _ _ h=>by cases h) U args vs c _ [] ha hs rfl rfl hc).1;intro ρ w ax hH hL;rcases this ρ w ax hH hL with⟨_,h2⟩|⟨c',_,h2⟩
 .refine h2.mono λe w' ⟨c',h3,h4⟩=>⟨c',h3,h4.mono λu U' hr=>?_⟩;have:=(hr.flat rfl).2;simpa only [SR,KC,List.cons.injEq,and_true] using this
 .have:=h2 w (Like.refl ρ w)
  grind [Md]
end
end Go.V
namespace Go.V
open Go
mutual
inductive AP:Type->Type 1 where
 |k (k:Kind):AP k.T
 |agg {D:Type}(l:AL D):AP D
 |ptr {D:Type}(l:AL D):AP D
 |fnx {D:Type}(g:Nat) (l:AL D):AP D
 |fn (ks:List Kind) (r:Kind):AP ((AT ks->Prop)×(AT ks->r.T))
 |nilS:AP Unit
 |any:AP Unit
 |int (k:IntKind) (n:Int):AP Unit
inductive AL:Type->Type 1 where
 |nil:AL Unit
 |one {D:Type}(a:AP D):AL D
 |cons {D E:Type}(a:AP D) (r:AL E):AL (D×E)
end
def CO:(ks:List Kind)->AT ks->List SV
 |[],_=>[]
 |[k],x=>[Q20 k x]
 |k::k'::ks,x=>Q20 k x.1::CO (k'::ks) x.2
abbrev Ap:=SV->List SV->Option (Prop×SV)
def Q4z (ap:Ap) (f:SV) (ks:List Kind) (r:Kind) (x:AT ks):Prop:=match ap f (CO ks x) with
 |some (c,v)=>(match gap.asV r v with|some _=>c|none=>False)
 |none=>False
def fnP (ap:Ap) (f:SV) (ks:List Kind) (r:Kind) (x:AT ks):r.T:=match ap f (CO ks x) with
 |some (_,v)=>(match gap.asV r v with|some y=>y|none=>r.dflt)
 |none=>r.dflt
mutual
def AP.dec (ap:Ap):{D:Type}->(p:AP D)->SV->Option D
 |_,.k k,v=>match k with
  |.list k=>view [] k v
  |.i ik=>Sj (.i ik) [v]
  |.bo=>Sj .bo [v]
  |.st=>Sj .st [v]
  |.pair _ _=>none
 |_,.agg l,v=>match v with|.agg vs=>AL.dec ap l vs|_=>none
 |_,.nilS,v=>match v with|.nilS=>some ()|_=>none
 |_,.any,_=>some ()
 |_,.int k n,v=>match Sj (.i k) [v] with|some x=>if (show Int from x)=n then some () else none|none=>none
 |_,.ptr l,v=>match v with|.cp vs 0=>AL.dec ap l vs|_=>none
 |_,.fnx g l,v=>match v with|.fn g' [] vs=>if g'=g then AL.dec ap l vs else none|_=>none
 |_,.fn ks r,v=>match v with
  |.fn g a b=>some (Q4z ap (.fn g a b) ks r,fnP ap (.fn g a b) ks r)
  |.pf sd r' cF p=>some (Q4z ap (.pf sd r' cF p) ks r,fnP ap (.pf sd r' cF p) ks r)
  |_=>none
def AL.dec (ap:Ap):{D:Type}->(l:AL D)->List SV->Option D
 |_,.nil,vs=>match vs with|[]=>some ()|_=>none
 |_,.one a,vs=>match vs with|[v]=>AP.dec ap a v|_=>none
 |_,.cons a r,vs=>match vs with
  |v::vs=>(match AP.dec ap a v,AL.dec ap r vs with|some x,some y=>some (x,y)|_,_=>none)
  |[]=>none
end
mutual
def AP.can:{D:Type}->(p:AP D)->D->SV
 |_,.k k,x=>.val k x
 |_,.agg l,x=>.agg (AL.can l x)
 |_,.nilS,_=>.nilS
 |_,.any,_=>.any
 |_,.int k n,_=>.val (.i k) n
 |_,.ptr l,x=>.cp (AL.can l x) 0
 |_,.fnx g l,x=>.fn g [] (AL.can l x)
 |_,.fn ks r,x=>.pf ks r x.1 x.2
def AL.can:{D:Type}->(l:AL D)->D->List SV
 |_,.nil,_=>[]
 |_,.one a,x=>[AP.can a x]
 |_,.cons a r,x=>AP.can a x.1::AL.can r x.2
end
def Yo {D:Type}(l:AL D) (pre:D->Prop) (res:D->SV) (obs:D->List OB):CSp:=λap args=>match AL.dec ap l args with
 |some d=>some (pre d,res d,obs d)
 |none=>none
section
variable {P:Program}{U:Heap}
theorem DE:∀ {ks:List Kind}{x:AT ks}{vs:List Value},C9 U ks x vs->SRs P U Xd Ji (CO ks x) vs
 |[],x,vs,h=>by simp only[C9] at h;subst h;simp[CO,SRs]
 |[k],x,vs,h=>by obtain⟨v,rfl,h1⟩:=h;simp only[CO,SRs];grind [XB]
 |k::k'::ks,x,vs,h=>by obtain⟨v,cA,rfl,h1,h2⟩:=h;simp only[CO,SRs];exact⟨v,cA,rfl,XB h1,DE h2⟩
theorem Il {ap:Ap}(du:Q2f P ap) {f:SV}{v:Value}(hf:SR P U Xd Ji f v) (hv:∃ g a b,v=.func (.func g) a b) (ks:List Kind) (r:Kind):SR P U Xd Ji (.pf ks r (Q4z ap f ks r) (fnP ap f ks r)) v:=by
 obtain⟨g,a,b,rfl⟩:=hv;simp only[SR];refine⟨g,a,b,rfl,λx hd Z vs hle b8=>?_⟩;unfold Q4z at hd;split at hd
 .rename_i c u n6;split at hd
  .rename_i y hy;obtain⟨h1,g',a',b',h2,h3⟩:=du Z f (CO ks x) c u (.func (.func g) a b) vs (SR.mono hle (λ_ _ h=>h) _ _ hf) (DE b8) n6 hd;obtain⟨rfl,rfl,rfl⟩:=(by simpa using h2:g=g'/\a=a'/\b=b');have hp:fnP ap f ks r x=y:=by simp[fnP,n6,hy]
   rw[hp];exact h3.mono λu' U' hu=>⟨hu.1,(RH hy hu.2).vcall (Ob _)⟩
  .exact hd.elim
 .exact hd.elim
mutual
theorem AP.q0j {ap:Ap}(du:Q2f P ap):∀ {D:Type}(p:AP D) {v:SV}{x:D}{u:Value},AP.dec ap p v=some x->SR P U Xd Ji v u->SR P U Xd Ji (AP.can p x) u
 |_,.k k,v,x,u,h,hs=>by
  have one:SRs P U Xd Ji [v] [u]:=by simp only[SRs];exact⟨u,[],rfl,hs,rfl⟩
  simp only[AP.can,SR];cases k with
  |list k =>have:=U5 (own:=[]) (Heap.Le.refl U) (λd=>(trivial:OR P U Xd Ji U (Xd d) .dead)) (show view [] k v=some x from h) hs;exact⟨u,rfl,this⟩
  |i ik=>exact QB (k:=.i ik) h one
  |bo=>exact QB (k:=.bo) h one
  |st=>exact QB (k:=.st) h one
  |pair a b=>cases h
 |_,.agg l,v,x,u,h,hs=>by
  simp only[AP.dec] at h;split at h
  .simp only[SR] at hs;obtain⟨cs,rfl,hs⟩:=hs;simp only[AP.can,SR];exact⟨cs,rfl,AL.q0j du l h hs⟩
  .cases h
 |_,.any,v,x,u,h,hs=>by simp only[AP.can,SR]
 |_,.int k n,v,x,u,h,hs=>by
  have one:SRs P U Xd Ji [v] [u]:=by simp only[SRs];exact⟨u,[],rfl,hs,rfl⟩
  simp only[AP.dec] at h;split at h
  .rename_i y hy;split at h
   .rename_i e;subst e;simp only[AP.can,SR];exact QB (k:=.i k) hy one
   .cases h
  .cases h
 |_,.nilS,v,x,u,h,hs=>by
  simp only[AP.dec] at h;split at h
  .simp only[AP.can];exact hs
  .cases h
 |_,.ptr l,v,x,u,h,hs=>by
  simp only[AP.dec] at h;split at h
  .simp only[SR] at hs;obtain⟨b,c,e,wr,t,h1,rfl,h3⟩:=hs;simp only[AP.can,SR];exact⟨b,c,e,wr,t,h1,rfl,AL.q0j du l h h3⟩
  .cases h
 |_,.fnx g l,v,x,u,h,hs=>by
  simp only[AP.dec] at h;split at h
  .split at h
   .rename_i e;subst e;simp only[SR] at hs;obtain⟨a,b,rfl,h1,h2⟩:=hs;simp only[AP.can,SR];exact⟨a,b,rfl,h1,AL.q0j du l h h2⟩
   .cases h
  .cases h
 |_,.fn ks r,v,x,u,h,hs=>by
  simp only[AP.dec] at h;split at h
  .obtain rfl:=osj h;exact Il du hs (by simp only[SR] at hs;grind) ks r
  .obtain rfl:=osj h;exact Il du hs (by simp only[SR] at hs;obtain⟨g,x,y,rfl,_⟩:=hs;exact⟨_,_,_,rfl⟩) ks r
  .cases h
theorem AL.q0j {ap:Ap}(du:Q2f P ap):∀ {D:Type}(l:AL D) {vs:List SV}{x:D}{us:List Value},AL.dec ap l vs=some x->SRs P U Xd Ji vs us->SRs P U Xd Ji (AL.can l x) us
 |_,.nil,vs,x,us,h,hs=>by
  simp only[AL.dec] at h;split at h
  .exact hs
  .cases h
 |_,.one a,vs,x,us,h,hs=>by
  simp only[AL.dec] at h;split at h
  .obtain⟨u,rfl,h1⟩:=hs.one;simp only[AL.can,SRs];exact⟨u,[],rfl,AP.q0j du a h h1,rfl⟩
  .cases h
 |_,.cons a r,vs,x,us,h,hs=>by
  simp only[AL.dec] at h;split at h
  .rename_i v cA;split at h
   .rename_i y z h1 h2;obtain rfl:=osj h;simp only[SRs] at hs;obtain⟨u,iG,rfl,h3,h4⟩:=hs;simp only[AL.can,SRs];exact⟨u,iG,rfl,AP.q0j du a h1 h3,AL.q0j du r h2 h4⟩
   .cases h
  .cases h
end
theorem CsOk.nil:CsOk P []:=λf sp h=>by cases h
theorem CsOk.cons {f:Nat}{sp:CSp}{cs:List (Nat×CSp)}(h:OkC P f sp) (t:CsOk P cs):CsOk P ((f,sp)::cs):=λg ux hg=>by
 simp only[QF] at hg;cases hb:Nat.beq f g with
 |true=>rw[hb] at hg;obtain rfl:=zN hb;obtain rfl:=osj hg;exact h
 |false=>rw[hb] at hg;exact t g ux hg
theorem Z15 {f:Nat}{vc:VCode}{rs:List VResult}{nt:Nat}(h:Fun P f vc rs nt) (hm:P.follows .mixedOrders=true) {D:Type}{l:AL D}{pre:D->Prop}{res:D->SV}{obs:D->List OB}
  {C:Cx}(az:COk P C) (L:D->List (Nat×LoopAnn)) (hb:∀ d,pre d->gwp C (L d) vc 0 (K9 rs (res d) (obs d)) (QC nt (AL.can l d))):OkC P f (Yo l pre res obs):=by
 refine h.okC hm λap du args c v bs hs hc=>?_;unfold Yo at hs
 grind [AL.q0j]
theorem QK {f:Nat}{vc:VCode}{rs:List VResult}{nt:Nat}(h:Fun P f vc rs nt) (hm:P.follows .mixedOrders=true) {D:Type}{l:AL D}{pre:D->Prop}{res:D->SV}{obs:D->List OB}
  {C:Cx}(az:COk P C) {L:D->List (Nat×LoopAnn)}{V:D->Prop}(hq:∀ d,gwp C (L d) vc 0 (K9 rs (res d) (obs d)) (QC nt (AL.can l d))=V d) (hb:∀ d,pre d->V d):OkC P f (Yo l pre res obs) :=
 Z15 h hm az L λd hp=>(hq d).mpr (hb d hp)
end
end Go.V
namespace Go.V
open Go
def Z3e (key:Nat) (vals:List Value) (rs:List VResult) (K:SV->St->Prop):Exit->St->Prop:=λe s =>
 let fin:=match XC s rs,Qa s.own key with
  |some r,.stk l vs=>vs=vals/\K r ⟨l,s.own,s.nx⟩
  |_,_=>False
 match e with
 |.normal=>fin
 |.ret=>fin
 |_=>False
def Q4c (C:Cx) (L:List Value->List (Nat×LoopAnn)) (vc:VCode) (rs:List VResult) (nt:Nat):XSp:=λd args s K =>
 ∀ vals,gwp {C with off:=100000*(d+1)} (L vals) vc 0 (Z3e (100000*(d+1)-1) vals rs K) ⟨SVs.kill (100000*(d+1)-1) args++List.replicate (nt-args.length) .any,(F9 (100000*(d+1)-1) vals s).own,s.nx⟩
def Z3a (C:Cx) (L:List (Nat×LoopAnn)) (vc:VCode) (nt:Nat):Q9j:=λo args y s K =>
 gwp {C with off:=100000*(o+1),yl:=[y]} L vc 0 (λe s'=>match e with|.normal=>K s'|.ret=>K s'|_=>False) ⟨args++List.replicate (nt-args.length) .any,s.own,s.nx⟩
section
variable {P:Program}
theorem De {B:Heap}{pl:Nat->Value}{tb:Nat->Option Bool}:∀ n,SRs P B pl tb (List.replicate n .any) (List.replicate n undef)
 |0=>by simp[SRs]
 |n+1=>by simp only[xE,SRs];exact⟨_,_,rfl,by simp[SR],De n⟩
theorem US {f:Nat}{vc:VCode}{rs:List VResult}{nt:Nat}(h:Fun P f vc rs nt) (hm:P.follows .mixedOrders=true) {C:Cx}(az:COk P C) (L:List Value->List (Nat×LoopAnn)):XOk P f (Q4c C L vc rs nt):=by
 intro B F pl tb s env U d args vs K R hG ha hx hK;have hx:=hx env;refine h.calls hm Hk ?_;have q3:Gam P B F (JH pl (100000*(d+1)-1) poison) tb (F9 (100000*(d+1)-1) env s) env U:=by refine hG.make _ _ poison hG.le (λ_ _ _ _ _=>rfl) ?_ (λi hl _=>by cases hl);exact SRs.upd (.refl _) (λ_ _ h=>h) (λj hj=>by simp[JH,hj]) _ _ hG.env
 have eA:COk P {C with off:=100000*(d+1)}:=⟨az.cs,az.xs,az.it,az.yl,az.iy,az.xf⟩;have aq:=SRs.upd (P:=P) (Heap.Le.refl B) (λ_ _ h=>h) (pl':=JH pl (100000*(d+1)-1) poison) (tb':=tb) (o:=100000*(d+1)-1) (λj hj=>by simp[JH,hj]) _ _ ha;have aY:GRel P B F U ⟨SVs.kill (100000*(d+1)-1) args++List.replicate (nt-args.length) .any,(F9 (100000*(d+1)-1) env s).own,s.nx⟩ (vs++List.replicate (nt-vs.length) undef) U:=by refine⟨B,F,_,tb,.of hG.bf (.refl _),⟨q3.bf,q3.le,?_,q3.obj,q3.fresh,q3.sep,q3.free⟩⟩;rw[ha.length];exact aq.append (De _)
 refine Vd eA vc 0 _ _ _ U none _ trivial aY hx λe s' ae U' h1 h2=>?_
 .have main:(match XC s' rs,Qa s'.own (100000*(d+1)-1) with
   |some r,.stk l vs=>vs=env/\K r ⟨l,s'.own,s'.nx⟩
   |_,_=>False)->QV (J6 ae U' rs) λv=>∃ v' aE,DropTo U v U' v' aE/\R v' aE:=λh=>by
   obtain⟨B',F',pl',tb',k1,k2⟩:=h2;split at h
   .rename_i r l cA hr fJ;obtain⟨rfl,h⟩:=h;obtain⟨u,h3,h4⟩:=JP k2 hr;rw[h3];have aj:=k2.obj (100000*(d+1)-1);rw[fJ] at aj;exact⟨u,U',.refl _ _ _,hK r _ B' F' pl' tb' u U' h k1 ⟨k2.bf,k2.le,aj,k2.obj,k2.fresh,k2.sep,k2.free⟩ h4⟩
   .exact h.elim
  cases e with
  |normal=>exact main h1
  |ret=>exact main h1
  |_=>exact h1.elim
theorem Q2y {f:Nat}{vc:VCode}{nt:Nat}(h:Fun P f vc [] nt) (hm:P.follows .mixedOrders=true) {C:Cx}(az:COk P C) (L:List (Nat×LoopAnn)):Q9q P f (Z3a C L vc nt):=by
 refine⟨h.enterable,λB F pl tb s env U o args vs y K R hG ha hy hx hK=>h.callsTo hm Hk ?_⟩;have eA:COk P {C with off:=100000*(o+1),yl:=[(o,y)]}:=⟨az.cs,az.xs,az.it,λo' y' h'=>by
  simp only[QF] at h'
  grind [Nat.eq_of_beq_eq_true,osj],az.iy,az.xf⟩
 have aY:GRel P B F U ⟨args++List.replicate (nt-args.length) .any,s.own,s.nx⟩ (vs++List.replicate (nt-vs.length) undef) U:=by refine⟨B,F,pl,tb,.of hG.bf (Dead.refl _),⟨hG.bf,hG.le,?_,hG.obj,hG.fresh,hG.sep,hG.free⟩⟩;rw[ha.length];exact ha.append (De _)
 refine Vd eA vc 0 _ _ _ U none _ trivial aY hx λe s' ae U' h1 h2=>?_;have main:K s'->QV (J6 ae U' []) λv=>∃ v' aE,DropTo U v U' v' aE/\R aE:=λh=>by obtain⟨B',F',pl',tb',k1,k2⟩:=h2;exact⟨_,U',.refl _ _ _,hK s' B' F' pl' tb' ae U' h k1 k2⟩
 cases e with
 |normal=>exact main h1
 |ret=>exact main h1
 |_=>exact h1.elim
end
end Go.V
namespace Go.V
open Go
def Z3m:SV->Option Nat
 |.lst o=>some o
 |.box o off=>bif Nat.beq off 0 then some o else none
 |_=>none
def lsv:OB->SV
 |.lst _ _ _ _=>.lst 0
 |_=>.box 0 0
def Z31:SV->OB->Bool
 |.lst _,.lst _ _ _ _=>true
 |.box _ _,.cells _ _=>true
 |_,_=>false
abbrev LSp:=Ap->OB->List SV->Option (Prop×SV×OB)
def Q0r (ap:Ap) (sp:LSp):XSp:=λ_ args s K =>
 match args with
 |a::args=>(match Z3m a with
  |some o=>bif (Qa s.own o).ret&&Z31 a (Qa s.own o) then (match sp ap (Qa s.own o) (PT (oset s.own o .dead) args) with
    |some (c,v,b)=>bif v.ret 0&&b.ret then c/\K v ⟨s.env,oset s.own o b,s.nx⟩ else False
    |none=>False) else False
  |none=>False)
 |[]=>False
def Mz (nt:Nat) (a0:SV) (b:OB) (vals:List Value) (args:List SV):St:=⟨a0::(args++List.replicate (nt-(args.length+1)) .any),[(0,b),(4000000,.stk [a0] vals)],0⟩
def Q39 (vals:List Value) (rs:List VResult) (v:SV) (b:OB) (a0:SV):Exit->St->Prop:=λe s =>
 let fin:=match XC s rs,Qa s.own 4000000 with
  |some r,.stk l vs=>vs=vals/\Uj [(0,some 0)] [a0] l/\PS [] v r/\Q1g s [(0,some 0)] 0 b
  |_,_=>False
 match e with
 |.normal=>fin
 |.ret=>fin
 |_=>False
section
variable {P:Program}
theorem Heap.Le.kill' {B U:Heap}(h:B.Le U) {i:Nat}(hi:B.get i=none):B.Le (U.kill i):=⟨h.1,λj b hb=>by
 have:j≠i:=by rintro rfl;rw[hi] at hb;cases hb
 rw[Heap.q0d _ this];exact h.2 _ _ hb⟩
theorem Heap.q1x (U:Heap) (i:Nat):(U.kill i).Le U:=⟨zd _,(by grind [Heap.q0f,Heap.q0d])⟩
def Av (U:Heap) (p:Value):Heap:=match oid p with|some i=>U.kill i|none=>U
theorem Q4u (U:Heap) (p:Value):(Av U p).Le U:=by
 unfold Av;split
 .exact Heap.q1x _ _
 .exact .refl _
theorem IB {B U:Heap}{p:Value}(h:B.Le U) (hi:∀ i,oid p=some i->B.get i=none):B.Le (Av U p):=by
 unfold Av;split
 .rename_i i e;exact h.kill' (hi i e)
 .exact h
theorem OZ {U:Heap}{p:Value}{i:Nat}(h:oid p=some i):(Av U p).get i=none:=by unfold Av;rw[h];exact Heap.q0f _ _
theorem AA {U:Heap}{p:Value}{i:Nat}(h:oid p≠some i):(Av U p).get i=U.get i:=by unfold Av;grind [Heap.q0d]
theorem Q81 {p:Value}{i:Nat}(hp:∀ l,p≠.tuple l) (h:Oid p i):oid p=some i:=by cases p<;>first|exact h|exact absurd rfl (hp _)
theorem OB.q2c {b:OB}(h:b.ret=true):b.live=true:=by cases b<;>first|rfl|cases h
theorem Q6o {o:Nat}{b:OB}(h:Z31 (.lst o) b=true):lsv b=.lst 0:=by cases b<;>first|rfl|cases h
theorem Q5y {o off:Nat}{b:OB}(h:Z31 (.box o off) b=true):lsv b=.box 0 0:=by cases b<;>first|rfl|cases h
theorem Q5u {f:Nat}{vc:VCode}{rs:List VResult}{nt:Nat}(h:Fun P f vc rs nt) (hm:P.follows .mixedOrders=true) {sp:LSp}{ap:Ap}
  (hb:∀ b args c v b',sp ap b args=some (c,v,b')->c->∃ (C:Cx) (L:List Value->List (Nat×LoopAnn)) (b7:List SV),SVs.pure b7=true/\(∀ U vs,SRs P U Xd Ji args vs->SRs P U Xd Ji b7 vs)/\COk P C/\∀ vals,gwp C (L vals) vc 0 (Q39 vals rs v b' (lsv b)) (Mz nt (lsv b) b vals b7)):XOk P f (Q0r ap sp):=by
 intro B F pl tb s env U d args vs K R hG ha hx hK;unfold Q0r at hx;split at hx
 .rename_i a args;split at hx
  .rename_i o aJ;cases lg:((Qa s.own o).ret&&Z31 a (Qa s.own o)) with
   |false=>rw[lg] at hx;exact hx.elim
   |true =>
   rw[lg] at hx;simp only[zi] at hx;simp only[z8] at lg;obtain⟨mc,eP⟩:=lg;split at hx
   .rename_i c v b' cZ;cases cz:(v.ret 0&&b'.ret) with
    |false=>rw[cz] at hx;exact hx.elim
    |true =>
    rw[cz] at hx;obtain⟨hc,hx⟩:=hx;simp only[z8] at cz;simp only[SRs] at ha;obtain⟨u,us,rfl,mi,ef⟩:=ha;have al:=OB.q2c mc;have aj:=hG.obj o;have br:∀ i,oid (pl o)=some i->F.get i=none:=λi hi=>hG.fresh o i al (Hn hi);have lA:∀ i,oid (pl o)=some i->B.get i=none:=λi hi=>by
     cases hg:B.get i with
     |none=>rfl
     |some b=>have:=hG.bf.2 _ _ hg;rw[br i hi] at this;cases this
    have dZ:∀ l,pl o≠.tuple l:=λl he=>by
     unfold Z3m at aJ;split at aJ
     .obtain rfl:=osj aJ;simp only[SR] at mi
      grind
     .rename_i o' off;cases aR:Nat.beq off 0 with
      |false=>rw[aR] at aJ;cases aJ
      |true =>rw[aR] at aJ;obtain rfl:=osj aJ;simp only[SR] at mi;obtain⟨_,h,_⟩:=mi;rw[he] at h;cases h
     .cases aJ
    have lB:∀ (B:Heap) (pl':Nat->Value) (tb':Nat->Option Bool),(SR P B pl' tb' (lsv (Qa s.own o)) u<->pl' 0=pl o):=λB pl' tb'=>by
     unfold Z3m at aJ;split at aJ
     .obtain rfl:=osj aJ;simp only[SR] at mi;rw[Q6o eP];simp only[SR]
      grind
     .rename_i o' off;cases aR:Nat.beq off 0 with
      |false=>rw[aR] at aJ;cases aJ
      |true =>
       rw[aR] at aJ;obtain rfl:=osj aJ;obtain rfl:=zN aR;simp only[SR] at mi;rw[Q5y eP];simp only[SR];obtain⟨i,h1,rfl⟩:=mi;rw[h1];constructor
       .simp_all
       .intro h2;exact⟨i,h2,rfl⟩
     .cases aJ
    obtain⟨C,L,b7,se,qF,az,hg⟩:=hb _ _ c v b' cZ hc;have hg:=hg [u];let σc:=Av U (pl o);have oY:B.Le σc:=IB hG.leB lA;have qG:F.Le σc:=IB hG.le br;have aq:SRs P σc Xd Ji b7 us:=by
     refine qF σc us (Wh (own:=oset s.own o .dead) oY (pl:=pl) (tb:=tb) (λd=>?_) ef);rw[Qk];by_cases e:d=o
     .rw[z6 e];trivial
     .rw[z0 e];exact(hG.obj d).mono (.refl _) (λ_ _ h=>h) λhl i hi=>AA λjc=>hG.sep d o i e hl al hi (Hn jc)
    let iL:Nat->Value:=λj=>if j=0 then pl o else poison
    have aY:GRel P σc σc U (Mz nt (lsv (Qa s.own o)) (Qa s.own o) [u] b7) (u::us++List.replicate (nt-(u::us).length) undef) U:=by
     refine⟨σc,σc,iL,Ji,⟨.refl _,.refl _,λ_ _ _ h=>h,.refl _⟩,.refl _,Q4u _ _,?_,λj=>?_,λj i h1 h2=>?_,λj j' i aB h1 h2 h3 h4=>?_,λ_ _=>rfl⟩
     .simp only[Mz,SRs,xu];refine⟨u,_,rfl,(lB _ _ _).2 (by simp[iL]),?_⟩;rw[aq.length,zG]
      grind [SRs.append,De,Zg]
     .simp only[Mz,Qa];by_cases e0:j=0
      .subst e0;simp only[Nat.beq_refl,zi];exact aj.retd mc λi _=>rfl
      .rw[ZG (λe=>e0 e.symm),cond_false];by_cases e1:j=4000000
       .subst e1;simp only[Nat.beq_refl,zi];exact⟨u,[],rfl,(lB _ _ _).2 (by simp[iL]),rfl⟩
       .rw[ZG (λe=>e1 e.symm),cond_false];trivial
     .simp only[Mz,Qa] at h1;by_cases e0:j=0
      .grind [OZ,Q81]
      .rw[ZG (λe=>e0 e.symm),cond_false] at h1;by_cases e1:j=4000000
       .subst e1;cases h1
       .rw[ZG (λe=>e1 e.symm),cond_false] at h1;cases h1
     .have z:∀ j,(Qa (Mz nt (lsv (Qa s.own o)) (Qa s.own o) [u] b7).own j).live=true->j=0:=λj h1=>by
       simp only[Mz,Qa] at h1;by_cases e0:j=0
       .exact e0
       .rw[ZG (λe=>e0 e.symm),cond_false] at h1;by_cases e1:j=4000000
        .subst e1;cases h1
        .rw[ZG (λe=>e1 e.symm),cond_false] at h1;cases h1
      grind
    refine h.calls hm Hk ?_;refine Vd az vc 0 _ _ _ U none _ trivial aY hg λe s' ae U' h1 h2=>?_
    have main:(match XC s' rs,Qa s'.own 4000000 with
     |some r,.stk l vs=>vs=[u]/\Uj [(0,some 0)] [lsv (Qa s.own o)] l/\PS [] v r/\Q1g s' [(0,some 0)] 0 b'
     |_,_=>False)->QV (J6 ae U' rs) λv=>∃ v' aE,DropTo U v U' v' aE/\R v' aE:=λh=>by
     obtain⟨B',F',pl',tb',k1,k2⟩:=h2;split at h
     .rename_i r l cA hr fJ;obtain⟨rfl,m1,m2,m3⟩:=h;obtain⟨w,h3,h4⟩:=JP k2 hr;rw[h3];have e_:=k2.obj 4000000;rw[fJ] at e_;have lC:pl' 0=pl o:=by
       have:=Zf [lsv (Qa s.own o)] l [u] m1 e_;simp only[SRs] at this;obtain⟨u',_,de,h5,_⟩:=this;obtain rfl:u=u':=(zR de).1;have:=(lB _ _ _).1 h5;simpa [NW,QF] using this
      have iq:=(Zd k2 m3).1;have lu:NW pl' [(0,some 0)] 0=pl o:=by simpa [NW,QF] using lC
      rw[lu] at iq;have cL:=(Kq v r w m2 h4).retd (B':=B) (pl':=pl) (tb':=tb) (n:=0) (λj hj=>by omega) _ _ cz.1;have hle:σc.Le U':=k1.f.trans k2.le;refine⟨w,U',.refl _ _ _,hK v _ B F pl tb w U' hx (.of hG.bf k1.d) ⟨hG.bf,qG.trans hle,hG.env,λd=>?_,λd i q1 q2=>?_,λd d' i aB q1 q2 q3 q4=>?_,hG.free⟩ cL⟩
      .simp only[Qk];by_cases e:d=o
       .subst e;rw[z6 rfl];exact iq.retd cz.2 λ_ _=>rfl
       .rw[z0 e];refine (hG.obj d).mono (.refl _) (λ_ _ h=>h) λhl i hi=>?_;have ai:=(hG.obj d).q1a hl hi;cases hg:U.get i with
        |none=>exact k1.d.2 i ai hg
        |some bb=>exact hle.2 _ _ (by rw[AA λjc=>hG.sep d o i e hl al hi (Hn jc)];exact hg)
      .simp only[Qk] at q1;by_cases e:d=o
       .subst e;exact hG.fresh d i al q2
       .rw[z0 e] at q1;exact hG.fresh d i q1 q2
      .have lv:∀ d,(Qa (oset s.own o b') d).live=true->(Qa s.own d).live=true:=λd h=>by
        rw[Qk] at h
        grind
       exact hG.sep d d' i aB (lv d q1) (lv d' q2) q3 q4
     .exact h.elim
    cases e with
    |normal=>exact main h1
    |ret=>exact main h1
    |_=>exact h1.elim
   .exact hx.elim
  .exact hx.elim
 .exact hx.elim
mutual
theorem AP.q0l:∀ {D:Type}(p:AP D) (x:D),(AP.can p x).pure=true
 |_,.k k,x=>rfl
 |_,.agg l,x=>by simp only[AP.can,SV.pure];exact AL.q0l l x
 |_,.nilS,x=>rfl
 |_,.any,x=>rfl
 |_,.int k n,x=>rfl
 |_,.ptr l,x=>by simp only[AP.can,SV.pure];exact AL.q0l l x
 |_,.fnx g l,x=>by simp only[AP.can,SV.pure,SVs.pure,AL.q0l l x];rfl
 |_,.fn ks r,x=>rfl
theorem AL.q0l:∀ {D:Type}(l:AL D) (x:D),SVs.pure (AL.can l x)=true
 |_,.nil,x=>rfl
 |_,.one a,x=>by simp only[AL.can,SVs.pure,AP.q0l a x];rfl
 |_,.cons a r,x=>by simp only[AL.can,SVs.pure,AP.q0l a x.1,AL.q0l r x.2];rfl
end
def Q36 (ty:Nat) (k:Kind) {D:Type}(l:AL D) (pre:List k.T->Bool->D->Prop) (res:List k.T->Bool->D->SV) (post:List k.T->Bool->D->List k.T):LSp:=λap b args=>match b with
 |.lst iI _k' xs nl=>if iI=ty then (match M8 xs k,AL.dec ap l args with
  |some xs,some d=>some (pre xs nl d,res xs nl d,.lst ty k (post xs nl d) nl)
  |_,_=>none) else none
 |_=>none
theorem CM {f:Nat}{vc:VCode}{rs:List VResult}{nt:Nat}(h:Fun P f vc rs nt) (hm:P.follows .mixedOrders=true) {ap:Ap}(du:Q2f P ap) {ty:Nat}{k:Kind}{D:Type}{l:AL D}{pre:List k.T->Bool->D->Prop}{res:List k.T->Bool->D->SV}{post:List k.T->Bool->D->List k.T}
  {C:Cx}(az:COk P C) {L:List k.T->Bool->D->List Value->List (Nat×LoopAnn)}{V:List k.T->Bool->D->Prop}
  (hq:∀ xs nl d,(∀ vals,gwp C (L xs nl d vals) vc 0 (Q39 vals rs (res xs nl d) (.lst ty k (post xs nl d) nl) (.lst 0)) (Mz nt (.lst 0) (.lst ty k xs nl) vals (AL.can l d)))=V xs nl d)
  (hb:∀ xs nl d,pre xs nl d->V xs nl d):XOk P f (Q0r ap (Q36 ty k l pre res post)):=by
 refine Q5u h hm λb args c v b' hs hc=>?_;unfold Q36 at hs;split at hs
 .rename_i iI k' xs nl;split at hs
  .rename_i e;subst e;split at hs
   .rename_i ys d h1 h2;obtain⟨rfl,rfl,rfl⟩:=(by simpa using hs:pre ys nl d=c/\res ys nl d=v/\OB.lst iI k (post ys nl d) nl=b');unfold M8 at h1;split at h1
    .rename_i e;subst e;obtain rfl:=osj h1;exact⟨C,L xs nl d,AL.can l d,AL.q0l l d,λU vs hv=>AL.q0j du l h2 hv,az,(hq xs nl d).mpr (hb xs nl d hc)⟩
    .cases h1
   .cases hs
  .cases hs
 .cases hs
end
end Go.V
namespace Go.V
open Go
abbrev lI {α:Type}(l:List α):Int:=(l.length:Int)
abbrev gD {α:Type}(l:List α) (i:Int) (d:α):α:=l.getD i.toNat d
abbrev sT {α:Type}(l:List α) (i:Int) (x:α):List α:=l.set i.toNat x
abbrev I64 (x:Int):Prop:=InK .i64 x
theorem Qd (x:Int):InK .i64 x<->-9223372036854775808<=x/\x<=9223372036854775807:=by simp[InK,IntKind.min,IntKind.max,IntKind.bits,IntKind.signed]
theorem Q3e (x:Int):InK .u8 x<->0<=x/\x<=255:=by simp[InK,IntKind.min,IntKind.max,IntKind.bits,IntKind.signed]
theorem Q7u (x:Int):InK .u16 x<->0<=x/\x<=65535:=by simp[InK,IntKind.min,IntKind.max,IntKind.bits,IntKind.signed]
theorem Hj (x:Int):InK .u64 x<->0<=x/\x<=18446744073709551615:=by simp[InK,IntKind.min,IntKind.max,IntKind.bits,IntKind.signed]
theorem LoopP.count {F:Int->(Int->Prop)->Prop}(n:Nat) (J:Nat->Prop) (h0:J 0) (hr:∀ k:Nat,k<=n->J k->∀ q:Int->Prop,(k<n->J (k+1)->q ((k:Int)+1))->F k q):LoopP F 0:=by
 refine⟨λd=>∃ k:Nat,d=k/\k<=n/\J k,λd=>n-d.toNat,⟨0,rfl,Nat.zero_le _,h0⟩,λd ⟨k,hd,hk,hJ⟩=>?_⟩
 grind
theorem LoopP.count2 {X:Type}{F:X×Int->(X×Int->Prop)->Prop}(n:Nat) (J:Nat->X->Prop) {x0:X}(h0:J 0 x0) (hr:∀ (k:Nat) (x:X),k<=n->J k x->∀ q:X×Int->Prop,(∀ x',k<n->J (k+1) x'->q (x',(k:Int)+1))->F (x,(k:Int)) q):LoopP F (x0,0):=by
 refine⟨λd=>∃ k:Nat,d.2=k/\k<=n/\J k d.1,λd=>n-d.2.toNat,⟨0,rfl,Nat.zero_le _,h0⟩,λ⟨x,d⟩ ⟨k,hd,hk,hJ⟩=>?_⟩
 grind
theorem Q9 {α:Type}{l:List α}{k:Nat}{d:α}(h:k<l.length):l.getD k d=l[k]:=by simp_all
theorem J1 {α:Type}{l:List α}{k:Nat}(h:k<l.length):l.take (k+1)=l.take k++[l[k]]:=by rw[List.take_succ_eq_append_getElem h]
section
variable {P:Program}
theorem st1 {S:VSpecs}{d:Nat}{op:VOp}{rest:List VOper}{env:Env}{U:Heap}{K:Env->Heap->Prop}{v:Value}(hv:∀ K',vop S op env U K'=QV (Q7 op (Q4 env) U) λp=>K' p.1 p.2) (h:Q7 op (Q4 env) U=some (v,U)) (hr:S2 S rest (env.set d v) U K):S2 S (⟨some d,op,none⟩::rest) env U K:=by show QV (some true) _;refine⟨λ_=>?_,λe=>by cases e⟩;rw[hv,h];exact hr
theorem YlOk.nil:∀ o y,QF ([]:List (Nat×YSp)) o=some y->Q61 P o y:=λo y h=>by cases h
theorem IysOk.nil:∀ f x,QF ([]:List (Nat×Q9j)) f=some x->Q9q P f x:=λf x h=>by cases h
theorem IysOk.cons {f:Nat}{x:Q9j}{l:List (Nat×Q9j)}(h:Q9q P f x) (t:∀ g y,QF l g=some y->Q9q P g y):∀ g y,QF ((f,x)::l) g=some y->Q9q P g y:=λg y hg=>by
 simp only[QF] at hg
 grind [Nat.eq_of_beq_eq_true,osj]
theorem XsOk.nil:∀ f x,QF ([]:List (Nat×XSp)) f=some x->XOk P f x:=λf x h=>by cases h
theorem XsOk.cons {f:Nat}{x:XSp}{l:List (Nat×XSp)}(h:XOk P f x) (t:∀ g y,QF l g=some y->XOk P g y):∀ g y,QF ((f,x)::l) g=some y->XOk P g y:=λg y hg=>by
 simp only[QF] at hg
 grind [Nat.eq_of_beq_eq_true,osj]
theorem ItsOk.nil:∀ f x,QF ([]:List (Nat×ISp)) f=some x->Z5r P f x:=λf x h=>by cases h
def Lv:Ap:=λ_ _=>none
theorem M4:Q2f P Lv:=λ_ _ _ _ _ _ _ _ _ h=>by cases h
end
end Go.V
namespace Go.V
open Go
def FE {α:Type}:Nat->α->List α->List α
 |0,x,l=>x::l
 |j+1,x,a::l=>a::FE j x l
 |_+1,x,[]=>[x]
def I6 {α:Type}:Nat->List α->List α
 |0,_::l=>l
 |j+1,a::l=>a::I6 j l
 |_,[]=>[]
def Cz (kk vk:Kind):OB->Option (List (kk.T×vk.T))
 |.map ji k_ m=>if h:ji=kk/\k_=vk then some (h.1▸h.2▸m) else none
 |_=>none
def Q1x (vals:List Value) (rs:List VResult) (v:SV) (kk vk:Kind) (post:List (kk.T×vk.T)->Prop):Exit->St->Prop:=λe s =>
 let fin:=match XC s rs,Qa s.own 4000000,Cz kk vk (Qa s.own 0) with
  |some r,.stk l vs,some m'=>vs=vals/\Uj [(0,some 0)] [.map 0] l/\PS [] v r/\post m'
  |_,_,_=>False
 match e with
 |.normal=>fin
 |.ret=>fin
 |_=>False
section
variable {P:Program}
theorem Gi {kk vk:Kind}{b:OB}{m:List (kk.T×vk.T)}(h:Cz kk vk b=some m):b=.map kk vk m:=by
 unfold Cz at h
 grind
theorem Q35:∀ (j:Nat) {l:List SV}{c:List Value}{o:Nat}{B:Heap}{pl:Nat->Value}{tb:Nat->Option Bool},l[j]?=some (.map o)->SRs P B pl tb l c ->
  ∃ w,SR P B pl tb (.map o) w/\SRs P B pl tb (I6 j l) (I6 j c)/\∀ (B':Heap) (pl':Nat->Value) (tb':Nat->Option Bool) (l':List SV) (x:SV),SRs P B' pl' tb' l' (I6 j c)->SR P B' pl' tb' x w->SRs P B' pl' tb' (FE j x l') c
 |j,[],c,o,B,pl,tb,h,_=>by simp at h
 |0,a::l,c,o,B,pl,tb,h,hs=>by
  obtain rfl:a=.map o:=by simpa using h
  simp only[SRs] at hs;obtain⟨w,us,rfl,h1,h2⟩:=hs;exact⟨w,h1,h2,λB' pl' tb' l' x h3 h4=>by simp only[FE,SRs];exact⟨w,us,rfl,h4,h3⟩⟩
 |j+1,a::l,c,o,B,pl,tb,h,hs=>by
  simp only[SRs] at hs;obtain⟨u,us,rfl,h1,h2⟩:=hs;obtain⟨w,g1,g2,g3⟩:=Q35 j (by simpa using h) h2;refine⟨w,g1,?_,λB' pl' tb' l' x h3 h4=>?_⟩
  .simp only[I6,SRs];exact⟨u,_,rfl,h1,g2⟩
  .simp only[I6] at h3
   match l',h3 with
   |[],h3=>simp only[SRs] at h3;cases h3
   |y::l',h3 =>
    simp only[SRs] at h3;obtain⟨u',iG,e,h5,h6⟩:=h3;obtain⟨rfl,rfl⟩:=zR e;simp only[FE,SRs]
    grind
theorem XfOk.nil {xs:List (Nat×XSp)}:∀ f j,QF ([]:List (Nat×Nat)) f=some j->∀ x,QF xs f=some x->Z51 P f x j:=λf j h=>by cases h
end
end Go.V
namespace Go.V
open Go
abbrev PSp (kk vk:Kind):=Ap->List SV->Option (Prop×List SV×(List (kk.T×vk.T)->Prop))
def Q4e (ap:Ap) (kk vk:Kind) (sp:PSp kk vk):XSp:=λd args s K=>match sp ap (PT s.own args) with
 |some (c,vs,post)=>bif SVs.ret 0 vs then c/\∀ m',post m'->K (.tup (.map d::vs)) (s.make d (.map kk vk m')) else False
 |none=>False
def YV (nt:Nat) (args:List SV):St:=⟨args++List.replicate (nt-args.length) .any,[],0⟩
def Q8r (rs:List VResult) (kk vk:Kind) (vs:List SV) (post:List (kk.T×vk.T)->Prop):Exit->St->Prop:=λe s =>
 let fin:=match XC s rs with
  |some (.tup (.map k::r))=>(match Cz kk vk (Qa s.own k) with
   |some m'=>Uj [] vs r/\post m'
   |none=>False)
  |_=>False
 match e with
 |.normal=>fin
 |.ret=>fin
 |_=>False
section
variable {P:Program}
theorem SRs.retd0 {B B':Heap}{pl pl':Nat->Value}{tb tb':Nat->Option Bool}:∀ (l:List SV) (us:List Value),SVs.ret 0 l=true->SRs P B pl tb l us->SRs P B' pl' tb' l us
 |[],us,_,h=>by simpa [SRs] using h
 |s::l,us,hr,h=>by simp only[SVs.ret,z8] at hr;simp only[SRs] at h |-;obtain⟨u,iG,rfl,h1,h2⟩:=h;exact⟨u,iG,rfl,h1.retd (n:=0) (λj hj=>by omega) _ _ hr.1,SRs.retd0 l iG hr.2 h2⟩
theorem Q6l {f:Nat}{vc:VCode}{rs:List VResult}{nt:Nat}(h:Fun P f vc rs nt) (hm:P.follows .mixedOrders=true) {kk vk:Kind}(bn:(kk.flat&&vk.flat)=true) {sp:PSp kk vk}{ap:Ap}
  (hb:∀ fK c vs post,sp ap fK=some (c,vs,post)->c->∃ (C:Cx) (L:List (Nat×LoopAnn)) (eB:List SV),SVs.pure eB=true/\(∀ U us,SRs P U Xd Ji fK us->SRs P U Xd Ji eB us)/\COk P C/\gwp C L vc 0 (Q8r rs kk vk vs post) (YV nt eB)):XOk P f (Q4e ap kk vk sp):=by
 intro B F pl tb s env U d args vals K R hG ha hx hK;unfold Q4e at hx;split at hx
 .rename_i c vs post cZ;cases cz:SVs.ret 0 vs with
  |false=>rw[cz] at hx;exact hx.elim
  |true =>
  rw[cz] at hx;obtain⟨hc,hx⟩:=hx;obtain⟨C,L,eB,cN,n7,eA,hg⟩:=hb _ c vs post cZ hc;have aq:=n7 U vals (Wh (own:=s.own) hG.leB (pl:=pl) (tb:=tb) (λd=>hG.obj d) ha);have aY:GRel P U U U (YV nt eB) (vals++List.replicate (nt-vals.length) undef) U:=by
   refine⟨U,U,λ_=>poison,Ji,⟨.refl _,.refl _,λ_ _ _ h=>h,.refl _⟩,.refl _,.refl _,?_,λk=>?_,λk i' h1 h2=>?_,λk k' i' n8 h1 h2 h3 h4=>?_,λ_ _=>rfl⟩
   .simp only[YV];rw[aq.length];exact SRs.append (Zg _ _ cN aq) (De _)
   .simp only[YV,Qa];trivial
   .simp only[YV,Qa] at h1;cases h1
   .simp only[YV,Qa] at h1;cases h1
  refine h.calls hm Hk ?_;refine Vd eA vc 0 _ _ _ U none _ trivial aY hg λe s' ae U' h1 h2=>?_
  have main:(match XC s' rs with
   |some (.tup (.map k::r))=>(match Cz kk vk (Qa s'.own k) with
    |some m'=>Uj [] vs r/\post m'
    |none=>False)
   |_=>False)->QV (J6 ae U' rs) λv=>∃ v' aE,DropTo U v U' v' aE/\R v' aE:=λh=>by
   obtain⟨B',F',pl',tb',k1,k2⟩:=h2;split at h
   .rename_i k r hr;split at h
    .rename_i m' kB;obtain⟨g1,g2⟩:=h;have aL:=Gi kB;obtain⟨w,h3,h4⟩:=JP k2 hr;rw[h3];simp only[SR,SRs] at h4;obtain⟨cs,rfl,mv,ws,rfl,⟨rfl,_⟩,h5⟩:=h4;have cL:=SRs.retd0 (B':=B) (pl':=JH pl d (pl' k)) (tb':=tb) vs ws cz (Zf vs r ws g1 h5);have aj:=k2.obj k;rw[aL] at aj;have hle:U.Le U':=k1.f.trans k2.le;have lD:OR P B (JH pl d (pl' k)) tb U' (pl' k) (.map kk vk m'):=aj.retd bn λ_ _=>rfl;have al:(Qa s'.own k).live=true:=by rw[aL];rfl
     have dQ:∀ i,Oid (pl' k) i->U.get i=none:=λi hi=>by
      cases hg:U.get i with
      |none=>rfl
      |some b =>have:=k2.fresh k i al hi;have h9:=k1.f.2 _ _ hg;rw[this] at h9;cases h9
     have lE:Gam P B F (JH pl d (pl' k)) tb (s.make d (.map kk vk m')) env U':=by
      refine hG.make d _ (pl' k) (hG.le.trans hle) (λj i _ hl hi=>?_) lD λi _ hi=>⟨?_,λj _ hl hj=>?_⟩
      .cases hg:U.get i with
       |none=>exact k1.d.2 i ((hG.obj j).q1a hl hi) hg
       |some bb=>exact hle.2 _ _ hg
      .cases hg:F.get i with
       |none=>rfl
       |some b=>have:=hG.le.2 _ _ hg;rw[dQ i hi] at this;cases this
      .have ai:=(hG.obj j).q1a hl hj;have:=k1.d.2 i ai (dQ i hi);obtain⟨id,es,clock,e1,e2,_⟩:=lD;rw[e1] at hi;obtain rfl:id=i:=osj hi;rw[this] at e2;cases e2
     refine⟨_,U',.refl _ _ _,hK _ _ B F _ tb _ U' (hx m' g2) (.of hG.bf k1.d) lE ?_⟩;obtain⟨id,es,clock,e1,_⟩:=lD;simp only[SR,SRs];exact⟨_,rfl,_,_,rfl,⟨by simp[JH],_,e1⟩,cL⟩
    .exact h.elim
   .exact h.elim
  cases e with
  |normal=>exact main h1
  |ret=>exact main h1
  |_=>exact h1.elim
 .exact hx.elim
def Q9n {kk vk:Kind}{D:Type}(la:AL D) (pre:D->Prop) (res:D->List SV) (post:D->List (kk.T×vk.T)->Prop):PSp kk vk:=λap fK=>match AL.dec ap la fK with
 |some a=>some (pre a,res a,post a)
 |none=>none
theorem Q6b {f:Nat}{vc:VCode}{rs:List VResult}{nt:Nat}(h:Fun P f vc rs nt) (hm:P.follows .mixedOrders=true) {ap:Ap}(du:Q2f P ap) {kk vk:Kind}(bn:(kk.flat&&vk.flat)=true) {D:Type}{la:AL D}{pre:D->Prop}{res:D->List SV}{post:D->List (kk.T×vk.T)->Prop}
  {C:Cx}(az:COk P C) {L:D->List (Nat×LoopAnn)}{V:D->Prop}
  (hq:∀ y,gwp C (L y) vc 0 (Q8r rs kk vk (res y) (post y)) (YV nt (AL.can la y))=V y)
  (hb:∀ y,pre y->V y):XOk P f (Q4e ap kk vk (Q9n la pre res post)):=Q6l h hm bn λfK c vs q hs hc=>by
 unfold Q9n at hs
 grind [AL.q0l,AL.q0j]
end
end Go.V
namespace Go.V
open Go
def pj4 {A B C D E:Type}(x:A×B×C×D×E):E:=x.2.2.2.2
def pj8 {A B C D A' B' C' D' E:Type}(x:A×B×C×D×A'×B'×C'×D'×E):E:=x.2.2.2.2.2.2.2.2
def J_ {A B C D A' B' C' D' A1 B1 C1 D1 A2 B2 C2 D2 E:Type}(x:A×B×C×D×A'×B'×C'×D'×A1×B1×C1×D1×A2×B2×C2×D2×E):E:=x.2.2.2.2.2.2.2.2.2.2.2.2.2.2.2.2
theorem Q0n {x:Nat}(h:x<9223372036854775808):IntKind.wrap .i64 (x:Int)=x:=by
 have e:((x:Int) % (18446744073709551616:Int))=x:=by omega
 have:¬ ((x:Int)>=9223372036854775808):=by omega
 show (if (true&&decide ((x:Int) % (18446744073709551616:Int)>=9223372036854775808))=true then (x:Int) % (18446744073709551616:Int)-18446744073709551616 else (x:Int) % (18446744073709551616:Int))=x;simp only[e,this,decide_false,Bool.and_false,zw,if_false]
theorem Q5s {x y:Nat}(h:x<9223372036854775808):x &&& y<9223372036854775808:=xC Nat.and_le_left h
theorem Rq (x:Nat):BitVec.ofInt 64 (x:Int)=BitVec.ofNat 64 x:=by apply BitVec.eq_of_toNat_eq;simp
theorem Rw {x:Nat}(h:x<9223372036854775808):(BitVec.ofInt 64 (x:Int)).toNat=x:=by rw[Rq,BitVec.toNat_ofNat,xm (by omega)]
theorem Q4q {x y:Nat}(hx:x<9223372036854775808) (hy:y<9223372036854775808):QM .and .i64 x y=((x &&& y:Nat):Int):=by
 have e:(BitVec.ofInt 64 (x:Int) &&& BitVec.ofInt 64 (y:Int)).toNat=x &&& y:=by rw[BitVec.toNat_and,Rw hx,Rw hy]
 show IntKind.wrap .i64 ((BitVec.ofInt 64 (x:Int) &&& BitVec.ofInt 64 (y:Int)).toNat:Int)=_;rw[e,Q0n (Q5s hx)]
theorem Q8p {x i:Nat}(hi:i<=64):K0 .i64 x i=((x <<< i:Nat):Int):=by have:Nat.min i 64=i:=w5 hi;simp only[K0,zf,IntKind.bits,this,Nat.shiftLeft_eq];norm_cast
theorem AF {α:Type}:∀ (j:Nat) (x:α) (l:List α),(FE j x l).length=l.length+1
 |0,_,_=>rfl
 |j+1,x,[]=>rfl
 |j+1,x,a::l=>by simp only[FE,zG];rw[AF j x l]
def Q5e (ap:Ap) (kk vk:Kind) (sp:PSp kk vk):XSp:=λd args s K=>match sp ap (PT s.own args) with
 |some (c,_,post)=>c/\∀ m',post m'->K (.map d) (s.make d (.map kk vk m'))
 |none=>False
def Q96 (rs:List VResult) (kk vk:Kind) (post:List (kk.T×vk.T)->Prop):Exit->St->Prop:=λe s =>
 let fin:=match XC s rs with
  |some (.map k)=>(match Cz kk vk (Qa s.own k) with
   |some m'=>post m'
   |none=>False)
  |_=>False
 match e with
 |.normal=>fin
 |.ret=>fin
 |_=>False
section
variable {P:Program}
theorem Q5h {f:Nat}{vc:VCode}{rs:List VResult}{nt:Nat}(h:Fun P f vc rs nt) (hm:P.follows .mixedOrders=true) {kk vk:Kind}(bn:(kk.flat&&vk.flat)=true) {sp:PSp kk vk}{ap:Ap}
  (hb:∀ fK c vs post,sp ap fK=some (c,vs,post)->c->∃ (C:Cx) (L:List (Nat×LoopAnn)) (eB:List SV),SVs.pure eB=true/\(∀ U us,SRs P U Xd Ji fK us->SRs P U Xd Ji eB us)/\COk P C/\gwp C L vc 0 (Q96 rs kk vk post) (YV nt eB)):XOk P f (Q5e ap kk vk sp):=by
 intro B F pl tb s env U d args vals K R hG ha hx hK;unfold Q5e at hx;split at hx
 .rename_i c vs post cZ;obtain⟨hc,hx⟩:=hx;obtain⟨C,L,eB,cN,n7,eA,hg⟩:=hb _ c vs post cZ hc;have aq:=n7 U vals (Wh (own:=s.own) hG.leB (pl:=pl) (tb:=tb) (λd=>hG.obj d) ha);have aY:GRel P U U U (YV nt eB) (vals++List.replicate (nt-vals.length) undef) U:=by
   refine⟨U,U,λ_=>poison,Ji,⟨.refl _,.refl _,λ_ _ _ h=>h,.refl _⟩,.refl _,.refl _,?_,λk=>?_,λk i' h1 h2=>?_,λk k' i' n8 h1 h2 h3 h4=>?_,λ_ _=>rfl⟩
   .simp only[YV];rw[aq.length];exact SRs.append (Zg _ _ cN aq) (De _)
   .simp only[YV,Qa];trivial
   .simp only[YV,Qa] at h1;cases h1
   .simp only[YV,Qa] at h1;cases h1
  refine h.calls hm Hk ?_;refine Vd eA vc 0 _ _ _ U none _ trivial aY hg λe s' ae U' h1 h2=>?_
  have main:(match XC s' rs with
   |some (.map k)=>(match Cz kk vk (Qa s'.own k) with
    |some m'=>post m'
    |none=>False)
   |_=>False)->QV (J6 ae U' rs) λv=>∃ v' aE,DropTo U v U' v' aE/\R v' aE:=λh=>by
   obtain⟨B',F',pl',tb',k1,k2⟩:=h2;split at h
   .rename_i k hr;split at h
    .rename_i m' kB;have g2:=h;have aL:=Gi kB;obtain⟨w,h3,h4⟩:=JP k2 hr;rw[h3];simp only[SR] at h4;obtain⟨rfl,_⟩:=h4;have aj:=k2.obj k;rw[aL] at aj;have hle:U.Le U':=k1.f.trans k2.le;have lD:OR P B (JH pl d (pl' k)) tb U' (pl' k) (.map kk vk m'):=aj.retd bn λ_ _=>rfl;have al:(Qa s'.own k).live=true:=by rw[aL];rfl
     have dQ:∀ i,Oid (pl' k) i->U.get i=none:=λi hi=>by
      cases hg:U.get i with
      |none=>rfl
      |some b =>have:=k2.fresh k i al hi;have h9:=k1.f.2 _ _ hg;rw[this] at h9;cases h9
     have lE:Gam P B F (JH pl d (pl' k)) tb (s.make d (.map kk vk m')) env U':=by
      refine hG.make d _ (pl' k) (hG.le.trans hle) (λj i _ hl hi=>?_) lD λi _ hi=>⟨?_,λj _ hl hj=>?_⟩
      .cases hg:U.get i with
       |none=>exact k1.d.2 i ((hG.obj j).q1a hl hi) hg
       |some bb=>exact hle.2 _ _ hg
      .cases hg:F.get i with
       |none=>rfl
       |some b=>have:=hG.le.2 _ _ hg;rw[dQ i hi] at this;cases this
      .have ai:=(hG.obj j).q1a hl hj;have:=k1.d.2 i ai (dQ i hi);obtain⟨id,es,clock,e1,e2,_⟩:=lD;rw[e1] at hi;obtain rfl:id=i:=osj hi;rw[this] at e2;cases e2
     refine⟨_,U',.refl _ _ _,hK _ _ B F _ tb _ U' (hx m' g2) (.of hG.bf k1.d) lE ?_⟩;obtain⟨id,es,clock,e1,_⟩:=lD;simp only[SR];exact⟨by simp[JH],_,e1⟩
    .exact h.elim
   .exact h.elim
  cases e with
  |normal=>exact main h1
  |ret=>exact main h1
  |_=>exact h1.elim
 .exact hx.elim
theorem Q5w {f:Nat}{vc:VCode}{rs:List VResult}{nt:Nat}(h:Fun P f vc rs nt) (hm:P.follows .mixedOrders=true) {ap:Ap}(du:Q2f P ap) {kk vk:Kind}(bn:(kk.flat&&vk.flat)=true) {D:Type}{la:AL D}{pre:D->Prop}{res:D->List SV}{post:D->List (kk.T×vk.T)->Prop}
  {C:Cx}(az:COk P C) {L:D->List (Nat×LoopAnn)}{V:D->Prop}
  (hq:∀ y,gwp C (L y) vc 0 (Q96 rs kk vk (post y)) (YV nt (AL.can la y))=V y)
  (hb:∀ y,pre y->V y):XOk P f (Q5e ap kk vk (Q9n la pre res post)):=Q5h h hm bn λfK c vs q hs hc=>by
 unfold Q9n at hs
 grind [AL.q0l,AL.q0j]
end
end Go.V
namespace Go.V
open Go
abbrev KSp (kk vk:Kind):=Ap->List (kk.T×vk.T)->List SV->Option (Prop×SV×(List (kk.T×vk.T)->Prop))
def Q0v (ap:Ap) (j:Nat) (kk vk:Kind) (sp:KSp kk vk):XSp:=λ_ args s K =>
 match args[j]? with
 |some (.map o)=>(match Cz kk vk (Qa s.own o) with
  |some m=>(match sp ap m (PT (oset s.own o .dead) (I6 j args)) with
   |some (c,v,post)=>bif v.ret 0 then c/\∀ m',post m'->K v ⟨s.env,oset s.own o (.map kk vk m'),s.nx⟩ else False
   |none=>False)
  |none=>False)
 |_=>False
def Mk (nt j:Nat) (kk vk:Kind) (m:List (kk.T×vk.T)) (vals:List Value) (args:List SV):St:=⟨FE j (.map 0) args++List.replicate (nt-(args.length+1)) .any,[(0,.map kk vk m),(4000000,.stk [.map 0] vals)],0⟩
def Z2n {kk vk:Kind}{D:Type}(la:AL D) (pre:List (kk.T×vk.T)->D->Prop) (res:List (kk.T×vk.T)->D->SV) (post:List (kk.T×vk.T)->D->List (kk.T×vk.T)->Prop):KSp kk vk:=λap m fK=>match AL.dec ap la fK with
 |some a=>some (pre m a,res m a,post m a)
 |none=>none
section
variable {P:Program}
theorem Q62 {f:Nat}{vc:VCode}{rs:List VResult}{nt:Nat}(h:Fun P f vc rs nt) (hm:P.follows .mixedOrders=true) {kk vk:Kind}(bn:(kk.flat&&vk.flat)=true) {sp:KSp kk vk}{ap:Ap}{j:Nat}
  (hb:∀ m fK c v post,sp ap m fK=some (c,v,post)->c->∃ (C:Cx) (L:List Value->List (Nat×LoopAnn)) (eB:List SV),SVs.pure eB=true/\(∀ U vs,SRs P U Xd Ji fK vs->SRs P U Xd Ji eB vs)/\COk P C/\∀ vals,gwp C (L vals) vc 0 (Q1x vals rs v kk vk post) (Mk nt j kk vk m vals eB)):XOk P f (Q0v ap j kk vk sp):=by
 intro B F pl tb s env U d args vs K R hG ha hx hK;unfold Q0v at hx;split at hx
 .rename_i o fZ;split at hx
  .rename_i m aA;have aL:=Gi aA;split at hx
   .rename_i c v post cZ;cases cz:v.ret 0 with
    |false=>rw[cz] at hx;exact hx.elim
    |true =>
    rw[cz] at hx;obtain⟨hc,hx⟩:=hx;obtain⟨w,hw,qH,qI⟩:=Q35 j fZ ha;simp only[SR] at hw;obtain rfl:w=pl o:=hw.1;have al:(Qa s.own o).live=true:=by rw[aL];rfl
    have aj:=hG.obj o;rw[aL] at aj;obtain⟨id,es,clock,ig,br,dV⟩:=aj;have n9:F.get id=none:=hG.fresh o id al (by rw[ig];rfl);have lA:B.get id=none:=by
     cases hg:B.get id with
     |none=>rfl
     |some b=>have:=hG.bf.2 _ _ hg;rw[n9] at this;cases this
    obtain⟨C,L,eB,cN,n7,eA,hg⟩:=hb _ _ c v post cZ hc;have hg:=hg [pl o];have uy:oid (pl o)=some id:=by rw[ig];rfl
    let σc:=U.kill id;have oY:B.Le σc:=hG.leB.kill' lA;have qG:F.Le σc:=hG.le.kill' n9;have qJ:σc.Le U:=Heap.q1x _ _;have bG:∀ k,k≠id->σc.get k=U.get k:=λk hk=>Heap.q0d _ hk;have bL:∀ d,OR P σc Xd Ji σc (pl d) ((Qa (oset s.own o .dead) d).kill d)\/True:=λ_=>.inr trivial;have uz:∀ (xs:List SV) (vs:List Value),SRs P B pl tb xs vs->SRs P σc Xd Ji (PT (oset s.own o .dead) xs) vs:=λxs vs bq=>by
     refine Wh (own:=oset s.own o .dead) oY (pl:=pl) (tb:=tb) (λd=>?_) bq;rw[Qk];by_cases e:d=o
     .rw[z6 e];trivial
     .rw[z0 e];exact(hG.obj d).mono (.refl _) (λ_ _ h=>h) λhl i hi=>bG _ λjc=>hG.sep d o i e hl al hi (by rw[ig,jc];rfl)
    have aq:=n7 σc _ (uz _ _ qH);let iL:Nat->Value:=λk=>if k=0 then pl o else poison
    have ke:∀ (B:Heap) (tb':Nat->Option Bool),SR P B iL tb' (.map 0) (pl o):=λB tb'=>by simp only[SR];exact⟨by simp[iL],_,ig⟩
    have aY:GRel P σc σc U (Mk nt j kk vk m [pl o] eB) (vs++List.replicate (nt-vs.length) undef) U:=by
     refine⟨σc,σc,iL,Ji,⟨.refl _,.refl _,λ_ _ _ h=>h,.refl _⟩,.refl _,qJ,?_,λk=>?_,λk i' h1 h2=>?_,λk k' i' n8 h1 h2 h3 h4=>?_,λ_ _=>rfl⟩
     .have h0:=qI σc iL Ji eB (.map 0) (Zg _ _ cN aq) (ke _ _);have hl:=h0.length;rw[AF] at hl;simp only[Mk]
      grind [SRs.append,De]
     .simp only[Mk,Qa];by_cases e0:k=0
      .subst e0;simp only[Nat.beq_refl,zi];exact⟨id,es,clock,by simp[iL,ig],br,dV.mono oY⟩
      .rw[ZG (λe=>e0 e.symm),cond_false];by_cases e1:k=4000000
       .subst e1;simp only[Nat.beq_refl,zi];exact⟨pl o,[],rfl,ke _ _,rfl⟩
       .rw[ZG (λe=>e1 e.symm),cond_false];trivial
     .simp only[Mk,Qa] at h1;by_cases e0:k=0
      .subst e0;have:Oid (pl o) i':=by simpa [iL] using h2
       rw[ig] at this;obtain rfl:id=i':=osj this;exact Heap.q0f _ _
      .rw[ZG (λe=>e0 e.symm),cond_false] at h1;by_cases e1:k=4000000
       .subst e1;cases h1
       .rw[ZG (λe=>e1 e.symm),cond_false] at h1;cases h1
     .have z:∀ k,(Qa (Mk nt j kk vk m [pl o] eB).own k).live=true->k=0:=λk h1=>by
       simp only[Mk,Qa] at h1;by_cases e0:k=0
       .exact e0
       .rw[ZG (λe=>e0 e.symm),cond_false] at h1;by_cases e1:k=4000000
        .subst e1;cases h1
        .rw[ZG (λe=>e1 e.symm),cond_false] at h1;cases h1
      grind
    refine h.calls hm Hk ?_;refine Vd eA vc 0 _ _ _ U none _ trivial aY hg λe s' ae U' h1 h2=>?_
    have main:(match XC s' rs,Qa s'.own 4000000,Cz kk vk (Qa s'.own 0) with
     |some r,.stk l vs,some m'=>vs=[pl o]/\Uj [(0,some 0)] [.map 0] l/\PS [] v r/\post m'
     |_,_,_=>False)->QV (J6 ae U' rs) λv=>∃ v' aE,DropTo U v U' v' aE/\R v' aE:=λh=>by
     obtain⟨B',F',pl',tb',k1,k2⟩:=h2;split at h
     .rename_i r l' cA m' hr fJ qK;obtain⟨rfl,m1,m2,m3⟩:=h;have eT:=Gi qK;obtain⟨w,h3,h4⟩:=JP k2 hr;rw[h3];have e_:=k2.obj 4000000;rw[fJ] at e_;have lC:pl' 0=pl o:=by
       have:=Zf [.map 0] l' [pl o] m1 e_;simp only[SRs,SR] at this;obtain⟨u',_,de,⟨h5,_⟩,_⟩:=this;obtain rfl:pl o=u':=(zR de).1;simpa [NW,QF] using h5.symm
      have iq:=k2.obj 0;rw[eT,lC] at iq;have cL:=(Kq v r w m2 h4).retd (B':=B) (pl':=pl) (tb':=tb) (n:=0) (λj hj=>by omega) _ _ cz;have hle:σc.Le U':=k1.f.trans k2.le;have n_:∀ d,d≠o->(Qa s.own d).live=true->∀ i,Oid (pl d) i->U'.get i=U.get i:=λd e hl i hi=>by
       have ai:=(hG.obj d).q1a hl hi;have uA:i≠id:=λjc=>hG.sep d o i e hl al hi (by rw[ig,jc];rfl);cases hg:U.get i with
       |none=>exact k1.d.2 i ai hg
       |some bb=>exact hle.2 _ _ (by rw[bG i uA];exact hg)
      have bP:∀ d,(Qa (oset s.own o (.map kk vk m')) d).live=(Qa s.own d).live:=λd=>by
       rw[Qk];by_cases e:d=o
       .subst e;rw[z6 rfl,al];rfl
       .rw[z0 e]
      refine⟨w,U',.refl _ _ _,hK v _ B F pl tb w U' (hx m' m3) (.of hG.bf k1.d) ⟨hG.bf,qG.trans hle,hG.env,λd=>?_,λd i q1 q2=>hG.fresh d i (by rw[<-bP d];exact q1) q2,λd d' i aB q1 q2 q3 q4=>hG.sep d d' i aB (by rw[<-bP d];exact q1) (by rw[<-bP d'];exact q2) q3 q4,hG.free⟩ cL⟩
      .simp only[Qk];by_cases e:d=o
       .subst e;rw[z6 rfl];exact iq.retd bn λ_ _=>rfl
       .rw[z0 e];exact(hG.obj d).mono (.refl _) (λ_ _ h=>h) λhl i hi=>n_ d e hl i hi
     .exact h.elim
    cases e with
    |normal=>exact main h1
    |ret=>exact main h1
    |_=>exact h1.elim
   .exact hx.elim
  .exact hx.elim
 .exact hx.elim
theorem CC {f:Nat}{vc:VCode}{rs:List VResult}{nt:Nat}(h:Fun P f vc rs nt) (hm:P.follows .mixedOrders=true) {ap:Ap}(du:Q2f P ap) {kk vk:Kind}(bn:(kk.flat&&vk.flat)=true) {j:Nat}{D:Type}{la:AL D}{pre:List (kk.T×vk.T)->D->Prop}{res:List (kk.T×vk.T)->D->SV}{post:List (kk.T×vk.T)->D->List (kk.T×vk.T)->Prop}
  {C:Cx}(az:COk P C) {L:List (kk.T×vk.T)->D->List Value->List (Nat×LoopAnn)}{V:List (kk.T×vk.T)->D->Prop}
  (hq:∀ m y,(∀ vals,gwp C (L m y vals) vc 0 (Q1x vals rs (res m y) kk vk (post m y)) (Mk nt j kk vk m vals (AL.can la y)))=V m y)
  (hb:∀ m y,pre m y->V m y):XOk P f (Q0v ap j kk vk (Z2n la pre res post)):=Q62 h hm bn λm fK c v q hs hc=>by
 unfold Z2n at hs;split at hs
 .rename_i y h2;obtain⟨rfl,rfl,rfl⟩:=(by simpa using hs:pre m y=c/\res m y=v/\post m y=q);exact⟨C,L m y,AL.can la y,AL.q0l la y,(by grind [AL.q0j]),az,(hq m y).mpr (hb m y hc)⟩
 .cases hs
end
end Go.V