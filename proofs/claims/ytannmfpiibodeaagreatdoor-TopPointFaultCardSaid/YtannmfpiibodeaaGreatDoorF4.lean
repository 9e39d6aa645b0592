/- A framework for walks, contracts of functions, and their proofs: part 4. -/
import Derived.Test.YtannmfpiibodeaaGreatDoorF3
set_option linter.unusedVariables false
set_option maxRecDepth 100000
namespace Go.V
open Go
theorem DropTo.rename2 {σ0 σf U':Heap}{v v':Value}(π:Nat->Nat) (h1:σ0.n<=U'.n)
  (h2:∀ i,i<σ0.n->π i=i/\U'.get i=σf.get i/\(σf.get i=σ0.get i\/∃ b,σf.get i=some b/\b.plain=true))
  (h3:∀ i,σ0.n<=i->i<U'.n->σ0.n<=π i/\((U'.get i=none/\σf.get (π i)=none)\/∃ b' b,U'.get i=some b'/\σf.get (π i)=some b/\BRen U'.n π b' b))
  (h4:∀ i j,σ0.n<=i->i<U'.n->σ0.n<=j->j<U'.n->π i=π j->i=j) (h5:Ren U'.n π v' v):DropTo σ0 v σf v' U':=by
 intro ρ0 w0 ρ w c fA hE hH hv;have hπ:∀ i,i<σ0.n->π i=i:=λi hi=>(h2 i hi).1;have aD:∀ i b',U'.get i=some b'->∃ b,σf.get (π i)=some b/\BRen U'.n π b' b:=λi b' hb=>by
  have hi:=U'.lt hb;rcases zl i σ0.n with al|bI
  .obtain⟨k1,k2,k3⟩:=h2 i al;rw[k1];rw[k2] at hb;refine⟨b',hb,?_⟩;rcases k3 with k3|⟨b,k3,k4⟩
   .rw[k3] at hb;obtain⟨p,_,hB⟩:=fA.live i b' hb;exact hB.ren h1 hπ
   grind [osj,BRen.plain]
  grind
 have eE:∀ i j,i<U'.n->j<U'.n->π i=π j->i=j:=(by grind);have hX:Ext ρ0 σ0 w0 (λi=>if i<U'.n then ρ (π i) else none) U' w:=by
  refine⟨hE.os,hE.tape,hE.output,hE.size,hE.keep,?_,h1,λi hi p hp=>?_⟩
  .rintro B hB ⟨i,p,b,hp,hb,hw,rfl⟩;change (if i<U'.n then ρ (π i) else none)=some p at hp;split at hp
   .obtain⟨b0,bJ,b7⟩:=aD i b hb;exact hE.wr _ hB ⟨π i,p,b0,hp,bJ,by rw[<-b7.wr];exact hw,rfl⟩
   .cases hp
  .change (if i<U'.n then ρ (π i) else none)=some p at hp;split at hp
   .rw[hπ i hi] at hp;exact hE.pl i hi p hp
   .cases hp
 refine⟨λi=>if i<U'.n then ρ (π i) else none,h5.rel hv,fA.ext ⟨λi b' hb=>?_,λi hi=>?_,λi p hp=>?_,λi j p q b cq hp hq hb hw hx=>?_⟩ hX,hX⟩
 .obtain⟨b,bJ,b7⟩:=aD i b' hb;obtain⟨p,hp,hB⟩:=hH.live _ b bJ;exact⟨p,by simp[U'.lt hb,hp],b7.rel hB⟩
 .show (if i<U'.n then ρ (π i) else none)=none;split
  .rename_i al;rcases zl i σ0.n with cG|bI
   .obtain⟨k1,k2,_⟩:=h2 i cG;rw[k1];exact hH.dead i (by rw[<-k2];exact hi)
   .obtain⟨_,⟨_,k2⟩|⟨b1,b,k1,_⟩⟩:=h3 i bI al
    .exact hH.dead _ k2
    .rw[k1] at hi;cases hi
  .rfl
 .change (if i<U'.n then ρ (π i) else none)=some p at hp;split at hp
  .exact hH.lt _ p hp
  .cases hp
 .change (if i<U'.n then ρ (π i) else none)=some p at hp;change (if j<U'.n then ρ (π j) else none)=some q at hq;split at hp
  .rename_i hi;split at hq
   .rename_i hj;obtain⟨b0,bJ,b7⟩:=aD i b hb;exact hH.sep (π i) (π j) p q b0 (λe=>cq (eE i j hi hj e)) hp hq bJ (by rw[<-b7.wr];exact hw) hx
   .cases hq
  .cases hp
theorem KC.enc {h:Heap}:∀ {k:Kind}{x:k.T}{cs:List Value},k.flat=true->KC h k x cs->cs=Av k x
 |.i _,_,_,_,e|.bo,_,_,_,e|.st,_,_,_,e=>e
 |.list _,_,_,f,_=>by cases f
 |.pair a b,x,cs,f,e=>by simp only[Kind.flat,z1] at f;obtain⟨c1,c2,rfl,h1,h2⟩:=e;rw[KC.enc f.1 h1,KC.enc f.2 h2];rfl
theorem Rows.enc {h:Heap}{k:Kind}(hk:k.flat=true) {xs:List k.T}{cs:List Value}(hr:Rows (KC h k) xs cs):cs=(xs.map (Av k)).flatten:=by
 induction hr with
 |nil=>rfl
 |cons h _ ih=>rw[xe,List.flatten_cons,<-ih,KC.enc hk h]
theorem Hf:∀ {k:Kind}{x:k.T},k.flat=true->(Av k x).all Zd=true
 |.i _,_,_|.bo,_,_|.st,_,_=>rfl
 |.list _,_,h=>by cases h
 |.pair a b,x,h=>by simp only[Kind.flat,z1] at h;simp only[Av,List.all_append,z1];exact⟨Hf h.1,Hf h.2⟩
section
variable {P:Program}
mutual
theorem NA {B:Heap}{pl:Nat->Value}{tb:Nat->Option Bool}{n:Nat}:∀ (s:SV) (v:Value),s.ret n=true->U_ s=true->SR P B pl tb s v->v=UH pl s
 |.val k x,v,h,_,hs=>by simp only[SR] at hs;have:=KC.enc h hs;simp only[UH,<-this,List.headD_cons]
 |.nilS,v,_,_,hs|.nilP,v,_,_,hs|.nilM,v,_,_,hs|.nilF,v,_,_,hs=>by simp only[SR] at hs;exact hs
 |.lst j,v,_,_,hs=>by simp only[SR] at hs;exact hs.1
 |.agg l,v,h,hb,hs=>by simp only[SR] at hs;obtain⟨cs,rfl,h2⟩:=hs;rw[BO l cs h hb h2];rfl
 |.tup l,v,h,hb,hs=>by simp only[SR] at hs;obtain⟨cs,rfl,h2⟩:=hs;rw[BO l cs h hb h2];rfl
 |.box _ _,_,_,hb,_|.map _,_,_,hb,_=>by cases hb
 |.any,_,h,_,_|.bid _ _,_,h,_,_|.grd _ _,_,h,_,_|.sub _ _ _ _,_,h,_,_|.elp _ _ _ _,_,h,_,_|.rop _ _ _ _,_,h,_,_|.cp _ _,_,h,_,_|.fn _ _ _,_,h,_,_|.pf _ _ _ _,_,h,_,_=>by cases h
theorem BO {B:Heap}{pl:Nat->Value}{tb:Nat->Option Bool}{n:Nat}:∀ (s:List SV) (v:List Value),SVs.ret n s=true->GU s=true->SRs P B pl tb s v->v=Vm pl s
 |[],v,_,_,hs=>by simp only[SRs] at hs;exact hs
 |s::ss,v,h,hb,hs=>by simp only[SVs.ret,z1] at h;simp only[GU,z1] at hb;simp only[SRs] at hs;obtain⟨x,y,rfl,h1,h2⟩:=hs;rw[NA s x h.1 hb.1 h1,BO ss y h.2 hb.2 h2];rfl
end
theorem Q23 {k:Kind}{x:k.T}(h:k.flat=true):Zd ((Av k x).headD poison)=true\/(Av k x).headD poison=poison:=by
 have:=Hf (x:=x) h;cases e:Av k x with
 |nil=>exact .inr rfl
 |cons a l=>rw[e] at this;simp only[zO,z1] at this;exact .inl this.1
mutual
theorem IK {n m:Nat}{π:Nat->Nat}{p q:Nat->Value}(h:∀ j,j<m->Ren n π (p j) (q j)):∀ (s:SV),s.ret m=true->U_ s=true->Ren n π (UH p s) (UH q s)
 |.val k x,hr,_=>by
  simp only[UH];rcases Q23 (x:=x) hr with h|h
  .exact .plain _ h
  .rw[h];exact .poison _
 |.nilS,_,_|.nilP,_,_|.nilM,_,_|.nilF,_,_=>.plain _ rfl
 |.lst j,hr,_=>h j (by simpa [SV.ret,zB] using hr)
 |.agg l,hr,hb=>by have:=SA h l hr hb;simp only[UH];refine .agg _ _ (by simpa using this.1) λi h1 h2=>this.2 i _ _ (by simp) (by simp)
 |.tup l,hr,hb=>by have:=SA h l hr hb;simp only[UH];refine .tuple _ _ (by simpa using this.1) λi h1 h2=>this.2 i _ _ (by simp) (by simp)
 |.box _ _,_,hb|.map _,_,hb=>by cases hb
 |.any,h,_|.bid _ _,h,_|.grd _ _,h,_|.sub _ _ _ _,h,_|.elp _ _ _ _,h,_|.rop _ _ _ _,h,_|.cp _ _,h,_|.fn _ _ _,h,_|.pf _ _ _ _,h,_=>by cases h
theorem SA {n m:Nat}{π:Nat->Nat}{p q:Nat->Value}(h:∀ j,j<m->Ren n π (p j) (q j)):∀ (s:List SV),SVs.ret m s=true->GU s=true->LRen n π (Vm p s) (Vm q s)
 |[],_,_=>⟨rfl,λi v c hv=>by simp[Vm] at hv⟩
 |s::ss,hr,hb=>by
  simp only[SVs.ret,z1] at hr;simp only[GU,z1] at hb;have h1:=IK h s hr.1 hb.1;have h2:=SA h ss hr.2 hb.2;refine⟨by simp[Vm,h2.1],λi v c hv hc=>?_⟩;cases i with
  |zero=>simp[Vm] at hv hc;subst hv;subst hc;exact h1
  |succ i=>simp[Vm] at hv hc;exact h2.2 i v c hv hc
end
mutual
theorem EF {m:Nat}{S:Nat->Prop}{p q:Nat->Value}(h:∀ j,j<m->Weak S (p j) (q j)):∀ (s:SV),s.ret m=true->U_ s=true->Weak S (UH p s) (UH q s)
 |.val k x,_,_=>.refl _
 |.nilS,_,_|.nilP,_,_|.nilM,_,_|.nilF,_,_=>.refl _
 |.lst j,hr,_=>h j (by simpa [SV.ret,zB] using hr)
 |.agg l,hr,hb=>by have:=P5 h l hr hb;simp only[UH];exact .agg _ _ this.1 this.2
 |.tup l,hr,hb=>by have:=P5 h l hr hb;simp only[UH];exact .tuple _ _ this.1 this.2
 |.box _ _,_,hb|.map _,_,hb=>by cases hb
 |.any,h,_|.bid _ _,h,_|.grd _ _,h,_|.sub _ _ _ _,h,_|.elp _ _ _ _,h,_|.rop _ _ _ _,h,_|.cp _ _,h,_|.fn _ _ _,h,_|.pf _ _ _ _,h,_=>by cases h
theorem P5 {m:Nat}{S:Nat->Prop}{p q:Nat->Value}(h:∀ j,j<m->Weak S (p j) (q j)):∀ (s:List SV),SVs.ret m s=true->GU s=true->(Vm p s).length=(Vm q s).length/\∀ (i:Nat) (a b:Value),(Vm p s)[i]?=some a->(Vm q s)[i]?=some b->Weak S a b
 |[],_,_=>⟨rfl,λi v c hv=>by simp[Vm] at hv⟩
 |s::ss,hr,hb=>by
  simp only[SVs.ret,z1] at hr;simp only[GU,z1] at hb;have h1:=EF h s hr.1 hb.1;have h2:=P5 h ss hr.2 hb.2;refine⟨by simp[Vm,h2.1],λi v c hv hc=>?_⟩;cases i with
  |zero=>simp[Vm] at hv hc;subst hv;subst hc;exact h1
  |succ i=>simp[Vm] at hv hc;exact h2.2 i v c hv hc
end
theorem KC.ofEnc {h:Heap}:∀ {k:Kind}{x:k.T},k.flat=true->KC h k x (Av k x)
 |.i _,_,_|.bo,_,_|.st,_,_=>by simp[KC,Av]
 |.list _,_,f=>by cases f
 |.pair a b,x,f=>by simp only[Kind.flat,z1] at f;exact⟨_,_,rfl,KC.ofEnc f.1,KC.ofEnc f.2⟩
theorem Rows.ofEnc {h:Heap}{k:Kind}(hk:k.flat=true):∀ xs:List k.T,Rows (KC h k) xs (xs.map (Av k)).flatten
 |[]=>.nil
 |x::xs=>by rw[xe,List.flatten_cons];exact .cons (KC.ofEnc hk) (Rows.ofEnc hk xs)
mutual
theorem CP {pl:Nat->Value}{m:Nat}(h:∀ j,j<m->∃ a n c,pl j=.slice a n c):∀ (s:SV),s.ret m=true->U_ s=true->SR P hNil pl XC s (UH pl s)
 |.val k x,hr,hb=>by have h1:=KC.ofEnc (h:=hNil) (x:=x) hr;have h2:=KC.length h1;rw[Kind.q1o hb] at h2;obtain⟨c,e⟩:=zK.1 h2;simp only[UH,SR,e,List.headD_cons];rw[e] at h1;exact h1
 |.nilS,_,_|.nilP,_,_|.nilM,_,_|.nilF,_,_=>by simp[UH,SR]
 |.lst j,hr,_=>by simp only[UH,SR];exact⟨trivial,h j (by simpa [SV.ret,zB] using hr)⟩
 |.agg l,hr,hb=>by simp only[UH,SR];exact⟨_,rfl,AU h l hr hb⟩
 |.tup l,hr,hb=>by simp only[UH,SR];exact⟨_,rfl,AU h l hr hb⟩
 |.box _ _,_,hb|.map _,_,hb=>by cases hb
 |.any,h,_|.bid _ _,h,_|.grd _ _,h,_|.sub _ _ _ _,h,_|.elp _ _ _ _,h,_|.rop _ _ _ _,h,_|.cp _ _,h,_|.fn _ _ _,h,_|.pf _ _ _ _,h,_=>by cases h
theorem AU {pl:Nat->Value}{m:Nat}(h:∀ j,j<m->∃ a n c,pl j=.slice a n c):∀ (s:List SV),SVs.ret m s=true->GU s=true->SRs P hNil pl XC s (Vm pl s)
 |[],_,_=>by simp[Vm,SRs]
 |s::ss,hr,hb=>by simp only[SVs.ret,z1] at hr;simp only[GU,z1] at hb;simp only[Vm,SRs];exact⟨_,_,rfl,CP h s hr.1 hb.1,AU h ss hr.2 hb.2⟩
end
theorem Q8o {U:Heap}{bs:List OB}(hl:bs.all OB.isL=true) {j:Nat}(hj:j<bs.length):∃ a n c,Cf U bs j=.slice a n c:=by
 have hb:=zh.1 hl _ (zk hj);simp only[Cf,z8 hj];cases e:bs[j] with
 |lst ty k xs nl=>cases nl<;>simp
 |_=>rw[e] at hb;cases hb
theorem Q0k {σ0 σf:Heap}(hA:Agree σ0 σf) (hn:σ0.n<=σf.n) {v:SV}{bs:List OB}(hv:v.ret bs.length=true) (cF:U_ v=true) (hb:bs.all OB.ret=true) (hl:bs.all OB.isL=true) {pl:Nat->Value}{u:Value}
  (ao:∀ j b,bs[j]?=some b->OR P hNil pl XC σf (pl j) b/\∀ i,oid (pl j)=some i->σ0.n<=i)
  (h_:∀ j j' i,j<bs.length->j'<bs.length->j≠j'->oid (pl j)=some i->oid (pl j')=some i->False) (hu:SR P hNil pl XC v u) :
  DropTo σ0 u σf (UH (Cf σ0 bs) v) (Tp σ0 bs):=by
 have dg:=NA v u hv cF hu;subst dg;have kind:∀ j,j<bs.length->∃ ty k xs nl,bs[j]?=some (.lst ty k xs nl)/\k.flat=true/\((nl=true/\xs=[]/\pl j=.slice none 0 0)\/(nl=false/\∃ i cap c t,pl j=.slice (some ⟨i,0,none⟩) xs.length cap/\xs.length<=cap/\σ0.n<=i/\σf.get i=some (.cells c ⟨k.size,ty⟩ true t)/\c.take (xs.length*k.size)=(xs.map (Av k)).flatten/\Rows (KC hNil k) xs (xs.map (Av k)).flatten)):=by
  intro j hj;have e:=z8 hj;have h1:=zh.1 hb _ (zk hj);have h2:=zh.1 hl _ (zk hj);obtain⟨ho,hi⟩:=ao j _ e;cases bR:bs[j] with
  |lst ty k xs nl =>
   rw[bR] at e ho h1;refine⟨ty,k,xs,nl,e,h1,?_⟩;rcases ho with⟨k1,k2,k3⟩|⟨k0,i,cap,c,t,k1,k2,k3,k4,k5⟩
   .exact .inl ⟨k1,k2,k3⟩
   .have k6:=Rows.enc h1 k5;exact .inr ⟨k0,i,cap,c,t,k1,k2,hi i (by rw[k1];rfl),k3,k6,by rw[<-k6];exact k5⟩
  |_=>rw[bR] at h2;cases h2
 let S:Nat->Bool:=λi=>(List.range bs.length).any λj=>decide (oid (pl j)=some i);have hS:∀ i,S i=true<->∃ j,j<bs.length/\oid (pl j)=some i:=(by grind);let σw:Heap:=⟨λi=>if S i=true then ((List.range bs.length).find? λj=>decide (oid (pl j)=some i)).bind λj=>(bs[j]?).bind Q60 else σf.get i,σf.n,λi hi=>by
  by_cases h:S i=true
  .obtain⟨j,hj,hid⟩:=(hS i).1 h;obtain⟨ty,k,xs,nl,_,_,h3⟩:=kind j hj;rcases h3 with⟨_,_,k3⟩|⟨_,i',cap,c,t,k1,_,_,k3,_⟩
   .rw[k3] at hid;cases hid
   .rw[k1] at hid;obtain rfl:=osj hid;exact absurd (σf.lt k3) (wh.2 hi)
  .rw[z6 h];exact σf.wf i hi⟩
 have cM:∀ j i,j<bs.length->oid (pl j)=some i->σw.get i=(bs[j]?).bind Q60:=λj i hj hid=>by
  have h1:S i=true:=(hS i).2 ⟨j,hj,hid⟩;show (if S i=true then _ else _)=_;rw[z7 h1];cases hf:(List.range bs.length).find? λj=>decide (oid (pl j)=some i) with
  |none=>have:=List.find?_eq_none.1 hf j (x8.2 hj);simp[hid] at this
  |some j' =>have h2:=List.find?_some hf;have h3:=x8.1 (List.mem_of_find?_eq_some hf);have h4:j'=j:=(by grind);subst h4;rfl
 let q:Nat->Value:=λj=>match pl j with
  |.slice (some a) n _=>.slice (some a) n n
  |v=>v
 have hq:∀ j,j<bs.length->Weak (λi=>S i=true) (pl j) (q j):=λj hj=>by
  obtain⟨ty,k,xs,nl,_,_,h3⟩:=kind j hj;rcases h3 with⟨_,_,k3⟩|⟨_,i',cap,c,t,k1,k2,_,k3,_⟩
  .simp only[q,k3];exact .refl _
  .simp only[q,k1];exact .sl _ _ _ ((hS i').2 ⟨j,hj,by rw[k1];rfl⟩) k2
 have mS:DropTo σ0 (UH pl v) σf (UH q v) σw:=by
  refine DropTo.weaken S (λi hi=>?_) rfl hn (λi hi=>?_) (λi hi=>?_) (EF hq v hv cF)
  .grind
  .grind
  .obtain⟨j,hj,hid⟩:=(hS i).1 hi;obtain⟨ty,k,xs,nl,e,_,h3⟩:=kind j hj;rcases h3 with⟨_,_,k3⟩|⟨k0,i',cap,c,t,k1,k2,_,k3,k4,_⟩
   .rw[k3] at hid;cases hid
   .rw[k1] at hid;obtain rfl:=osj hid;refine⟨c,_,true,t,xs.length*k.size,k3,?_⟩;rw[cM j _ hj (by rw[k1];rfl),e];simp only[x3,Q60,k0];rw[k4];rfl
 have jx:∀ j i,j<bs.length->oid (pl j)=some i->i<σf.n:=λj i hj hid=>by
  obtain⟨ty,k,xs,nl,_,_,h3⟩:=kind j hj;rcases h3 with⟨_,_,k3⟩|⟨_,i',cap,c,t,k1,_,_,k3,_⟩
  .rw[k3] at hid;cases hid
  .rw[k1] at hid;obtain rfl:=osj hid;exact σf.lt k3
 let π:Nat->Nat:=λi=>if i<σ0.n then i else match oid (pl (i-σ0.n)) with
  |some id=>id
  |none=>σf.n+i
 have tS:σw.n=σf.n:=rfl;have mT:DropTo σ0 (UH q v) σw (UH (Cf σ0 bs) v) (Tp σ0 bs):=by
  refine DropTo.rename2 π (by simp[Tp]) (λi hi=>⟨by simp[π,hi],?_,.inl ?_⟩) (λi h1 h2=>?_) (λi j h1 h2 h3 h4 he=>?_) (IK (λj hj=>?_) v hv cF)
  .have hs:S i=false:=by
    grind
   show (if i<σ0.n then _ else _)=(if S i=true then _ else _);rw[z7 hi,z6 (by simp[hs]),hA i hi]
  .have hs:S i=false:=by
    grind
   show (if S i=true then _ else _)=_;rw[z6 (by simp[hs]),hA i hi]
  .have hj:i-σ0.n<bs.length:=by simp[Tp] at h2;omega
   have bI:¬ i<σ0.n:=by omega
   obtain⟨ty,k,xs,nl,e,pP,h3⟩:=kind _ hj;have mU:(Tp σ0 bs).get i=(bs[i-σ0.n]?).bind Q60:=by show (if i<σ0.n then _ else _)=_;rw[z6 bI]
   rcases h3 with⟨k0,_,k3⟩|⟨k0,i',cap,c,t,k1,k2,kF,k3,k4,_⟩
   .have hp:π i=σf.n+i:=by simp only[π,z6 bI,k3,oid]
    refine⟨by omega,.inl ⟨?_,σw.wf _ (by rw[hp,tS];omega)⟩⟩;rw[mU,e];simp[Q60,k0]
   .have hp:π i=i':=by simp only[π,z6 bI,k1,oid]
    rw[hp];have hw:=cM _ i' hj (by rw[k1];rfl);rw[e] at hw;simp only[x3,Q60,k0] at hw;refine⟨kF,.inr ⟨_,_,?_,hw,BRen.plain ?_⟩⟩
    .rw[mU,e];simp[Q60,k0]
    .simp only[Blk.plain,List.all_flatten,List.all_map];rw[zh];intro x _;exact Hf pP
  .have hi:i-σ0.n<bs.length:=by simp[Tp] at h2;omega
   have hj:j-σ0.n<bs.length:=by simp[Tp] at h4;omega
   grind
  .obtain⟨ty,k,xs,nl,e,_,h3⟩:=kind j hj;rcases h3 with⟨k0,kx,k3⟩|⟨k0,i',cap,c,t,k1,k2,_,k3,_⟩
   .simp only[Cf,e,k0,zr,q,k3];exact .plain _ rfl
   .simp only[Cf,e,k0,zt,if_false,q,k1];have hp:π (σ0.n+j)=i':=by
     have:¬ σ0.n+j<σ0.n:=by omega
     simp only[π,z6 this,Nat.add_sub_cancel_left,k1,oid]
    have:=Ren.sl (n:=(Tp σ0 bs).n) (π:=π) (σ0.n+j) 0 xs.length xs.length (by simp[Tp];omega)
    rwa [hp] at this
 exact mS.trans mT
def OB.wfL:OB->Prop
 |.lst _ _ xs nl=>nl=true->xs=[]
 |_=>True
theorem AZ (σ0:Heap) {v:SV}{bs:List OB}(hv:v.ret bs.length=true) (cF:U_ v=true) (hb:bs.all OB.ret=true) (hl:bs.all OB.isL=true) (hw:∀ b∈bs,b.wfL):Ret P σ0 v bs (UH (Cf σ0 bs) v) (Tp σ0 bs):=by
 have kind:∀ j,j<bs.length->∃ ty k xs nl,bs[j]?=some (.lst ty k xs nl)/\k.flat=true/\(nl=true->xs=[]):=λj hj=>by
  have e:=z8 hj;have h1:=zh.1 hb _ (zk hj);have h2:=zh.1 hl _ (zk hj);have h3:=hw _ (zk hj);cases bR:bs[j] with
  |lst ty k xs nl=>rw[bR] at e h1 h3;exact⟨ty,k,xs,nl,e,h1,h3⟩
  |_=>rw[bR] at h2;cases h2
 refine⟨⟨?_,?_⟩,?_,Cf σ0 bs,λj b hj=>?_,λj j' i hj cR aK h1 h2=>?_,CP (λj hj=>Q8o hl hj) v hv cF⟩
 .refine⟨by simp[Tp],λi b hg=>?_⟩;show (if i<σ0.n then _ else _)=_;rw[z7 (σ0.lt hg)];exact hg
 .refine⟨by simp[Tp],λi hi hg=>?_⟩;show (if i<σ0.n then _ else _)=_;rw[z7 hi];exact hg
 .rintro rfl;apply Heap.ext'
  .intro i;show (if i<σ0.n then _ else _)=_;by_cases hi:i<σ0.n
   .rw[z7 hi]
   .rw[z6 hi,σ0.wf i (by omega)];rfl
  .simp[Tp]
 .have cI:j<bs.length:=(zm.1 hj).1;obtain⟨ty,k,xs,nl,e,pP,h3⟩:=kind j cI;obtain rfl:=osj (e.symm.trans hj);cases nl with
  |true =>
   have hp:Cf σ0 bs j=.slice none 0 0:=by simp[Cf,e]
   rw[hp];exact⟨.inl ⟨rfl,h3 rfl,rfl⟩,λi hi=>by cases hi⟩
  |false =>
   have hp:Cf σ0 bs j=.slice (some ⟨σ0.n+j,0,none⟩) xs.length xs.length:=by simp[Cf,e]
   have k5:=Rows.ofEnc (h:=hNil) pP xs;have fh:=k5.length KC.q0h;rw[hp];refine⟨.inr ⟨rfl,σ0.n+j,xs.length,(xs.map (Av k)).flatten,false,rfl,zd _,?_,by omega,?_⟩,λi hi=>?_⟩
   .show (if σ0.n+j<σ0.n then _ else _)=_;rw[z6 (by omega),Nat.add_sub_cancel_left,e];simp[Q60]
   .rw[x5 (by omega)];exact k5
   .obtain rfl:=osj hi;exact⟨σ0.wf _ (by simp),by simp⟩
 .obtain⟨ty,k,xs,nl,e,_,h3⟩:=kind j hj;obtain⟨iz,k',cg,kE,e',_,fW⟩:=kind j' cR;simp only[Cf,e] at h1;simp only[Cf,e'] at h2;cases nl with
  |true=>simp[Oid,oid] at h1
  |false =>
   cases kE with
   |true=>simp[Oid,oid] at h2
   |false=>simp[Oid,oid] at h1 h2;omega
end
end Go.V
namespace Go.V
open Go
section
variable {P:Program}{B F:Heap}{pl:Nat->Value}{tb:Nat->Option Bool}{own:Own}{U:Heap}
mutual
theorem Q03 {bx:List SV->Nat->SV}(hle:B.Le U) (az:∀ d,OR P B pl tb U (pl d) (Qk own d))
  (kG:∀ l off b c e t,U.get b=some (.cells c e true t)->SRs P B pl tb l c->SR P U WB XC (bx l off) (.pointer (some ⟨b,off,none⟩))) :
  ∀ (s:SV) (v:Value),SR P B pl tb s v->SR P U WB XC (SP own bx s) v
 |.any,v,h=>by simp[SP,SR]
 |.val k x,v,h=>by simp only[SP,SR] at h |-;exact h.mono hle
 |.bid n c,v,h=>by simp only[SP,SR] at h |-;obtain⟨rfl,_⟩:=h;rfl
 |.grd gs s,v,h=>by simp[SP,SR]
 |.nilS,v,h=>by simp only[SP,SR] at h |-;exact h
 |.nilP,v,h=>by simp only[SP,SR] at h |-;exact h
 |.nilM,v,h=>by simp only[SP,SR] at h |-;exact h
 |.nilF,v,h=>by simp only[SP,SR] at h |-;exact h
 |.lst o,v,h=>by
  simp only[SP];split
  .rename_i ty k xs nl ho;have:view own k (.lst o)=some xs:=by simp[view,ho,M6]
   simp only[SR,KC];exact⟨v,rfl,(Ny hle az this h).mono (Heap.Le.refl _) λ_ _ e=>e.mono hle⟩
  .simp[SR]
 |.sub o lo n sz,v,h=>by
  simp only[SP];split
  .rename_i ty k xs nl ho;split
   .rename_i aE;have:view own k (.sub o lo n sz)=some ((xs.drop lo).take n):=by simp[view,ho,M6,aE]
    simp only[SR,KC];exact⟨v,rfl,(Ny hle az this h).mono (Heap.Le.refl _) λ_ _ e=>e.mono hle⟩
   .simp[SR]
  .simp[SR]
 |.elp o i off sz,v,h=>by simp[SP,SR]
 |.dd o w,v,h=>by
  simp only[SP];simp only[SR] at h;split
  .rename_i ty q k xs nl hole ho;have ao:=az o;rw[ho] at ao;have cJ:=DP.le ao;split
   .split
    .obtain⟨h1,_⟩:=h;simp only[SR,KC];refine⟨v,rfl,?_⟩;rw[h1];exact(DP.sl ao).mono cJ λ_ _ e=>e.mono cJ
    .simp[SR]
   .simp only[SR];exact KC.mono cJ h
   .simp only[SR];exact KC.mono cJ h.1
   .simp[SR]
  .simp[SR]
 |.map o,v,h=>by simp[SP,SR]
 |.tup l,v,h=>by simp[SP,SR]
 |.box o off,v,h=>by
  simp only[SP];split
  .rename_i l _ ho;have ao:=az o;rw[ho] at ao;obtain⟨i,c,e,t,h1,h2,h3,_⟩:=ao;simp only[SR] at h
   grind
  .simp[SR]
 |.rop k l i off,v,h=>by simp only[SP];exact SR.mono (tb:=tb) hle (λn c hn=>hn) (.rop k l i off) v h |> λh=>by simp only[SR] at h |-;exact h
 |.cp l off,v,h=>by simp only[SP,SR] at h |-;obtain⟨b,c,e,wr,t,h1,h2,h3⟩:=h;exact⟨b,c,e,wr,t,hle.2 _ _ h1,h2,XX hle az kG l c h3⟩
 |.agg l,v,h=>by simp only[SP,SR] at h |-;obtain⟨cs,h1,h2⟩:=h;exact⟨cs,h1,XX hle az kG l cs h2⟩
 |.fn f a b,v,h=>by simp only[SP,SR] at h |-;obtain⟨x,y,h1,h2,h3⟩:=h;exact⟨x,y,h1,XX hle az kG a x h2,XX hle az kG b y h3⟩
 |.pf ks r cw p,v,h=>by simp only[SP,SR] at h |-;exact h.mono hle
theorem XX {bx:List SV->Nat->SV}(hle:B.Le U) (az:∀ d,OR P B pl tb U (pl d) (Qk own d))
  (kG:∀ l off b c e t,U.get b=some (.cells c e true t)->SRs P B pl tb l c->SR P U WB XC (bx l off) (.pointer (some ⟨b,off,none⟩))) :
  ∀ (s:List SV) (v:List Value),SRs P B pl tb s v->SRs P U WB XC (Sr own bx s) v
 |[],v,h=>by simp only[Sr,SRs] at h |-;exact h
 |s::ss,v,h=>by simp only[Sr,SRs] at h |-;obtain⟨x,y,h1,h2,h3⟩:=h;exact⟨x,y,h1,Q03 hle az kG s x h2,XX hle az kG ss y h3⟩
end
theorem Nw (hle:B.Le U) (az:∀ d,OR P B pl tb U (pl d) (Qk own d)) {l:List SV}{v:List Value}(h:SRs P B pl tb l v):SRs P U WB XC (SZ own l) v:=by
 have h0:∀ {l v},SRs P B pl tb l v->SRs P U WB XC (Z5d own l) v:=λh=>XX hle az (λ_ _ _ _ _ _ _ _=>by simp[SR]) _ _ h;have h1:∀ {l v},SRs P B pl tb l v->SRs P U WB XC (Z6a own l) v:=λh=>XX hle az (λl off b c e t hg hs=>by
  simp only[SR];grind) _ _ h
 exact XX hle az (λl off b c e t hg hs=>by
  simp only[SR];grind) _ _ h
mutual
theorem Q1i {p q:Nat->Value}{n:Nat}(h:∀ j,j<n->p j=q j):∀ (s:SV),s.ret n=true->UH p s=UH q s
 |.val _ _,_|.nilS,_|.nilP,_|.nilM,_|.nilF,_=>by simp[UH]
 |.lst j,hr=>by simp only[UH];exact h j (by simpa [SV.ret,zB] using hr)
 |.agg l,hr=>by simp only[UH];rw[Az h l hr]
 |.tup l,hr=>by simp only[UH];rw[Az h l hr]
 |.box _ _,_|.map _,_=>by simp[UH]
 |.dd _ _,_=>by simp[UH]
 |.any,h|.bid _ _,h|.grd _ _,h|.sub _ _ _ _,h|.elp _ _ _ _,h|.rop _ _ _ _,h|.cp _ _,h|.fn _ _ _,h|.pf _ _ _ _,h=>by cases h
theorem Az {p q:Nat->Value}{n:Nat}(h:∀ j,j<n->p j=q j):∀ (s:List SV),SVs.ret n s=true->Vm p s=Vm q s
 |[],_=>rfl
 |s::ss,hr=>by simp only[SVs.ret,z1] at hr;simp only[Vm];rw[Q1i h s hr.1,Az h ss hr.2]
end
theorem JQ {cs:List (Nat×CSp)}(aA:CsOk P cs) {f:SV}{args:List SV}{c:Prop}{v:SV}{bs:List OB}{fV:Value}{vs:List Value}(hf:SR P U WB XC f fV) (ha:SRs P U WB XC args vs)
  (h:UO cs f args=some (c,v,bs)) (hv:v.ret bs.length=true) (hb:bs.all OB.ret=true) (hc:c):∃ g a b,fV=.func (.func g) a b/\(VCalled P g (a.toList++vs++b.toList) U λu U'=>Ret P U v bs u U') /\
  (bs.all OB.isL=true->U_ v=true->VCalled P g (a.toList++vs++b.toList) U λu U'=>u=UH (Cf U bs) v/\U'=Tp U bs):=by
 have gen:(gap cs 3 f args).map (λx=>(x.1,x.2,([]:List OB)))=some (c,v,bs)->∃ g a b,fV=.func (.func g) a b/\(VCalled P g (a.toList++vs++b.toList) U λu U'=>Ret P U v bs u U') /\
   (bs.all OB.isL=true->U_ v=true->VCalled P g (a.toList++vs++b.toList) U λu U'=>u=UH (Cf U bs) v/\U'=Tp U bs):=λh=>by
  simp only[zn] at h;obtain⟨⟨c',v'⟩,h1,h2⟩:=h;simp only[Prod.mk.injEq] at h2;obtain⟨rfl,rfl,rfl⟩:=h2;obtain⟨h3,g,a,b,rfl,h4⟩:=Co aA 3 U f args c' v' fV vs hf ha h1 hc;refine⟨g,a,b,rfl,h4.mono λu U' hu=>?_,λ_ cF=>h4.mono λu U' hu=>?_⟩
  .obtain⟨rfl,hu⟩:=hu;exact⟨⟨Heap.Le.refl _,Dead.refl _⟩,λ_=>rfl,WB,(λj b hj=>by simp at hj),(λj j' i hj=>by simp at hj),hu⟩
  .obtain⟨rfl,hu⟩:=hu;have hz:Tp U' []=U':=(AZ (P:=P) U' (v:=v') (bs:=[]) h3 cF rfl rfl (λb hb=>by cases hb)).2.1 rfl;refine⟨?_,hz.symm⟩;rw[NA v' u h3 cF hu]
   grind [Q1i]
 cases f with
 |fn g a b =>
  simp only[UO] at h;split at h
  .rename_i sp eO;simp only[SR] at hf;obtain⟨x,y,rfl,h1,h2⟩:=hf;refine⟨g,x.toArray,y.toArray,rfl,?_⟩;simpa using aA g sp eO (gap cs 3) (Co aA 3) U (a++args++b) (x++vs++y) c v bs ((h1.append ha).append h2) h hv hb hc
  .cases h
 |_=>exact gen h
theorem Gam.q1v {s:St}{env:Env}{U':Heap}(h:Gam P B F pl tb s env U) (hl:U.Le U') {d:Nat}(ax:(Qk s.own d).live=true) {i:Nat}(hi:Oid (pl d) i):U'.get i=U.get i:=by
  have al:=(h.obj d).q1n ax hi;cases hb:U.get i with
  |none =>
   have ao:=h.obj d;cases ho:Qk s.own d with
   |dead=>rw[ho] at ax;cases ax
   |lst ty k xs nl =>
    rw[ho] at ao;rcases ao with⟨_,_,h2⟩|⟨_,i',cap,c,t,h2,_,h3,_⟩
    .rw[h2] at hi;cases hi
    .rw[h2] at hi;obtain rfl:=osj hi;rw[h3] at hb;cases hb
   |cells l u=>rw[ho] at ao;obtain⟨i',c,e,t,h2,h3,_⟩:=ao;rw[h2] at hi;obtain rfl:=osj hi;rw[h3] at hb;cases hb
   |mapE kk vk m key n=>rw[ho] at ao;obtain⟨i',es,cl,r,e,h2,h3,_⟩:=ao;rw[h2] at hi;obtain rfl:=osj hi;rw[h3] at hb;cases hb
   |map kk vk m=>rw[ho] at ao;obtain⟨i',es,cl,h2,h3,_⟩:=ao;rw[h2] at hi;obtain rfl:=osj hi;rw[h3] at hb;cases hb
   |fm ik l=>rw[ho] at ao;obtain⟨i',es,cl,h2,h3,_⟩:=ao;rw[h2] at hi;obtain rfl:=osj hi;rw[h3] at hb;cases hb
   |stk l vals=>rw[ho] at ax;cases ax
   |lpf l q s=>rw[ho] at ao ax;obtain⟨h2,_,h3⟩:=ao;rw[h2] at hi;obtain rfl:=osj hi;have h3:=h3 ax;rw[hb] at h3;cases h3
   |iter kk vk m dn=>rw[ho] at ao;obtain⟨j',i',es,cl,wr,seen,h2,h3,_⟩:=ao;rw[h2] at hi;obtain rfl:=osj hi;rw[h3] at hb;cases hb
   |siter l pos=>rw[ho] at ao;obtain⟨j',s',h2,h3,_⟩:=ao;rw[h2] at hi;obtain rfl:=osj hi;rw[h3] at hb;cases hb
   |rmap kk vk m=>rw[ho] at ax;cases ax
   |deep ty q k xs nl hh =>rw[ho] at ao;obtain⟨is,_,d2,d3,_⟩:=DP.open ao;obtain⟨c,e,t,h⟩:=d2.cells i ((d3 i).1 hi);rw[h] at hb;cases hb
  |some b=>rw[hl.2 i b hb]
theorem Gam.heap {s:St}{env:Env}{U':Heap}(h:Gam P B F pl tb s env U) (hl:U.Le U'):Gam P B F pl tb s env U' :=
 ⟨h.bf,h.le.trans hl,h.env,λd=>(h.obj d).mono (Heap.Le.refl _) (λ_ _ h=>h) λax _i hi=>h.q1v hl ax hi,h.fresh,h.sep,h.free⟩
theorem TW {env:Env}{σ0:Heap}{d nt:Nat}(ec:0<nt) (fI:Nat->Value) (bs:List OB) (hB:F.Le σ0)
  (ao:∀ j b,bs[j]?=some b->b.ret=true/\OR P hNil fI XC U (fI j) b/\∀ i,Oid (fI j) i->σ0.n<=i)
  (h_:∀ j j' i,j<bs.length->j'<bs.length->j≠j'->Oid (fI j) i->Oid (fI j') i->False) :
  ∀ (r:List OB) (j:Nat) (pl:Nat->Value) (s:St),bs.drop j=r->Gam P B F pl tb s env U->(∀ k i,(Qk s.own k).live=true->Oid (pl k) i->i<σ0.n\/∃ j'<j,j'<bs.length/\Oid (fI j') i/\k=d+j'*nt)->(∀ j'<j,j'<bs.length->pl (d+j'*nt)=fI j') ->
   ∃ pl',Gam P B F pl' tb (s.makes d nt j r) env U/\(∀ j'<bs.length,pl' (d+j'*nt)=fI j')/\∀ q,(∀ j'<bs.length,q≠d+j'*nt)->pl' q=pl q/\(Qk (s.makes d nt j r).own q).live=(Qk s.own q).live
 |[],j,pl,s,hr,hG,_,hp=>⟨pl,hG,λj' cR=>hp j' (by
   have:=congrArg List.length hr;simp at this;omega) cR,λq _=>⟨rfl,rfl⟩⟩
 |b::r,j,pl,s,hr,hG,hinv,hp=>by
  have cI:j<bs.length:=by
   grind [Nat.lt_or_ge,List.drop_eq_nil_of_le]
  have bR:bs[j]?=some b:=by
   have:(bs.drop j)[0]?=some b:=by rw[hr];rfl
   simpa using this
  have j7:bs.drop (j+1)=r:=by
   have:(bs.drop j).drop 1=r:=by rw[hr];rfl
   simpa [List.drop_drop,xT] using this
  obtain⟨h1,h2,h3⟩:=ao j b bR;have aU:∀ j' ,j'≠j->d+j'*nt≠d+j*nt:=(by grind [Nat.eq_of_mul_eq_mul_right]);obtain⟨pl',k1,k2,k3⟩:∃ pl',Gam P B F pl' tb ((s.make (d+j*nt) b).makes d nt (j+1) r) env U/\(∀ j'<bs.length,pl' (d+j'*nt)=fI j')/\∀ q,(∀ j'<bs.length,q≠d+j'*nt)->pl' q=XE pl (d+j*nt) (fI j) q/\(Qk ((s.make (d+j*nt) b).makes d nt (j+1) r).own q).live=(Qk (s.make (d+j*nt) b).own q).live:=by
   refine TW ec fI bs hB ao h_ r (j+1) (XE pl (d+j*nt) (fI j)) _ j7 (hG.make (d+j*nt) b (fI j) hG.le (λ_ _ _ _ _=>rfl) (h2.retd h1 λ_ _=>rfl) λi _ hi=>⟨F.wf _ (by have:=h3 i hi;have:=hB.1;omega),λk hk hl e=>?_⟩) (λk i hl hi=>?_) λj' cR pQ=>?_
   .grind
   .by_cases hk:k=d+j*nt
    .subst hk;simp only[XE,zr] at hi
     grind
    .have bY:(Qk s.own k).live=true:=by
      simp only[St.make,St.kill,Qo,Nn,z6 hk] at hl
      rwa [OB.q0q] at hl
     simp only[XE,z6 hk] at hi
     grind
   .by_cases e:j'=j
    .subst e;simp[XE]
    .simp only[XE,z6 (aU j' e)];exact hp j' (by omega) pQ
  refine⟨pl',k1,k2,λq hq=>?_⟩;obtain⟨e1,e2⟩:=k3 q hq;refine⟨by rw[e1];simp[XE,hq j cI],?_⟩;show (Qk ((s.make (d+j*nt) b).makes d nt (j+1) r).own q).live=_;rw[e2];simp only[St.make,St.kill,Qo,Nn,z6 (hq j cI),OB.q0q]
theorem Ret.gamF {s:St}{env:Env}{d nt:Nat}(ec:0<nt) (hG:Gam P B F pl tb s env U) {v:SV}{bs:List OB}{u:Value}{U':Heap}(hv:v.ret bs.length=true) (hb:bs.all OB.ret=true) (h:Ret P U v bs u U') :
  ∃ pl',Gam P B F pl' tb (s.makes d nt 0 bs) env U'/\SR P B pl' tb (v.ren d nt) u/\∀ q,(∀ j'<bs.length,q≠d+j'*nt)->(Qk (s.makes d nt 0 bs).own q).live=(Qk s.own q).live/\pl' q=pl q/\((Qk s.own q).live=true->∀ i,Oid (pl q) i->U'.get i=U.get i):=by
 obtain⟨⟨h1,_⟩,_,fI,h2,h3,h4⟩:=h
 obtain⟨pl',h5,h6,h7⟩:=TW (tb:=tb) (d:=d) ec fI bs hG.le (by grind) h3 bs 0 pl s rfl (hG.heap h1)
  (λk i hl hi=>.inl ((hG.obj k).q1n hl hi)) (λj' cR=>by omega)
 exact⟨pl',h5,SR.ren (tb:=XC) (λj hj=>h6 j hj) _ _ hv (SR.mono (tb:=XC) (tb':=XC) (IJ B) (λ_ _ h=>h) _ _ h4),λq hq=>⟨(h7 q hq).2,(h7 q hq).1,λhl i hi=>hG.q1v h1 hl hi⟩⟩
theorem Ret.gam {s:St}{env:Env}{d nt:Nat}(ec:0<nt) (hG:Gam P B F pl tb s env U) {v:SV}{bs:List OB}{u:Value}{U':Heap}(hv:v.ret bs.length=true) (hb:bs.all OB.ret=true) (h:Ret P U v bs u U') :
  ∃ pl',Gam P B F pl' tb (s.makes d nt 0 bs) env U'/\SR P B pl' tb (v.ren d nt) u:=by
 obtain⟨pl',h1,h2,_⟩:=h.gamF ec hG hv hb;exact⟨pl',h1,h2⟩
end
end Go.V
namespace Go.V
open Go
section
variable {P:Program}
structure GBase (B0 F0 D0 B F U:Heap):Prop where
 b:B0.Le B
 f:F0.Le F
 x:∀ i b,F0.get i=some b->B0.get i=none->B.get i=none
 d:Dead D0 U
theorem GBase.of {B F U:Heap}{U':Heap}(_hB:B.Le F) (h:Dead U U'):GBase B F U B F U':=⟨.refl _,.refl _,λ_ _ _ h=>h,h⟩
theorem GBase.trans {B0 F0 D0 B F U B' F' U':Heap}(h:GBase B0 F0 D0 B F U) (h':GBase B F U B' F' U'):GBase B0 F0 D0 B' F' U' :=
 ⟨h.b.trans h'.b,h.f.trans h'.f,λi b h1 h2=>h'.x i b (h.f.2 _ _ h1) (h.x i b h1 h2),h.d.trans h'.d⟩
def GRel (P:Program) (B0 F0 D0:Heap) (s:St) (env:Env) (U:Heap):Prop:=∃ B F pl tb,GBase B0 F0 D0 B F U/\Gam P B F pl tb s env U
theorem GX {B0 F0 D0 B F:Heap}{U U':Heap}(hB:GBase B0 F0 D0 B F U) (h:Dead U U'):GBase B0 F0 D0 B F U':=⟨hB.b,hB.f,hB.x,hB.d.trans h⟩
theorem Gam.evs {B F:Heap}{pl:Nat->Value}{tb:Nat->Option Bool}{s:St}{env:Env}{U:Heap}(h:Gam P B F pl tb s env U) {gs:List Gd}(hg:Gds tb gs) (x:Operand):SR P B pl tb (gev gs s.env x) (Q4 env x):=Q2r hg h.env x
theorem Gds.nil {tb:Nat->Option Bool}:Gds tb []:=λ_ h=>by cases h
theorem Q01 {gs:List Gd}{c:Prop}(h:Q93 gs c) (hg:∀ g∈gs,g.c=g.want):c:=by
 induction gs with
 |nil=>exact h
 |cons g gs ih=>exact ih (h (hg g (by simp))) λg' cO=>hg g' (by simp[cO])
theorem Jg {gs:List Gd}{cs:List Prop}{q:Prop}(h:C_ gs cs q):q/\((∀ g∈gs,g.c=g.want)->∀ c∈cs,c):=by
 induction cs with
 |nil=>exact⟨h,λ_ c hc=>by cases hc⟩
 |cons c cs ih =>obtain⟨h1,h2⟩:=h;obtain⟨h3,h4⟩:=ih h2;exact⟨h3,(by grind [Q01])⟩
theorem Dead.push (U:Heap) (b:Blk):Dead U (U.push b):=⟨by simp,(by grind [Heap.q0j])⟩
theorem Dead.upd (U:Heap) (j:Nat) (b:Blk) (hj:(U.get j).isSome=true):Dead U (U.upd j b):=⟨by simp,(by grind [Heap.q0b])⟩
theorem Dead.kill (U:Heap) (j:Nat):Dead U (U.kill j):=⟨by simp,(by grind [Heap.q0g,Heap.q0c])⟩
theorem A_ {e:El}{bytes m:Nat}{U U':Heap}{s u:Value}{xs:List Value}(h:KN e bytes U s m xs=some (u,U')):Dead U U':=by
 unfold KN at h;split at h
 .grind [Zo,Dead.refl,Dead.push]
 .split at h
  .rename_i hg;split at h
   .split at h
    .grind [Zo,Dead.refl]
    .split at h
     .grind [Zo,Dead.upd]
     .split at h
      .split at h
       .grind [Zo,Dead.push]
       .split at h
        .obtain⟨rfl,rfl⟩:=Zo h;exact(Dead.kill _ _).trans (Dead.push _ _)
        .cases h
      .cases h
   .cases h
  .cases h
 .grind [Zo,Dead.push]
 .cases h
theorem Ue {o:VOp}{ev:Operand->Value}{U U':Heap}{u:Value}(h:Q6 o ev U=some (u,U')):Dead U U':=by
 by_cases hk:o.kind=2
 .cases o<;>first|(cases hk;done)|skip
  case alloc t z=>obtain⟨rfl,rfl⟩:=Zo h;exact Dead.push _ _
  case box t x =>
   simp only[Q6] at h
   grind [Zo,Dead.push]
  case buildSlice e z n ps =>
   simp only[Q6] at h
   grind [Zo,Dead.push]
  case makeSlice e b z l c =>
   simp only[Q6] at h
   grind [Zo,Dead.push]
  case store size a x =>
   simp only[Q6] at h
   grind [Zo,Dead.upd]
  case append e b x y =>
   simp only[Q6] at h
   grind [A_]
  case slice size x lo hi mx =>
   simp only[Q6] at h;split at h
   .have sl:∀ {l hh:Nat}{m:Option Nat}{v:Value},YY size U v l hh m=some (u,U')->Dead U U':=λ{l hh m v} h=>by
     unfold YY at h
     grind [Zo,Dead.refl,Dead.push]
    grind
   .cases h
  case callF f a=>cases h
  case callV f a=>cases h
  case ext x =>
   cases x<;>first|(cases hk;done)|skip
   case makeMap=>obtain⟨rfl,rfl⟩:=Zo h;exact Dead.push _ _
   case rangeStr x =>
    simp only[Q6,ZA] at h;split at h
    .obtain⟨rfl,rfl⟩:=Zo h;exact Dead.push _ _
    .cases h
   case nextStr x =>
    simp only[Q6,ZA] at h;split at h
    .split at h
     .rename_i hm;split at h
      .split at h
       .obtain⟨rfl,rfl⟩:=Zo h;exact Dead.upd _ _ _ (by rw[hm];rfl)
       .cases h
      .obtain⟨rfl,rfl⟩:=Zo h;exact Dead.refl _
     .cases h
    .cases h
   case mapUpdate mk m k v =>
    simp only[Q6,ZA] at h;split at h
    .split at h
     .rename_i hm;split at h
      .obtain⟨rfl,rfl⟩:=Zo h;refine Dead.upd _ _ _ ?_;unfold Heap.mapAt at hm
       grind
      .cases h
     .cases h
    .cases h
   case mapEntry mk z m k =>
    simp only[Q6,ZA] at h;split at h
    .split at h
     .rename_i hm;split at h
      .split at h
       all_goals
        obtain⟨rfl,rfl⟩:=Zo h;refine Dead.upd _ _ _ ?_;unfold Heap.mapAt at hm;split at hm
        .rename_i hg;rw[hg];rfl
        .cases hm
      .cases h
     .cases h
    .cases h
   case entryStore m s v =>
    simp only[Q6,ZA] at h;split at h
    .split at h
     .rename_i hm;split at h
      .split at h
       .obtain⟨rfl,rfl⟩:=Zo h;refine Dead.upd _ _ _ ?_;unfold Heap.mapAt at hm
        grind
       .cases h
      .cases h
     .cases h
    .cases h
   case delete mk m k =>
    simp only[Q6,ZA] at h;split at h
    .split at h
     .rename_i hm;split at h
      .obtain⟨rfl,rfl⟩:=Zo h;refine Dead.upd _ _ _ ?_;unfold Heap.mapAt at hm
       grind
      .cases h
     .cases h
    .cases h
   case rangeMap x =>
    simp only[Q6,ZA] at h
    grind [Zo,Dead.push]
   case nextMap x=>cases h
   case copy size a b =>
    simp only[Q6,ZA] at h
    grind [Zo,Dead.refl,Dead.upd]
   case clear z x =>
    simp only[Q6,ZA] at h
    grind [Zo,Dead.refl,Dead.upd]
   case strBytes e x =>
    simp only[Q6,ZA] at h
    grind [Zo,Dead.push]
   case unsafeStr e x n =>
    simp only[Q6,ZA] at h;split at h
    .grind [Zo,Dead.refl,Dead.upd]
    .cases h
 grind [H6,Dead.refl]
theorem MZ {B F:Heap}{pl:Nat->Value}{tb:Nat->Option Bool}{s:St}{env:Env}{U:Heap}(hG:Gam P B F pl tb s env U) {x:Operand}{b:Bool}(h:F6 s.env x=some b):Q4 env x=.bool b:=by
 unfold F6 at h;split at h
 .rename_i j;split at h
  .rename_i gs v he;split at h
   .split at h
    .rename_i k y;split at h
     .obtain rfl:=osj h;have:=hG.env.getD j undef;rw[he] at this;simp only[SR] at this;have h2:=this.2.1 (λg hg=>by cases hg);have h3:[env.getD j undef]=[Value.bool _]:=h2;exact(zQ h3).1
     .cases h
    .cases h
   .cases h
  .cases h
 .cases h
theorem VP {B F:Heap}{pl:Nat->Value}{tb:Nat->Option Bool}{s:St}{env:Env}{U:Heap}(hG:Gam P B F pl tb s env U) {g:Option (Nat×Bool)}{t:Bool}(h:Q3u s.env g=some t):Xb env g=some t:=by
 unfold Q3u at h;split at h
 .cases h
 .rename_i j want;split at h
  .rename_i b hb;obtain rfl:=osj h;have:=MZ hG hb;simp only[Q4] at this;simp only[Xb,this]
  .cases h
theorem NS {B F:Heap}{pl:Nat->Value}{tb:Nat->Option Bool}{s:St}{env:Env}{U:Heap}(hG:Gam P B F pl tb s env U) {gs:List Gd}(hg:Gds tb gs) {c a b:Operand}{v:SV}(h:OJ gs s.env c a b=some v) :
  ∃ u,Q6 (.pick c a b) (Q4 env) U=some (u,U)/\SR P B pl tb v u:=by
 unfold OJ at h;split at h
 .rename_i t ht;have e:=MZ hG ht;obtain rfl:=osj h;cases t with
  |true=>exact⟨Q4 env a,by simp only[Q6,e];rfl,hG.evs hg a⟩
  |false=>exact⟨Q4 env b,by simp only[Q6,e];rfl,hG.evs hg b⟩
 have hc:=hG.evs hg c;unfold Q6u at h;split at h
 .rename_i n t heq;rw[heq] at hc;simp only[SR] at hc;obtain⟨e,cZ⟩:=hc;have ht:∀ w,t=w->Gds tb (gs++[⟨n,w,t⟩]):=λw hw g cO=>by
   rcases xw.1 cO with h1|h1
   .exact hg g h1
   simp_all
  have hv:∀ u,(if t then Q4 env a else Q4 env b)=u->Q6 (.pick c a b) (Q4 env) U=some (u,U):=λu hu=>by simp only[Q6,e];rw[<-hu]
  split at h
  .rename_i b';simp only[zn] at h;obtain⟨y,h1,rfl⟩:=h;refine⟨.bool (t||y),hv _ ?_,JZ _⟩;cases t with
   |true=>rfl
   |false=>simpa using Y1 h1 (hG.evs (ht false rfl) _)
  .rename_i a' aK;simp only[zn] at h;obtain⟨x,h1,rfl⟩:=h;refine⟨.bool (t&&x),hv _ ?_,JZ _⟩;cases t with
   |true=>simpa using Y1 h1 (hG.evs (ht true rfl) _)
   |false=>rfl
  .split at h
   .rename_i k x k' y h1 h2;split at h
    .rename_i hk;subst hk;obtain rfl:=osj h;refine⟨.int k (if t then x else y),hv _ ?_,Yb _ _⟩;cases t with
     |true=>have:=hG.evs (ht true rfl) a;rw[h1] at this;exact J5 rfl this
     |false=>have:=hG.evs (ht false rfl) b;rw[h2] at this;exact J5 rfl this
    .cases h
   .rename_i x y h1 h2;obtain rfl:=osj h;refine⟨.bool (if t then x else y),hv _ ?_,JZ _⟩;cases t with
    |true=>have:=hG.evs (ht true rfl) a;rw[h1] at this;exact Y1 rfl this
    |false=>have:=hG.evs (ht false rfl) b;rw[h2] at this;exact Y1 rfl this
   .cases h
 .cases h
theorem Gam.bid {B F:Heap}{pl:Nat->Value}{tb:Nat->Option Bool}{s:St}{env:Env}{U:Heap}(hG:Gam P B F pl tb s env U) {j:Nat}{v:SV}{c:Bool}(hv:∀ tb',(∀ n c,tb n=some c->tb' n=some c)->tb' s.nx=some c->SR P B pl tb' v (env.getD j undef)) :
  ∃ tb',(∀ n c,tb n=some c->tb' n=some c)/\tb' s.nx=some c/\Gam P B F pl tb' ⟨s.env.set j v,s.own,s.nx+1⟩ env U:=by
 refine⟨λn=>if n=s.nx then some c else tb n,?_,by simp,?_⟩
 .intro n c' hn;by_cases e:n=s.nx
  .rw[e,hG.free _ (zd _)] at hn;cases hn
  .simp only[z6 e];exact hn
 .have hm:∀ n c',tb n=some c'->(λn=>if n=s.nx then some c else tb n) n=some c':=λn c' hn=>by
   by_cases e:n=s.nx
   .rw[e,hG.free _ (zd _)] at hn;cases hn
   .simp only[z6 e];exact hn
  refine⟨hG.bf,hG.le,?_,λd=>(hG.obj d).mono (Heap.Le.refl _) hm λ_ _ _=>rfl,hG.fresh,hG.sep,λn hn=>?_⟩
  .have h1:=SRs.mono (Heap.Le.refl B) hm _ _ hG.env;by_cases hj:j<env.length
   .have:=h1.set j (hv _ hm (by simp));simp_all
   .have:s.env.set j v=s.env:=List.set_eq_of_length_le (by rw[hG.env.length];omega);rw[this];exact h1
  .have:n≠s.nx:=by simp only at hn;omega
   simp only[z6 this];exact hG.free n (by simp only at hn;omega)
theorem Q2i {gs:List Gd}(h:¬ ∀ g∈gs,g.c=g.want):∃ g∈gs,g.c≠g.want:=by simp_all
theorem Y2 {B F:Heap}{pl:Nat->Value}{tb:Nat->Option Bool}{s:St}{env:Env}{U:Heap}(hG:Gam P B F pl tb s env U) {j:Nat}{want:Bool}{gs:List Gd}{s':St}(h:PD s j want=some (gs,s')) :
  ∃ tb',Gam P B F pl tb' s' env U/\(∀ g∈gs,tb' g.id=some g.c)/\∃ b,Xb env (some (j,want))=some b/\(b=true->∀ g∈gs,g.c=g.want)/\(b=false->∃ g∈gs,g.c≠g.want):=by
 have hj:=hG.env.getD j undef;unfold PD at h;split at h
 .rename_i c heq;obtain⟨rfl,rfl⟩:=Zo h;rw[heq] at hj;have hb:env.getD j undef=.bool c:=Y1 (s:=.val .bo c) rfl hj;obtain⟨tb',h1,h2,h3⟩:=hG.bid (j:=j) (v:=.bid s.nx c) (c:=c) λtb' _ h=>by simp only[SR];exact⟨hb,h⟩
  refine⟨tb',h3,(by simp_all),c==want,by simp only[Xb,hb],λe g hg=>?_,λe=>⟨_,x6.2 rfl,?_⟩⟩
  .simp_all
  .simpa using e
 .rename_i n c heq;obtain⟨rfl,rfl⟩:=Zo h;rw[heq] at hj;simp only[SR] at hj;refine⟨tb,hG,(by simp_all),c==want,by simp only[Xb,hj.1],λe g hg=>?_,λe=>⟨_,x6.2 rfl,?_⟩⟩
  .simp_all
  .simpa using e
 .rename_i oA c heq;obtain⟨rfl,rfl⟩:=Zo h;rw[heq] at hj;simp only[SR] at hj;obtain⟨⟨k1,k0⟩,k2,k3⟩:=hj;obtain⟨tb',h1,h2,h3⟩:=hG.bid (j:=j) (v:=.grd oA (.bid s.nx c)) (c:=c) λtb' hm h=>by
   simp only[SR];exact⟨⟨λg hg=>hm _ _ (k1 g hg),h⟩,λhall=>⟨Y1 (s:=.val .bo c) (P:=P) (B:=B) (pl:=pl) (tb:=tb) rfl (by simpa only [SR] using k2 hall),h⟩,k3⟩
  refine⟨tb',h3,λg hg=>?_,?_⟩
  .grind
  .by_cases hall:∀ g∈oA,g.c=g.want
   .have hb:env.getD j undef=.bool c:=Y1 (s:=.val .bo c) (P:=P) (B:=B) (pl:=pl) (tb:=tb) rfl (by simpa only [SR] using k2 hall);refine⟨c==want,by simp only[Xb,hb],λe g hg=>?_,(by simp_all)⟩
    grind
   .have hex:=Q2i hall;refine⟨false,by simp only[Xb,k3 hex];rfl,(λe=>by cases e),λ_=>?_⟩;simp_all
 .rename_i oA n c heq;obtain⟨rfl,rfl⟩:=Zo h;rw[heq] at hj;simp only[SR] at hj;obtain⟨⟨k1,k0⟩,k2,k3⟩:=hj;refine⟨tb,hG,λg hg=>?_,?_⟩
  .rcases xw.1 hg with h4|h4
   .exact k1 g h4
   .obtain rfl:=x6.1 h4;exact k0
  .by_cases hall:∀ g∈oA,g.c=g.want
   .obtain⟨hb,cZ⟩:=k2 hall;refine⟨c==want,by simp only[Xb,hb],λe g hg=>?_,(by simp_all)⟩
    grind
   .have hex:=Q2i hall;refine⟨false,by simp only[Xb,k3 hex];rfl,(λe=>by cases e),λ_=>?_⟩;simp_all
 .cases h
theorem Gam.gcall {B F:Heap}{pl:Nat->Value}{tb:Nat->Option Bool}{s:St}{env:Env}{U:Heap}(hG:Gam P B F pl tb s env U) {gs:List Gd}(hg:Gds tb gs) (args:List Operand):SRs P U WB XC (SZ s.own (args.map (gev gs s.env))) (args.map (Q4 env)) :=
 Nw hG.leB hG.obj (SRs.map λx _=>hG.evs hg x)
theorem Gam.gfun {B F:Heap}{pl:Nat->Value}{tb:Nat->Option Bool}{s:St}{env:Env}{U:Heap}(hG:Gam P B F pl tb s env U) {gs:List Gd}(hg:Gds tb gs) (f:Operand):SR P U WB XC ((SZ s.own [gev gs s.env f]).getD 0 .any) (Q4 env f):=by have:=(Nw hG.leB hG.obj (show SRs P B pl tb [gev gs s.env f] [Q4 env f] by simp only[SRs];exact⟨_,[],rfl,hG.evs hg f,rfl⟩)).getD 0 poison;simpa using this
theorem GN {env:Env}{f:Operand}{args:List Operand}{U:Heap}{K:Value->Heap->Prop}{g:FuncId}{a b:Array Value}(e:Q4 env f=.func (.func g) a b) (h:VCalled P g (a.toList++args.map (Q4 env)++b.toList) U K) :
  vop (Q3 P) (.callV f args) env U K:=by
 simp only[vop,e];exact h
def XOk (P:Program) (f:Nat) (x:XSp):Prop :=
 ∀ (B F:Heap) (pl:Nat->Value) (tb:Nat->Option Bool) (s:St) (env:Env) (U:Heap) (d:Nat) (args:List SV) (vs:List Value) (K:SV->St->Prop) (R:Value->Heap->Prop),
  Gam P B F pl tb s env U->SRs P B pl tb args vs->x d args s K ->
  (∀ v s' B' F' pl' tb' u U',K v s'->GBase B F U B' F' U'->Gam P B' F' pl' tb' s' env U'->SR P B' pl' tb' v u->R u U')->VCalled P f vs U R
def Z62 (P:Program) (f:Nat) (x:XSp) (j:Nat):Prop :=
 ∀ (B F:Heap) (pl:Nat->Value) (tb:Nat->Option Bool) (s:St) (env:Env) (U:Heap) (d:Nat) (args:List SV) (vs:List Value) (K:SV->St->Prop) (R:Value->Heap->Prop) (t:Nat),
  Gam P B F pl tb s env U->SRs P B pl tb args vs->Q6v s.own j args=some t->x d args s K ->
  (∀ v s' u U',K v s'->Dead U U'->Gam P B F pl tb s' env U'->SR P B pl tb v u->FrL [t] s s' pl pl U U'->R u U')->VCalled P f vs U R
def Q94 (P:Program) (f:Nat) (it:ISp):Prop:=Xz P f /\
 ∀ (B:Heap) (args:List SV) (vs:List Value) (c:Prop) (m ar:Nat) (xs:Nat->List SV),SRs P B WB XC args vs->it args=some (c,m,ar,xs)->c ->
  (∀ k,(xs k).length=ar/\SVs.pure (xs k)=true)/\∀ (i:Nat) (Y:RP) (J:Nat->Heap->Prop) (E:Heap->Prop) (τ0:Heap),VD P i Y->(∀ k Z,J k Z->B.Le Z) ->
   (∀ k us Z,k<m->J k Z->SRs P B WB XC (xs k) us->Y us Z λv Z'=>(v=.bool true/\J (k+1) Z')\/(v=.bool false/\E Z')) ->
   J 0 τ0->VCallsTo P f (.func (.yield i) #[] #[]::vs) τ0 λ_ Z=>J m Z\/E Z
def Q5c (P:Program) (o:Nat) (y:YSp):Prop :=
 ∀ (B F:Heap) (pl:Nat->Value) (tb:Nat->Option Bool) (s:St) (env:Env) (U:Heap) (args:List SV) (us:List Value) (K:SV->St->Prop) (R:Value->Heap->Prop) (i:Nat),
  Gam P B F pl tb s env U->SRs P B pl tb args us->y args s K->pl o=.pointer (some ⟨i,0,none⟩) ->
  (∀ v s' B' F' pl' tb' u U',K v s'->GBase B F U B' F' U'->Gam P B' F' pl' tb' s' env U'->SR P B' pl' tb' v u->R u U')->VYields P i us U R
def Q92 (P:Program) (f:Nat) (x:Q99):Prop:=Xz P f /\
 ∀ (B F:Heap) (pl:Nat->Value) (tb:Nat->Option Bool) (s:St) (env:Env) (U:Heap) (o:Nat) (args:List SV) (vs:List Value) (y:YSp) (K:St->Prop) (R:Heap->Prop),
  Gam P B F pl tb s env U->SRs P B pl tb args vs->Q5c P o y->x o args (o,y) s K ->
  (∀ s' B' F' pl' tb' ai U',K s'->GBase B F U B' F' U'->Gam P B' F' pl' tb' s' ai U'->R U')->VCallsTo P f vs U λ_=>R
structure COk (P:Program) (C:Cx):Prop where
 cs:CsOk P C.cs
 xs:∀ f x,QR C.xs f=some x->XOk P f x
 it:∀ f x,QR C.it f=some x->Q94 P f x
 yl:∀ o y,QR C.yl o=some y->Q5c P o y
 iy:∀ f x,QR C.iy f=some x->Q92 P f x
 xf:∀ f j,QR C.xf f=some j->∀ x,QR C.xs f=some x->Z62 P f x j
theorem Sz {C:Cx}(aA:CsOk P C.cs) {B F:Heap}{pl:Nat->Value}{tb:Nat->Option Bool}{s:St}{env:Env}{U:Heap}(hG:Gam P B F pl tb s env U) {gs:List Gd}(hg:Gds tb gs) {raw:Bool}{o:VOp}{cs:List Prop}{v:SV}
  (h:gqc C raw o (gev gs s.env) s.own=some (cs,v)) (hc:∀ c∈cs,c) {K:Value->Heap->Prop}(hK:∀ u,SR P B pl tb v u->K u U):vop (Q3 P) o env U K:=by
 have flat:∀ {c:Prop}{v':SV},(bif v'.ret 0 then some ([c],v') else none)=some (cs,v)->v'.ret 0=true/\c/\v'=v:=λ{c v'} h=>by
  cases hv:v'.ret 0 with
  |false=>rw[hv] at h;cases h
  |true =>rw[hv] at h;obtain⟨rfl,rfl⟩:=Zo h;exact⟨rfl,hc _ (by simp),rfl⟩
 have quiet:∀ o,gq C.kt raw o (gev gs s.env) s.own=some (cs,v)->(∀ K,Z8 (Q6 o (Q4 env) U) (λp=>K p.1 p.2)->vop (Q3 P) o env U K)->vop (Q3 P) o env U K:=λo h hv=>by obtain⟨u,h1,h2⟩:=Ay (hG.evs hg) (λ_=>rfl) hG.leB hG.obj h hc;exact hv K (by rw[h1];exact hK u h2)
 cases o
 case callF f args =>
  simp only[gqc] at h;split at h
  .rename_i c v' heq;obtain⟨h1,h2,rfl⟩:=flat h;obtain⟨g,a,b,h3,h4,_⟩:=JQ aA (show SR P U WB XC (.fn f [] []) (.func (.func f) #[] #[]) by simp only[SR,SRs];exact⟨[],[],rfl,rfl,rfl⟩) (hG.gcall hg args) heq h1 rfl h2;obtain⟨rfl,rfl,rfl⟩:=(by simpa using h3:f=g/\#[]=a/\#[]=b);have:=h4.mono (R':=K) λu U' hr=>by
    obtain⟨rfl,hu⟩:=hr.flat h1;exact hK u (hu.retd (λj hj=>by omega) _ _ h1)
   show VCalled P f (args.map (Q4 env)) U K;simpa using this
  .cases h
 case callV f args =>
  simp only[gqc] at h;split at h
  .rename_i c v' heq;obtain⟨h1,h2,rfl⟩:=flat h;obtain⟨g,a,b,h3,h4,_⟩:=JQ aA (hG.gfun hg f) (hG.gcall hg args) heq h1 rfl h2;exact GN h3 (h4.mono λu U' hr=>by
    obtain⟨rfl,hu⟩:=hr.flat h1;exact hK u (hu.retd (λj hj=>by omega) _ _ h1))
  .cases h
 case ext x =>
  cases x
  case nextMap x=>cases h
  all_goals exact quiet _ h λ_ h=>h
 all_goals exact quiet _ h λ_ h=>h
end
end Go.V
namespace Go.V
open Go
section
variable {P:Program}
mutual
theorem IE:∀ (v:SV) {K:SV->Prop},nmV v K->K v
 |.val k x,K,h=>by simp only[nmV] at h;exact h x rfl
 |.agg l,K,h=>by simp only[nmV] at h;exact Se l h
 |.tup l,K,h=>by simp only[nmV] at h;exact Se l h
 |.any,_,h|.dd _ _,_,h|.bid _ _,_,h|.grd _ _,_,h|.nilS,_,h|.nilP,_,h|.nilM,_,h|.nilF,_,h|.lst _,_,h|.sub _ _ _ _,_,h|.elp _ _ _ _,_,h|.rop _ _ _ _,_,h|.box _ _,_,h|.cp _ _,_,h|.map _,_,h|.fn _ _ _,_,h|.pf _ _ _ _,_,h=>by simp only[nmV] at h;exact h
theorem Se:∀ (l:List SV) {K:List SV->Prop},Q90 l K->K l
 |[],K,h=>by simp only[Q90] at h;exact h
 |v::r,K,h=>by simp only[Q90] at h;exact Se r (IE v h)
end
theorem J8 {C:Cx}{o:VOp}{ev:Operand->SV}{v:SV}{K:SV->Prop}(h:gnm C o ev v K):K v:=by
 unfold gnm at h
 grind [IE]
theorem TE {B:Heap}{pl:Nat->Value}{tb:Nat->Option Bool}{v:SV}{u:Value}(h:SR P B pl tb v u):SR P B pl tb (Hz v) u/\gtb tb (Hz v):=by
 cases v with
 |bid n c=>simp only[SR] at h;obtain⟨rfl,_⟩:=h;exact⟨JZ _,trivial⟩
 |_=>exact⟨h,trivial⟩
theorem TD {tb:Nat->Option Bool}(v:SV):gtb tb (Hz v):=by cases v<;>trivial
theorem PL {C:Cx}(aA:COk P C) {B F:Heap}{pl:Nat->Value}{tb:Nat->Option Bool}{s:St}{env:Env}{U:Heap}(hG:Gam P B F pl tb s env U) {d:Nat}{f:SV}{args:List SV}{fV:Value}{vs:List Value}(hf:SR P B pl tb f fV) (ha:SRs P B pl tb args vs) {K:SV->St->Prop}(h:I_ C d f args s K) {R:Value->Heap->Prop}
  (hK:∀ v s' B' F' pl' tb' u U',K v s'->GBase B F U B' F' U'->Gam P B' F' pl' tb' s' env U'->SR P B' pl' tb' v u->R u U'):∃ g a b,fV=.func (.func g) a b/\VCalled P g (a.toList++vs++b.toList) U R:=by
 unfold I_ at h;have pF:SR P U WB XC ((SZ s.own [f]).getD 0 .any) fV:=by have:=(Nw hG.leB hG.obj (show SRs P B pl tb [f] [fV] by simp only[SRs];exact⟨_,[],rfl,hf,rfl⟩)).getD 0 poison;simpa using this
 have jb:=Nw hG.leB hG.obj ha;split at h
 .rename_i c v bs heq;cases hb:(v.ret bs.length&&(bs.all OB.ret&&Nat.blt 0 C.nt)) with
  |false=>rw[hb] at h;exact h.elim
  |true =>rw[hb] at h;obtain⟨h1,h2⟩:=h;simp only[z1] at hb;obtain⟨g,a,b,e,aC,_⟩:=JQ aA.cs pF jb heq hb.1 hb.2.1 h1;refine⟨g,a,b,e,aC.mono λu U' hr=>?_⟩;obtain⟨pl',h3,h4⟩:=hr.gam (nt:=C.nt) (d:=d) (by simpa [zB] using hb.2.2) hG hb.1 hb.2.1;exact hK _ _ B F pl' tb u U' h2 (.of hG.bf hr.1.2) h3 h4
 .exact h.elim
theorem PZ {C:Cx}(aA:COk P C) {B F:Heap}{pl:Nat->Value}{tb:Nat->Option Bool}{s:St}{env:Env}{U:Heap}(hG:Gam P B F pl tb s env U) {d:Nat}{f:SV}{args:List SV}{fV:Value}{vs:List Value}(hf:SR P B pl tb f fV) (ha:SRs P B pl tb args vs) {K:SV->St->Prop}(h:Cw C d f args s K) (tT:∀ o,f≠.dd o .yv) {R:Value->Heap->Prop}
  (hK:∀ v s' B' F' pl' tb' u U',K v s'->GBase B F U B' F' U'->Gam P B' F' pl' tb' s' env U'->SR P B' pl' tb' v u->R u U'):∃ g a b,fV=.func (.func g) a b/\VCalled P g (a.toList++vs++b.toList) U R:=by
 unfold Cw at h;split at h
 .rename_i g a b;split at h
  .rename_i x hx;have vp:=hf;simp only[SR] at hf;obtain⟨a',b',rfl,h1,h2⟩:=hf;refine⟨g,a'.toArray,b'.toArray,rfl,?_⟩;have:=aA.xs g x hx B F pl tb s env U d _ _ K R hG (h1.append (ha.append h2)) h hK;simpa using this
  .exact PL aA hG hf ha h hK
 .exact(tT _ rfl).elim
 .exact PL aA hG hf ha h hK
theorem Q0d {C:Cx}{B F:Heap}{pl:Nat->Value}{tb:Nat->Option Bool}{s:St}{env:Env}{U:Heap}(hG:Gam P B F pl tb s env U) {d:Nat}{o:VOp}{K:SV->St->Prop}(h:gnd C d o (gev [] s.env) s K) {R:Value->Heap->Prop}
  (hK:∀ v s' B' F' pl' tb' u U',K v s'->GBase B F U B' F' U'->Gam P B' F' pl' tb' s' env U'->SR P B' pl' tb' v u->R u U'):vop (Q3 P) o env U R:=by
 obtain⟨u,U',pl',v,s',h1,h2,h3,h4⟩:=TR (λx=>hG.evs (Gds.nil (tb:=tb)) x) hG h;have fin:Z8 (Q6 o (Q4 env) U) (λp=>R p.1 p.2):=by rw[h1];exact hK v s' B F pl' tb u U' h2 (.of hG.bf (Ue h1)) h3.1 h4
 cases o
 case buildSlice e z n ps=>exact fin
 case makeSlice e b z l c=>exact fin
 case append e b x y=>exact fin
 case store size a x=>exact fin
 all_goals exact h.elim
section
variable {B F:Heap}{pl:Nat->Value}{tb:Nat->Option Bool}{s:St}{env:Env}{U:Heap}
def Heap.ins (B U:Heap) (i:Nat) (h:B.n<=U.n):Heap where
 get j:=if j=i then U.get i else B.get j
 n:=U.n
 wf j hj:=by
  by_cases e:j=i
  .simp only[z7 e];subst e;exact U.wf j hj
  .simp only[z6 e];exact B.wf j (zN h hj)
theorem Heap.q0k (B U:Heap) (i:Nat) (h:B.n<=U.n):(B.ins U i h).get i=U.get i:=by simp[Heap.ins]
theorem Heap.q1a (B U:Heap) {i j:Nat}(h:B.n<=U.n) (e:j≠i):(B.ins U i h).get j=B.get j:=by simp[Heap.ins,e]
theorem Heap.Le.ins {B U:Heap}(h:B.Le U) (i:Nat):B.Le (B.ins U i h.1):=⟨h.1,λj b hb=>by
 by_cases e:j=i
 .subst e;rw[Heap.q0k];exact h.2 _ _ hb
 .rw[Heap.q1a _ _ _ e];exact hb⟩
theorem Heap.Le.q1w {B U:Heap}(h:B.Le U) (i:Nat):(B.ins U i h.1).Le U:=⟨zd _,λj b hb=>by
 by_cases e:j=i
 .grind [Heap.q0k]
 .rw[Heap.q1a _ _ _ e] at hb;exact h.2 _ _ hb⟩
theorem Heap.q1x {B F U:Heap}(h:B.Le F) (i:Nat) (hB:B.n<=U.n) (hF:F.n<=U.n):(B.ins U i hB).Le (F.ins U i hF):=⟨zd _,λj b hb=>by
 by_cases e:j=i
 .grind [Heap.q0k]
 .rw[Heap.q1a _ _ _ e] at hb |-;exact h.2 _ _ hb⟩
theorem Gam.freeze (hG:Gam P B F pl tb s env U) {o i:Nat}(hl:(Qk s.own o).live=true) (hi:Oid (pl o) i) :
  GBase B F U (B.ins U i hG.leB.1) (F.ins U i hG.le.1) U/\Gam P (B.ins U i hG.leB.1) (F.ins U i hG.le.1) pl tb ⟨s.env,oset s.own o .dead,s.nx⟩ env U:=by
 have mV:=hG.fresh o i hl hi;have lv:∀ d,(Qk (oset s.own o .dead) d).live=true->d≠o/\(Qk s.own d).live=true:=λd h=>by
  rw[Qo] at h;by_cases e:d=o
  .rw[z7 e] at h;cases h
  .rw[z6 e] at h;exact⟨e,h⟩
 refine⟨⟨hG.leB.ins i,hG.le.ins i,λj b h1 h2=>?_,.refl _⟩,⟨Heap.q1x hG.bf i _ _,hG.le.q1w i,SRs.mono (hG.leB.ins i) (λ_ _ h=>h) _ _ hG.env,λd=>?_,λd j h1 h2=>?_,λd d' j aK h1 h2 h3 h4=>hG.sep d d' j aK (lv d h1).2 (lv d' h2).2 h3 h4,hG.free⟩⟩
 .grind [Heap.q1a]
 .simp only[Qo];by_cases e:d=o
  .rw[z7 e];trivial
  .rw[z6 e];exact(hG.obj d).mono (hG.leB.ins i) (λ_ _ h=>h) λ_ _ _=>rfl
 .obtain⟨aK,bW⟩:=lv d h1;have e:j≠i:=by rintro rfl;exact hG.sep d o j aK bW hl h2 hi
  rw[Heap.q1a _ _ _ e];exact hG.fresh d j bW h2
theorem Gam.own {s':St}(hG:Gam P B F pl tb s env U) (h1:s'.env=s.env) (h2:∀ d,Qk s'.own d=Qk s.own d) (h3:s'.nx=s.nx):Gam P B F pl tb s' env U :=
 ⟨hG.bf,hG.le,by rw[h1];exact hG.env,λd=>by rw[h2];exact hG.obj d,λd i=>by rw[h2];exact hG.fresh d i,λd d' i aK=>by rw[h2,h2];exact hG.sep d d' i aK,λn hn=>hG.free n (by rw[<-h3];exact hn)⟩
theorem Gam.drop (hG:Gam P B F pl tb s env U) (o:Nat):Gam P B F pl tb ⟨s.env,oset s.own o .dead,s.nx⟩ env U:=by
 have lv:∀ d,(Qk (oset s.own o .dead) d).live=true->d≠o/\(Qk s.own d).live=true:=λd h=>by
  rw[Qo] at h;by_cases e:d=o
  .rw[z7 e] at h;cases h
  .rw[z6 e] at h;exact⟨e,h⟩
 refine⟨hG.bf,hG.le,hG.env,λd=>?_,λd j h1 h2=>hG.fresh d j (lv d h1).2 h2,λd d' j aK h1 h2 h3 h4=>hG.sep d d' j aK (lv d h1).2 (lv d' h2).2 h3 h4,hG.free⟩;simp only[Qo];by_cases e:d=o
 .rw[z7 e];trivial
 .rw[z6 e];exact hG.obj d
theorem F7 (s:St) (d:Nat) (b:OB) (q:Nat):Qk (s.make d .dead).own q=Qk (oset (s.make d b).own d .dead) q:=by simp only[St.make,Qo];simp_all
theorem Oo {C:Cx}(hG:Gam P B F pl tb s env U) {d:Nat}{x:Operand}{K:SV->St->Prop}(h:gn C d (.ext (.rangeMap x)) (gev [] s.env) s K) {R:Value->Heap->Prop}
  (hK:∀ v s' B' F' pl' tb' u U',K v s'->GBase B F U B' F' U'->Gam P B' F' pl' tb' s' env U'->SR P B' pl' tb' v u->R u U'):vop (Q3 P) (.ext (.rangeMap x)) env U R:=by
 have ha:=hG.evs (Gds.nil (tb:=tb)) x;simp only[gn] at h;split at h
 .rename_i o h1;rw[h1] at ha;simp only[SR] at ha;split at h
  .rename_i kk vk m ho;split at h
   .have ao:=hG.obj o;rw[ho] at ao;obtain⟨i,es,clock,h2,h3,h4⟩:=ao;obtain⟨g1,g2⟩:=hG.freeze (o:=o) (i:=i) (by rw[ho];rfl) (by rw[h2];rfl)
    have dz:=g2.push d (.iter kk vk m []) (.pointer (some ⟨U.n,0,none⟩)) (.obj (.iter i clock [] clock) true) rfl
     ⟨U.n,i,es,clock,true,[],rfl,Heap.q0a _ _,by rw[Heap.q0k];exact h3,h4.mono g1.b,rfl,λt r h=>by simp at h⟩
    show Z8 (Q6 (.ext (.rangeMap x)) (Q4 env) U) _;have hv:Q6 (.ext (.rangeMap x)) (Q4 env) U=some (.pointer (some ⟨U.n,0,none⟩),U.push (.obj (.iter i clock [] clock) true)):=by simp only[Q6,ZA,ha.1,h2,Heap.mapAt,h3]
    rw[hv];exact hK _ _ _ _ _ _ _ _ h (g1.trans (.of g2.bf (Dead.push _ _))) dz (by simp only[SR,XF];exact⟨_,rfl,rfl⟩)
   .exact h.elim
  .rename_i kk vk m ho;split at h
   .have ao:=hG.obj o;rw[ho] at ao;obtain⟨i,es,clock,wr,h2,h3,h4⟩:=ao
    have dz:=hG.push d (.iter kk vk m []) (.pointer (some ⟨U.n,0,none⟩)) (.obj (.iter i clock [] clock) true) rfl
     ⟨U.n,i,es,clock,wr,[],rfl,Heap.q0a _ _,h3,h4,rfl,λt r h=>by simp at h⟩
    show Z8 (Q6 (.ext (.rangeMap x)) (Q4 env) U) _;have hv:Q6 (.ext (.rangeMap x)) (Q4 env) U=some (.pointer (some ⟨U.n,0,none⟩),U.push (.obj (.iter i clock [] clock) true)):=by have fW:=hG.leB.2 _ _ h3;simp only[Q6,ZA,ha.1,h2,Heap.mapAt,fW]
    rw[hv];exact hK _ _ _ _ _ _ _ _ h (.of hG.bf (Dead.push _ _)) dz (by simp only[SR,XF];exact⟨_,rfl,rfl⟩)
   .exact h.elim
  .exact h.elim
 .exact h.elim
theorem Ov {C:Cx}(hG:Gam P B F pl tb s env U) {d:Nat}{x:Operand}{K:SV->St->Prop}(h:gn C d (.ext (.rangeStr x)) (gev [] s.env) s K) {R:Value->Heap->Prop}
  (hK:∀ v s' B' F' pl' tb' u U',K v s'->GBase B F U B' F' U'->Gam P B' F' pl' tb' s' env U'->SR P B' pl' tb' v u->R u U'):vop (Q3 P) (.ext (.rangeStr x)) env U R:=by
 have ha:=hG.evs (Gds.nil (tb:=tb)) x;simp only[gn] at h;split at h
 .rename_i xs h1;have e1:=U3 h1 ha;have dz:=hG.push d (.siter xs 0) (.pointer (some ⟨U.n,0,none⟩)) (.obj (.siter ⟨xs.toArray⟩ 0) true) rfl ⟨U.n,_,rfl,Heap.q0a _ _,by simp⟩;show Z8 (Q6 (.ext (.rangeStr x)) (Q4 env) U) _;have hv:Q6 (.ext (.rangeStr x)) (Q4 env) U=some (.pointer (some ⟨U.n,0,none⟩),U.push (.obj (.siter ⟨xs.toArray⟩ 0) true)):=by
   simp only[Q6,ZA,e1]
  rw[hv];exact hK _ _ _ _ _ _ _ _ h (.of hG.bf (Dead.push _ _)) dz (by simp only[SR,XF];exact⟨_,rfl,rfl⟩)
 .exact h.elim
theorem Q19 {C:Cx}(hG:Gam P B F pl tb s env U) {d:Nat}{x:Operand}{K:SV->St->Prop}(h:gn C d (.ext (.nextStr x)) (gev [] s.env) s K) {R:Value->Heap->Prop}
  (hK:∀ v s' B' F' pl' tb' u U',K v s'->GBase B F U B' F' U'->Gam P B' F' pl' tb' s' env U'->SR P B' pl' tb' v u->R u U'):vop (Q3 P) (.ext (.nextStr x)) env U R:=by
 have ha:=hG.evs (Gds.nil (tb:=tb)) x;simp only[gn] at h;split at h
 .rename_i o f h1;rw[h1] at ha;simp only[SR] at ha;split at h
  .rename_i l pos ho;split at h
   .rename_i hf;subst hf;have ax:(Qk s.own o).live=true:=by rw[ho];rfl
    have ao:=hG.obj o;rw[ho] at ao;obtain⟨j,bs,h2,h3,h4⟩:=ao;obtain⟨b,e2,e3⟩:=ha;rw[h2] at e2;obtain rfl:j=b:=by simpa using e2
    have hid:F.get j=none:=hG.fresh o j ax (by rw[h2];rfl);have cT:∀ q i',q≠o->(Qk s.own q).live=true->Oid (pl q) i'->i'≠j:=λq i' hq hl hi e=>by subst e;exact hG.sep q o i' hq hl ax hi (by rw[h2];rfl)
    show Z8 (Q6 (.ext (.nextStr x)) (Q4 env) U) _;by_cases hp:pos<l.length
    .obtain⟨hb,h⟩:=h.1 hp;have hg:bs.data.toList[pos]?=some (l.getD pos 0):=by
      rw[h4,ze,z8 hp];rfl
     have hv:Q6 (.ext (.nextStr x)) (Q4 env) U=some (.tuple #[.bool true,.int .i64 pos,.int .i32 (l.getD pos 0).toNat],U.upd j (.obj (.siter bs (pos+1)) true)):=by simp only[Q6,ZA,e3,h3,hg,z7 hb]
     rw[hv];refine hK _ _ _ _ _ _ _ _ h (.of hG.bf (Dead.upd _ _ _ (by rw[h3];rfl))) (hG.write o _ (hG.le.upd hid _) ax (by grind [Heap.q0b]) ⟨j,bs,h2,Heap.q0d _ _ (U.lt h3),h4⟩) ?_;simp only[SR,SRs];exact⟨_,rfl,_,_,rfl,rfl,_,_,rfl,rfl,_,_,rfl,rfl,rfl⟩
    .have h:=h.2 (by omega);have hg:bs.data.toList[pos]?=none:=by
      rw[h4];exact zz (by omega)
     have hv:Q6 (.ext (.nextStr x)) (Q4 env) U=some (.tuple #[.bool false],U):=by simp only[Q6,ZA,e3,h3,hg]
     rw[hv];exact hK _ _ _ _ _ _ _ _ h (.of hG.bf (Dead.refl U)) hG (by simp only[SR,SRs];exact⟨[.bool false],rfl,_,[],rfl,rfl,rfl⟩)
   .exact h.elim
  .exact h.elim
 .exact h.elim
theorem Q2p {C:Cx}(hG:Gam P B F pl tb s env U) {d:Nat}{x:Operand}{K:SV->St->Prop}(h:gn C d (.ext (.nextMap x)) (gev [] s.env) s K) {R:Value->Heap->Prop}
  (hK:∀ v s' B' F' pl' tb' u U',K v s'->GBase B F U B' F' U'->Gam P B' F' pl' tb' s' env U'->SR P B' pl' tb' v u->R u U'):vop (Q3 P) (.ext (.nextMap x)) env U R:=by
 have ha:=hG.evs (Gds.nil (tb:=tb)) x;simp only[gn] at h;split at h
 .rename_i o f h1;rw[h1] at ha;simp only[SR] at ha;split at h
  .rename_i kk vk m dn ho;split at h
   .rename_i hf;obtain⟨rfl,mW⟩:=hf;have ax:(Qk s.own o).live=true:=by rw[ho];rfl
    have ao:=hG.obj o;rw[ho] at ao;obtain⟨j,i,es,clock,wr,seen,h2,h3,h4,h5,h6⟩:=ao;obtain⟨b,e2,e3⟩:=ha;rw[h2] at e2;obtain rfl:j=b:=by simpa using e2
    have aG:U.mapAt i=some (es,clock,wr):=by simp[Heap.mapAt,hG.leB.2 _ _ h4]
    have hlen:=h5.1.length;obtain⟨hA,hB⟩:=h;have hid:F.get j=none:=hG.fresh o j ax (by rw[h2];rfl);have cT:∀ q i',q≠o->(Qk s.own q).live=true->Oid (pl q) i'->i'≠j:=λq i' hq hl hi e=>by subst e;exact hG.sep q o i' hq hl ax hi (by rw[h2];rfl)
    show FN (Q4 env x) U R;unfold FN;rw[e3];simp only[h3,aG];refine⟨?_,?_,λhall=>?_,λe he mJ=>?_⟩
    .cases es with
     |nil=>simp
     |cons e es=>simp[h5.2.2 e (by simp)]
    .rw[zh];intro e he;obtain⟨r,hr⟩:=zW.1 he;obtain⟨_,k1,_⟩:=MR.at h5.1 hr;exact Fo mW k1
    .refine hK _ _ _ _ _ _ _ _ (hA λr hr=>?_) (.of hG.bf (Dead.refl U)) hG (by simp only[SR,SRs];exact⟨[.bool false],rfl,_,[],rfl,rfl,rfl⟩);have fh:r<es.length:=by omega
     have he:=z8 fh;have:=zh.1 hall es[r] (zk fh);have al:=h5.2.2 _ (zk fh);rw[zo,zf] at this;rcases this with this|this
     .rw[List.contains_iff_mem] at this;obtain⟨t,ht⟩:=zW.1 this;have vq:t<seen.length:=(zm.1 ht).1;have ry:t<dn.length:=by have:=h6.1;omega
      obtain⟨e',k1,k2⟩:=h6.2 t dn[t] (z8 ry);rw[ht] at k2;have:=EZ h5.2 he k1 (osj k2);rw[this];exact zk ry
     .omega
    .obtain⟨r,hr⟩:=zW.1 he;have fh:r<es.length:=(zm.1 hr).1;have tU:r∉dn:=λhm=>by
      obtain⟨t,ht⟩:=zW.1 hm;obtain⟨e',k1,k2⟩:=h6.2 t r ht
      grind
     refine hK _ _ _ _ _ _ _ _ (hB r (by omega) tU) (.of hG.bf (Dead.upd _ _ _ (by rw[h3];rfl))) (hG.write o _ (hG.le.upd hid _) ax (by grind [Heap.q0b]) ⟨j,i,es,clock,wr,seen++[e.2.2],h2,Heap.q0d _ _ (U.lt h3),h4,h5,?_,λt r' ht=>?_⟩) (by simp only[SR,SRs];exact⟨[.bool true,e.1,e.2.1],rfl,_,_,rfl,rfl,_,_,rfl,trivial,_,_,rfl,trivial,rfl⟩)
     .simp[h6.1]
     .rw[List.getElem?_append] at ht;split at ht
      .rename_i al;obtain⟨e',k1,k2⟩:=h6.2 t r' ht
       grind
      .rename_i bI;have h0:t-dn.length=0:=by
        grind
       rw[h0] at ht;obtain rfl:r=r':=by simpa using ht
       refine⟨e,hr,?_⟩;rw[xc (by have:=h6.1;omega),show t-seen.length=0 by have:=h6.1;omega];rfl
   .exact h.elim
  .exact h.elim
 .exact h.elim
theorem AS {d:Nat}(kH:B.Le F) {ty:Nat}{k:Kind}{xs:List k.T}{nl:Bool}(hk:k.flat=true) {pl':Nat->Value}{u:Value}{U':Heap}(h1:Gam P B F pl' tb (s.make d (.lst ty k xs nl)) env U') (h2:SR P B pl' tb (.lst d) u) (hd:Dead U U') :
  ∃ B' F',GBase B F U B' F' U'/\Gam P B' F' pl' tb (s.make d .dead) env U'/\SR P B' pl' tb (.val (.list k) xs) u:=by
 have ao:=h1.obj d;have bE:Qk (s.make d (.lst ty k xs nl)).own d=.lst ty k xs nl:=by simp only[St.make,Qo,zr]
 rw[bE] at ao;simp only[SR] at h2;obtain⟨rfl,_⟩:=h2;rcases ao with⟨_,hx,hp⟩|⟨_,i,cap,c,t,hp,cf,hg,hlen,cn⟩
 .refine⟨B,F,.of kH hd,(h1.drop d).own rfl (F7 s d _) rfl,?_⟩;simp only[SR];exact⟨_,rfl,.inl ⟨hx,hp⟩⟩
 .obtain⟨g1,g2⟩:=h1.freeze (o:=d) (i:=i) (by rw[bE];rfl) (by rw[hp];rfl);refine⟨_,_,(GBase.of kH hd).trans g1,g2.own rfl (F7 s d _) rfl,?_⟩;simp only[SR];refine⟨_,rfl,.inr ⟨i,0,cap,c,⟨k.size,ty⟩,true,t,hp,cf,by rw[Heap.q0k];exact hg,rfl,by have:=zq k.size cf;omega,?_⟩⟩;rw[xt];exact cn.mono λ_ _ e=>KC.flat hk e
theorem IY {d nt:Nat}(ec:0<nt) (hG:Gam P B F pl tb s env U) {ty:Nat}{k:Kind}{xs:List k.T}{nl:Bool}(hk:k.flat=true) {u:Value}{U':Heap}(h:Ret P U (.lst 0) [.lst ty k xs nl] u U') :
  ∃ B' F' pl',GBase B F U B' F' U'/\Gam P B' F' pl' tb (s.make d .dead) env U'/\SR P B' pl' tb (.val (.list k) xs) u:=by
 obtain⟨pl',h1,h2⟩:=h.gam (d:=d) ec hG (by rfl) (by simp only[zO,List.all_nil,xH,OB.ret];exact hk);simp only[St.makes,Nat.zero_mul,zM,SV.ren] at h1 h2;obtain⟨B',F',k⟩:=AS hG.bf hk h1 h2 h.1.2;exact⟨B',F',pl',k⟩
theorem Dd {nt:Nat}{r:Option (Prop×SV×List OB)}{c:Prop}{v:SV}(h:Iu nt r=some (c,v)):∃ ty k xs nl,r=some (c,.lst 0,[.lst ty k xs nl])/\v=.val (.list k) xs/\k.flat=true/\0<nt:=by
 unfold Iu at h;split at h
 .split at h
  .rename_i k xs _;cases hc:(k.flat&&Nat.blt 0 nt) with
   |false=>rw[hc] at h;cases h
   |true =>rw[hc] at h;obtain⟨rfl,rfl⟩:=Zo h;simp only[z1,zB] at hc;exact⟨_,_,_,_,rfl,rfl,hc.1,hc.2⟩
  .cases h
 .cases h
theorem FK {C:Cx}(aA:CsOk P C.cs) (hG:Gam P B F pl tb s env U) {gs:List Gd}(hg:Gds tb gs) {o:VOp}{c:Prop}{v:SV}{d:Nat}(h:At C o (gev gs s.env) s.own=some (c,v)) (hc:c) {K:Value->Heap->Prop}
  (hK:∀ u U' B' F' pl',GBase B F U B' F' U'->Gam P B' F' pl' tb (s.make d .dead) env U'->SR P B' pl' tb v u->K u U'):vop (Q3 P) o env U K:=by
 cases o<;>first|(cases h;done)|skip
 case callF f args =>
  simp only[At] at h;obtain⟨ty,k,xs,nl,heq,rfl,hk,ec⟩:=Dd h;obtain⟨g,a,b,h3,h4,_⟩:=JQ aA (show SR P U WB XC (.fn f [] []) (.func (.func f) #[] #[]) by simp only[SR,SRs];exact⟨[],[],rfl,rfl,rfl⟩) (hG.gcall hg args) heq (by rfl) (by simp only[zO,List.all_nil,xH,OB.ret];exact hk) hc;obtain⟨rfl,rfl,rfl⟩:=(by simpa using h3:f=g/\#[]=a/\#[]=b);have:=h4.mono (R':=K) λu U' hr=>by obtain⟨B',F',pl',k1,k2,k3⟩:=IY (d:=d) ec hG hk hr;exact hK u U' B' F' pl' k1 k2 k3
  show VCalled P f (args.map (Q4 env)) U K;simpa using this
 case callV f args =>
  simp only[At] at h;obtain⟨ty,k,xs,nl,heq,rfl,hk,ec⟩:=Dd h;obtain⟨g,a,b,h3,h4,_⟩:=JQ aA (hG.gfun hg f) (hG.gcall hg args) heq (by rfl) (by simp only[zO,List.all_nil,xH,OB.ret];exact hk) hc;exact GN h3 (h4.mono λu U' hr=>by
   obtain⟨B',F',pl',k1,k2,k3⟩:=IY (d:=d) ec hG hk hr;exact hK u U' B' F' pl' k1 k2 k3)
 case buildSlice e z n ps =>
  simp only[At] at h;split at h
  .rename_i k tV;split at h
   .rename_i eJ;split at h
    .rename_i xs hx;obtain⟨rfl,rfl⟩:=Zo h;have tW:gn C d (.buildSlice e z n ps) (gev gs s.env) s (λv s'=>v=.lst d/\s'=s.make d (.lst e.ty k xs false)):=by
      simp only[gn,tV,hx];simp_all
     obtain⟨u,U',pl',v,s',h1,⟨rfl,rfl⟩,⟨h3,_⟩,h4⟩:=D6 (λx=>hG.evs hg x) hG tW;obtain⟨B',F',k1,k2,k3⟩:=AS hG.bf eJ.2.2 h3 h4 (Ue h1);show Z8 (Q6 (.buildSlice e z n ps) (Q4 env) U) _;rw[h1];exact hK u U' B' F' pl' k1 k2 k3
    .cases h
   .cases h
  .cases h
theorem Ff {C:Cx}{o:VOp}{ev:Operand->SV}{own:Own}{c:Prop}{v:SV}(h:At C o ev own=some (c,v)):∃ (k:Kind) (xs:List k.T),v=.val (.list k) xs:=by
 cases o<;>first|(cases h;done)|skip
 case callF=>simp only[At] at h;grind [Dd]
 case callV=>simp only[At] at h;grind [Dd]
 case buildSlice e z n ps =>
  simp only[At] at h
  grind
theorem Q45 {C:Cx}(aA:COk P C) {B F:Heap}{pl:Nat->Value}{tb:Nat->Option Bool}{s:St}{env:Env}{U:Heap}(hG:Gam P B F pl tb s env U) {d:Nat}{o:VOp}{K:SV->St->Prop}(h:gn C d o (gev [] s.env) s K) {R:Value->Heap->Prop}
  (hK:∀ v s' B' F' pl' tb' u U',K v s'->GBase B F U B' F' U'->Gam P B' F' pl' tb' s' env U'->SR P B' pl' tb' v u->R u U'):vop (Q3 P) o env U R:=by
 have ak:=hG.evs (Gds.nil (tb:=tb));have act:∀ o {T:Nat},NOk P B F tb o (Q4 env) env U K T s pl->(∀ R',Z8 (Q6 o (Q4 env) U) (λp=>R' p.1 p.2)->vop (Q3 P) o env U R')->vop (Q3 P) o env U R:=λo _ ⟨u,U',pl',v,s',h1,h2,h3,h4⟩ hv=>hv R (by rw[h1];exact hK v s' B F pl' tb u U' h2 (.of hG.bf (Ue h1)) h3.1 h4);have av:∀ args:List Operand,SRs P B pl tb (args.map (gev [] s.env)) (args.map (Q4 env)):=(by grind [SRs.map,Gds.nil]);cases o
 case alloc t z=>exact act _ (Q33 ak hG h) λ_ h=>h
 case box t x=>exact act _ (Q9i ak hG h) λ_ h=>h
 case buildSlice e z n ps=>exact act _ (D6 ak hG h) λ_ h=>h
 case makeSlice e b z l c=>exact act _ (Sw ak hG h) λ_ h=>h
 case append e b x y=>exact act _ (IN ak hG h) λ_ h=>h
 case store size a x=>exact act _ (Q1c ak hG h) λ_ h=>h
 case callF f args =>
  simp only[gn] at h;obtain⟨g,a,b,h3,h4⟩:=PZ aA hG (show SR P B pl tb (.fn f [] []) (.func (.func f) #[] #[]) by simp only[SR,SRs];exact⟨[],[],rfl,rfl,rfl⟩) (av args) h (λ_ e=>by cases e) hK;obtain⟨rfl,rfl,rfl⟩:=(by simpa using h3:f=g/\#[]=a/\#[]=b);show VCalled P f (args.map (Q4 env)) U R;simpa using h4
 case callV f args =>
  simp only[gn] at h;by_cases hy:∃ o,gev [] s.env f=.dd o .yv
  .obtain⟨o,hy⟩:=hy;have hf:=hG.evs (Gds.nil (tb:=tb)) f;have h':Cw C d (gev [] s.env f) (args.map (gev [] s.env)) s K:=h;rw[hy] at hf h';simp only[SR,DR] at hf;obtain⟨i,hp,hv⟩:=hf;simp only[Cw] at h';split at h'
   .rename_i y tX;have:=aA.yl o y tX B F pl tb s env U _ _ K R i hG (av args) h' hp hK;simp only[vop,hv];exact this
   .exact h'.elim
  obtain⟨g,a,b,h3,h4⟩:=PZ aA hG (hG.evs Gds.nil f) (av args) h (λo e=>hy ⟨o,e⟩) hK;exact GN h3 h4
 case ext x =>
  cases x
  case mapUpdate mk m k v=>exact act _ (T_ ak hG h) λ_ h=>h
  case delete mk m k=>exact False.elim h
  case mapEntry mk z m k=>exact False.elim h
  case entryStore m s v=>exact False.elim h
  case copy size a b=>exact False.elim h
  case unsafeStr e a n=>exact act _ (R_ ak hG h) λ_ h=>h
  case strBytes e a=>exact act _ (Cg ak hG h) λ_ h=>h
  case rangeMap a=>exact Oo hG h hK
  case nextMap a=>exact Q2p hG h hK
  case rangeStr a=>exact Ov hG h hK
  case nextStr a=>exact Q19 hG h hK
  all_goals exact h.elim
 all_goals exact h.elim
theorem Gam.frz (hG:Gam P B F pl tb s env U) (o:Nat):∃ B' F',GBase B F U B' F' U/\Gam P B' F' pl tb (s.frz o) env U:=by
 unfold St.frz;split
 .rename_i ty k xs nl ho;have fin:∀ {B' F':Heap},Gam P B' F' pl tb ⟨s.env,oset s.own o .dead,s.nx⟩ env U->KC B' (.list k) xs [pl o]->Gam P B' F' pl tb ⟨SVs.frz o k xs s.env,Q5s o k xs s.own,s.nx⟩ env U:=λ{B' F'} h hk=>by
   have e1:∀ d,Qk (Q5s o k xs s.own) d=(Qk (oset s.own o .dead) d).frz o k xs:=λd=>by
    rw[Q3s,Qo];by_cases e:d=o
    .rw[z7 e,z7 e];rfl
    .rw[z6 e,z6 e]
   have lv:∀ d,(Qk (Q5s o k xs s.own) d).live=(Qk (oset s.own o .dead) d).live:=λd=>by rw[e1,OB.q1y]
   refine⟨h.bf,h.le,SRs.frz hk _ _ h.env,λd=>?_,λd i h1 h2=>?_,λd d' i aK h1 h2=>?_,h.free⟩
   .simp only[e1];exact(h.obj d).frz hk
   .simp only[lv] at h1;exact h.fresh d i h1 h2
   .simp only[lv] at h1 h2;exact h.sep d d' i aK h1 h2
  have ao:=hG.obj o;rw[ho] at ao;rcases ao with⟨_,hx,hp⟩|⟨_,i,cap,c,t,hp,cf,hg,hlen,cn⟩
  .exact⟨B,F,.of hG.bf (.refl _),fin (hG.drop o) ⟨_,rfl,.inl ⟨hx,hp⟩⟩⟩
  .obtain⟨g1,g2⟩:=hG.freeze (o:=o) (i:=i) (by rw[ho];rfl) (by rw[hp];rfl);refine⟨_,_,g1,fin g2 ⟨_,rfl,.inr ⟨i,0,cap,c,⟨k.size,ty⟩,true,t,hp,cf,by rw[Heap.q0k];exact hg,rfl,by have:=zq k.size cf;omega,?_⟩⟩⟩;rw[xt];exact cn.mono λ_ _ e=>KC.mono g1.b e
 .exact⟨B,F,.of hG.bf (.refl _),hG⟩
theorem GRel.frzs {B0 F0 D0:Heap}:∀ (l:List Nat) {s:St},GRel P B0 F0 D0 s env U->GRel P B0 F0 D0 (s.frzs l) env U
 |[],_,h=>h
 |o::r,s,⟨B,F,pl,tb,hB,hG⟩=>by obtain⟨B',F',g1,g2⟩:=hG.frz o;exact GRel.frzs r ⟨B',F',pl,tb,hB.trans g1,g2⟩
end
theorem RB {j:Nat}{f:Nat->Prop}:∀ {n i:Nat},Ol (j:Int) f n i->i<=j->j<i+n->f j
 |0,i,_,h1,h2=>by omega
 |n+1,i,h,h1,h2=>by
  rcases zl i j with h3|h3
  .exact RB h.2 h3 (by omega)
  .have:j=i:=by omega
   subst this;exact h.1 rfl
theorem Q1j {o:VOp}{len i:Nat}{f:Nat->VOp}(h:Z26 o=some (len,i,f)) {n:Nat}:(∃ size x,f n=.indexAddrArr len size x (.const (.int .i64 (Int.ofNat n))))\/∃ agg size x,f n=.indexArr len agg size x (.const (.int .i64 (Int.ofNat n))):=by
 unfold Z26 at h;split at h
 .cases h;exact .inl ⟨_,_,rfl⟩
 .cases h;exact .inr ⟨_,_,_,rfl⟩
 .cases h
theorem Q4c {o:VOp}{len i:Nat}{f:Nat->VOp}(h:Z26 o=some (len,i,f)) {S:VSpecs}{env:Env}{U:Heap}{k:IntKind}{n:Nat}(he:Q4 env (.tmp i)=.int k (n:Int)) {R:Value->Heap->Prop}(hv:vop S (f n) env U R):vop S o env U R:=by
 have hc:Q4 env (.const (.int .i64 (Int.ofNat n)))=.int .i64 (n:Int):=rfl;unfold Z26 at h;split at h
 .rename_i len size x t;cases h;change Z8 (Q6 _ (Q4 env) U) _ at hv;change Z8 (Q6 _ (Q4 env) U) _;simp only[Q6,he,hc] at hv |-
  grind
 .rename_i len agg size x t;cases h;change Z8 (Q6 _ (Q4 env) U) _ at hv;change Z8 (Q6 _ (Q4 env) U) _;simp only[Q6,he,hc] at hv |-
  grind
 .cases h
theorem Cs {C:Cx}(aA:COk P C) {B0 F0 D0:Heap}{s:St}{env:Env}{U:Heap}(hR:GRel P B0 F0 D0 s env U) {o:VOper}{K:St->Prop}(h:Z37 C o s K) {R:Env->Heap->Prop}(hK:∀ s' ai U',K s'->GRel P B0 F0 D0 s' ai U'->R ai U') :
  Z8 (Xb env o.guard) λb=>vif b (vop (Q3 P) o.op env U λv U'=>R (XV env o.dst v) U') (R (XV env o.dst undef) U):=by
 unfold Z37 at h;split at h
 .rename_i hg;rw[hg];refine⟨λ_=>?_,λe=>by cases e⟩
  replace hR:=hR.frzs (Q7b C (o.dst.getD 0) o.op (gev [] s.env) s.own)
  generalize s.frzs (Q7b C (o.dst.getD 0) o.op (gev [] s.env) s.own)=s at h hR;obtain⟨B,F,pl,tb,hB,hG⟩:=hR;unfold Z67 at h;split at h
  .rename_i len i f rz;split at h
   .rename_i k j hj;obtain⟨h1,h2,h3⟩:=h;obtain⟨n,rfl⟩:=zu h1;have hn:n<len:=by omega
    have h4:=RB h3 (Nat.zero_le n) (by omega);have he:=J5 hj (hG.evs (Gds.nil (tb:=tb)) (.tmp i));split at h4
    .rename_i cs v c_;obtain⟨k1,k2⟩:=Jg h4
     replace k1:=J8 k1
     have hv:=Sz (C:=C) aA.cs hG Gds.nil (o:=f n) (raw:=C.raw.contains (o.dst.getD 0)) (cs:=cs) (v:=v) (by
      rw[<-c_];obtain⟨size,x,hf⟩|⟨agg,size,x,hf⟩:=Q1j rz<;>rw[hf];rfl;rfl) (k2 λg hg=>by cases hg) λu hu=>hK _ _ _ k1 ⟨B,F,pl,tb,hB,hG.put o.dst hu⟩
     exact Q4c rz he hv
    .exact h4.elim
   .exact h.elim
  unfold Z4z at h;split at h
  .rename_i c a b bw;split at h
   .rename_i v hv;obtain⟨u,h1,h2⟩:=NS hG Gds.nil hv;rw[bw];show Z8 (Q6 (.pick c a b) (Q4 env) U) _;rw[h1];exact hK _ _ _ (J8 h) ⟨B,F,pl,tb,hB,hG.put o.dst h2⟩
   .exact h.elim
  .rename_i vt;cases hq:Q3e o.op with
   |true =>
    rw[hq] at h;simp only[zj] at h;split at h
    .rename_i cs v c_;obtain⟨h1,h2⟩:=Jg h
     replace h1:=J8 h1
     refine Sz (C:=C) aA.cs hG Gds.nil (raw:=C.raw.contains (o.dst.getD 0)) (cs:=cs) (v:=v) ?_ (h2 λg hg=>by cases hg) λu hu=>hK _ _ _ h1 ⟨B,F,pl,tb,hB,hG.put o.dst hu⟩;rw[<-c_];cases ho:o.op<;>first|rfl|(rw[ho] at hq;cases hq)
    .exact h.elim
   |false =>
    rw[hq] at h;simp only[zJ] at h;split at h
    .rename_i bw;split at h
     .rename_i kk vk _;obtain⟨h1,h2⟩:=Q26 hG (C.off+o.dst.getD 0) kk vk;rw[bw];change R (XV env o.dst (.map (some U.n))) (U.push (.obj (.map [] 0) true));exact hK _ _ _ h ⟨B,F,_,tb,GX hB (Dead.push _ _),h1.put o.dst h2⟩
     .rename_i ik _;obtain⟨h1,h2⟩:=Q5t hG (C.off+o.dst.getD 0) ik;rw[bw];change R (XV env o.dst (.map (some U.n))) (U.push (.obj (.map [] 0) true));exact hK _ _ _ h ⟨B,F,_,tb,GX hB (Dead.push _ _),h1.put o.dst h2⟩
     .exact h.elim
    .rename_i bw;cases jG:Fm C (o.dst.getD 0) o.op (gev [] s.env) with
     |true =>rw[jG] at h;simp only[zj] at h;exact Q0d hG h λv s' B' F' pl' tb' u U' h1 hd h2 h3=>hK _ _ _ h1 ⟨B',F',pl',tb',hB.trans hd,h2.put o.dst h3⟩
     |false =>rw[jG] at h;simp only[zJ] at h;exact Q45 aA hG h λv s' B' F' pl' tb' u U' h1 hd h2 h3=>hK _ _ _ h1 ⟨B',F',pl',tb',hB.trans hd,h2.put o.dst h3⟩
 .rename_i j want hg;obtain⟨B,F,pl,tb,hB,hG⟩:=hR;rw[hg];split at h
  .exact h.elim
  .rename_i gs s' dy;obtain⟨tb',bg,cZ,b,hw,bJ,b7⟩:=Y2 hG dy;rw[hw];refine⟨λe=>?_,λe=>?_⟩
   .have fX:Gds tb' gs:=λg hg=>⟨bJ e g hg,cZ g hg⟩;have fin:∀ {v u},SR P B pl tb' v u->SR P B pl tb' (.grd gs (Hz v)) u:=λ{v u} hs=>by
     simp only[SR]
     grind [TE]
    split at h
    .rename_i c a b' bw;split at h
     .rename_i v hv;obtain⟨u,h1,h2⟩:=NS bg fX hv;rw[bw];show Z8 (Q6 (.pick c a b') (Q4 env) U) _;rw[h1];exact hK _ _ _ (J8 h) ⟨B,F,pl,tb',hB,bg.put o.dst (fin h2)⟩
     .exact h.elim
    .split at h
     .rename_i cs v c_;obtain⟨h1,h2⟩:=Jg h
      replace h1:=J8 h1
      exact Sz aA.cs bg fX c_ (h2 (bJ e)) λu hu=>hK _ _ _ h1 ⟨B,F,pl,tb',hB,bg.put o.dst (fin hu)⟩
     .split at h
      .rename_i c v jH;obtain⟨h1,h2⟩:=Jg h
       replace h1:=J8 h1
       refine FK aA.cs bg fX (d:=C.off+o.dst.getD 0) jH (h2 (bJ e) c (by simp)) λu U' B' F' pl' k1 k2 k3=>hK _ _ _ h1 ⟨B',F',pl',tb',hB.trans k1,k2.put o.dst ?_⟩;simp only[SR];refine⟨⟨cZ,?_⟩,λ_=>k3,(by grind)⟩;obtain⟨k,xs,rfl⟩:=Ff jH;trivial
      .exact h.elim
   .have fin:∀ v,SR P B pl tb' (.grd gs (Hz v)) undef:=λv=>by
     simp only[SR];obtain⟨g,hg,aK⟩:=b7 e;exact⟨⟨cZ,TD v⟩,λhall=>absurd (hall g hg) aK,λ_=>trivial⟩
    split at h
    .split at h
     .exact hK _ _ _ (J8 h) ⟨B,F,pl,tb',hB,bg.put o.dst (fin _)⟩
     .exact h.elim
    .split at h
     .exact hK _ _ _ (J8 (Jg h).1) ⟨B,F,pl,tb',hB,bg.put o.dst (fin _)⟩
     .split at h
      .rename_i c v jH;refine hK _ _ _ (J8 (Jg h).1) ⟨B,F,_,tb',hB,(bg.make (C.off+o.dst.getD 0) .dead undef bg.le (λ_ _ _ _ _=>rfl) trivial (λi hl _=>by cases hl)).put o.dst ?_⟩;simp only[SR];obtain⟨g,hg,aK⟩:=b7 e;refine⟨⟨cZ,?_⟩,λhall=>absurd (hall g hg) aK,λ_=>trivial⟩;obtain⟨k,xs,rfl⟩:=Ff jH;trivial
      .exact h.elim
theorem Q1u {C:Cx}(aA:COk P C) {B0 F0 D0:Heap}{s:St}{env:Env}{U:Heap}(hR:GRel P B0 F0 D0 s env U) {o:VOper}{K:St->Prop}(h:gop C o s K) {R:Env->Heap->Prop}(hK:∀ s' ai U',K s'->GRel P B0 F0 D0 s' ai U'->R ai U') :
  Z8 (Xb env o.guard) λb=>vif b (vop (Q3 P) o.op env U λv U'=>R (XV env o.dst v) U') (R (XV env o.dst undef) U):=by
 unfold gop at h;split at h
 .rename_i t ht;have pR:=hR;obtain⟨B,F,pl,tb,hB,hG⟩:=hR;rw[VP hG ht];cases t with
  |true =>simp only[zj] at h;exact Cs aA pR (o:=⟨o.dst,o.op,none⟩) h hK
  |false =>simp only[zJ] at h;exact⟨(λe=>by cases e),λ_=>hK _ _ _ h ⟨B,F,pl,tb,hB,hG.put o.dst (by simp[SR])⟩⟩
 .exact Cs aA hR h hK
theorem FG {B0 F0 D0:Heap}{s s':St}{env:Env}{U:Heap}(hR:GRel P B0 F0 D0 s env U) {d:Nat}(h:Q7r d s=some s'):GRel P B0 F0 D0 s' env U:=by
 unfold Q7r at h;split at h
 .rename_i o off hd;cases hz:Nat.beq off 0 with
  |false=>rw[hz] at h;cases h
  |true =>
   rw[hz] at h;simp only[zj] at h;have hz:off=0:=zC hz;subst hz;split at h
   .rename_i l _ ho;simp only[zY] at h;subst h;obtain⟨B,F,pl,tb,hB,hG⟩:=hR;have ao:=hG.obj o;rw[ho] at ao;obtain⟨i,c,e,t,e1,e2,e3,_⟩:=ao;obtain⟨k1,k2⟩:=hG.freeze (o:=o) (i:=i) (by rw[ho];rfl) (by rw[e1];rfl);have h1:=hG.env.getD d undef;rw[hd] at h1;have sr:SR P (B.ins U i hG.leB.1) pl tb (.cp l 0) (env.getD d undef):=by
     simp only[SR] at h1 |-;obtain⟨b,q1,q2⟩:=h1;rw[e1] at q1;obtain rfl:i=b:=by simpa using q1
     refine⟨i,c,e,true,t,?_,q2,SRs.mono k1.b (λ_ _ h=>h) _ _ e3⟩;rw[Heap.q0k];exact e2
    have:=k2.put (some d) sr;refine⟨_,_,pl,tb,hB.trans k1,?_⟩;have e2:XV env (some d) (env.getD d undef)=env:=by
     show env.set d _=env;rcases zl d env.length with h|h
     .simp_all
     .rw[List.set_eq_of_length_le h]
    rw[e2] at this;exact this
   .cases h
 .cases h
theorem I2 {B0 F0 D0:Heap}{raw:List Nat}{s s':St}{env:Env}{U:Heap}(hR:GRel P B0 F0 D0 s env U) {d:Nat}(h:Q8d raw d s=some s'):GRel P B0 F0 D0 s' env U:=by
 unfold Q8d at h;split at h
 .rename_i r hr;split at h
  .rename_i kk vk m ho;simp only[zY] at h;subst h;obtain⟨B,F,pl,tb,hB,hG⟩:=hR;have ao:=hG.obj (r % 1000);rw[ho] at ao;obtain⟨i,es,clock,e1,e2,e3⟩:=ao;obtain⟨k1,k2⟩:=hG.freeze (o:=r % 1000) (i:=i) (by rw[ho];rfl) (by rw[e1];rfl);refine⟨_,_,pl,tb,hB.trans k1,k2.bf,k2.le,k2.env,λj=>?_,λj b hl hi=>?_,λj j' b aK hl bY=>?_,k2.free⟩
   .simp only[Qo];by_cases hj:j=r % 1000
    .subst hj;rw[z7 rfl];exact⟨i,es,clock,_,e1,by rw[Heap.q0k];exact e2,e3.mono k1.b⟩
    .rw[z6 hj];have:=k2.obj j;simp only[Qo,z6 hj] at this;exact this
   .simp only[Qo] at hl;by_cases hj:j=r % 1000
    .rw[z7 hj] at hl;cases hl
    .exact k2.fresh j b (by simpa [Qo,z6 hj] using hl) hi
   .simp only[Qo] at hl bY;by_cases hj:j=r % 1000
    .rw[z7 hj] at hl;cases hl
    .by_cases cR:j'=r % 1000
     .rw[z7 cR] at bY;cases bY
     .exact k2.sep j j' b aK (by simpa [Qo,z6 hj] using hl) (by simpa [Qo,z6 cR] using bY)
  .cases h
 .cases h
theorem Q0h {C:Cx}{B0 F0 D0:Heap}{s:St}{env:Env}{U:Heap}(hR:GRel P B0 F0 D0 s env U) {d:Option Nat}{K:St->Prop}(h:Z32 C d K s):∃ s2,K s2/\GRel P B0 F0 D0 s2 env U:=by
 unfold Z32 at h;split at h
 .exact⟨s,h,hR⟩
 .rename_i d;cases hb:C.spl.contains d with
  |false=>rw[hb] at h;exact⟨s,h,hR⟩
  |true =>
   rw[hb] at h;simp only[zj] at h;split at h
   .rename_i t ht;obtain⟨B,F,pl,tb,hB,hG⟩:=hR;have he:=Y1 ht (hG.env.getD d undef);have bq:∀ v,SR P B pl tb v (env.getD d undef)->GRel P B0 F0 D0 (s.put (some d) v) env U:=λv hv=>by
     have:=hG.put (some d) hv;refine⟨B,F,pl,tb,hB,?_⟩;have e2:XV env (some d) (env.getD d undef)=env:=by
      show env.set d _=env;rcases zl d env.length with h|h
      .rw[ze,z8 h];simp
      .rw[List.set_eq_of_length_le h]
     rw[e2] at this;exact this
    have sr:SR P B pl tb (.grd [] (.val .bo t)) (env.getD d undef):=by simp only[SR];exact⟨⟨(λg hg=>by cases hg),trivial⟩,(λ_=>by rw[he];simp[KC]),λ⟨g,hg,_⟩=>by cases hg⟩
    cases hc:C.raw.contains (3000000+d) with
    |true =>
     rw[hc] at h;cases t with
     |true=>exact⟨_,h,bq _ sr⟩
     |false=>exact⟨_,h,bq _ sr⟩
    |false =>
     rw[hc] at h;cases t with
     |true=>exact⟨_,h.1 rfl,bq _ sr⟩
     |false=>exact⟨_,h.2 rfl,bq _ sr⟩
   .split at h
    .rename_i ik x r hx hr;obtain⟨B,F,pl,tb,hB,hG⟩:=hR;have he:=J5 hx (hG.env.getD d undef);obtain⟨h1,h2,h3⟩:=h;obtain⟨n,rfl⟩:=zu (show 0<=x by omega);have h4:=RB h3 (by omega) (by omega);refine⟨_,h4,B,F,pl,tb,hB,?_⟩;have:=hG.put (some d) (v:=.val (.i ik) (n:Int)) (u:=env.getD d undef) (by rw[he];simp[SR,KC]);have e2:XV env (some d) (env.getD d undef)=env:=by
      show env.set d _=env;rcases zl d env.length with h|h
      .rw[ze,z8 h];simp
      .rw[List.set_eq_of_length_le h]
     rw[e2] at this;exact this
    .grind [FG,I2]
theorem D9 {C:Cx}(aA:COk P C) {B0 F0 D0:Heap}:∀ (ops:List VOper) {s:St}{env:Env}{U:Heap},GRel P B0 F0 D0 s env U->∀ {K:St->Prop},Z38 C ops s K->∀ {R:Env->Heap->Prop},(∀ s' ai U',K s'->GRel P B0 F0 D0 s' ai U'->R ai U')->HS (Q3 P) ops env U R
 |[],s,env,U,hR,_K,h,_R,hK=>hK s env U h hR
 |_o::r,_s,_env,_σ,hR,_K,h,_R,hK=>Q1u (R:=λenv U=>HS (Q3 P) r env U _R) aA hR h λ_ _ _ h1 h2=>by obtain⟨s2,k1,k2⟩:=Q0h h2 h1;exact D9 aA r k2 k1 hK
theorem Q38 {S:VSpecs}{l:List DOper}{rest:List DSeg}{env:Env}{U:Heap}{K:Env->Heap->Prop}(h:l.all (λo=>!(o.kind==2)&&!(o.op.kind==2))=true) (hv:HS S (l.map dv) env U λenv U=>Du S rest env U K):Du S (.alts [l]::rest) env U K:=by
 intro ops ho;obtain rfl:=x6.1 ho;have key:∀ (l:List DOper) (env:Env) (pend:List (Nat×(Heap->Prop))) (K':Env->Heap->Prop),l.all (λo=>!(o.kind==2)&&!(o.op.kind==2))=true->HS S (l.map dv) env U K'->Jx S l env [U] U pend K':=by
  intro l;induction l with
  |nil=>intro env pend K' _ h;exact h
  |cons o rest ih =>
   intro env pend K' hk h;simp only[zO,z1,Bool.not_eq_true',xg] at hk;obtain⟨⟨bD,aB⟩,hr⟩:=hk;have hr:rest.all (λo=>!(o.kind==2)&&!(o.op.kind==2))=true:=by simpa using hr
   simp only[xe,HS,dv] at h;simp only[Jx];cases hw:Xb env o.guard with
   |none=>rw[hw] at h;exact h.elim
   |some b =>
    rw[hw] at h;obtain⟨ht,hf⟩:=h;refine⟨λe=>?_,λe=>?_⟩
    .have ht:=ht e;obtain⟨p,hp,j7⟩:∃ p,Q6 o.op (Q4 env) U=some p/\HS S (rest.map dv) (XV env o.dst p.1) p.2 K':=by
      have:=ht;unfold vop at this;split at this
      .rename_i f bK heq;rw[heq] at aB;exact absurd rfl aB
      .rename_i f bK heq;rw[heq] at aB;exact absurd rfl aB
      .rename_i x heq;rw[heq] at aB;exact absurd rfl aB
      .cases dt:Q6 o.op (Q4 env) U with
       |none=>rw[dt] at this;exact this.elim
       |some p=>rw[dt] at this;exact⟨p,rfl,this⟩
     have hq:p.2=U:=(by grind [H6]);rw[hq] at j7;rw[z6 bD];split
     .rw[hp];refine⟨λZ hτ=>?_,ih _ _ _ hr j7⟩;have:Z=U:=by
       grind
      subst this;show Z8 (Q6 o.op (Q4 env) Z) _;rw[hp];rfl
     .rw[hp];exact ih _ _ _ hr j7
    .simp_all
 have:=key ops env [] _ h hv;have mono:∀ (l:List DOper) (env:Env) (hs:List Heap) (Z:Heap) (pend:List (Nat×(Heap->Prop))) (A B:Env->Heap->Prop),l.all (λo=>!(o.kind==2)&&!(o.op.kind==2))=true->(∀ e s,A e s->B e s)->Jx S l env hs Z pend A->Jx S l env hs Z pend B:=by
  intro l;induction l with
  |nil=>intro env hs Z pend A B _ ln h;exact ln _ _ h
  |cons o rest ih =>
   intro env hs Z pend A B hk ln h;simp only[zO,z1,Bool.not_eq_true',xg] at hk;obtain⟨⟨bD,aB⟩,hr⟩:=hk;have hr:rest.all (λo=>!(o.kind==2)&&!(o.op.kind==2))=true:=by simpa using hr
   simp only[Jx] at h |-;cases hw:Xb env o.guard with
   |none=>rw[hw] at h;exact h.elim
   |some b =>
    rw[hw] at h;obtain⟨ht,hf⟩:=h;refine⟨λe=>?_,λe=>?_⟩
    .have ht:=ht e;rw[z6 bD] at ht |-;by_cases pq:o.kind=1
     .rw[z7 pq] at ht |-;cases dt:Q6 o.op (Q4 env) Z with
      |none=>rw[dt] at ht;exact ht.elim
      |some p=>rw[dt] at ht;exact⟨ht.1,ih _ _ _ _ _ _ hr ln ht.2⟩
     .rw[z6 pq] at ht |-;cases dt:Q6 o.op (Q4 env) Z with
      |none=>rw[dt] at ht;exact ht.elim
      |some p=>rw[dt] at ht;exact ih _ _ _ _ _ _ hr ln ht
    .grind
 exact mono ops env _ _ _ _ _ h (λe s hs=>⟨e,s,.refl _ _ _,hs⟩) this
theorem JN {op:VOp}{ev:Operand->Value}{u:Value}{Z Z':Heap}(h:Q6 op ev Z=some (u,Z')):We op ev u Z:=by unfold We;rw[h];rfl
theorem ZW (s:St) (d:Option Nat) (v:SV):(s.put d v).own=s.own:=by cases d<;>rfl
theorem Vy {s s':St}{j:Nat}{want:Bool}{gs:List Gd}(h:PD s j want=some (gs,s')):s'.own=s.own:=by
 unfold PD at h
 grind
theorem N9 {C:Cx}{B F:Heap}{pl:Nat->Value}{tb:Nat->Option Bool}{s:St}{env:Env}{U:Heap}(hG:Gam P B F pl tb s env U) {o:DOper}{K:St->Prop}(h:gd1 C o s K) :
  ∃ b,Xb env o.guard=some b/\(b=true->∃ u s' tb',Q6 o.op (Q4 env) U=some (u,U)/\K s'/\s'.own=s.own/\Gam P B F pl tb' s' (XV env o.dst u) U)/\(b=false->∃ s' tb',K s'/\s'.own=s.own/\Gam P B F pl tb' s' (XV env o.dst undef) U):=by
 unfold gd1 at h;split at h
 .rename_i hg;rw[hg];refine⟨true,rfl,λ_=>?_,λe=>by cases e⟩;split at h
  .rename_i c a b bw;split at h
   .rename_i v hv;obtain⟨u,h1,h2⟩:=NS hG Gds.nil hv;exact⟨u,_,tb,by rw[bw];exact h1,J8 h,ZW _ _ _,hG.put o.dst h2⟩
   .exact h.elim
  .split at h
   .rename_i cs v c_;obtain⟨h1,h2⟩:=Jg h;obtain⟨u,h3,h4⟩:=Ay (hG.evs (Gds.nil (tb:=tb))) (λ_=>rfl) hG.leB hG.obj c_ (h2 λg hg=>by cases hg);exact⟨u,_,tb,h3,J8 h1,ZW _ _ _,hG.put o.dst h4⟩
   .exact h.elim
 .rename_i j want hg;rw[hg];split at h
  .exact h.elim
  .rename_i gs s' dy;obtain⟨tb',bg,cZ,b,hw,bJ,b7⟩:=Y2 hG dy;refine⟨b,hw,λe=>?_,λe=>?_⟩
   .have fX:Gds tb' gs:=λg hg=>⟨bJ e g hg,cZ g hg⟩;have fin:∀ {v u},SR P B pl tb' v u->SR P B pl tb' (.grd gs (Hz v)) u:=λ{v u} hs=>by
     simp only[SR]
     grind [TE]
    split at h
    .rename_i c a b' bw;split at h
     .rename_i v hv;obtain⟨u,h1,h2⟩:=NS bg fX hv;exact⟨u,_,tb',by rw[bw];exact h1,J8 h,(ZW _ _ _).trans (Vy dy),bg.put o.dst (fin h2)⟩
     .exact h.elim
    .split at h
     .rename_i cs v c_;obtain⟨h1,h2⟩:=Jg h;obtain⟨u,h3,h4⟩:=Ay (bg.evs fX) (λ_=>rfl) bg.leB bg.obj c_ (h2 (bJ e));exact⟨u,_,tb',h3,J8 h1,(ZW _ _ _).trans (Vy dy),bg.put o.dst (fin h4)⟩
     .exact h.elim
   .have fin:∀ v,SR P B pl tb' (.grd gs (Hz v)) undef:=λv=>by
     simp only[SR];obtain⟨g,hg,aK⟩:=b7 e;exact⟨⟨cZ,TD v⟩,λhall=>absurd (hall g hg) aK,λ_=>trivial⟩
    split at h
    .split at h
     .exact⟨_,tb',J8 h,(ZW _ _ _).trans (Vy dy),bg.put o.dst (fin _)⟩
     .exact h.elim
    .split at h
     .exact⟨_,tb',J8 (Jg h).1,(ZW _ _ _).trans (Vy dy),bg.put o.dst (fin _)⟩
     .exact h.elim
theorem I9 {bs:List OB}{q:Prop}(h:Q25 bs q):(∀ b∈bs,b.wf)/\q:=by
 induction bs with
 |nil=>exact⟨(λb hb=>by cases hb),h⟩
 |cons b r ih =>obtain⟨h1,h2⟩:=h;obtain⟨h3,h4⟩:=ih h2;exact(by simp_all)
mutual
theorem O2 {d nt:Nat}:∀ (v:SV),v.ret 0=true->(v.ren d nt).ret 0=true
 |.val k x,h=>h
 |.nilS,_|.nilP,_|.nilM,_|.nilF,_=>rfl
 |.lst j,h|.box j _,h|.map j,h=>by simp[SV.ret,Nat.blt] at h
 |.agg l,h=>by simp only[SV.ren,SV.ret] at h |-;exact TT l h
 |.tup l,h=>by simp only[SV.ren,SV.ret] at h |-;exact TT l h
 |.any,h|.bid _ _,h|.grd _ _,h|.sub _ _ _ _,h|.elp _ _ _ _,h|.rop _ _ _ _,h|.cp _ _,h|.fn _ _ _,h|.pf _ _ _ _,h=>by cases h
theorem TT {d nt:Nat}:∀ (v:List SV),SVs.ret 0 v=true->SVs.ret 0 (SVs.ren d nt v)=true
 |[],_=>rfl
 |s::ss,h=>by simp only[SVs.ret,SVs.ren,z1] at h |-;exact⟨O2 s h.1,TT ss h.2⟩
end
theorem Y7 {C:Cx}(aA:COk P C) {B F:Heap}{pl:Nat->Value}{tb:Nat->Option Bool}{s:St}{env:Env}{U:Heap}(hG:Gam P B F pl tb s env U) {d:Nat}{f:SV}{args:List SV}{K:List Nat->SV->St->Prop}(h:Ba C d f args s K) {fV:Value}{vs:List Value}
  (hf:SR P U WB XC f fV) (ha:SRs P U WB XC args vs):∃ g a b u U' ts v s' pl',fV=.func (.func g) a b/\(VCalled P g (a.toList++vs++b.toList) U λu' aJ=>u'=u/\aJ=U')/\K ts v s'/\Gam P B F pl' tb s' env U'/\SR P B pl' tb v u/\(ts=[]->U'=U/\pl'=pl/\s'=s)/\U.Le U'/\Dead U U'/\FrL ts s s' pl pl' U U':=by
 unfold Ba at h;split at h
 .rename_i c v bs heq;cases hb:(v.ret bs.length&&(bs.all OB.ret&&(Nat.blt 0 C.nt&&(bs.all OB.isL&&U_ v)))) with
  |false=>rw[hb] at h;exact h.elim
  |true =>
   rw[hb] at h;obtain⟨h1,h2⟩:=h;obtain⟨h3,h4⟩:=I9 h2;simp only[z1] at hb;obtain⟨hv,lz,ec,hl,cF⟩:=hb;obtain⟨g,a,b,e,_,hx⟩:=JQ aA.cs hf ha heq hv lz h1;have cY:=AZ (P:=P) U hv cF lz hl (λb hb=>by have:=h3 b hb;cases b<;>exact this);by_cases bL:bs=[]
   .subst bL;obtain⟨k1,k2⟩:=cY.flat hv;refine⟨g,a,b,_,_,_,_,_,pl,e,hx hl cF,h4,?_,?_,λ_=>⟨k1,rfl,rfl⟩,cY.1.1,cY.1.2,λq _=>⟨rfl,rfl,λ_ _ _=>by rw[k1]⟩⟩
    .rw[k1];exact hG
    .exact SR.retd (B:=hNil) (pl:=pl) (tb:=XC) (n:=0) (λj hj=>by omega) _ _ (O2 v hv) (by grind [SR.ren])
   .obtain⟨pl',h5,h6,h7⟩:=cY.gamF (nt:=C.nt) (d:=d) (by simpa [zB] using ec) hG hv lz;refine⟨g,a,b,_,_,_,_,_,pl',e,hx hl cF,h4,h5,h6,(by simp_all),cY.1.1,cY.1.2,λq hq=>h7 q λj hj e=>hq ?_⟩;exact zL.2 ⟨j,x8.2 hj,e.symm⟩
 .exact h.elim
def Iv:VOp->Bool
 |.callF ..|.callV ..=>true
 |.ext (.rangeMap _)|.ext (.nextMap _)|.ext (.rangeStr _)|.ext (.nextStr _)=>true
 |_=>false
theorem Z1n {C:Cx}{B F:Heap}{pl:Nat->Value}{tb:Nat->Option Bool}{s:St}{env:Env}{U:Heap}(hG:Gam P B F pl tb s env U) {d:Nat}{o:VOp}{K:SV->St->Prop}(h:gn C d o (gev [] s.env) s K) (hc:Iv o=false) :
  NOk P B F tb o (Q4 env) env U K (Zr d o (gev [] s.env)) s pl:=by
 have ak:=hG.evs (Gds.nil (tb:=tb));cases o
 case alloc t z=>exact Q33 ak hG h
 case box t x=>exact Q9i ak hG h
 case buildSlice e z n ps=>exact D6 ak hG h
 case makeSlice e b z l c=>exact Sw ak hG h
 case append e b x y=>exact IN ak hG h
 case store size a x=>exact Q1c ak hG h
 case callF=>cases hc
 case callV=>cases hc
 case ext x =>
  cases x
  case mapUpdate mk m k v=>exact T_ ak hG h
  case delete mk m k=>exact False.elim h
  case mapEntry mk z m k=>exact False.elim h
  case entryStore m s v=>exact False.elim h
  case copy size a b=>exact False.elim h
  case unsafeStr e a n=>exact R_ ak hG h
  case strBytes e a=>exact Cg ak hG h
  case rangeMap=>cases hc
  case nextMap=>cases hc
  case rangeStr=>cases hc
  case nextStr=>cases hc
  all_goals exact h.elim
 all_goals exact h.elim
theorem AA {o:VOp}{ev:Operand->Value}{U U':Heap}{u:Value}(hm:SH o=true) (h:Q6 o ev U=some (u,U')):U.Le U':=by
 have push:∀ b:Blk,U.Le (U.push b):=λb=>(Heap.Le.refl U).push b;cases o<;>first|(cases hm;done)|skip
 case alloc t z=>obtain⟨rfl,rfl⟩:=Zo h;exact push _
 case box t x =>
  simp only[Q6] at h
  grind
 case buildSlice e z n ps =>
  simp only[Q6] at h
  grind
 case makeSlice e b z l c =>
  simp only[Q6] at h
  grind
def stM:MK:=.agg [.int .i64,.int .i64]
def Z11:Option XJ->Value
 |some e=>e.2.1
 |none=>.int .i64 0
def LkE (es bG:List XJ):Prop:=(es.all (λe=>Jl stM e.1)=true->bG.all (λe=>Jl stM e.1)=true)/\(es.all (λe=>Jl stM e.1)=true->∀ k,Jl stM k=true->Z11 (Z0 k bG)=Z11 (Z0 k es))
theorem LkE.trans {a b c:List XJ}(h:LkE a b) (h':LkE b c):LkE a c:=⟨λk=>h'.1 (h.1 k),λk x hx=>(h'.2 (h.1 k) x hx).trans (h.2 k x hx)⟩
theorem Q1o {mk:MK}{z:Value}(h:stP mk z=true):mk=stM/\z=.int .i64 0:=by
 unfold stP at h;split at h
 .exact⟨rfl,by rw[eq_of_beq h]⟩
 .cases h
def OY (U:Heap) (own:Own) (pl:Nat->Value) (Q:Heap->Prop):Option Nat->Prop
 |none=>∀ Z,U.Le Z->Q Z
 |some q=>(Qk own (q / 2)).live=true/\∃ i b,Oid (pl (q / 2)) i/\U.get i=some b/\(∀ Z,Z.get i=some b->Q Z)/\(q % 2=1->∃ es c wr,b=.obj (.map es c) wr/\∀ Z bG c',LkE es bG->Z.get i=some (.obj (.map bG c') wr)->Q Z)
structure DSt (hs:List Heap) (U:Heap) (pend:List (Nat×(Heap->Prop))) (hl chg:Nat) (A R:List (Nat×Option Nat)) (own:Own) (pl:Nat->Value):Prop where
 len:hs.length=hl
 same:∀ j Z,chg<=j->hs[j]?=some Z->Z=U
 pend:∀ c∈pend,c.1<hl\/∃ r∈R,c.1<=r.1/\OY U own pl c.2 r.2
 fr:∀ j Z q i,hs[j]?=some Z->J4 A j q=true->(Qk own q).live=true->Oid (pl q) i->Z.get i=U.get i
theorem Vu {r:Nat}{U:Heap}:∀ {l:List (Nat×(Heap->Prop))},(∀ c∈l,r<=c.1->c.2 U)->W7 r U l
 |[],_=>trivial
 |c::l,h=>⟨h c (by simp),Vu λc' cQ=>h c' (by simp[cQ])⟩
theorem Wn {hs:List Heap}{U' Z:Heap}{j:Nat}(h:(hs++[U'])[j]?=some Z):(j<hs.length/\hs[j]?=some Z)\/(j=hs.length/\Z=U'):=by
 grind
theorem Lw {a:Nat×Option Nat}{A:List (Nat×Option Nat)}{j q:Nat}(h:J4 (a::A) j q=true) (hj:j<=a.1):(∃ t,a.2=some t/\t≠q)/\J4 A j q=true:=by
 simp only[J4,zO,z1,zo,zB] at h;refine⟨?_,h.2⟩;rcases h.1 with h|h
 .omega
 .split at h
  .rename_i t ht;exact⟨t,ht,λe=>by subst e;simp at h⟩
  .cases h
theorem DSt.stay {hs:List Heap}{U:Heap}{pend:List (Nat×(Heap->Prop))}{hl chg:Nat}{A R:List (Nat×Option Nat)}{own:Own}{pl:Nat->Value}(h:DSt hs U pend hl chg A R own pl) :
  W7 hs.length U pend/\DSt (hs++[U]) U pend (hl+1) chg A R own pl:=by
 have hr:∀ c∈pend,∀ r∈R,OY U own pl c.2 r.2->c.2 U:=λc _ r _ aq=>by
  unfold OY at aq;split at aq
  .exact aq U (.refl _)
  grind
 refine⟨Vu λc hc hle=>?_,⟨by simp[h.len],λj Z hj ht=>?_,λc hc=>?_,λj Z q i ht hu hl hi=>?_⟩⟩
 .rcases h.pend c hc with h1|⟨r,h1,_,h2⟩
  .rw[h.len] at hle;omega
  .exact hr c hc r h1 h2
 .rcases Wn ht with⟨_,h1⟩|⟨_,h1⟩
  .exact h.same j Z hj h1
  .exact h1
 .rcases h.pend c hc with h1|h1
  .exact .inl (by omega)
  .exact .inr h1
 .rcases Wn ht with⟨_,h1⟩|⟨_,rfl⟩
  .exact h.fr j Z q i h1 hu hl hi
  .rfl
theorem DSt.write {hs:List Heap}{U U':Heap}{pend:List (Nat×(Heap->Prop))}{hl chg:Nat}{A R:List (Nat×Option Nat)}{s s':St}{pl pl':Nat->Value}(h:DSt hs U pend hl chg A R s.own pl) {T:Nat}(hf:Fr T s s' pl pl' U U') {mk ext:Bool}(hm:mk=true->U.Le U')
  (hE:ext=true->(Qk s'.own T).live=true/\pl' T=pl T/\∃ i es c bG c',pl T=.map (some i)/\U.get i=some (.obj (.map es c) true)/\U'.get i=some (.obj (.map bG c') true)/\LkE es bG)
  (hc:((mk&&Er R hl T)||C7 R hl T||(ext&&Q9d R hl T))=true) (bj:0<hl):W7 hs.length U' pend/\DSt (hs++[U']) U' pend (hl+1) hl ((hl-1,some T)::A) R s'.own pl':=by
 have hr:∀ Q:Heap->Prop,∀ r∈R,hl<=r.1->OY U s.own pl Q r.2->OY U' s'.own pl' Q r.2:=λQ r kI bI aq=>by
  have hq:∀ q,r.2=some q->q / 2=T->q % 2=1/\ext=true:=λq hq e=>by
   subst e;simp only[zo,z1,Er,C7,Q9d] at hc;rcases hc with (⟨_,hc⟩|hc)|⟨he,hc⟩
   .have:=zh.1 hc r kI;rw[hq] at this;simp only[zo,zB,Nat.beq_refl,xW,zt,or_false] at this;omega
   .have:=zh.1 hc r kI;rw[hq] at this;simp only[zo,zB,Nat.beq_refl,xW,zt,or_false] at this;omega
   .have:=zh.1 hc r kI;rw[hq] at this;simp only[zo,zB,Nat.beq_refl,xW,zt,false_or] at this
    grind [Nat.eq_of_beq_eq_true]
  cases e:r.2 with
  |none =>
   rw[e] at aq;have cU:mk=true:=by
    simp only[zo,z1,C7,Q9d] at hc;rcases hc with (⟨hc,_⟩|hc)|⟨_,hc⟩
    .exact hc
    .have:=zh.1 hc r kI;rw[e] at this;simp only[zo,zB,zt,or_false] at this;omega
    .have:=zh.1 hc r kI;rw[e] at this;simp only[zo,zB,zt,or_false] at this;omega
   exactλZ ht=>aq Z ((hm cU).trans ht)
  |some q =>
   rw[e] at aq;obtain⟨k1,i,b,k2,k3,k4⟩:=aq;by_cases mX:q / 2=T
   .obtain⟨ho,he⟩:=hq q e mX;obtain⟨g1,g2,i',es,c,bG,c',g3,g4,g5,g6⟩:=hE he;obtain⟨k5,k6⟩:=k4;obtain⟨vu,c0,wr,rfl,k7⟩:=k6 ho;rw[mX] at k1 k2;have hi:i=i':=Q1q (by rw[g3];rfl) k2;subst hi;rw[g4] at k3;cases k3;refine⟨by rw[mX];exact g1,i,_,by rw[mX,g2];exact k2,g5,λZ hτ=>k7 Z _ _ g6 hτ,λ_=>⟨_,_,_,rfl,λZ tY vw hl hτ=>k7 Z _ _ (g6.trans hl) hτ⟩⟩
   .obtain⟨f1,f2,f3⟩:=hf (q / 2) mX;exact⟨by rw[f1];exact k1,i,b,by rw[f2];exact k2,by rw[f3 k1 i k2];exact k3,k4⟩
 have now:∀ Q:Heap->Prop,∀ r,OY U' s'.own pl' Q r->Q U':=λQ r aq=>by
  unfold OY at aq;split at aq
  .exact aq U' (.refl _)
  grind
 refine⟨Vu λc hc hle=>?_,⟨by simp[h.len],λj Z hj ht=>?_,λc hc=>?_,λj Z q i ht hu bY hi=>?_⟩⟩
 .rw[h.len] at hle;rcases h.pend c hc with h1|⟨r,h1,h2,h3⟩
  .omega
  grind
 .rcases Wn ht with⟨h1,_⟩|⟨_,h1⟩
  .rw[h.len] at h1;omega
  .exact h1
 .rcases h.pend c hc with h1|⟨r,h1,h2,h3⟩
  .exact .inl (by omega)
  grind
 .rcases Wn ht with⟨h1,h2⟩|⟨_,rfl⟩
  .rw[h.len] at h1;obtain⟨⟨t,ht,tZ⟩,dg⟩:=Lw hu (by simp only;omega);obtain rfl:=osj ht;obtain⟨f1,f2,f3⟩:=hf q (Ne.symm tZ);rw[f1] at bY;rw[f2] at hi;rw[f3 bY i hi];exact h.fr j Z q i h2 dg bY hi
  .rfl
theorem HC {ts:List Nat}{hl j q:Nat}{A:List (Nat×Option Nat)}(h:J4 (ts.map (λt=>(hl,some t))++A) j q=true) (hj:j<=hl):q∉ts/\J4 A j q=true:=by simp only[J4,List.all_append,z1] at h |-;refine⟨λhm=>?_,h.2⟩;have:=zh.1 h.1 (hl,some q) (zL.2 ⟨q,hm,rfl⟩);simp only[zo,zB,Nat.beq_refl,xW,zt,or_false] at this;omega
theorem DSt.call {hs:List Heap}{U U':Heap}{pend:List (Nat×(Heap->Prop))}{hl chg:Nat}{A R:List (Nat×Option Nat)}{s s':St}{pl pl':Nat->Value}(h:DSt hs U pend hl chg A R s.own pl) (hle:U.Le U') {Ts:List Nat}(hf:FrL Ts s s' pl pl' U U') (bj:0<hl) :
  W7 hs.length U' pend/\DSt (hs++[U']) U' pend (hl+1) hl (Ts.map (λt=>(hl-1,some t))++A) (R.map λr=>(r.1,none)) s'.own pl':=by
 have hr:∀ Q r,OY U s.own pl Q r->∀ Z,U'.Le Z->Q Z:=λQ r aq Z ht=>by
  unfold OY at aq;split at aq
  .exact aq Z (hle.trans ht)
  .obtain⟨_,i,b,_,h2,h3,_⟩:=aq;exact h3 Z (ht.2 _ _ (hle.2 _ _ h2))
 refine⟨Vu λc hc hle=>?_,⟨by simp[h.len],λj Z hj ht=>?_,λc hc=>?_,λj Z q i ht hu bY hi=>?_⟩⟩
 .rcases h.pend c hc with h1|⟨r,h1,_,h2⟩
  .rw[h.len] at hle;omega
  .exact hr _ _ h2 _ (.refl _)
 .rcases Wn ht with⟨h1,_⟩|⟨_,h1⟩
  .rw[h.len] at h1;omega
  .exact h1
 .rcases h.pend c hc with h1|⟨r,h1,h2,h3⟩
  .exact .inl (by omega)
  .exact .inr ⟨(r.1,none),zL.2 ⟨r,h1,rfl⟩,h2,hr _ _ h3⟩
 .rcases Wn ht with⟨h1,h2⟩|⟨_,rfl⟩
  .rw[h.len] at h1;obtain⟨hq,dg⟩:=HC hu (by omega);obtain⟨f1,f2,f3⟩:=hf q hq;rw[f1] at bY;rw[f2] at hi;rw[f3 bY i hi];exact h.fr j Z q i h2 dg bY hi
  .rfl
theorem DSt.writeD {hs:List Heap}{U U':Heap}{pend:List (Nat×(Heap->Prop))}{hl chg:Nat}{A R:List (Nat×Option Nat)}{s s':St}{pl pl':Nat->Value}(h:DSt hs U pend hl chg A R s.own pl) {Ts:List Nat}(hf:FrL Ts s s' pl pl' U U') {mk:Bool}(hm:mk=true->U.Le U')
  (hc:Q0j mk R hl Ts=true) (bj:0<hl):W7 hs.length U' pend/\DSt (hs++[U']) U' pend (hl+1) hl (Ts.map (λt=>(hl-1,some t))++A) R s'.own pl':=by
 have hr:∀ Q:Heap->Prop,∀ r∈R,hl<=r.1->OY U s.own pl Q r.2->OY U' s'.own pl' Q r.2:=λQ r kI bI aq=>by
  have kJ:=zh.1 hc r kI;have kJ:(match r.2 with|some q=>Ts.all (λt=>!(Nat.beq (q / 2) t))|none=>mk)=true:=by rw[zo,zB] at kJ;exact kJ.resolve_left (by omega)
  cases e:r.2 with
  |none =>rw[e] at aq kJ;exactλZ ht=>aq Z ((hm kJ).trans ht)
  |some q =>
   rw[e] at aq kJ;obtain⟨k1,i,b,k2,k3,k4⟩:=aq;obtain⟨f1,f2,f3⟩:=hf (q / 2) λhq=>by have:=zh.1 kJ (q / 2) hq;simp at this
   exact⟨by rw[f1];exact k1,i,b,by rw[f2];exact k2,by rw[f3 k1 i k2];exact k3,k4⟩
 have now:∀ Q:Heap->Prop,∀ r,OY U' s'.own pl' Q r->Q U':=λQ r aq=>by
  unfold OY at aq;split at aq
  .exact aq U' (.refl _)
  grind
 refine⟨Vu λc hc hle=>?_,⟨by simp[h.len],λj Z hj ht=>?_,λc hc=>?_,λj Z q i ht hu bY hi=>?_⟩⟩
 .rw[h.len] at hle;rcases h.pend c hc with h1|⟨r,h1,h2,h3⟩
  .omega
  grind
 .rcases Wn ht with⟨h1,_⟩|⟨_,h1⟩
  .rw[h.len] at h1;omega
  .exact h1
 .rcases h.pend c hc with h1|⟨r,h1,h2,h3⟩
  .exact .inl (by omega)
  grind
 .rcases Wn ht with⟨h1,h2⟩|⟨_,rfl⟩
  .rw[h.len] at h1;obtain⟨hq,dg⟩:=HC hu (by omega);obtain⟨f1,f2,f3⟩:=hf q hq;rw[f1] at bY;rw[f2] at hi;rw[f3 bY i hi];exact h.fr j Z q i h2 dg bY hi
  .rfl
theorem LQ {hl d j q:Nat}{A:List (Nat×Option Nat)}(h:J4 ((hl,none)::A) j q=true):J4 ([d].map (λt=>(hl,some t))++A) j q=true:=by simp only[J4,zO,z1,zo,zt,or_false,xe,List.map_nil,xr,xy] at h |-;exact⟨.inl h.1,h.2⟩
theorem DSt.frozen {hs:List Heap}{U:Heap}{pend:List (Nat×(Heap->Prop))}{hl chg m d:Nat}{A R:List (Nat×Option Nat)}{own:Own}{pl:Nat->Value}(h:DSt hs U pend hl chg ([d].map (λt=>(m,some t))++A) R own pl):DSt hs U pend hl chg ((m,none)::A) R own pl :=
 ⟨h.len,h.same,h.pend,λj Z q i ht hu=>h.fr j Z q i ht (LQ hu)⟩
theorem TI {ts:List Nat}{m j:Nat}{A:List (Nat×Option Nat)}(h:H8 (ts.map (λt=>(m,some t))++A) j=true):H8 A j=true:=by simp only[H8,List.all_append,z1] at h;exact h.2
theorem Sf {a:Nat×Option Nat}{j:Nat}{A:List (Nat×Option Nat)}(h:H8 (a::A) j=true):H8 A j=true:=by simp only[H8,zO,z1] at h;exact h.2
theorem Cj {C:Cx}{f:SV}{args:List SV}{cs:List Prop}{v:SV}(h:Q29 C f args=some (cs,v)):∃ c ty k xs nl,UO C.cs f args=some (c,.lst 0,[.lst ty k xs nl])/\cs=[c,nl=true->xs=[]]/\v=.val (.list k) xs/\k.flat=true/\0<C.nt:=by
 unfold Q29 at h;split at h
 .rename_i heq;split at h
  .rename_i k xs nl;cases hc:(k.flat&&Nat.blt 0 C.nt) with
   |false=>rw[hc] at h;cases h
   |true =>rw[hc] at h;obtain⟨rfl,rfl⟩:=Zo h;simp only[z1,zB] at hc;exact(by grind)
  .cases h
 .cases h
theorem F3 {b:OB}(h:b.here=true):b.live=true:=by cases b<;>first|rfl|cases h
theorem Vf {B F:Heap}{pl:Nat->Value}{tb:Nat->Option Bool}{s:St}{env:Env}{U:Heap}(hG:Gam P B F pl tb s env U) {o:VOp}{q:Nat}(h:G2 o (gev [] s.env) s.own=some q) {u:Value}{σ2:Heap}(hv:Q6 o (Q4 env) U=some (u,σ2)) :
  (Qk s.own (q / 2)).live=true/\∃ i b,Oid (pl (q / 2)) i/\U.get i=some b/\(∀ Z,Z.get i=some b->Q6 o (Q4 env) Z=some (u,Z))/\(q % 2=1->∃ es c wr,b=.obj (.map es c) wr/\∀ Z bG c',LkE es bG->Z.get i=some (.obj (.map bG c') wr)->Q6 o (Q4 env) Z=some (u,Z)):=by
 have two:∀ q,2*q / 2=q:=λq=>by omega
 have mY:∀ q,(2*q+1) / 2=q:=λq=>by omega
 have odd:∀ {q} {X:Prop},2*q % 2=1->X:=λ{q X} h=>by omega
 unfold G2 at h;split at h
 .rename_i agg size a;have ha:=hG.evs (Gds.nil (tb:=tb)) a;have key:∀ q i off,(Qk s.own q).live=true->Oid (pl q) i->Q4 env a=.pointer (some ⟨i,off,none⟩)->(Qk s.own q).live=true/\∃ i b,Oid (pl q) i/\U.get i=some b/\∀ Z,Z.get i=some b->Q6 (.load agg size a) (Q4 env) Z=some (u,Z):=λq i off hl hi he=>by
   simp only[Q6,he] at hv;cases hb:U.get i with
   |none=>rw[hb] at hv;cases hv
   |some b =>
    refine⟨hl,i,b,hi,hb,λZ ht=>?_⟩;rw[hb] at hv;simp only[Q6,he,ht];cases b with
    |obj o wr=>cases hv
    |cells c e wr t =>
     simp only at hv |-;split at hv
     .obtain⟨rfl,rfl⟩:=Zo hv;rfl
     .cases hv
  split at h
  .rename_i q' off hx;rw[hx] at ha;simp only[SR] at ha;obtain⟨b,h1,h2⟩:=ha;cases hh:(Qk s.own q').here with
   |false=>rw[hh] at h;cases h
   |true =>rw[hh] at h;obtain rfl:=osj h;obtain⟨x1,y1,y2,y3,y4,y5⟩:=key q' b off (F3 hh) (by rw[h1];rfl) h2;exact⟨by rw[two];exact x1,y1,y2,by rw[two];exact y3,y4,y5,odd⟩
  .rename_i q' i off sz hx;rw[hx] at ha;simp only[SR] at ha;obtain⟨b,len,cap,h1,h2,h3,h4⟩:=ha;cases hh:(Qk s.own q').here with
   |false=>rw[hh] at h;cases h
   |true =>rw[hh] at h;obtain rfl:=osj h;obtain⟨x1,y1,y2,y3,y4,y5⟩:=key q' b _ (F3 hh) (by rw[h1];rfl) h4;exact⟨by rw[two];exact x1,y1,y2,by rw[two];exact y3,y4,y5,odd⟩
  .cases h
 .rename_i mk z x y;cases bk:stP mk z with
  |false=>rw[bk] at h;cases h
  |true =>
   rw[bk] at h;simp only[zj] at h;obtain⟨rfl,rfl⟩:=Q1o bk;split at h
   .rename_i q' hx;split at h
    .rename_i kk vk l ho;obtain rfl:=osj h;have ha:=hG.evs (Gds.nil (tb:=tb)) x;rw[hx] at ha;simp only[SR] at ha;have ao:=hG.obj q';rw[ho] at ao;obtain⟨id,es,c,h2,h3,_⟩:=ao;have aG:∀ (Z:Heap) bG c' wr,Z.get id=some (.obj (.map bG c') wr)->Z.mapAt id=some (bG,c',wr):=λZ bG c' wr hτ=>by simp[Heap.mapAt,hτ]
     simp only[Q6,ZA,ha.1,h2,aG _ _ _ _ h3] at hv;refine⟨by rw[mY,ho];rfl,id,_,by rw[mY,h2];rfl,h3,λZ hτ=>?_,λ_=>⟨es,c,true,rfl,λZ bG c' hl hτ=>?_⟩⟩
     .simp only[Q6,ZA,ha.1,h2,aG _ _ _ _ hτ]
      grind
     .simp only[Q6,ZA,ha.1,h2,aG _ _ _ _ hτ];split at hv
      .rename_i iu;split at hv
       .rename_i iv;rw[z7 iu,z7 (hl.1 iv)];have b9:=hl.2 iv _ iu;cases he:Z0 (Q4 env y) es with
        |some e =>
         rw[he] at hv b9;obtain⟨rfl,rfl⟩:=Zo hv;cases hm:Z0 (Q4 env y) bG with
         |some e'=>rw[hm] at b9;simp only[Z11] at b9;simp[b9]
         |none=>rw[hm] at b9;simp only[Z11] at b9;simp[<-b9]
        |none =>
         rw[he] at hv b9;obtain⟨rfl,rfl⟩:=Zo hv;cases hm:Z0 (Q4 env y) bG with
         |some e'=>rw[hm] at b9;simp only[Z11] at b9;simp[b9]
         |none=>rfl
       .cases hv
      .cases hv
    .cases h
   .cases h
 .rename_i sz x lo hi;split at h
  .rename_i q' hx;split at h
   .rename_i ty k xs nl ho;cases nl with
    |true=>cases h
    |false =>
     obtain rfl:=osj h;have ha:=hG.evs (Gds.nil (tb:=tb)) x;rw[hx] at ha;simp only[SR] at ha;have ao:=hG.obj q';rw[ho] at ao;rcases ao with⟨h0,_⟩|⟨_,i,cap,c,t,h3,h4,h5,h6,h7⟩
     .cases h0
     .refine⟨by rw[two,ho];rfl,i,_,by rw[two,h3];rfl,h5,λZ hτ=>?_,odd⟩;simp only[Q6,ha.1,h3] at hv |-;cases e1:X7 (Q4 env) lo 0 with
      |none=>rw[e1] at hv;cases hv
      |some a =>
       cases e2:X7 (Q4 env) hi xs.length with
       |none=>rw[e1,e2] at hv;cases hv
       |some b =>
        rw[e1,e2] at hv;simp only[YY,h5] at hv;simp only[YY,hτ];split at hv
        .simp_all
        .cases hv
   .cases h
  .cases h
 .cases h
theorem Dc {r:Nat}{U:Heap}:∀ {l:List (Nat×(Heap->Prop))},W7 r U l->∀ {c},c∈l->r<=c.1->c.2 U
 |c::l,h,c',hc,hr=>by
  rcases zG.1 hc with rfl|hc
  .exact h.1 hr
  .exact Dc h.2 hc hr
theorem D7 {B F:Heap}{pl:Nat->Value}{tb:Nat->Option Bool}{s:St}{env:Env}{U:Heap}(hG:Gam P B F pl tb s env U) {gs:List Gd}(hg:Gds tb gs) {o:VOp}(h:Q8z o (gev gs s.env)=true) {u:Value}{σ2:Heap}(hv:Q6 o (Q4 env) U=some (u,σ2)) :
  ∀ Z,B.Le Z->Q6 o (Q4 env) Z=some (u,Z):=by
 unfold Q8z at h;split at h
 .rename_i agg size a;have ha:=hG.evs hg a;have key:∀ i off,(∃ b,B.get i=some b)->Q4 env a=.pointer (some ⟨i,off,none⟩)->∀ Z,B.Le Z->Q6 (.load agg size a) (Q4 env) Z=some (u,Z):=λi off ⟨b,hb⟩ he Z hτ=>by
   simp only[Q6,he,hG.leB.2 _ _ hb] at hv;simp only[Q6,he,hτ.2 _ _ hb]
   grind
  split at h
  .rename_i k l i off hx;rw[hx] at ha;simp only[SR] at ha
   grind
  .rename_i l off hx;rw[hx] at ha;simp only[SR] at ha
   grind
  .cases h
 .cases h
theorem Q1b {C:Cx}{B F:Heap}{pl:Nat->Value}{tb:Nat->Option Bool}{s:St}{env:Env}{U:Heap}(hG:Gam P B F pl tb s env U) {d:Nat}{o:VOp}{K:SV->St->Prop}(h:gn C d o (gev [] s.env) s K) (hc:Iv o=false) :
  ∃ u U' pl' v s',Q6 o (Q4 env) U=some (u,U')/\K v s'/\(Gam P B F pl' tb s' env U'/\Fr (Zr d o (gev [] s.env)) s s' pl pl' U U')/\SR P B pl' tb v u /\
  (Cz o=true->(Qk s'.own (Zr d o (gev [] s.env))).live=true/\pl' (Zr d o (gev [] s.env))=pl (Zr d o (gev [] s.env))/\∃ i es c bG c',pl (Zr d o (gev [] s.env))=.map (some i)/\U.get i=some (.obj (.map es c) true)/\U'.get i=some (.obj (.map bG c') true)/\LkE es bG):=by
 cases he:Cz o with
 |false =>obtain⟨u,U',pl',v,s',h1,h2,h3,h4⟩:=Z1n hG h hc;exact(by grind)
 |true =>
  unfold Cz at he;split at he
  .rename_i mk z m kx;obtain⟨rfl,rfl⟩:=Q1o he;exact False.elim h
  .cases he
def Xj (S:VSpecs):List DOper->Env->List Heap->Heap->List (Nat×(Heap->Prop))->(Env->Heap->Prop)->Prop
 |[],env,_,U,_,K=>K env U
 |o::rest,env,hs,U,pend,K=>Z8 (Xb env o.guard) λb =>
   vif b (if o.kind=2 then H3 (λR=>vop S o.op env U R) λv U'=>W7 hs.length U' pend/\Xj S rest (XV env o.dst v) (hs++[U']) U' pend K
     else if o.kind=1 then Z8 (Q6 o.op (Q4 env) U) λp=>(∀ Z∈hs.drop o.kmin,We o.op (Q4 env) p.1 Z) /\
      Xj S rest (XV env o.dst p.1) hs U (if hs.length<=o.kmax then (o.kmax,We o.op (Q4 env) p.1)::pend else pend) K
     else Z8 (Q6 o.op (Q4 env) U) λp=>Xj S rest (XV env o.dst p.1) hs U pend K)
    (if o.kind=2 then W7 hs.length U pend/\Xj S rest (XV env o.dst undef) (hs++[U]) U pend K else Xj S rest (XV env o.dst undef) hs U pend K)
theorem Rf {α:Type}{o:Option α}{f g:α->Prop}(h:Z8 o f) (t_:∀ a,f a->g a):Z8 o g:=by
 cases o with
 |none=>exact h.elim
 |some a=>exact t_ a h
theorem K1 {S:VSpecs}{K:Env->Heap->Prop}:∀ {ops:List DOper}{env:Env}{hs:List Heap}{U:Heap}{pend:List (Nat×(Heap->Prop))},Xj S ops env hs U pend K->Jx S ops env hs U pend K
 |[],_,_,_,_,h=>h
 |o::r,env,hs,U,pend,h=>by
  simp only[Xj] at h;simp only[Jx];refine Rf h λb h=>⟨λe=>?_,λe=>?_⟩
  .have h:=h.1 e;split at h
   .rename_i hk;rw[z7 hk];obtain⟨v,U',h1,h2,h3⟩:=h;exact .inl ⟨v,U',h1,h2,K1 h3⟩
   .rename_i hk;rw[z6 hk];split at h
    .rename_i bD;rw[z7 bD];exact Rf h λp h=>⟨h.1,K1 h.2⟩
    .rename_i bD;rw[z6 bD];exact Rf h λp h=>K1 h
  .have h:=h.2 e;split at h
   .rename_i hk;rw[z7 hk];exact⟨h.1,K1 h.2⟩
   .rename_i hk;rw[z6 hk];exact K1 h
theorem Qw {C:Cx}(aA:COk P C) (bc:C.xs=[]) {B0 F0 D0:Heap}:∀ (ops:List DOper),(∀ o∈ops,o.kind=o.op.kind)->∀ {s:St}{env:Env}{U:Heap}{B F:Heap}{pl:Nat->Value}{tb:Nat->Option Bool},GBase B0 F0 D0 B F U->Gam P B F pl tb s env U->∀ {hl chg:Nat}{A Rd:List (Nat×Option Nat)}{hs:List Heap}{pend pd:List (Nat×(Heap->Prop))},DSt hs U pd hl chg A Rd s.own pl->(∀ c∈pend,(∀ Z,B.Le Z->c.2 Z)\/c∈pd)->(∀ j Z,hs[j]?=some Z->H8 A j=true->B.Le Z)->chg<=hl->0<hl ->
  ∀ {K:St->Prop},WT C ops s hl chg A Rd K->∀ {R:Env->Heap->Prop},(∀ s' ai U',K s'->GRel P B0 F0 D0 s' ai U'->R ai U')->Xj (Q3 P) ops env hs U pend R
 |[],_,s,env,U,B,F,pl,tb,hB,hG,_,_,_,_,_,_,_,_,_,_,_,_,K,h,R,hK=>hK s env U h ⟨B,F,pl,tb,hB,hG⟩
 |o0::r,ia,s,env,U,B,F,pl,tb,hB,hG,hl,chg,A,Rd,hs,pend,pd,hD,hp,bL,eB,bj,K,h,R,hK=>by
  have eg:∀ {n:Nat}{Z:Heap},B.Le Z->W7 n Z pd->W7 n Z pend:=λ{n Z} hb hv=>Vu λc hc hn=>(by grind [Dc]);have snoc:∀ {Z:Heap}{A':List (Nat×Option Nat)},B.Le Z->(∀ j,H8 A' j=true->H8 A j=true)->∀ j Z',(hs++[Z])[j]?=some Z'->H8 A' j=true->B.Le Z':=(by grind);have bU:∀ o∈r,o.kind=o.op.kind:=(by simp_all);have kK:=ia o0 xj;unfold WT at h;split at h
  .rename_i bk;have hw:=VP hG bk;simp only[Xj];rw[hw];refine⟨λe=>(by cases e),λ_=>?_⟩;have bq:=hG.put o0.dst (show SR P B pl tb .any undef by simp[SR]);by_cases aB:o0.kind=2
   .rw[z7 aB] at h |-;obtain⟨k1,k2⟩:=hD.stay;exact⟨eg hG.leB k1,Qw aA bc r bU hB bq (by rw[ZW];exact k2) hp (snoc hG.leB λ_ h=>h) (by omega) (by omega) h hK⟩
   .rw[z6 aB] at h |-;exact Qw aA bc r bU hB bq (by rw[ZW];exact hD) hp bL eB bj h hK
  have bB:(Ox s.env o0).kind=(Ox s.env o0).op.kind:=by unfold Ox;split<;>exact kK
  have dO:Xj (Q3 P) (Ox s.env o0::r) env hs U pend R->Xj (Q3 P) (o0::r) env hs U pend R:=λhv=>by
   unfold Ox at hv;split at hv
   .rename_i bk;simp only[Xj] at hv |-;rw[VP hG bk];exact hv
   .exact hv
  refine dO ?_;clear dO;generalize Ox s.env o0=o at h bB |-
  replace h:=id h
  simp only[Xj];by_cases aB:o.kind=2
  .rw[z7 aB] at h
   have fin:∀ {u:Value}{U':Heap}{ts:List Nat}{v:SV}{s':St}{pl':Nat->Value},(∀ R',R' u U'->vop (Q3 P) o.op env U R')->WT C r (s'.put o.dst v) (hl+1) (bif ts.isEmpty then chg else hl) (ts.map (λt=>(hl-1,some t))++A) (bif ts.isEmpty then Rd else Rd.map λr=>(r.1,none)) K->Gam P B F pl' tb s' env U'->SR P B pl' tb v u->(ts=[]->U'=U/\pl'=pl/\s'=s)->U.Le U'->Dead U U'->FrL ts s s' pl pl' U U' ->
     H3 (λR=>vop (Q3 P) o.op env U R) λv U'=>W7 hs.length U' pend/\Xj (Q3 P) r (XV env o.dst v) (hs++[U']) U' pend R:=λ{u U' ts v s' pl'} bw mZ bg iB he hle hd cP=>by
    cases ts with
    |nil =>obtain⟨rfl,rfl,rfl⟩:=he rfl;obtain⟨k1,k2⟩:=hD.stay;exact⟨u,U',bw _ ⟨rfl,rfl⟩,eg bg.leB k1,Qw aA bc r bU (GX hB hd) (bg.put o.dst iB) (by rw[ZW];exact k2) hp (snoc bg.leB λ_ h=>h) (by grind) (by omega) mZ hK⟩
    |cons t ts =>obtain⟨k1,k2⟩:=hD.call hle cP bj;exact⟨u,U',bw _ ⟨rfl,rfl⟩,eg bg.leB k1,Qw aA bc r bU (GX hB hd) (bg.put o.dst iB) (by rw[ZW];exact k2) hp (snoc bg.leB λ_ h=>TI h) (by simp_all) (by omega) mZ hK⟩
   split at h
   .rename_i f args bw;split at h
    .rename_i hg;rw[hg];refine⟨λ_=>?_,λe=>by cases e⟩;rw[z7 aB];rw[bc] at h;simp only[QR] at h;obtain⟨g,a,b,u,U',e,v,s',pl',h1,h2,h3,h4,h5,h6,h7,h8,h9⟩:=Y7 aA hG h (show SR P U WB XC (.fn f [] []) (.func (.func f) #[] #[]) by simp only[SR,SRs];exact⟨[],[],rfl,rfl,rfl⟩) (hG.gcall Gds.nil args);obtain⟨rfl,rfl,rfl⟩:=(by simpa using h1:f=g/\#[]=a/\#[]=b);refine fin (u:=u) (U':=U') (λR' hr=>?_) h3 h4 h5 h6 h7 h8 h9;rw[bw];show VCalled P f (args.map (Q4 env)) U R';have:=h2.mono (R':=R') (by simp_all);simpa using this
    .rename_i j want hg;rw[hg];split at h
     .exact h.elim
     .rename_i gs s1 dy;obtain⟨tb',bg,cZ,b,hw,bJ,b7⟩:=Y2 hG dy;have a7:=Vy dy;rw[hw];split at h
      .rename_i cs v c_;cases cF:U_ v with
       |false=>rw[cF] at h;exact h.elim
       |true =>
       rw[cF] at h;simp only[zj] at h;obtain⟨h1,h2⟩:=Jg h;obtain⟨k1,k2⟩:=hD.stay;have kF:∀ x,DSt (hs++[U]) U pd (hl+1) chg A Rd (s1.put o.dst x).own pl:=(by grind [ZW]);refine⟨λe=>?_,λe=>?_⟩
       .rw[z7 aB];have fX:Gds tb' gs:=λg hg=>⟨bJ e g hg,cZ g hg⟩;have kL:∀ {v u},SR P B pl tb' v u->SR P B pl tb' (.grd gs (Hz v)) u:=λ{v u} hs=>by
         simp only[SR]
         grind [TE]
        simp only[gqc] at c_;split at c_
        .rename_i c v' heq;cases dq:v'.ret 0 with
         |false=>rw[dq] at c_;cases c_
         |true =>
          rw[dq] at c_;obtain⟨rfl,rfl⟩:=Zo c_;obtain⟨g,a,b',h3,h4,_⟩:=JQ aA.cs (show SR P U WB XC (.fn f [] []) (.func (.func f) #[] #[]) by simp only[SR,SRs];exact⟨[],[],rfl,rfl,rfl⟩) (bg.gcall fX args) heq dq rfl (h2 (bJ e) _ (by simp));obtain⟨rfl,rfl,rfl⟩:=(by simpa using h3:f=g/\#[]=a/\#[]=b');refine⟨UH WB v',U,?_,eg hG.leB k1,Qw aA bc r bU hB (bg.put o.dst (kL ?_)) (kF _) hp (snoc hG.leB λ_ h=>h) (by omega) (by omega) (J8 h1) hK⟩
          .rw[bw];show VCalled P f (args.map (Q4 env)) U _;have:=h4.mono (R':=λu U'=>u=UH WB v'/\U'=U) λu U' hr=>by
            obtain⟨rfl,hu⟩:=hr.flat dq
            grind [NA]
           simpa using this
          .exact SR.retd (λj hj=>by omega) _ _ dq (CP (P:=P) (pl:=WB) (m:=0) (λj hj=>by omega) v' dq cF)
        .cases c_
       .rw[z7 aB];obtain⟨g,cO,aK⟩:=b7 e;exact⟨eg hG.leB k1,Qw aA bc r bU hB (bg.put o.dst (by simp only[SR];exact⟨⟨cZ,TD v⟩,λhall=>absurd (hall g cO) aK,λ_=>trivial⟩)) (kF _) hp (snoc hG.leB λ_ h=>h) (by omega) (by omega) (J8 h1) hK⟩
      .split at h
       .rename_i cs v jH;obtain⟨c,ty,k,xs,nl,heq,rfl,rfl,hk,ec⟩:=Cj jH;obtain⟨h1,h2⟩:=Jg h;have frz:∀ {B' U':Heap},B'.Le U'->∀ j Z',(hs++[U'])[j]?=some Z'->H8 ((hl-1,none)::A) j=true->B'.Le Z':=λ{B' U'} hb j Z' hm hn=>by
         rcases Wn hm with⟨h1,_⟩|⟨_,rfl⟩
         .simp only[H8,zO,z1,zo,zB,Option.isSome_none,zt,or_false] at hn;have:=hD.len;omega
         .exact hb
        refine⟨λe=>?_,λe=>?_⟩
        .rw[z7 aB];have fX:Gds tb' gs:=λg hg=>⟨bJ e g hg,cZ g hg⟩;have iu:=h2 (bJ e) c (by simp);have iv:=h2 (bJ e) (nl=true->xs=[]) (by simp);have dy:Ba C (C.off+o.dst.getD 0) (.fn f [] []) (SZ s1.own (args.map (gev gs s1.env))) s1 (λts v' s'=>ts=[C.off+o.dst.getD 0]/\v'=.lst (C.off+o.dst.getD 0)/\s'=s1.make (C.off+o.dst.getD 0) (.lst ty k xs nl)):=by
          unfold Ba;rw[heq];dsimp only;have aj:(SV.ret [OB.lst ty k xs nl].length (.lst 0)&&([OB.lst ty k xs nl].all OB.ret&&(Nat.blt 0 C.nt&&([OB.lst ty k xs nl].all OB.isL&&U_ (.lst 0)))))=true:=by
           simp only[SV.ret,zT,zO,List.all_nil,xH,OB.ret,hk,Bool.true_and,OB.isL,U_];rw[z1]
           grind [Nat.blt_eq]
          rw[aj];simp only[zj,Q25,OB.wf];refine⟨iu,iv,?_,?_,?_⟩
          .simp[List.range_succ]
          .simp[SV.ren]
          .simp[St.makes]
         obtain⟨g,a,b',u,U',ts,v',s',pl',h3,h4,⟨rfl,rfl,rfl⟩,h5,h6,_,h7,h8,h9⟩:=Y7 aA bg dy (show SR P U WB XC (.fn f [] []) (.func (.func f) #[] #[]) by simp only[SR,SRs];exact⟨[],[],rfl,rfl,rfl⟩) (bg.gcall fX args);obtain⟨rfl,rfl,rfl⟩:=(by simpa using h3:f=g/\#[]=a/\#[]=b');obtain⟨B',F',m1,m2,m3⟩:=AS bg.bf hk h5 h6 h8;have cP:FrL [C.off+o.dst.getD 0] s ((s1.make (C.off+o.dst.getD 0) .dead).put o.dst (.grd gs (.val (.list k) xs))) pl pl' U U':=λq hq=>by
          obtain⟨f1,f2,f3⟩:=h9 q hq
          grind [ZW,N8]
         obtain⟨k1,k2⟩:=hD.call h7 cP bj;refine⟨u,U',?_,eg (m1.b.trans m2.leB) k1,Qw aA bc r bU (hB.trans m1) (m2.put o.dst ?_) k2.frozen (λc hc=>(hp c hc).imp (λh Z hτ=>h Z (m1.b.trans hτ)) id) (frz m2.leB) (by omega) (by omega) h1 hK⟩
         .rw[bw];show VCalled P f (args.map (Q4 env)) U _;simpa using h4
         .simp only[SR];exact⟨⟨cZ,trivial⟩,λ_=>m3,(by grind)⟩
        .rw[z7 aB];obtain⟨g,cO,aK⟩:=b7 e;have cP:FrL [C.off+o.dst.getD 0] s ((s1.make (C.off+o.dst.getD 0) .dead).put o.dst (.grd gs (.val (.list k) xs))) pl (XE pl (C.off+o.dst.getD 0) undef) U U:=λq hq=>by
          have dm:q≠C.off+o.dst.getD 0:=by simpa using hq
          refine⟨?_,by simp[XE,dm],λ_ _ _=>rfl⟩;rw[ZW,N8 _ _ _ dm,a7]
         obtain⟨k1,k2⟩:=hD.call (.refl U) cP bj;refine⟨eg hG.leB k1,Qw aA bc r bU hB ((bg.make (C.off+o.dst.getD 0) .dead undef bg.le (λ_ _ _ _ _=>rfl) trivial (λi hl _=>by cases hl)).put o.dst ?_) k2.frozen hp (frz hG.leB) (by omega) (by omega) h1 hK⟩;simp only[SR];exact⟨⟨cZ,trivial⟩,λhall=>absurd (hall g cO) aK,λ_=>trivial⟩
       .exact h.elim
   .rename_i f args bw;split at h
    .rename_i hg;rw[hg];refine⟨λ_=>?_,λe=>by cases e⟩;rw[z7 aB];obtain⟨g,a,b,u,U',e,v,s',pl',h1,h2,h3,h4,h5,h6,h7,h8,h9⟩:=Y7 aA hG h (hG.gfun Gds.nil f) (hG.gcall Gds.nil args);refine fin (u:=u) (U':=U') (λR' hr=>?_) h3 h4 h5 h6 h7 h8 h9;rw[bw];exact GN h1 (h2.mono (R':=R') (by simp_all))
    .exact h.elim
   .exact h.elim
   .exact h.elim
   .exact h.elim
   .exact h.elim
   .rename_i pS og pT mP kM kN;split at h
    .rename_i hg;rw[hg];refine⟨λ_=>?_,λe=>by cases e⟩;rw[z7 aB];have aC:Iv o.op=false:=by
      cases ho:o.op<;>first|rfl|(exact absurd ho (pS _ _))|(exact absurd ho (og _ _))|skip
      case ext x=>cases x<;>first|rfl|(exact absurd ho (pT _))|(exact absurd ho (mP _))|(exact absurd ho (kM _))|(exact absurd ho (kN _))
     cases jG:Fm C (o.dst.getD 0) o.op (gev [] s.env) with
     |true =>
      rw[jG] at h;simp only[zj] at h;cases hm:Q0j (SH o.op) Rd hl (Eu (C.off+o.dst.getD 0) o.op (gev [] s.env)) with
      |false=>rw[hm] at h;exact h.elim
      |true =>
       rw[hm] at h;simp only[zj] at h;obtain⟨u,U',pl',v,s',h1,h2,⟨h3,fW⟩,h4⟩:=TR (λx=>hG.evs (Gds.nil (tb:=tb)) x) hG h;have fJ:∀ R',R' u U'->vop (Q3 P) o.op env U R':=λR' hr=>by
        have:vop (Q3 P) o.op env U R'=Z8 (Q6 o.op (Q4 env) U) λp=>R' p.1 p.2:=by
         cases ho:o.op with
         |callF f a=>rw[ho] at aC;cases aC
         |callV f a=>rw[ho] at aC;cases aC
         |ext x =>
          cases x with
          |nextMap y=>rw[ho] at h1;cases h1
          |_=>rfl
         |_=>rfl
        rw[this,h1];exact hr
       obtain⟨k1,k2⟩:=hD.writeD fW (λcU=>AA cU h1) hm bj;exact⟨u,U',fJ _ ⟨rfl,rfl⟩,eg h3.leB k1,Qw aA bc r bU (GX hB (Ue h1)) (h3.put o.dst h4) (by rw[ZW];exact k2) hp (snoc h3.leB λ_ h=>TI h) (by omega) (by omega) h2 hK⟩
     |false =>
     rw[jG] at h;simp only[zJ] at h;cases hm:((SH o.op&&Er Rd hl (Zr (C.off+o.dst.getD 0) o.op (gev [] s.env)))||C7 Rd hl (Zr (C.off+o.dst.getD 0) o.op (gev [] s.env))||(Cz o.op&&Q9d Rd hl (Zr (C.off+o.dst.getD 0) o.op (gev [] s.env)))) with
     |false=>rw[hm] at h;exact h.elim
     |true =>
      rw[hm] at h;simp only[zj] at h;obtain⟨u,U',pl',v,s',h1,h2,⟨h3,fW⟩,h4,hE⟩:=Q1b hG h aC;have fJ:∀ R',R' u U'->vop (Q3 P) o.op env U R':=λR' hr=>by
       have:vop (Q3 P) o.op env U R'=Z8 (Q6 o.op (Q4 env) U) λp=>R' p.1 p.2:=by
        cases ho:o.op with
        |callF f a=>rw[ho] at aC;cases aC
        |callV f a=>rw[ho] at aC;cases aC
        |ext x =>
         cases x with
         |nextMap y=>rw[ho] at h1;cases h1
         |_=>rfl
        |_=>rfl
       rw[this,h1];exact hr
      obtain⟨k1,k2⟩:=hD.write fW (λcU=>AA cU h1) hE hm bj;exact⟨u,U',fJ _ ⟨rfl,rfl⟩,eg h3.leB k1,Qw aA bc r bU (GX hB (Ue h1)) (h3.put o.dst h4) (by rw[ZW];exact k2) hp (snoc h3.leB λ_ h=>Sf h) (by omega) (by omega) h2 hK⟩
    .exact h.elim
  .rw[z6 aB] at h;have kO:o.op.kind≠2:=by rw[<-bB];exact aB
   by_cases bD:o.kind=1
   .rw[z7 bD] at h
    have rd:∀ (rq:Option Nat),(∀ q,rq=some q->G2 o.op (gev [] s.env) s.own=some q)->(Nat.ble chg o.kmin||RN A o.kmin rq)=true->gd1 C o s (λs'=>WT C r s' hl chg A ((o.kmax,rq)::Rd) K) ->
      Z8 (Xb env o.guard) λb=>vif b (if o.kind=2 then H3 (λR=>vop (Q3 P) o.op env U R) λv U'=>W7 hs.length U' pend/\Xj (Q3 P) r (XV env o.dst v) (hs++[U']) U' pend R
       else if o.kind=1 then Z8 (Q6 o.op (Q4 env) U) λp=>(∀ Z∈hs.drop o.kmin,We o.op (Q4 env) p.1 Z) /\
        Xj (Q3 P) r (XV env o.dst p.1) hs U (if hs.length<=o.kmax then (o.kmax,We o.op (Q4 env) p.1)::pend else pend) R
       else Z8 (Q6 o.op (Q4 env) U) λp=>Xj (Q3 P) r (XV env o.dst p.1) hs U pend R)
      (if o.kind=2 then W7 hs.length U pend/\Xj (Q3 P) r (XV env o.dst undef) (hs++[U]) U pend R else Xj (Q3 P) r (XV env o.dst undef) hs U pend R):=λrq m8 hc h=>by
     obtain⟨b,hw,h1,h2⟩:=N9 hG h;rw[hw];have kP:DSt hs U pd hl chg A ((o.kmax,rq)::Rd) s.own pl:=⟨hD.len,hD.same,λc hc=>(hD.pend c hc).imp id (by simp_all),hD.fr⟩;refine⟨λe=>?_,λe=>?_⟩
     .obtain⟨u,s',tb',h3,h4,a7,h5⟩:=h1 e;rw[z6 aB,z7 bD,h3];refine⟨λZ hτ=>?_,?_⟩
      .obtain⟨j,hj⟩:=zW.1 hτ;rw[zR] at hj;rw[zo] at hc;rcases hc with hc|hc
       .have:=hD.same (o.kmin+j) Z (by have:=zx hc;omega) hj;subst this;exact JN h3
       .unfold RN at hc;split at hc
        .rename_i q;obtain⟨k1,i,bl,k2,k3,k4,k5⟩:=Vf hG (m8 q rfl) h3;have hu:J4 A (o.kmin+j) (q / 2)=true:=by
          simp only[J4,zh,zo,zB] at hc |-
          grind
         have:=hD.fr (o.kmin+j) Z (q / 2) i hj hu k1 k2
         grind [JN]
        .cases hc
      .by_cases hle:hs.length<=o.kmax
       .rw[z7 hle];refine Qw aA bc r bU hB h5 (A:=A) (Rd:=(o.kmax,rq)::Rd) (hl:=hl) (chg:=chg) (pd:=(o.kmax,We o.op (Q4 env) u)::pd) ?_ (λc hc=>?_) bL eB bj h4 hK
        .rw[a7];refine⟨hD.len,hD.same,λc hc=>?_,hD.fr⟩;rcases zG.1 hc with rfl|hc
         .refine .inr ⟨_,xj,zd _,?_⟩;cases rq with
          |none=>exactλZ hτ=>JN (R6 kO h3 hτ)
          |some q =>obtain⟨k1,i,bl,k2,k3,k4,k5⟩:=Vf hG (m8 q rfl) h3;exact⟨k1,i,bl,k2,k3,λZ ht=>JN (k4 Z ht),(by grind [JN])⟩
         .exact kP.pend c hc
        grind
       .rw[z6 hle];exact Qw aA bc r bU hB h5 (A:=A) (Rd:=(o.kmax,rq)::Rd) (hl:=hl) (chg:=chg) (pd:=pd) (by rw[a7];exact kP) hp bL eB bj h4 hK
     .obtain⟨s',tb',h4,a7,h5⟩:=h2 e;rw[z6 aB];exact Qw aA bc r bU hB h5 (by rw[a7];exact kP) hp bL eB bj h4 hK
    have ro:H8 A o.kmin=true->(∀ u,Q6 o.op (Q4 env) U=some (u,U)->(Xb env o.guard=some true)->∀ Z,B.Le Z->Q6 o.op (Q4 env) Z=some (u,Z))->gd1 C o s (λs'=>WT C r s' hl chg A Rd K) ->
      Z8 (Xb env o.guard) λb=>vif b (if o.kind=2 then H3 (λR=>vop (Q3 P) o.op env U R) λv U'=>W7 hs.length U' pend/\Xj (Q3 P) r (XV env o.dst v) (hs++[U']) U' pend R
       else if o.kind=1 then Z8 (Q6 o.op (Q4 env) U) λp=>(∀ Z∈hs.drop o.kmin,We o.op (Q4 env) p.1 Z) /\
        Xj (Q3 P) r (XV env o.dst p.1) hs U (if hs.length<=o.kmax then (o.kmax,We o.op (Q4 env) p.1)::pend else pend) R
       else Z8 (Q6 o.op (Q4 env) U) λp=>Xj (Q3 P) r (XV env o.dst p.1) hs U pend R)
      (if o.kind=2 then W7 hs.length U pend/\Xj (Q3 P) r (XV env o.dst undef) (hs++[U]) U pend R else Xj (Q3 P) r (XV env o.dst undef) hs U pend R):=λkQ bP h=>by
     obtain⟨b,hw,h1,h2⟩:=N9 hG h;rw[hw];refine⟨λe=>?_,λe=>?_⟩
     .obtain⟨u,s',tb',h3,h4,a7,h5⟩:=h1 e;have bP:=bP u h3 (by rw[hw,e]);rw[z6 aB,z7 bD,h3];refine⟨λZ hτ=>?_,?_⟩
      .obtain⟨j,hj⟩:=zW.1 hτ;rw[zR] at hj;refine JN (bP Z (bL _ Z hj ?_));simp only[H8,zh,zo,zB] at kQ |-
       grind
      refine Qw aA bc r bU hB h5 (A:=A) (Rd:=Rd) (hl:=hl) (chg:=chg) (pd:=pd) (by rw[a7];exact hD) (λc hc=>?_) bL eB bj h4 hK;split at hc
      .rcases zG.1 hc with rfl|hc
       .grind [JN]
       .exact hp c hc
      .exact hp c hc
     .obtain⟨s',tb',h4,a7,h5⟩:=h2 e;rw[z6 aB];exact Qw aA bc r bU hB h5 (by rw[a7];exact hD) hp bL eB bj h4 hK
    split at h
    .rename_i hg;cases hr:(Q8z o.op (gev [] s.env)&&H8 A o.kmin) with
     |true =>rw[hr] at h;rw[z1] at hr;exact ro hr.2 (λu hu _=>D7 hG Gds.nil hr.1 hu) h
     |false =>
     rw[hr] at h;simp only[zJ] at h;cases hb:(Nat.ble chg o.kmin||RN A o.kmin (G2 o.op (gev [] s.env) s.own)) with
     |false=>rw[hb] at h;exact h.elim
     |true =>rw[hb] at h;exact rd _ (λq hq=>hq) hb h
    .rename_i j want hg;cases hr:(Q1a s j want o.op&&H8 A o.kmin) with
     |true =>
      rw[hr] at h;rw[z1] at hr;obtain⟨hr,kQ⟩:=hr;refine ro kQ (λu hu hw=>?_) h;unfold Q1a at hr;split at hr
      .rename_i gs s1 dy;obtain⟨tb',bg,cZ,b,fQ,bJ,b7⟩:=Y2 hG dy;rw[hg,fQ] at hw;have e:=osj hw;exact D7 bg (λg hg=>⟨bJ e g hg,cZ g hg⟩) hr hu
      .cases hr
     |false =>
     rw[hr] at h;simp only[zJ] at h;cases hb:Nat.ble chg o.kmin with
     |false=>rw[hb] at h;exact h.elim
     |true =>rw[hb] at h;exact rd none (λq hq=>by cases hq) (by rw[hb];rfl) h
   .rw[z6 bD] at h;obtain⟨b,hw,h1,h2⟩:=N9 hG h;rw[hw];refine⟨λe=>?_,λe=>?_⟩
    .obtain⟨u,s',tb',h3,h4,a7,h5⟩:=h1 e;rw[z6 aB,z6 bD,h3];exact Qw aA bc r bU hB h5 (by rw[a7];exact hD) hp bL eB bj h4 hK
    .obtain⟨s',tb',h4,a7,h5⟩:=h2 e;rw[z6 aB];exact Qw aA bc r bU hB h5 (by rw[a7];exact hD) hp bL eB bj h4 hK
theorem Qy {C:Cx}(aA:COk P C) {B0 F0 D0:Heap}:∀ (ops:List DOper),(∀ o∈ops,o.kind=o.op.kind)->∀ {s:St}{env:Env}{U:Heap}{B F:Heap}{pl:Nat->Value}{tb:Nat->Option Bool},GBase B0 F0 D0 B F U->Gam P B F pl tb s env U->∀ {hl chg:Nat}{A Rd:List (Nat×Option Nat)}{hs:List Heap}{pend pd:List (Nat×(Heap->Prop))},DSt hs U pd hl chg A Rd s.own pl->(∀ c∈pend,(∀ Z,B.Le Z->c.2 Z)\/c∈pd)->(∀ j Z,hs[j]?=some Z->H8 A j=true->B.Le Z)->chg<=hl->0<hl ->
  ∀ {K:St->Prop},WT C ops s hl chg A Rd K->∀ {R:Env->Heap->Prop},(∀ s' ai U',K s'->GRel P B0 F0 D0 s' ai U'->R ai U')->Jx (Q3 P) ops env hs U pend R
 |[],_,s,env,U,B,F,pl,tb,hB,hG,_,_,_,_,_,_,_,_,_,_,_,_,K,h,R,hK=>hK s env U h ⟨B,F,pl,tb,hB,hG⟩
 |o0::r,ia,s,env,U,B,F,pl,tb,hB,hG,hl,chg,A,Rd,hs,pend,pd,hD,hp,bL,eB,bj,K,h,R,hK=>by
  have eg:∀ {n:Nat}{Z:Heap},B.Le Z->W7 n Z pd->W7 n Z pend:=λ{n Z} hb hv=>Vu λc hc hn=>(by grind [Dc]);have snoc:∀ {Z:Heap}{A':List (Nat×Option Nat)},B.Le Z->(∀ j,H8 A' j=true->H8 A j=true)->∀ j Z',(hs++[Z])[j]?=some Z'->H8 A' j=true->B.Le Z':=(by grind);have bU:∀ o∈r,o.kind=o.op.kind:=(by simp_all);have kK:=ia o0 xj;unfold WT at h;split at h
  .rename_i bk;have hw:=VP hG bk;simp only[Jx];rw[hw];refine⟨λe=>(by cases e),λ_=>?_⟩;have bq:=hG.put o0.dst (show SR P B pl tb .any undef by simp[SR]);by_cases aB:o0.kind=2
   .rw[z7 aB] at h |-;obtain⟨k1,k2⟩:=hD.stay;exact⟨eg hG.leB k1,Qy aA r bU hB bq (by rw[ZW];exact k2) hp (snoc hG.leB λ_ h=>h) (by omega) (by omega) h hK⟩
   .rw[z6 aB] at h |-;exact Qy aA r bU hB bq (by rw[ZW];exact hD) hp bL eB bj h hK
  have bB:(Ox s.env o0).kind=(Ox s.env o0).op.kind:=by unfold Ox;split<;>exact kK
  have dO:Jx (Q3 P) (Ox s.env o0::r) env hs U pend R->Jx (Q3 P) (o0::r) env hs U pend R:=λhv=>by
   unfold Ox at hv;split at hv
   .rename_i bk;simp only[Jx] at hv |-;rw[VP hG bk];exact hv
   .exact hv
  refine dO ?_;clear dO;generalize Ox s.env o0=o at h bB |-
  replace h:=id h
  simp only[Jx];by_cases aB:o.kind=2
  .rw[z7 aB] at h
   have fin:∀ {u:Value}{U':Heap}{ts:List Nat}{v:SV}{s':St}{pl':Nat->Value},(∀ R',R' u U'->vop (Q3 P) o.op env U R')->WT C r (s'.put o.dst v) (hl+1) (bif ts.isEmpty then chg else hl) (ts.map (λt=>(hl-1,some t))++A) (bif ts.isEmpty then Rd else Rd.map λr=>(r.1,none)) K->Gam P B F pl' tb s' env U'->SR P B pl' tb v u->(ts=[]->U'=U/\pl'=pl/\s'=s)->U.Le U'->Dead U U'->FrL ts s s' pl pl' U U' ->
     H3 (λR=>vop (Q3 P) o.op env U R) λv U'=>W7 hs.length U' pend/\Jx (Q3 P) r (XV env o.dst v) (hs++[U']) U' pend R:=λ{u U' ts v s' pl'} bw mZ bg iB he hle hd cP=>by
    cases ts with
    |nil =>obtain⟨rfl,rfl,rfl⟩:=he rfl;obtain⟨k1,k2⟩:=hD.stay;exact⟨u,U',bw _ ⟨rfl,rfl⟩,eg bg.leB k1,Qy aA r bU (GX hB hd) (bg.put o.dst iB) (by rw[ZW];exact k2) hp (snoc bg.leB λ_ h=>h) (by grind) (by omega) mZ hK⟩
    |cons t ts =>obtain⟨k1,k2⟩:=hD.call hle cP bj;exact⟨u,U',bw _ ⟨rfl,rfl⟩,eg bg.leB k1,Qy aA r bU (GX hB hd) (bg.put o.dst iB) (by rw[ZW];exact k2) hp (snoc bg.leB λ_ h=>TI h) (by simp_all) (by omega) mZ hK⟩
   split at h
   .rename_i f args bw;split at h
    .rename_i hg;rw[hg];refine⟨λ_=>?_,λe=>by cases e⟩;rw[z7 aB]
     have m9:∀ {K':List Nat->SV->St->Prop},Ba C (C.off+o.dst.getD 0) (.fn f [] []) (SZ s.own (args.map (gev [] s.env))) s K'->(∀ ts v s',K' ts v s'->WT C r (s'.put o.dst v) (hl+1) (bif ts.isEmpty then chg else hl) (ts.map (λt=>(hl-1,some t))++A) (bif ts.isEmpty then Rd else Rd.map λr=>(r.1,none)) K) ->
       H3 (λR=>vop (Q3 P) o.op env U R) λv U'=>W7 hs.length U' pend/\Jx (Q3 P) r (XV env o.dst v) (hs++[U']) U' pend R:=λ{K'} h pU=>by
      obtain⟨g,a,b,u,U',e,v,s',pl',h1,h2,h3,h4,h5,h6,h7,h8,h9⟩:=Y7 aA hG h (show SR P U WB XC (.fn f [] []) (.func (.func f) #[] #[]) by simp only[SR,SRs];exact⟨[],[],rfl,rfl,rfl⟩) (hG.gcall Gds.nil args);obtain⟨rfl,rfl,rfl⟩:=(by simpa using h1:f=g/\#[]=a/\#[]=b);refine fin (u:=u) (U':=U') (λR' hr=>?_) (pU _ _ _ h3) h4 h5 h6 h7 h8 h9;rw[bw];show VCalled P f (args.map (Q4 env)) U R';have:=h2.mono (R':=R') (by simp_all);simpa using this
     split at h
     .rename_i x hx;split at h
      .rename_i jf ua;split at h
       .rename_i tt ub;cases gk:(waits o.dst.toList r&&Q0j false Rd hl [tt]) with
        |false=>rw[gk] at h;exact h.elim
        |true =>rw[gk] at h;simp only[zj] at h;rw[z1] at gk;refine .inr ⟨gk.1,?_⟩;rw[bw];show VCalled P f (args.map (Q4 env)) U _;refine aA.xf f jf ua x hx B F pl tb s env U _ _ _ _ _ tt hG (SRs.map λx _=>hG.evs Gds.nil x) ub h λv s' u U' k1 k2 k3 k4 k5=>?_;obtain⟨q1,q2⟩:=hD.writeD k5 (mk:=false) (λh=>by cases h) gk.2 bj;exact⟨eg k3.leB q1,Qy aA r bU (GX hB k2) (k3.put o.dst k4) (by rw[ZW];exact q2) hp (snoc k3.leB λ_ h=>Sf h) (by omega) (by omega) k1 hK⟩
       .exact h.elim
      .cases gk:(waits o.dst.toList r&&Rd.all (λq=>Nat.blt q.1 hl)) with
       |false=>rw[gk] at h;simp only[zJ] at h;exact .inl (m9 h λ_ _ _ h=>h)
       |true =>
        rw[gk] at h;simp only[zj] at h;rw[z1] at gk;refine .inr ⟨gk.1,?_⟩;rw[bw];show VCalled P f (args.map (Q4 env)) U _;have av:∀ args:List Operand,SRs P B pl tb (args.map (gev [] s.env)) (args.map (Q4 env)):=λargs=>SRs.map λx _=>hG.evs Gds.nil x;refine aA.xs f x hx B F pl tb s env U _ _ _ _ _ hG (av args) h λv s' B' F' pl' tb' u U' k1 k2 k3 k4=>?_;have hall:∀ c∈pd,c.1<hl:=λc hc=>by
         rcases hD.pend c hc with h1|⟨q,h1,h2,_⟩
         .exact h1
         grind [List.all_eq_true,Nat.blt_eq]
        have jr:W7 hs.length U' pd:=Vu λc hc hle=>by have:=hall c hc;have:=hD.len;omega
        have pV:W7 hs.length U' pend:=Vu λc hc hn=>(hp c hc).elim (λh=>h U' (k2.b.trans k3.leB)) λh=>Dc jr h hn;refine⟨pV,Qy aA r bU (hB.trans k2) (k3.put o.dst k4) (pd:=pd) ⟨by simp[hD.len],λj Z hj ht=>?_,(by grind),λj Z q i ht hu bY hi=>?_⟩ (λc hc=>(hp c hc).imp (λh Z hτ=>h Z (k2.b.trans hτ)) id) (λj Z ht hn=>?_) (by omega) (by omega) k1 hK⟩
        .rcases Wn ht with⟨h1,_⟩|⟨_,h1⟩
         .rw[hD.len] at h1;omega
         .exact h1
        .rcases Wn ht with⟨h1,_⟩|⟨_,h1⟩
         .exfalso;rw[hD.len] at h1;simp only[J4,zO,z1,zo,zB,zt,or_false] at hu;omega
         .rw[h1]
        .rcases Wn ht with⟨h1,_⟩|⟨_,h1⟩
         .exfalso;rw[hD.len] at h1;simp only[H8,zO,z1,zo,zB,Option.isSome_none,zt,or_false] at hn;omega
         .rw[h1];exact k3.leB
     .exact .inl (m9 h λ_ _ _ h=>h)
    .rename_i j want hg;rw[hg];split at h
     .exact h.elim
     .rename_i gs s1 dy;obtain⟨tb',bg,cZ,b,hw,bJ,b7⟩:=Y2 hG dy;have a7:=Vy dy;rw[hw];split at h
      .rename_i cs v c_;cases cF:U_ v with
       |false=>rw[cF] at h;exact h.elim
       |true =>
       rw[cF] at h;simp only[zj] at h;obtain⟨h1,h2⟩:=Jg h;obtain⟨k1,k2⟩:=hD.stay;have kF:∀ x,DSt (hs++[U]) U pd (hl+1) chg A Rd (s1.put o.dst x).own pl:=(by grind [ZW]);refine⟨λe=>?_,λe=>?_⟩
       .rw[z7 aB];have fX:Gds tb' gs:=λg hg=>⟨bJ e g hg,cZ g hg⟩;have kL:∀ {v u},SR P B pl tb' v u->SR P B pl tb' (.grd gs (Hz v)) u:=λ{v u} hs=>by
         simp only[SR]
         grind [TE]
        simp only[gqc] at c_;split at c_
        .rename_i c v' heq;cases dq:v'.ret 0 with
         |false=>rw[dq] at c_;cases c_
         |true =>
          rw[dq] at c_;obtain⟨rfl,rfl⟩:=Zo c_;obtain⟨g,a,b',h3,h4,_⟩:=JQ aA.cs (show SR P U WB XC (.fn f [] []) (.func (.func f) #[] #[]) by simp only[SR,SRs];exact⟨[],[],rfl,rfl,rfl⟩) (bg.gcall fX args) heq dq rfl (h2 (bJ e) _ (by simp));obtain⟨rfl,rfl,rfl⟩:=(by simpa using h3:f=g/\#[]=a/\#[]=b');refine .inl ⟨UH WB v',U,?_,eg hG.leB k1,Qy aA r bU hB (bg.put o.dst (kL ?_)) (kF _) hp (snoc hG.leB λ_ h=>h) (by omega) (by omega) (J8 h1) hK⟩
          .rw[bw];show VCalled P f (args.map (Q4 env)) U _;have:=h4.mono (R':=λu U'=>u=UH WB v'/\U'=U) λu U' hr=>by
            obtain⟨rfl,hu⟩:=hr.flat dq
            grind [NA]
           simpa using this
          .exact SR.retd (λj hj=>by omega) _ _ dq (CP (P:=P) (pl:=WB) (m:=0) (λj hj=>by omega) v' dq cF)
        .cases c_
       .rw[z7 aB];obtain⟨g,cO,aK⟩:=b7 e;exact⟨eg hG.leB k1,Qy aA r bU hB (bg.put o.dst (by simp only[SR];exact⟨⟨cZ,TD v⟩,λhall=>absurd (hall g cO) aK,λ_=>trivial⟩)) (kF _) hp (snoc hG.leB λ_ h=>h) (by omega) (by omega) (J8 h1) hK⟩
      .split at h
       .rename_i cs v jH;obtain⟨c,ty,k,xs,nl,heq,rfl,rfl,hk,ec⟩:=Cj jH;obtain⟨h1,h2⟩:=Jg h;have frz:∀ {B' U':Heap},B'.Le U'->∀ j Z',(hs++[U'])[j]?=some Z'->H8 ((hl-1,none)::A) j=true->B'.Le Z':=λ{B' U'} hb j Z' hm hn=>by
         rcases Wn hm with⟨h1,_⟩|⟨_,rfl⟩
         .simp only[H8,zO,z1,zo,zB,Option.isSome_none,zt,or_false] at hn;have:=hD.len;omega
         .exact hb
        refine⟨λe=>?_,λe=>?_⟩
        .rw[z7 aB];have fX:Gds tb' gs:=λg hg=>⟨bJ e g hg,cZ g hg⟩;have iu:=h2 (bJ e) c (by simp);have iv:=h2 (bJ e) (nl=true->xs=[]) (by simp);have dy:Ba C (C.off+o.dst.getD 0) (.fn f [] []) (SZ s1.own (args.map (gev gs s1.env))) s1 (λts v' s'=>ts=[C.off+o.dst.getD 0]/\v'=.lst (C.off+o.dst.getD 0)/\s'=s1.make (C.off+o.dst.getD 0) (.lst ty k xs nl)):=by
          unfold Ba;rw[heq];dsimp only;have aj:(SV.ret [OB.lst ty k xs nl].length (.lst 0)&&([OB.lst ty k xs nl].all OB.ret&&(Nat.blt 0 C.nt&&([OB.lst ty k xs nl].all OB.isL&&U_ (.lst 0)))))=true:=by
           simp only[SV.ret,zT,zO,List.all_nil,xH,OB.ret,hk,Bool.true_and,OB.isL,U_];rw[z1]
           grind [Nat.blt_eq]
          rw[aj];simp only[zj,Q25,OB.wf];refine⟨iu,iv,?_,?_,?_⟩
          .simp[List.range_succ]
          .simp[SV.ren]
          .simp[St.makes]
         obtain⟨g,a,b',u,U',ts,v',s',pl',h3,h4,⟨rfl,rfl,rfl⟩,h5,h6,_,h7,h8,h9⟩:=Y7 aA bg dy (show SR P U WB XC (.fn f [] []) (.func (.func f) #[] #[]) by simp only[SR,SRs];exact⟨[],[],rfl,rfl,rfl⟩) (bg.gcall fX args);obtain⟨rfl,rfl,rfl⟩:=(by simpa using h3:f=g/\#[]=a/\#[]=b');obtain⟨B',F',m1,m2,m3⟩:=AS bg.bf hk h5 h6 h8;have cP:FrL [C.off+o.dst.getD 0] s ((s1.make (C.off+o.dst.getD 0) .dead).put o.dst (.grd gs (.val (.list k) xs))) pl pl' U U':=λq hq=>by
          obtain⟨f1,f2,f3⟩:=h9 q hq
          grind [ZW,N8]
         obtain⟨k1,k2⟩:=hD.call h7 cP bj;refine .inl ⟨u,U',?_,eg (m1.b.trans m2.leB) k1,Qy aA r bU (hB.trans m1) (m2.put o.dst ?_) k2.frozen (λc hc=>(hp c hc).imp (λh Z hτ=>h Z (m1.b.trans hτ)) id) (frz m2.leB) (by omega) (by omega) h1 hK⟩
         .rw[bw];show VCalled P f (args.map (Q4 env)) U _;simpa using h4
         .simp only[SR];exact⟨⟨cZ,trivial⟩,λ_=>m3,(by grind)⟩
        .rw[z7 aB];obtain⟨g,cO,aK⟩:=b7 e;have cP:FrL [C.off+o.dst.getD 0] s ((s1.make (C.off+o.dst.getD 0) .dead).put o.dst (.grd gs (.val (.list k) xs))) pl (XE pl (C.off+o.dst.getD 0) undef) U U:=λq hq=>by
          have dm:q≠C.off+o.dst.getD 0:=by simpa using hq
          refine⟨?_,by simp[XE,dm],λ_ _ _=>rfl⟩;rw[ZW,N8 _ _ _ dm,a7]
         obtain⟨k1,k2⟩:=hD.call (.refl U) cP bj;refine⟨eg hG.leB k1,Qy aA r bU hB ((bg.make (C.off+o.dst.getD 0) .dead undef bg.le (λ_ _ _ _ _=>rfl) trivial (λi hl _=>by cases hl)).put o.dst ?_) k2.frozen hp (frz hG.leB) (by omega) (by omega) h1 hK⟩;simp only[SR];exact⟨⟨cZ,trivial⟩,λhall=>absurd (hall g cO) aK,λ_=>trivial⟩
       .exact h.elim
   .rename_i f args bw;split at h
    .rename_i hg;rw[hg];refine⟨λ_=>?_,λe=>by cases e⟩;rw[z7 aB];refine .inl ?_;obtain⟨g,a,b,u,U',e,v,s',pl',h1,h2,h3,h4,h5,h6,h7,h8,h9⟩:=Y7 aA hG h (hG.gfun Gds.nil f) (hG.gcall Gds.nil args);refine fin (u:=u) (U':=U') (λR' hr=>?_) h3 h4 h5 h6 h7 h8 h9;rw[bw];exact GN h1 (h2.mono (R':=R') (by simp_all))
    .exact h.elim
   .exact h.elim
   .exact h.elim
   .exact h.elim
   .exact h.elim
   .rename_i pS og pT mP kM kN;split at h
    .rename_i hg;rw[hg];refine⟨λ_=>?_,λe=>by cases e⟩;rw[z7 aB];have aC:Iv o.op=false:=by
      cases ho:o.op<;>first|rfl|(exact absurd ho (pS _ _))|(exact absurd ho (og _ _))|skip
      case ext x=>cases x<;>first|rfl|(exact absurd ho (pT _))|(exact absurd ho (mP _))|(exact absurd ho (kM _))|(exact absurd ho (kN _))
     cases jG:Fm C (o.dst.getD 0) o.op (gev [] s.env) with
     |true =>
      rw[jG] at h;simp only[zj] at h;cases hm:Q0j (SH o.op) Rd hl (Eu (C.off+o.dst.getD 0) o.op (gev [] s.env)) with
      |false=>rw[hm] at h;exact h.elim
      |true =>
       rw[hm] at h;simp only[zj] at h;obtain⟨u,U',pl',v,s',h1,h2,⟨h3,fW⟩,h4⟩:=TR (λx=>hG.evs (Gds.nil (tb:=tb)) x) hG h;have fJ:∀ R',R' u U'->vop (Q3 P) o.op env U R':=λR' hr=>by
        have:vop (Q3 P) o.op env U R'=Z8 (Q6 o.op (Q4 env) U) λp=>R' p.1 p.2:=by
         cases ho:o.op with
         |callF f a=>rw[ho] at aC;cases aC
         |callV f a=>rw[ho] at aC;cases aC
         |ext x =>
          cases x with
          |nextMap y=>rw[ho] at h1;cases h1
          |_=>rfl
         |_=>rfl
        rw[this,h1];exact hr
       obtain⟨k1,k2⟩:=hD.writeD fW (λcU=>AA cU h1) hm bj;exact .inl ⟨u,U',fJ _ ⟨rfl,rfl⟩,eg h3.leB k1,Qy aA r bU (GX hB (Ue h1)) (h3.put o.dst h4) (by rw[ZW];exact k2) hp (snoc h3.leB λ_ h=>TI h) (by omega) (by omega) h2 hK⟩
     |false =>
     rw[jG] at h;simp only[zJ] at h;cases hm:((SH o.op&&Er Rd hl (Zr (C.off+o.dst.getD 0) o.op (gev [] s.env)))||C7 Rd hl (Zr (C.off+o.dst.getD 0) o.op (gev [] s.env))||(Cz o.op&&Q9d Rd hl (Zr (C.off+o.dst.getD 0) o.op (gev [] s.env)))) with
     |false=>rw[hm] at h;exact h.elim
     |true =>
      rw[hm] at h;simp only[zj] at h;obtain⟨u,U',pl',v,s',h1,h2,⟨h3,fW⟩,h4,hE⟩:=Q1b hG h aC;have fJ:∀ R',R' u U'->vop (Q3 P) o.op env U R':=λR' hr=>by
       have:vop (Q3 P) o.op env U R'=Z8 (Q6 o.op (Q4 env) U) λp=>R' p.1 p.2:=by
        cases ho:o.op with
        |callF f a=>rw[ho] at aC;cases aC
        |callV f a=>rw[ho] at aC;cases aC
        |ext x =>
         cases x with
         |nextMap y=>rw[ho] at h1;cases h1
         |_=>rfl
        |_=>rfl
       rw[this,h1];exact hr
      obtain⟨k1,k2⟩:=hD.write fW (λcU=>AA cU h1) hE hm bj;exact .inl ⟨u,U',fJ _ ⟨rfl,rfl⟩,eg h3.leB k1,Qy aA r bU (GX hB (Ue h1)) (h3.put o.dst h4) (by rw[ZW];exact k2) hp (snoc h3.leB λ_ h=>Sf h) (by omega) (by omega) h2 hK⟩
    .exact h.elim
  .rw[z6 aB] at h;have kO:o.op.kind≠2:=by rw[<-bB];exact aB
   by_cases bD:o.kind=1
   .rw[z7 bD] at h
    have rd:∀ (rq:Option Nat),(∀ q,rq=some q->G2 o.op (gev [] s.env) s.own=some q)->(Nat.ble chg o.kmin||RN A o.kmin rq)=true->gd1 C o s (λs'=>WT C r s' hl chg A ((o.kmax,rq)::Rd) K) ->
      Z8 (Xb env o.guard) λb=>vif b (if o.kind=2 then (H3 (λR=>vop (Q3 P) o.op env U R) λv U'=>W7 hs.length U' pend/\Jx (Q3 P) r (XV env o.dst v) (hs++[U']) U' pend R)\/(waits o.dst.toList r=true/\vop (Q3 P) o.op env U λv U'=>W7 hs.length U' pend/\Jx (Q3 P) r (XV env o.dst v) (hs++[U']) U' pend R)
       else if o.kind=1 then Z8 (Q6 o.op (Q4 env) U) λp=>(∀ Z∈hs.drop o.kmin,We o.op (Q4 env) p.1 Z) /\
        Jx (Q3 P) r (XV env o.dst p.1) hs U (if hs.length<=o.kmax then (o.kmax,We o.op (Q4 env) p.1)::pend else pend) R
       else Z8 (Q6 o.op (Q4 env) U) λp=>Jx (Q3 P) r (XV env o.dst p.1) hs U pend R)
      (if o.kind=2 then W7 hs.length U pend/\Jx (Q3 P) r (XV env o.dst undef) (hs++[U]) U pend R else Jx (Q3 P) r (XV env o.dst undef) hs U pend R):=λrq m8 hc h=>by
     obtain⟨b,hw,h1,h2⟩:=N9 hG h;rw[hw];have kP:DSt hs U pd hl chg A ((o.kmax,rq)::Rd) s.own pl:=⟨hD.len,hD.same,λc hc=>(hD.pend c hc).imp id (by simp_all),hD.fr⟩;refine⟨λe=>?_,λe=>?_⟩
     .obtain⟨u,s',tb',h3,h4,a7,h5⟩:=h1 e;rw[z6 aB,z7 bD,h3];refine⟨λZ hτ=>?_,?_⟩
      .obtain⟨j,hj⟩:=zW.1 hτ;rw[zR] at hj;rw[zo] at hc;rcases hc with hc|hc
       .have:=hD.same (o.kmin+j) Z (by have:=zx hc;omega) hj;subst this;exact JN h3
       .unfold RN at hc;split at hc
        .rename_i q;obtain⟨k1,i,bl,k2,k3,k4,k5⟩:=Vf hG (m8 q rfl) h3;have hu:J4 A (o.kmin+j) (q / 2)=true:=by
          simp only[J4,zh,zo,zB] at hc |-
          grind
         have:=hD.fr (o.kmin+j) Z (q / 2) i hj hu k1 k2
         grind [JN]
        .cases hc
      .by_cases hle:hs.length<=o.kmax
       .rw[z7 hle];refine Qy aA r bU hB h5 (A:=A) (Rd:=(o.kmax,rq)::Rd) (hl:=hl) (chg:=chg) (pd:=(o.kmax,We o.op (Q4 env) u)::pd) ?_ (λc hc=>?_) bL eB bj h4 hK
        .rw[a7];refine⟨hD.len,hD.same,λc hc=>?_,hD.fr⟩;rcases zG.1 hc with rfl|hc
         .refine .inr ⟨_,xj,zd _,?_⟩;cases rq with
          |none=>exactλZ hτ=>JN (R6 kO h3 hτ)
          |some q =>obtain⟨k1,i,bl,k2,k3,k4,k5⟩:=Vf hG (m8 q rfl) h3;exact⟨k1,i,bl,k2,k3,λZ ht=>JN (k4 Z ht),(by grind [JN])⟩
         .exact kP.pend c hc
        grind
       .rw[z6 hle];exact Qy aA r bU hB h5 (A:=A) (Rd:=(o.kmax,rq)::Rd) (hl:=hl) (chg:=chg) (pd:=pd) (by rw[a7];exact kP) hp bL eB bj h4 hK
     .obtain⟨s',tb',h4,a7,h5⟩:=h2 e;rw[z6 aB];exact Qy aA r bU hB h5 (by rw[a7];exact kP) hp bL eB bj h4 hK
    have ro:H8 A o.kmin=true->(∀ u,Q6 o.op (Q4 env) U=some (u,U)->(Xb env o.guard=some true)->∀ Z,B.Le Z->Q6 o.op (Q4 env) Z=some (u,Z))->gd1 C o s (λs'=>WT C r s' hl chg A Rd K) ->
      Z8 (Xb env o.guard) λb=>vif b (if o.kind=2 then (H3 (λR=>vop (Q3 P) o.op env U R) λv U'=>W7 hs.length U' pend/\Jx (Q3 P) r (XV env o.dst v) (hs++[U']) U' pend R)\/(waits o.dst.toList r=true/\vop (Q3 P) o.op env U λv U'=>W7 hs.length U' pend/\Jx (Q3 P) r (XV env o.dst v) (hs++[U']) U' pend R)
       else if o.kind=1 then Z8 (Q6 o.op (Q4 env) U) λp=>(∀ Z∈hs.drop o.kmin,We o.op (Q4 env) p.1 Z) /\
        Jx (Q3 P) r (XV env o.dst p.1) hs U (if hs.length<=o.kmax then (o.kmax,We o.op (Q4 env) p.1)::pend else pend) R
       else Z8 (Q6 o.op (Q4 env) U) λp=>Jx (Q3 P) r (XV env o.dst p.1) hs U pend R)
      (if o.kind=2 then W7 hs.length U pend/\Jx (Q3 P) r (XV env o.dst undef) (hs++[U]) U pend R else Jx (Q3 P) r (XV env o.dst undef) hs U pend R):=λkQ bP h=>by
     obtain⟨b,hw,h1,h2⟩:=N9 hG h;rw[hw];refine⟨λe=>?_,λe=>?_⟩
     .obtain⟨u,s',tb',h3,h4,a7,h5⟩:=h1 e;have bP:=bP u h3 (by rw[hw,e]);rw[z6 aB,z7 bD,h3];refine⟨λZ hτ=>?_,?_⟩
      .obtain⟨j,hj⟩:=zW.1 hτ;rw[zR] at hj;refine JN (bP Z (bL _ Z hj ?_));simp only[H8,zh,zo,zB] at kQ |-
       grind
      refine Qy aA r bU hB h5 (A:=A) (Rd:=Rd) (hl:=hl) (chg:=chg) (pd:=pd) (by rw[a7];exact hD) (λc hc=>?_) bL eB bj h4 hK;split at hc
      .rcases zG.1 hc with rfl|hc
       .grind [JN]
       .exact hp c hc
      .exact hp c hc
     .obtain⟨s',tb',h4,a7,h5⟩:=h2 e;rw[z6 aB];exact Qy aA r bU hB h5 (by rw[a7];exact hD) hp bL eB bj h4 hK
    split at h
    .rename_i hg;cases hr:(Q8z o.op (gev [] s.env)&&H8 A o.kmin) with
     |true =>rw[hr] at h;rw[z1] at hr;exact ro hr.2 (λu hu _=>D7 hG Gds.nil hr.1 hu) h
     |false =>
     rw[hr] at h;simp only[zJ] at h;cases hb:(Nat.ble chg o.kmin||RN A o.kmin (G2 o.op (gev [] s.env) s.own)) with
     |false=>rw[hb] at h;exact h.elim
     |true =>rw[hb] at h;exact rd _ (λq hq=>hq) hb h
    .rename_i j want hg;cases hr:(Q1a s j want o.op&&H8 A o.kmin) with
     |true =>
      rw[hr] at h;rw[z1] at hr;obtain⟨hr,kQ⟩:=hr;refine ro kQ (λu hu hw=>?_) h;unfold Q1a at hr;split at hr
      .rename_i gs s1 dy;obtain⟨tb',bg,cZ,b,fQ,bJ,b7⟩:=Y2 hG dy;rw[hg,fQ] at hw;have e:=osj hw;exact D7 bg (λg hg=>⟨bJ e g hg,cZ g hg⟩) hr hu
      .cases hr
     |false =>
     rw[hr] at h;simp only[zJ] at h;cases hb:Nat.ble chg o.kmin with
     |false=>rw[hb] at h;exact h.elim
     |true =>rw[hb] at h;exact rd none (λq hq=>by cases hq) (by rw[hb];rfl) h
   .rw[z6 bD] at h;obtain⟨b,hw,h1,h2⟩:=N9 hG h;rw[hw];refine⟨λe=>?_,λe=>?_⟩
    .obtain⟨u,s',tb',h3,h4,a7,h5⟩:=h1 e;rw[z6 aB,z6 bD,h3];exact Qy aA r bU hB h5 (by rw[a7];exact hD) hp bL eB bj h4 hK
    .obtain⟨s',tb',h4,a7,h5⟩:=h2 e;rw[z6 aB];exact Qy aA r bU hB h5 (by rw[a7];exact hD) hp bL eB bj h4 hK
def GQ (pl:Nat->Value) (mp:List (Nat×Option Nat)):Nat->Value:=λt=>match QR mp t with
 |some (some a)=>pl a
 |_=>.slice none 0 0
theorem Fl {h:Heap}{k k':Kind}{x:k.T}{y:k'.T}(e:GM x y) {cs:List Value}(hk:KC h k' y cs):KC h k x cs:=by
 unfold GM at e
 grind [Ce,LV]
mutual
theorem N4 {B:Heap}{pl:Nat->Value}{tb:Nat->Option Bool}{mp:List (Nat×Option Nat)}:∀ (p a:SV) (v:Value),S1 mp p a->SR P B pl tb a v->SR P B (GQ pl mp) XC p v
 |.any,a,v,_,_=>trivial
 |.val k x,a,v,h,hs=>by
  simp only[S1] at h;split at h
  .simp only[SR] at hs |-;exact Fl h hs
  .simp only[SR] at hs |-;exact Fl h (by simp[KC,hs.1])
  .split at h
   .subst h;simp only[SR] at hs |-;subst hs;exact⟨_,rfl,.inl ⟨rfl,rfl⟩⟩
   .exact h.elim
  .exact h.elim
 |.lst t,a,v,h,hs=>by
  simp only[S1] at h;split at h
  .split at h
   .rename_i e;simp only[SR,GQ,e] at hs |-;exact hs
   .exact h.elim
  .split at h
   .rename_i e;simp only[SR,GQ,e] at hs |-;exact⟨hs,_,_,_,hs⟩
   .exact h.elim
  .exact h.elim
 |.box t off,a,v,h,hs=>by
  simp only[S1] at h;split at h
  .split at h
   .rename_i e;obtain⟨e,rfl⟩:=e;simp only[SR,GQ,e] at hs |-;exact hs
   .exact h.elim
  .exact h.elim
 |.map t,a,v,h,hs=>by
  simp only[S1] at h;split at h
  .split at h
   .rename_i e;simp only[SR,GQ,e] at hs |-;exact hs
   .exact h.elim
  .exact h.elim
 |.dd t w,a,v,h,hs=>by
  simp only[S1] at h;split at h
  .split at h
   .simp only[SR] at hs |-;simp only[DR];exact .inl ⟨h,hs⟩
   .split at h
    .rename_i e;obtain⟨e,rfl⟩:=e;simp only[SR,DR,GQ,e] at hs |-;obtain⟨b,h1,h2⟩:=hs;exact .inr ⟨h,b,by rw[h1];rfl,h2⟩
    .exact h.elim
   .split at h
    .split at h
     .rename_i e;subst h;simp only[SR,DR,GQ,e] at hs |-;exact hs
     .exact h.elim
    .exact h.elim
   .exact h.elim
  .split at h
   .split at h
    .split at h
     .rename_i e;simp only[SR,GQ,e] at hs |-;exact hs
     .exact h.elim
    .exact h.elim
   .exact h.elim
  .split at h
   .split at h
    .split at h
     .rename_i e;simp only[SR,GQ,e] at hs |-;exact hs
     .exact h.elim
    .exact h.elim
   .split at h
    .rename_i e;simp only[SR,GQ,e] at hs |-;exact⟨hs,_,_,_,hs⟩
    .exact h.elim
   .exact h.elim
  .exact h.elim
 |.agg l,a,v,h,hs=>by
  simp only[S1] at h;split at h
  .rename_i l';simp only[SR] at hs |-;obtain⟨cs,h1,h2⟩:=hs;exact⟨cs,h1,Jp l l' cs h h2⟩
  .exact h.elim
 |.tup l,a,v,h,hs=>by
  simp only[S1] at h;split at h
  .rename_i l';simp only[SR] at hs |-;obtain⟨cs,h1,h2⟩:=hs;exact⟨cs,h1,Jp l l' cs h h2⟩
  .exact h.elim
 |.fn f x y,a,v,h,hs=>by
  simp only[S1] at h;split at h
  .split at h
   .rename_i e;subst e;simp only[SR] at hs |-;obtain⟨cs,ds,h1,h2,h3⟩:=hs;exact⟨cs,ds,h1,Jp x _ cs h.1 h2,Jp y _ ds h.2 h3⟩
   .exact h.elim
  .exact h.elim
 |.nilS,a,v,h,hs=>by
  simp only[S1] at h;split at h
  .simp only[SR] at hs |-;exact hs
  .exact h.elim
 |.nilP,a,v,h,hs=>by
  simp only[S1] at h;split at h
  .simp only[SR] at hs |-;exact hs
  .exact h.elim
 |.nilM,a,v,h,hs=>by
  simp only[S1] at h;split at h
  .simp only[SR] at hs |-;exact hs
  .exact h.elim
 |.nilF,a,v,h,hs=>by
  simp only[S1] at h;split at h
  .simp only[SR] at hs |-;exact hs
  .exact h.elim
 |.cp l off,a,v,h,hs=>by
  simp only[S1] at h;cases pW:SVs.pure l with
  |true =>rw[pW] at h;simp only[zj] at h;obtain⟨rfl,_⟩:=h;simp only[SR] at hs |-;obtain⟨b,c,e,wr,t,h1,h2,h3⟩:=hs;exact⟨b,c,e,wr,t,h1,h2,X1 l c pW h3⟩
  |false =>
   rw[pW] at h;simp only[zJ] at h;split at h
   .split at h
    .rename_i l' cX he;subst he;simp only[SR] at hs |-;obtain⟨b,c,e,wr,t,h1,h2,h3⟩:=hs;exact⟨b,c,e,wr,t,h1,h2,Jp l l' c h h3⟩
    .exact h.elim
   .exact h.elim
 |.pf ks r cw p,a,v,h,hs=>by simp only[S1] at h;subst h;simp only[SR] at hs |-;exact hs
 |.sub t lo n sz,a,v,h,hs=>by
  simp only[S1] at h;split at h
  .split at h
   .rename_i e;obtain⟨rfl,rfl,rfl⟩:=h;simp only[SR,GQ,e] at hs |-;exact hs
   .exact h.elim
  .exact h.elim
 |.elp _ _ _ _,_,_,h,_|.grd _ _,_,_,h,_|.bid _ _,_,_,h,_|.rop _ _ _ _,_,_,h,_=>by simp only[S1] at h
theorem Jp {B:Heap}{pl:Nat->Value}{tb:Nat->Option Bool}{mp:List (Nat×Option Nat)}:∀ (p a:List SV) (v:List Value),Dm mp p a->SRs P B pl tb a v->SRs P B (GQ pl mp) XC p v
 |[],a,v,h,hs=>by simp only[Dm] at h;subst h;exact hs
 |s::ss,[],v,h,hs=>by simp only[Dm] at h
 |s::ss,a::bK,v,h,hs=>by simp only[Dm] at h;simp only[SRs] at hs |-;obtain⟨x,y,h1,h2,h3⟩:=hs;exact⟨x,y,h1,N4 s a x h.1 h2,Jp ss bK y h.2 h3⟩
theorem LW {B:Heap}{pl pl':Nat->Value}{tb tb':Nat->Option Bool}:∀ (s:SV) (v:Value),s.pure=true->SR P B pl tb s v->SR P B pl' tb' s v
 |.any,v,_,_=>trivial
 |.val k x,v,_,h=>by simp only[SR] at h |-;exact h
 |.nilS,v,_,h|.nilP,v,_,h|.nilM,v,_,h|.nilF,v,_,h=>by simp only[SR] at h |-;exact h
 |.rop k l i off,v,_,h=>by simp only[SR] at h |-;exact h
 |.pf ks r cw p,v,_,h=>by simp only[SR] at h |-;exact h
 |.agg l,v,hp,h=>by simp only[SR] at h |-;obtain⟨cs,h1,h2⟩:=h;exact⟨cs,h1,X1 l cs hp h2⟩
 |.tup l,v,hp,h=>by simp only[SR] at h |-;obtain⟨cs,h1,h2⟩:=h;exact⟨cs,h1,X1 l cs hp h2⟩
 |.cp l off,v,hp,h=>by simp only[SR] at h |-;obtain⟨b,c,e,wr,t,h1,h2,h3⟩:=h;exact⟨b,c,e,wr,t,h1,h2,X1 l c hp h3⟩
 |.fn f a b,v,hp,h=>by simp only[SV.pure,z1] at hp;simp only[SR] at h |-;obtain⟨x,y,h1,h2,h3⟩:=h;exact⟨x,y,h1,X1 a x hp.1 h2,X1 b y hp.2 h3⟩
 |.lst _,_,h,_|.sub _ _ _ _,_,h,_|.elp _ _ _ _,_,h,_|.box _ _,_,h,_|.map _,_,h,_|.grd _ _,_,h,_|.bid _ _,_,h,_=>by cases h
theorem X1 {B:Heap}{pl pl':Nat->Value}{tb tb':Nat->Option Bool}:∀ (s:List SV) (v:List Value),SVs.pure s=true->SRs P B pl tb s v->SRs P B pl' tb' s v
 |[],v,_,h=>by simp only[SRs] at h |-;exact h
 |s::ss,v,hp,h=>by simp only[SVs.pure,z1] at hp;simp only[SRs] at h |-;obtain⟨x,y,h1,h2,h3⟩:=h;exact⟨x,y,h1,LW s x hp.1 h2,X1 ss y hp.2 h3⟩
end
end
end Go.V
namespace Go.V
open Go
section
variable {P:Program}{B F:Heap}{pl:Nat->Value}{tb:Nat->Option Bool}{s:St}{env:Env}{U:Heap}
theorem Uc {k k':Kind}{xs:List k.T}{ys:List k'.T}(h:GM (k:=.list k) xs (k':=.list k') ys):∃ e:k'=k,e▸ys=xs:=by
 unfold GM at h
 grind [Ce,Kind.list.inj,LV]
theorem Z7 (hG:Gam P B F pl tb s env U) {mp:List (Nat×Option Nat)}{t:Nat}{b:OB}(h:Q17 s mp t b) :
  OR P B (GQ pl mp) XC U (GQ pl mp t) b/\(b.live=true->∀ i,Oid (GQ pl mp t) i->∃ a,QR mp t=some (some a)/\(Qk s.own a).live=true/\Oid (pl a) i):=by
 unfold Q17 at h;split at h
 .rename_i a ha;have aS:GQ pl mp t=pl a:=by simp[GQ,ha]
  rw[aS];have ao:=hG.obj a;split at h
  .exact⟨trivial,λh=>by cases h⟩
  .rename_i ty k xs nl iz k' cg kE ho;split at h
   .rename_i e;subst e;obtain⟨h1,rfl⟩:=h;obtain⟨rfl,rfl⟩:=Uc h1;rw[ho] at ao;exact⟨ao,(by simp_all)⟩
   .exact h.elim
  .rename_i l u l' u' ho;split at h
   .rename_i e0;subst e0;rw[ho] at ao;obtain⟨i,c,e,t',h1,h2,h3,h4⟩:=ao;exact⟨⟨i,c,e,t',h1,h2,Jp l l' c h h3,h4⟩,λ_ i hi=>⟨a,ha,by rw[ho];rfl,hi⟩⟩
   .exact h.elim
  .rename_i kk vk m gX jD m' ho;split at h
   .obtain⟨e,h1⟩:=Uc h;obtain⟨rfl,rfl⟩:=Kind.pair.inj e;subst h1;rw[ho] at ao;exact⟨ao,(by simp_all)⟩
   .exact h.elim
  .rename_i l vals l' jE ho;rw[ho] at ao;obtain⟨rfl,h⟩:=h;exact⟨Jp l l' vals h ao,λh=>by cases h⟩
  .rename_i l q u l' q' u' ho;rw[ho] at ao;split at h
   .obtain⟨rfl,h⟩:=h;exact⟨⟨ao.1,Jp l l' q.vals h ao.2.1,ao.2.2⟩,λ_ i hi=>⟨a,ha,by rw[ho];rfl,hi⟩⟩
   .obtain⟨rfl,h⟩:=h;exact⟨⟨ao.1,Jp l l' q.vals h ao.2.1,ao.2.2⟩,λh=>by cases h⟩
   .exact h.elim
  .rename_i kk vk m dn gX jD m' rn ho;split at h
   .obtain⟨h,rfl⟩:=h;obtain⟨e,h1⟩:=Uc h;obtain⟨rfl,rfl⟩:=Kind.pair.inj e;subst h1;rw[ho] at ao;exact⟨ao,(by simp_all)⟩
   .exact h.elim
  .rename_i kk vk m gX jD m' ho;split at h
   .obtain⟨e,h1⟩:=Uc h;obtain⟨rfl,rfl⟩:=Kind.pair.inj e;subst h1;rw[ho] at ao;exact⟨ao,λh=>by cases h⟩
   .exact h.elim
  .rename_i l pos l' pos' ho;obtain⟨rfl,rfl⟩:=h;rw[ho] at ao;exact⟨ao,λ_ i hi=>⟨a,ha,by rw[ho];rfl,hi⟩⟩
  .rename_i ty q k xs nl h0 iz q' k' cg kE qS ho;split at h
   .rename_i e;obtain⟨rfl,rfl⟩:=e;split at h
    .obtain⟨h1,rfl⟩:=h;obtain⟨rfl,rfl⟩:=Uc h1;rw[ho] at ao;exact⟨ao,(by simp_all)⟩
    .exact h.elim
   .exact h.elim
  .rename_i ik l gp l' ho;split at h
   .rename_i e;obtain⟨rfl,rfl⟩:=e;rw[ho] at ao;exact⟨ao,(by simp_all)⟩
   .exact h.elim
  .exact h.elim
 .rename_i ha;have aS:GQ pl mp t=.slice none 0 0:=by simp[GQ,ha]
  rw[aS];split at h
  .exact⟨.inl ⟨h.2,h.1,rfl⟩,λ_ i hi=>by cases hi⟩
  .split at h
   .obtain⟨rfl,rfl⟩:=h;refine⟨⟨[],λi=>⟨λh=>(by cases h),λ⟨b,h⟩=>(by cases h)⟩,List.nodup_nil,.inl ⟨rfl,rfl,rfl⟩,λi=>⟨λ⟨b,h⟩=>(by cases h),λh=>(by cases h)⟩,(λi b h=>by cases h),by simp[phd]⟩,λ_ i hi=>by cases hi⟩
   .exact h.elim
  .exact h.elim
 .exact h.elim
theorem Uo {α:Type _}(l:List (Nat×α)) (t:Nat) (x:α) (d:Nat):QR (l++[(t,x)]) d=match QR l d with|some y=>some y|none=>if t=d then some x else none:=by
 induction l with
 |nil =>
  simp only[xy,QR];by_cases h:t=d
  .subst h;simp
  .rw[Xw h];simp[h]
 |cons p l ih =>obtain⟨k,y⟩:=p;simp only[xr,QR,ih];cases Nat.beq k d<;>rfl
theorem E3 {α:Type _}{l:List (Nat×α)}{d:Nat}{x:α}(h:QR l d=some x):∃ p∈l,p.1=d/\p.2=x:=by
 induction l with
 |nil=>cases h
 |cons p l ih =>
  obtain⟨k,y⟩:=p;simp only[QR] at h;cases hb:Nat.beq k d with
  |true=>rw[hb] at h;obtain rfl:=osj h;exact(by simp_all)
  |false =>rw[hb] at h;obtain⟨p,h1,h2⟩:=ih h;exact⟨p,xF _ h1,h2⟩
def Inj (mp:List (Nat×Option Nat)):Prop:=∀ t t' a,QR mp t=some (some a)->QR mp t'=some (some a)->t=t'
theorem TO:∀ (l:List (Nat×Src)) (mp bQ:List (Nat×Option Nat)),Z0x s l mp=some bQ->Inj mp->Inj bQ
 |[],mp,bQ,h,hi=>by obtain rfl:=osj h;exact hi
 |(t,src)::r,mp,bQ,h,hi=>by
  simp only[Z0x] at h;split at h
  .rename_i a _;split at h
   .cases h
   .rename_i hc;refine TO r _ _ h ?_;have cP:∀ d,QR mp d≠some (some a):=λd hd=>by
     obtain⟨p,h1,h2,h3⟩:=E3 hd
     grind
    intro t1 t2 a' h1 h2;rw[Uo] at h1 h2;split at h1
    .rename_i y1 e1;split at h2
     .rename_i y2 e2;obtain rfl:=osj h1;obtain rfl:=osj h2;exact hi t1 t2 a' e1 e2
     simp_all
    .split at h1
     .rename_i e1;obtain rfl:=osj (osj h1);split at h2
      .simp_all
      simp_all
     .cases h1
  .split at h
   .cases h
   .refine TO r _ _ h ?_;intro t1 t2 a' h1 h2;rw[Uo] at h1 h2;split at h1
    .rename_i y1 e1;split at h2
     .rename_i y2 e2;obtain rfl:=osj h1;obtain rfl:=osj h2;exact hi t1 t2 a' e1 e2
     .split at h2<;>cases h2
    .split at h1<;>cases h1
  .cases h
theorem A8 {mp:List (Nat×Option Nat)}:∀ {ow:List (Nat×Src×OB)},gmatch.obs s mp ow->∀ p∈ow,Q17 s mp p.1 p.2.2
 |[],_,p,hp=>by cases hp
 |(t,src,b)::r,h,p,hp=>by
  simp only[gmatch.obs] at h;rcases zG.1 hp with rfl|hp
  .exact h.1
  .exact A8 h.2 p hp
theorem KG {f:List (Nat×Src×OB)}:∀ (own:Own) (t:Nat),(∃ p∈f,p.1=t/\Qk (f.foldl (λo p=>oset o p.1 p.2.2) own) t=p.2.2)\/Qk (f.foldl (λo p=>oset o p.1 p.2.2) own) t=Qk own t:=by
 induction f with
 |nil=>intro own t;exact .inr rfl
 |cons p f ih =>
  intro own t;simp only[xS];rcases ih (oset own p.1 p.2.2) t with⟨q,h1,h2⟩|h
  .grind
  .rw[h,Qo]
   grind
theorem RM (hG:Gam P B F pl tb s env U) {mp:List (Nat×Option Nat)}:∀ (st:List (Nat×SV)) {e:List SV}{eV:Env},gmatch.slots s mp st->SRs P B (GQ pl mp) XC e eV->SRs P B (GQ pl mp) XC (st.foldl (λe p=>e.set p.1 p.2) e) (Wy (st.map (·.1)) (HU (st.map (·.1)) env) eV)
 |[],e,eV,_,h=>h
 |(j,v)::r,e,eV,hs,h=>by simp only[gmatch.slots] at hs;simp only[xS,xe,HU,Wy];exact RM hG r hs.2 (h.set j (N4 v _ _ hs.1 (hG.env.getD j poison)))
theorem Q3c {B:Heap}{pl:Nat->Value}{tb:Nat->Option Bool}:∀ n,SRs P B pl tb (List.replicate n .any) (List.replicate n poison)
 |0=>by simp[SRs]
 |n+1=>by simp only[xn,SRs];exact⟨_,_,rfl,by simp[SR],Q3c n⟩
theorem PY {B0 F0 D0:Heap}(hR:GRel P B0 F0 D0 s env U) {st:List (Nat×SV)}{ow:List (Nat×Src×OB)}(h:gmatch s st ow) (len:Nat):GRel P B0 F0 D0 (Zk len st ow) (Wy (st.map (·.1)) (HU (st.map (·.1)) env) (List.replicate len poison)) U:=by
 obtain⟨B,F,pl,tb,hB,hG⟩:=hR;unfold gmatch at h;split at h
 .rename_i mp kR;obtain⟨h1,h2⟩:=h;have eE:=TO _ _ _ kR (λt t' a h=>by cases h);have aY:=A8 h2;have ao:∀ t,(Qk (Zk len st ow).own t).live=true->Q17 s mp t (Qk (Zk len st ow).own t):=λt hl=>by
   rcases KG (f:=ow) [] t with⟨p,h3,h4,h5⟩|h3
   .have:=aY p h3;rw[h4,<-h5] at this;exact this
   .simp only[Zk] at hl;rw[h3] at hl;cases hl
  refine⟨B,F,GQ pl mp,XC,hB,hG.bf,hG.le,RM hG st h1 (Q3c len),λt=>?_,λt i hl hi=>?_,λt t' i aK hl bY hi cE=>?_,λ_ _=>rfl⟩
  .cases hl:(Qk (Zk len st ow).own t).live with
   |true=>exact(Z7 hG (ao t hl)).1
   |false =>
    cases ho:Qk (Zk len st ow).own t with
    |dead=>trivial
    |stk l vals =>
     rcases KG (f:=ow) [] t with⟨p,h3,h4,h5⟩|h3
     .have:=aY p h3;simp only[Zk] at ho
      grind [Z7]
     .simp only[Zk] at ho;rw[h3] at ho;cases ho
    |rmap kk vk m =>
     rcases KG (f:=ow) [] t with⟨p,h3,h4,h5⟩|h3
     .have:=aY p h3;simp only[Zk] at ho
      grind [Z7]
     .simp only[Zk] at ho;rw[h3] at ho;cases ho
    |lpf l q u =>
     rcases KG (f:=ow) [] t with⟨p,h3,h4,h5⟩|h3
     .have:=aY p h3;simp only[Zk] at ho
      grind [Z7]
     .simp only[Zk] at ho;rw[h3] at ho;cases ho
    |_=>rw[ho] at hl;cases hl
  .obtain⟨a,_,h4,h5⟩:=(Z7 hG (ao t hl)).2 hl i hi;exact hG.fresh a i h4 h5
  .obtain⟨a,e1,h4,h5⟩:=(Z7 hG (ao t hl)).2 hl i hi;obtain⟨a',e2,ic,pX⟩:=(Z7 hG (ao t' bY)).2 bY i cE;by_cases e:a=a'
   .subst e;exact aK (eE t t' a e1 e2)
   .exact hG.sep a a' i e h4 ic h5 pX
 .exact h.elim
theorem P7:∀ {cW cm:List SV}{vs:List Value}{B F:Heap}{s s':St},Gam P B F pl tb s env U->SRs P B pl tb cW vs->Q78 s cW=some (s',cm) ->
  ∃ B' F',GBase B F U B' F' U/\Gam P B' F' pl tb s' env U/\SRs P B' WB XC cm vs/\s'.env=s.env
 |[],cm,vs,B,F,s,s',hG,hs,h=>by simp only[Q78,zY,Prod.mk.injEq] at h;obtain⟨rfl,rfl⟩:=h;exact⟨B,F,.of hG.bf (.refl _),hG,hs,rfl⟩
 |v::cW,cm,vs,B,F,s,s',hG,hs,h=>by
  simp only[SRs] at hs;obtain⟨u,us,rfl,h1,h2⟩:=hs
  have m_:∀ w:SV,SR P B pl tb w u->(bif w.pure then (match Q78 s cW with|some (s',r)=>some (s',w::r)|none=>none) else none)=some (s',cm) ->
    ∃ B' F',GBase B F U B' F' U/\Gam P B' F' pl tb s' env U/\SRs P B' WB XC cm (u::us)/\s'.env=s.env:=λw hw h=>by
   cases hp:w.pure with
   |false=>rw[hp] at h;cases h
   |true =>
    rw[hp] at h;simp only[zj] at h;split at h
    .rename_i s1 r heq;simp only[zY,Prod.mk.injEq] at h;obtain⟨rfl,rfl⟩:=h;obtain⟨B',F',k1,k2,k3,k4⟩:=P7 hG h2 heq;exact⟨B',F',k1,k2,by simp only[SRs];exact⟨u,us,rfl,SR.mono k1.b (λ_ _ h=>h) _ _ (LW w u hp hw),k3⟩,k4⟩
    .cases h
  simp only[Q78] at h;split at h
  .rename_i o;split at h
   .rename_i l _ ho;cases hp:SVs.pure l with
    |false=>rw[hp] at h;cases h
    |true =>
     rw[hp] at h;simp only[zj] at h;split at h
     .rename_i s1 r heq;simp only[zY,Prod.mk.injEq] at h;obtain⟨rfl,rfl⟩:=h;have ao:=hG.obj o;rw[ho] at ao;obtain⟨i,c,e,t,e1,e2,e3,_⟩:=ao;obtain⟨k1,k2⟩:=hG.freeze (o:=o) (i:=i) (by rw[ho];rfl) (by rw[e1];rfl);obtain⟨B',F',j1,j2,j3,j4⟩:=P7 k2 (SRs.mono k1.b (λ_ _ h=>h) _ _ h2) heq;refine⟨B',F',k1.trans j1,j2,?_,j4⟩;simp only[SRs];refine⟨u,us,rfl,?_,j3⟩;simp only[SR] at h1 |-;obtain⟨b,q1,q2⟩:=h1;rw[e1] at q1;obtain rfl:i=b:=by simpa using q1
      refine⟨i,c,e,true,t,j1.b.2 _ _ ?_,q2,SRs.mono (k1.trans j1).b (λ_ _ h=>h) _ _ (X1 l c hp e3)⟩;rw[Heap.q0k];exact e2
     .cases h
   .cases h
  .exact m_ _ h1 h
theorem Gam.lpUpd (hG:Gam P B F pl tb s env U) {n:Nat}{b b0:Blk}(hF:F.get n=some b0) (hB:B.get n=none):Gam P B (F.upd n b) pl tb s env (U.upd n b):=by
 have aK:∀ {d i},(Qk s.own d).live=true->Oid (pl d) i->i≠n:=λh1 h2 e=>by have:=hG.fresh _ _ h1 h2;subst e;rw[hF] at this;cases this
 refine⟨⟨hG.bf.1,λi c hc=>?_⟩,⟨hG.le.1,λi c hc=>?_⟩,hG.env,λd=>(hG.obj d).mono (.refl _) (λ_ _ h=>h) (by grind [Heap.q0b]),λd i h1 h2=>?_,hG.sep,hG.free⟩
 .have:i≠n:=by rintro rfl;rw[hB] at hc;cases hc
  rw[Heap.q0b _ _ this];exact hG.bf.2 _ _ hc
 .by_cases e:i=n
  .subst e;rw[Heap.q0d _ _ (F.lt hF)] at hc;rw[Heap.q0d _ _ (zV (F.lt hF) hG.le.1)];exact hc
  .rw[Heap.q0b _ _ e] at hc |-;exact hG.le.2 _ _ hc
 .rw[Heap.q0b _ _ (aK h1 h2)];exact hG.fresh _ _ h1 h2
theorem Gam.lpKill (hG:Gam P B F pl tb s env U) {n:Nat}{b0:Blk}(hF:F.get n=some b0) (hB:B.get n=none):Gam P B (F.kill n) pl tb s env (U.kill n):=by
 have aK:∀ {d i},(Qk s.own d).live=true->Oid (pl d) i->i≠n:=λh1 h2 e=>by have:=hG.fresh _ _ h1 h2;subst e;rw[hF] at this;cases this
 refine⟨⟨hG.bf.1,λi c hc=>?_⟩,⟨hG.le.1,λi c hc=>?_⟩,hG.env,λd=>(hG.obj d).mono (.refl _) (λ_ _ h=>h) (by grind [Heap.q0c]),λd i h1 h2=>?_,hG.sep,hG.free⟩
 .have:i≠n:=by rintro rfl;rw[hB] at hc;cases hc
  rw[Heap.q0c _ this];exact hG.bf.2 _ _ hc
 .by_cases e:i=n
  .grind [Heap.q0g]
  .rw[Heap.q0c _ e] at hc |-;exact hG.le.2 _ _ hc
 .rw[Heap.q0c _ (aK h1 h2)];exact hG.fresh _ _ h1 h2
theorem GRel.lpUpd {B1 F1 D0:Heap}(h:GRel P B1 F1 D0 s env U) {n:Nat}{b b0:Blk}(hF:F1.get n=some b0) (hB:B1.get n=none):GRel P B1 (F1.upd n b) D0 s env (U.upd n b):=by
 obtain⟨B,F,pl,tb,de,hG⟩:=h;have na:=de.f.2 _ _ hF;have nb:=de.x _ _ hF hB;refine⟨B,F.upd n b,pl,tb,⟨de.b,⟨de.f.1,λi c hc=>?_⟩,λi c h1 h2=>?_,⟨de.d.1,λi h1 h2=>?_⟩⟩,hG.lpUpd na nb⟩
 .by_cases e:i=n
  .subst e;rw[Heap.q0d _ _ (F1.lt hF)] at hc;rw[Heap.q0d _ _ (F.lt na)];exact hc
  .rw[Heap.q0b _ _ e] at hc |-;exact de.f.2 _ _ hc
 .by_cases e:i=n
  .subst e;exact nb
  .rw[Heap.q0b _ _ e] at h1;exact de.x _ _ h1 h2
 .have hd:=de.d.2 i h1 h2;have:i≠n:=by rintro rfl;rw[hG.le.2 _ _ na] at hd;cases hd
  rw[Heap.q0b _ _ this];exact hd
theorem GRel.lpKill {B1 F1 D0:Heap}(h:GRel P B1 F1 D0 s env U) {n:Nat}{b0:Blk}(hF:F1.get n=some b0) (hB:B1.get n=none):GRel P B1 (F1.kill n) D0 s env (U.kill n):=by
 obtain⟨B,F,pl,tb,de,hG⟩:=h;have na:=de.f.2 _ _ hF;have nb:=de.x _ _ hF hB;refine⟨B,F.kill n,pl,tb,⟨de.b,⟨de.f.1,λi c hc=>?_⟩,λi c h1 h2=>?_,⟨de.d.1,λi h1 h2=>?_⟩⟩,hG.lpKill na nb⟩
 .by_cases e:i=n
  .grind [Heap.q0g]
  .rw[Heap.q0c _ e] at hc |-;exact de.f.2 _ _ hc
 .by_cases e:i=n
  .subst e;exact nb
  .rw[Heap.q0c _ e] at h1;exact de.x _ _ h1 h2
 .have hd:=de.d.2 i h1 h2
  grind [Heap.q0g,Heap.q0c]
theorem GRel.base {B0 F0 B1 F1 D0:Heap}(h:GRel P B1 F1 D0 s env U) (hb:B0.Le B1) (hf:F0.Le F1) (hx:∀ i b,F0.get i=some b->B0.get i=none->B1.get i=none):GRel P B0 F0 D0 s env U:=by obtain⟨B,F,pl,tb,de,hG⟩:=h;exact⟨B,F,pl,tb,⟨hb.trans de.b,hf.trans de.f,λi b h1 h2=>de.x i b (hf.2 _ _ h1) (hx i b h1 h2),de.d⟩,hG⟩
theorem PK (hG:Gam P B F pl tb s env U) {mp:List (Nat×Option Nat)}:∀ (st:List (Nat×SV)) {e:List SV},gmatch.slots s mp st->SRs P B (GQ pl mp) XC e env->SRs P B (GQ pl mp) XC (st.foldl (λe p=>e.set p.1 p.2) e) env
 |[],e,_,h=>h
 |(j,v)::r,e,hs,h=>by
  simp only[gmatch.slots] at hs;simp only[xS];refine PK hG r hs.2 ?_;have:=h.set j (N4 v _ _ hs.1 (hG.env.getD j poison))
  grind [List.getElem?_eq_getElem,List.set_getElem_self,List.set_eq_of_length_le]
theorem Oh {B:Heap}{pl:Nat->Value}{tb:Nat->Option Bool}:∀ (env:Env),SRs P B pl tb (List.replicate (List.length env) .any) env
 |[]=>by simp[SRs]
 |v::env=>by simp only[x9,xn,SRs];exact⟨_,_,rfl,by simp[SR],Oh env⟩
theorem NZ {B0 F0 D0:Heap}(hR:GRel P B0 F0 D0 s env U) {st:List (Nat×SV)}{ow:List (Nat×Src×OB)}(h:gmatch s st ow):GRel P B0 F0 D0 (Zk (List.length env) st ow) env U:=by
 obtain⟨B,F,pl,tb,hB,hG⟩:=hR;unfold gmatch at h;split at h
 .rename_i mp kR;obtain⟨h1,h2⟩:=h;have eE:=TO _ _ _ kR (λt t' a h=>by cases h);have aY:=A8 h2;have ao:∀ t,(Qk (Zk (List.length env) st ow).own t).live=true->Q17 s mp t (Qk (Zk (List.length env) st ow).own t):=λt hl=>by
   rcases KG (f:=ow) [] t with⟨p,h3,h4,h5⟩|h3
   .have:=aY p h3;rw[h4,<-h5] at this;exact this
   .simp only[Zk] at hl;rw[h3] at hl;cases hl
  refine⟨B,F,GQ pl mp,XC,hB,hG.bf,hG.le,PK hG st h1 (Oh env),λt=>?_,λt i hl hi=>?_,λt t' i aK hl bY hi cE=>?_,λ_ _=>rfl⟩
  .cases hl:(Qk (Zk (List.length env) st ow).own t).live with
   |true=>exact(Z7 hG (ao t hl)).1
   |false =>
    cases ho:Qk (Zk (List.length env) st ow).own t with
    |dead=>trivial
    |stk l vals =>
     rcases KG (f:=ow) [] t with⟨p,h3,h4,h5⟩|h3
     .have:=aY p h3;simp only[Zk] at ho
      grind [Z7]
     .simp only[Zk] at ho;rw[h3] at ho;cases ho
    |rmap kk vk m =>
     rcases KG (f:=ow) [] t with⟨p,h3,h4,h5⟩|h3
     .have:=aY p h3;simp only[Zk] at ho
      grind [Z7]
     .simp only[Zk] at ho;rw[h3] at ho;cases ho
    |lpf l q u =>
     rcases KG (f:=ow) [] t with⟨p,h3,h4,h5⟩|h3
     .have:=aY p h3;simp only[Zk] at ho
      grind [Z7]
     .simp only[Zk] at ho;rw[h3] at ho;cases ho
    |_=>rw[ho] at hl;cases hl
  .obtain⟨a,_,h4,h5⟩:=(Z7 hG (ao t hl)).2 hl i hi;exact hG.fresh a i h4 h5
  .obtain⟨a,e1,h4,h5⟩:=(Z7 hG (ao t hl)).2 hl i hi;obtain⟨a',e2,ic,pX⟩:=(Z7 hG (ao t' bY)).2 bY i cE;by_cases e:a=a'
   .subst e;exact aK (eE t t' a e1 e2)
   .exact hG.sep a a' i e h4 ic h5 pX
 .exact h.elim
theorem Aj {α:Type}{o:Option α}{f:α->Prop}(h:Z8 o f):∃ a,f a:=by
 cases o with
 |none=>exact h.elim
 |some a=>exact⟨a,h⟩
theorem COk.nx {C:Cx}(h:COk P C):COk P C.nx:=⟨h.cs,λf x hx=>(by cases hx),h.it,h.yl,h.iy,λf j _ x hx=>(by cases hx)⟩
theorem K2 {S:VSpecs}{Q:Prop}:∀ {ops:List DOper}{env:Env}{hs:List Heap}{U:Heap}{pend:List (Nat×(Heap->Prop))},Xj S ops env hs U pend (λ_ _=>Q)->Q
 |[],_,_,_,_,h=>h
 |o::r,env,hs,U,pend,h=>by
  simp only[Xj] at h;obtain⟨b,h⟩:=Aj h;cases b with
  |true =>
   have h:=h.1 rfl;split at h
   .obtain⟨v,U',_,_,h⟩:=h;exact K2 h
   .split at h
    .obtain⟨p,_,h⟩:=Aj h;exact K2 h
    .obtain⟨p,h⟩:=Aj h;exact K2 h
  |false =>
   have h:=h.2 rfl;split at h
   .exact K2 h.2
   .exact K2 h
theorem Ro {C:Cx}{s:St}{st:List (Nat×SV)}{ow:List (Nat×Src×OB)}{Q:Prop}:∀ (ls:List (List DOper)),Q7g C ls s st ow Q->(∀ l∈ls,WT C.nx l s 1 0 [] [] λs'=>Pc s.env.length s' st ow)/\Q
 |[],h=>⟨λl hl=>(by cases hl),h⟩
 |l::ls,h=>by obtain⟨h1,h2⟩:=h;obtain⟨h3,h4⟩:=Ro ls h2;simp_all
theorem N_ {B0 F0 D0:Heap}{s:St}{env:Env}{U:Heap}{n:Nat}(hR:GRel P B0 F0 D0 s env U) {st:List (Nat×SV)}{ow:List (Nat×Src×OB)}(h:Pc n s st ow):GRel P B0 F0 D0 (Zk n st ow) env U:=by
 unfold Pc at h;cases hb:Nat.beq s.env.length n with
 |false=>rw[hb] at h;exact h.elim
 |true =>
  rw[hb] at h;have hl:env.length=n:=by rw[<-zC hb];obtain⟨_,_,_,_,_,hG⟩:=hR;exact hG.env.length.symm
  rw[<-hl];exact NZ hR h
theorem Ka {C:Cx}(aA:COk P C) {B0 F0 D0:Heap}:∀ (aQ:List DSeg) {s:St}{env:Env}{U:Heap},GRel P B0 F0 D0 s env U->∀ {K:St->Prop},A0 C aQ s K->∀ {R:Env->Heap->Prop},(∀ s' ai U',K s'->GRel P B0 F0 D0 s' ai U'->R ai U')->Du (Q3 P) aQ env U R
 |[],s,env,U,hR,K,h,R,hK=>hK s env U h hR
 |.one o::r,s,env,U,hR,K,h,R,hK=>by refine D9 aA [o] hR (K:=λs'=>A0 C r s' K) h λs' ai U' h1 h2=>?_;exact Ka aA r h2 h1 hK
 |.alts [l]::r,s,env,U,hR,K,h,R,hK=>by
  simp only[A0] at h;cases hd:Q6x l with
  |false =>
   rw[hd] at h;simp only[zJ] at h;cases hk:l.all (λo=>o.kind==o.op.kind) with
   |false=>rw[hk] at h;exact h.elim
   |true =>rw[hk] at h;simp only[zj] at h;intro ops ho;obtain rfl:=x6.1 ho;obtain⟨B,F,pl,tb,hB,hG⟩:=hR;have one:∀ (j:Nat) (Z:Heap),([U]:List Heap)[j]?=some Z->Z=U:=(by grind);exact Qy aA ops (by simp_all) hB hG (hl:=1) (chg:=0) (A:=[]) (Rd:=[]) ⟨rfl,λj Z _ ht=>one j Z ht,(λc hc=>absurd hc (by simp)),(by grind)⟩ (pend:=[]) (pd:=[]) (λc hc=>absurd hc (by simp)) (λj Z ht _=>by rw[one j Z ht];exact hG.leB) (Nat.zero_le _) (Nat.succ_pos _) h λs' ai U' h1 h2=>⟨ai,U',.refl _ _ _,Ka aA r h2 h1 hK⟩
  |true =>rw[hd] at h;refine Q38 (l:=l) hd ?_;exact D9 aA _ hR h λs' ai U' h1 h2=>Ka aA r h2 h1 hK
 |.alts []::r,s,env,U,hR,K,h,R,hK=>h.elim
 |.alts (l::l2::ls)::r,s,env,U,hR,K,h,R,hK=>by
  simp only[A0] at h;cases hk:(l::l2::ls).all (λl=>l.all λo=>o.kind==o.op.kind) with
  |false=>rw[hk] at h;exact h.elim
  |true =>
   rw[hk] at h;simp only[zj] at h;obtain⟨B,F,pl,tb,hB,hG⟩:=hR;have one:∀ (j:Nat) (Z:Heap),([U]:List Heap)[j]?=some Z->Z=U:=(by grind);have run:∀ l'∈l::l2::ls,∀ {K':St->Prop},WT C.nx l' s 1 0 [] [] K'->∀ {R':Env->Heap->Prop},(∀ s' ai U',K' s'->GRel P B0 F0 D0 s' ai U'->R' ai U')->Xj (Q3 P) l' env [U] U [] R':=λl' bY K' h' R' pU =>
    Qw aA.nx rfl l' (by grind) hB hG (hl:=1) (chg:=0) (A:=[]) (Rd:=[]) ⟨rfl,λj Z _ ht=>one j Z ht,(λc hc=>absurd hc (by simp)),(by grind)⟩ (pend:=[]) (pd:=[]) (λc hc=>absurd hc (by simp)) (λj Z ht _=>by rw[one j Z ht];exact hG.leB) (Nat.zero_le _) (Nat.succ_pos _) h' pU
   obtain⟨s0,h0,h1⟩:=K2 (run l xj h (R':=λ_ _=>∃ s0:St,_) λs' _ _ h' _=>⟨s',h'⟩);obtain⟨h2,h3⟩:=Ro _ h1;intro ops ho;rcases zG.1 ho with rfl|gy
   .refine K1 ?_;exact run ops ho h λs' ai U' h' pY=>⟨ai,U',.refl _ _ _,by
     obtain⟨k1,k2⟩:=h';exact Ka aA r (N_ pY k1) (Ro _ k2).2 hK⟩
   .refine K1 ?_;exact run ops ho (h2 ops gy) λs' ai U' h' pY=>⟨ai,U',.refl _ _ _,Ka aA r (N_ pY h') h3 hK⟩
theorem R2:∀ (l:List Nat) (vs:List SV),(Q98 l vs).map (·.1)=l
 |[],_=>rfl
 |j::js,[]=>by simp[Q98,R2 js []]
 |j::js,v::vs=>by simp[Q98,R2 js vs]
theorem GD {B:Heap}{pl:Nat->Value}{tb:Nat->Option Bool}:∀ {ps:List Nat}{xs:List SV}{us:List Value}{e:List SV}{env:Env},SRs P B pl tb xs us->SRs P B pl tb e env->SRs P B pl tb (Hi e ps xs) (TX env ps us)
 |[],xs,us,e,env,_,h=>by simpa [Hi,TX] using h
 |p::ps,[],us,e,env,hx,h=>by simp only[SRs] at hx;subst hx;simpa [Hi,TX] using h
 |p::ps,x::xs,us,e,env,hx,h=>by simp only[SRs] at hx;obtain⟨u,lx,rfl,h1,h2⟩:=hx;simp only[Hi,TX];exact GD h2 (h.set p h1)
def Z3h (F0:Heap):Option Nat->Prop
 |none=>True
 |some i=>∃ env r st pend,F0.get i=some (.obj (.lp env r st pend) true)
theorem Gam.dropLp {B F:Heap}{pl:Nat->Value}{tb:Nat->Option Bool}{s:St}{env:Env}{U:Heap}(hG:Gam P B F pl tb s env U) {o:Nat}{l:List SV}{q:LpD}{u:LpS}(ho:Qk s.own o=.lpf l q u) (hl:u.live=true) :
  Gam P B F pl tb ⟨l,oset s.own o .dead,s.nx⟩ q.vals (U.kill q.i)/\U.get q.i=some (.obj (.lp q.vals q.r u.st u.pend) true):=by
 have ao:=hG.obj o;rw[ho] at ao;obtain⟨h1,h2,h3⟩:=ao;have iK:(Qk s.own o).live=true:=by rw[ho];exact hl
 have lA:Oid (pl o) q.i:=by rw[h1];rfl
 have hF:=hG.fresh o q.i iK lA;have lv:∀ d,(Qk (oset s.own o .dead) d).live=true->d≠o/\(Qk s.own d).live=true:=λd h=>by
  rw[Qo] at h;by_cases e:d=o
  .rw[z7 e] at h;cases h
  .rw[z6 e] at h;exact⟨e,h⟩
 refine⟨⟨hG.bf,⟨hG.le.1,λj b hb=>?_⟩,h2,λd=>?_,λd i hd hi=>hG.fresh d i (lv d hd).2 hi,λd d' i e h h'=>hG.sep d d' i e (lv d h).2 (lv d' h').2,hG.free⟩,h3 hl⟩
 .have e:j≠q.i:=by rintro rfl;rw[hF] at hb;cases hb
  rw[Heap.q0c _ e];exact hG.le.2 _ _ hb
 .rw[Qo];by_cases e:d=o
  .rw[z7 e];trivial
  .rw[z6 e];refine (hG.obj d).mono (.refl _) (λ_ _ h=>h) λhd i hi=>?_;have:i≠q.i:=by rintro rfl;exact hG.sep d o q.i e hd iK hi lA
   exact Heap.q0c _ this
theorem Q1g (s:St) (o:Nat) (b:OB) (j:Nat):Qk (s.make o b).own j=if j=o then b else (Qk s.own j).kill o:=by
 simp only[St.make,Qo];by_cases h:j=o
 .subst h;simp
 .simp only[h,if_false,St.kill,Nn]
theorem Gam.enterLp {B F:Heap}{pl:Nat->Value}{tb:Nat->Option Bool}{s:St}{env:Env}{U:Heap}(hG:Gam P B F pl tb s env U) {o aI:Nat}{l:List SV}{q:LpD}(ho:Qk s.own o=.lpf l q .rdy) (aK:o≠aI)
  {args:List SV}{us:List Value}(av:SRs P B pl tb args us) (ps:List Nat) :
  Gam P B (F.ins U q.i hG.le.1) (XE pl aI poison) tb ⟨Hi (SVs.kill aI l) ps (SVs.kill aI args),oset (Fw aI env s).own o (.lpf (SVs.kill aI l) q .busy),s.nx⟩ (TX q.vals ps us) U:=by
 have q3:Gam P B F (XE pl aI poison) tb (Fw aI env s) env U:=by refine hG.make aI _ poison hG.le (λ_ _ _ _ _=>rfl) ?_ (λi hl _=>by cases hl);exact SRs.upd (.refl _) (λ_ _ h=>h) (λj hj=>by simp[XE,hj]) _ _ hG.env
 have ao:=hG.obj o;rw[ho] at ao;obtain⟨h1,h2,h3⟩:=ao;have iK:(Qk s.own o).live=true:=by rw[ho];rfl
 have pZ:XE pl aI poison o=.pointer (some ⟨q.i,0,none⟩):=by simp[XE,aK,h1]
 have uc:Qk (Fw aI env s).own o=.lpf (SVs.kill aI l) q .rdy:=by have:=Q1g s aI (.stk (SVs.kill aI s.env) env) o;unfold Fw;rw[this,z6 aK,ho];rfl
 have nc:(Qk (Fw aI env s).own o).live=true:=by rw[uc];rfl
 have lA:Oid (XE pl aI poison o) q.i:=by rw[pZ];rfl
 have hF:=q3.fresh o q.i nc lA;have b9:SRs P B (XE pl aI poison) tb (SVs.kill aI l) q.vals:=SRs.upd (.refl _) (λ_ _ h=>h) (λj hj=>by simp[XE,hj]) _ _ h2;have ud:SRs P B (XE pl aI poison) tb (SVs.kill aI args) us:=SRs.upd (.refl _) (λ_ _ h=>h) (λj hj=>by simp[XE,hj]) _ _ av;have lv:∀ d,(Qk (oset (Fw aI env s).own o (.lpf (SVs.kill aI l) q .busy)) d).live=true->d≠o/\(Qk (Fw aI env s).own d).live=true:=λd h=>by
  rw[Qo] at h;by_cases e:d=o
  .rw[z7 e] at h;cases h
  .rw[z6 e] at h;exact⟨e,h⟩
 refine⟨q3.bf.trans (hG.le.ins _),hG.le.q1w _,GD ud b9,λd=>?_,λd i hd hi=>?_,λd d' i e h h'=>q3.sep d d' i e (lv d h).2 (lv d' h').2,q3.free⟩
 .show OR P B _ tb U _ (Qk (oset _ o _) d);rw[Qo];by_cases e:d=o
  .subst e;rw[z7 rfl];exact⟨pZ,b9,λh=>by cases h⟩
  .rw[z6 e];exact q3.obj d
 .obtain⟨e,lB⟩:=lv d hd;have:i≠q.i:=by rintro rfl;exact q3.sep d o q.i e lB nc hi lA
  rw[Heap.q1a _ _ _ this];exact q3.fresh d i lB hi
theorem Gam.leaveLp {B F:Heap}{pl:Nat->Value}{tb:Nat->Option Bool}{s:St}{env:Env}{U:Heap}(hG:Gam P B F pl tb s env U) {o aI:Nat}{l l2:List SV}{iA:List Value}{q:LpD}{b0:Blk}(hF:F.get q.i=some b0) (hB:B.get q.i=none)
  (h2:Qk s.own aI=.stk l2 iA) (ho:Qk s.own o=.lpf l q .busy) (u:LpS) :
  Gam P B (F.kill q.i) pl tb ⟨l2,oset (oset s.own aI .dead) o (.lpf l q u),s.nx⟩ iA (U.upd q.i (.obj (.lp q.vals q.r u.st u.pend) true)):=by
 have ao:=hG.obj o;rw[ho] at ao;obtain⟨k1,k2,_⟩:=ao;have hk:=hG.obj aI;rw[h2] at hk;have hi:q.i<U.n:=U.lt (hG.le.2 _ _ hF);have aK:∀ {d i},(Qk s.own d).live=true->Oid (pl d) i->i≠q.i:=λh1 h2 e=>by have:=hG.fresh _ _ h1 h2;subst e;rw[hF] at this;cases this
 have lA:∀ i,Oid (pl o) i->i=q.i:=λi h=>by rw[k1] at h;exact(osj h).symm
 have hg:∀ d,Qk (oset (oset s.own aI .dead) o (.lpf l q u)) d=if d=o then .lpf l q u else if d=aI then .dead else Qk s.own d:=λd=>by rw[Qo,Qo]
 have lv:∀ d,d≠o->(Qk (oset (oset s.own aI .dead) o (.lpf l q u)) d).live=true->(Qk s.own d).live=true:=λd e h=>by
  rw[hg,z6 e] at h;split at h
  .cases h
  .exact h
 refine⟨⟨hG.bf.1,λj b hb=>?_⟩,⟨hG.le.1,λj b hb=>?_⟩,hk,λd=>?_,λd i hd cE=>?_,λd d' i e h h' h1 iV=>?_,hG.free⟩
 .have e:j≠q.i:=by rintro rfl;rw[hB] at hb;cases hb
  rw[Heap.q0c _ e];exact hG.bf.2 _ _ hb
 .by_cases e:j=q.i
  .grind [Heap.q0g]
  .rw[Heap.q0c _ e] at hb;rw[Heap.q0b _ _ e];exact hG.le.2 _ _ hb
 .show OR P B pl tb _ _ (Qk (oset _ o _) d);rw[hg];by_cases e:d=o
  .subst e;rw[z7 rfl];exact⟨k1,k2,λ_=>Heap.q0d _ _ hi⟩
  .rw[z6 e];split
   .trivial
   .exact(hG.obj d).mono (.refl _) (λ_ _ h=>h) (by grind [Heap.q0b])
 .by_cases e:d=o
  .grind [Heap.q0g]
  .rw[Heap.q0c _ (aK (lv d e hd) cE)];exact hG.fresh d i (lv d e hd) cE
 .by_cases e1:d=o
  .grind
  .by_cases e2:d'=o
   .grind
   .exact hG.sep d d' i e (lv d e1 h) (lv d' e2 h') h1 iV
theorem Hk {C:Cx}(aA:COk P C) {L:List (Nat×LoopAnn)}(vc:VCode):∀ {B0 F0 D0:Heap}(n:Nat) (K:Exit->St->Prop) (s:St) (env:Env) (U:Heap) (ro:Option Nat) (Q:Exit->Env->Heap->Prop),Z3h F0 ro->GRel P B0 F0 D0 s env U->gwp C L vc n K s->(∀ e s' ai U',K e s'->GRel P B0 F0 D0 s' ai U'->Q e ai U')->vwp (Q3 P) vc ro Q env U:=by
 induction vc with
 |skip=>intro B0 F0 D0 n K s env U ro Q bP hR h hK;exact hK _ _ _ _ h hR
 |region ops=>intro B0 F0 D0 n K s env U ro Q bP hR h hK;exact D9 aA ops hR h (by grind)
 |regionD aQ=>intro B0 F0 D0 n K s env U ro Q bP hR h hK;exact Ka aA aQ hR h (by grind)
 |rangeF g ps a b eN d_ =>
  intro B0 F0 D0 n K s env U ro Q bP hR h hK;simp only[gwp] at h;split at h
  .rename_i f first cW hg
   split at h
   .
    rename_i x hx;obtain⟨B,F,pl,tb,hB,hG⟩:=hR;have gf:=hG.evs (Gds.nil (tb:=tb)) g;rw[hg] at gf;simp only[SR] at gf;obtain⟨x',y',bI,kS,ng⟩:=gf;obtain⟨gJ,ly⟩:=aA.iy f x hx;show vwp (Q3 P) (.rangeF g ps a b) ro Q env U;simp only[vwp,AY,bI];have kT:(Q3 P).it f=some λi Y args U K=>VD P i Y->VCallsTo P f args U K:=by simp only[Q3];rw[z7 gJ]
    rw[kT];refine⟨?_,λr hY=>?_⟩
    .cases ro with
     |none=>trivial
     |some i =>obtain⟨e1,r1,st1,p6,hi⟩:=bP;exact⟨e1,r1,st1,p6,hG.le.2 _ _ (hB.f.2 _ _ hi)⟩
    generalize jc:C.off+2000000+n=o at h;generalize fy:100000*(o+1)-1=aI at h;have aq:o≠aI:=by omega
    let q:LpD:=⟨U.n,env,r⟩;let rdy:Blk:=.obj (.lp env r .ready none) true;let eP:Blk:=.obj (.lp env r .busy none) true;let p0:Value:=.pointer (some ⟨U.n,0,none⟩);have dz:Gam P B F (XE pl o p0) tb (Z5r o q s) env (U.push rdy):=by refine hG.push o (.lpf (SVs.kill o s.env) q .rdy) p0 rdy rfl ⟨rfl,SRs.upd (.refl _) (λ_ _ h=>h) (λj hj=>by simp[XE,hj]) _ _ hG.env,λ_=>Heap.q0a _ _⟩
    have kl:∀ {xs us},SRs P B pl tb xs us->SRs P B (XE pl o p0) tb (SVs.kill o xs) us:=λh=>SRs.upd (.refl _) (λ_ _ h=>h) (λj hj=>by simp[XE,hj]) _ _ h;have av:SRs P B (XE pl o p0) tb (SVs.kill o first++(.dd o .yv::SVs.kill o cW)) (x'++(.func (.yield U.n) #[] #[]::y')):=by refine (kl kS).append ?_;simp only[SRs,SR,DR];exact⟨_,_,rfl,⟨U.n,by simp[XE,p0],rfl⟩,kl ng⟩
    have uf:Q5c P o (Q2x o aI ps.length q (λK' s'=>gwp C L a n (Q4k (λs3=>gwp C L b n K' s3) λ_ _=>False) s') ps):=by
     intro B F pl tb s ai U args us K R i hG ha hy pZ hK;unfold Q2x at hy;split at hy
     .rename_i l q' u ho;split at hy
      .cases hlen:Nat.beq args.length ps.length with
       |false=>rw[hlen] at hy;exact hy.elim
       |true =>
       rw[hlen] at hy;simp only[zj] at hy;obtain⟨rfl,hy⟩:=hy;have ao:=hG.obj o;rw[ho] at ao;have hi:i=q.i:=by have h1:=ao.1;simp_all
       subst hi;have lC:U.get q.i=some rdy:=ao.2.2 rfl;have iK:(Qk s.own o).live=true:=by rw[ho];rfl
       have mV:F.get q.i=none:=hG.fresh o q.i iK (by rw[ao.1];rfl);have rA:B.get q.i=none:=by
        cases hb:B.get q.i with
        |none=>rfl
        |some b=>rw[hG.bf.2 _ _ hb] at mV;cases mV
       have jI:=hG.enterLp ho aq ha ps;have iY:(F.ins U q.i hG.le.1).get q.i=some rdy:=by rw[Heap.q0k];exact lC
       have gi:(F.ins U q.i hG.le.1).n=U.n:=rfl;have aP:q.i<U.n:=U.lt lC;refine hY us U R ⟨lC,by rw[<-ha.length];exact(zC hlen),?_⟩;refine eN (B0:=B) (F0:=F.ins U q.i hG.le.1) (D0:=U) n _ _ _ U (some q.i) _ ⟨env,r,_,_,iY⟩ ⟨B,_,_,tb,.of jI.bf (Dead.refl _),jI⟩ (hy ai) λe s3 p7 σ3 h7 h8=>?_;cases e with
       |normal =>
        have ke:σ3.get q.i=some rdy:=by obtain⟨B',F',pl',tb',q1,q2⟩:=h8;exact q2.le.2 _ _ (q1.f.2 _ _ iY)
        refine⟨ke,?_⟩;have h9:=h8.lpUpd (b:=eP) iY rA;have lD:((F.ins U q.i hG.le.1).upd q.i eP).get q.i=some eP:=(by grind [Heap.q0d]);refine d_ (B0:=B) (F0:=(F.ins U q.i hG.le.1).upd q.i eP) (D0:=U) n _ _ _ _ (some q.i) _ ⟨env,r,_,_,lD⟩ h9 h7 λe s4 p8 σ4 bV hU=>?_;obtain⟨B',F',pl',tb',q1,q2⟩:=hU;have oB:=q1.f.2 _ _ lD;have p9:=q1.x _ _ lD rA;have nh:σ4.get q.i=some eP:=q2.le.2 _ _ oB;unfold gyK at bV;split at bV
        .rename_i l2 iA l3 q3 u3 aB p_;split at bV
         .obtain⟨rfl,rfl,bV⟩:=bV;have base:∀ b,GBase B F U B' (F'.kill q.i) (σ4.upd q.i b):=λb=>by
           refine⟨q1.b,⟨?_,λj c hc=>?_⟩,λj c h1 h2=>?_,q1.d.trans (Dead.upd _ _ _ (by rw[nh];rfl))⟩
           .have h1:=q1.f.1;have h2:=hG.le.1;show F.n<=F'.n;have h3:((F.ins U q.i hG.le.1).upd q.i eP).n=U.n:=rfl;omega
           .have e:j≠q.i:=by rintro rfl;rw[mV] at hc;cases hc
            rw[Heap.q0c _ e];refine q1.f.2 _ _ ?_
            grind [Heap.q0b,Heap.q1a]
           .have e:j≠q.i:=by rintro rfl;rw[mV] at h1;cases h1
            refine q1.x j c ?_ h2
            grind [Heap.q0b,Heap.q1a]
          refine⟨nh,?_⟩;cases e with
          |normal=>exact hK _ _ B' _ pl' tb' _ _ bV (base _) (q2.leaveLp oB p9 aB p_ .rdy) (by simp[SR,KC])
          |ret=>exact hK _ _ B' _ pl' tb' _ _ bV (base _) (q2.leaveLp oB p9 aB p_ .ret) (by simp[SR,KC])
          |exit id=>exact hK _ _ B' _ pl' tb' _ _ bV (base _) (q2.leaveLp oB p9 aB p_ (.exit id)) (by simp[SR,KC])
          |_=>exact bV.elim
         .exact bV.elim
        .exact bV.elim
       |_=>exact h7.elim
      .exact hy.elim
     .exact hy.elim
    have aR:=ly B F _ tb _ env (U.push rdy) o _ _ _ (Q7x o q K) (λZ=>Q54 Q env U.n poison Z) dz av uf (h q) λs' B' F' pl' tb' ai U' hk hb cO=>by
     unfold Q7x at hk;split at hk
     .rename_i l q' u ho;have fin:∀ {e:Exit},u.live=true->q'=q->K e ⟨l,oset s'.own o .dead,s'.nx⟩->Q e env (U'.kill U.n)/\U'.get U.n=some (.obj (.lp env r u.st u.pend) true):=λ{e} hu hq ug=>by
       subst hq;obtain⟨g1,g2⟩:=cO.dropLp ho hu;refine⟨hK _ _ _ _ ug ⟨B',F',pl',tb',⟨hB.b.trans hb.b,hB.f.trans hb.f,λj c h1 h2=>hb.x j c (hB.f.2 _ _ h1) (hB.x j c h1 h2),hB.d.trans ((Dead.push _ _).trans (hb.d.trans (Dead.kill _ _)))⟩,g1⟩,g2⟩
      cases u with
      |busy=>exact hk.elim
      |rdy =>obtain⟨hq,hk⟩:=hk;obtain⟨k1,k2⟩:=fin rfl hq hk;unfold Q54;rw[k2];exact⟨(by intro h;cases h),k1⟩
      |ret =>obtain⟨hq,hk⟩:=hk;obtain⟨k1,k2⟩:=fin rfl hq hk;unfold Q54;rw[k2];exact⟨(by intro h;cases h),k1⟩
      |exit id =>obtain⟨hq,hk⟩:=hk;obtain⟨k1,k2⟩:=fin rfl hq hk;unfold Q54;rw[k2];exact⟨(by intro h;cases h),k1⟩
     .exact hk.elim
    refine VCallsTo.mono (R:=λ_ Z=>Q54 Q env U.n poison Z) (by simpa using aR) λv Z h=>h
   split at h
   rotate_left
   .exact h.elim
   split at h
   .rename_i it s1 cm A hit qa hA;split at h
    .rename_i c m ar xs hc;cases dS:Nat.beq ps.length ar with
     |false=>rw[dS] at h;exact h.elim
     |true =>
     rw[dS] at h;simp only[zj] at h;obtain⟨eJ,p,d0,eK,I,uh,rB,ui⟩:=h;have dS:=zC dS;have hlen:s.env.length=env.length:=by obtain⟨B,F,pl,tb,_,hG⟩:=hR;exact hG.env.length
     rw[hlen] at rB ui;have pR:=hR;obtain⟨B,F,pl,tb,hB,hG⟩:=hR;have gf:=hG.evs Gds.nil g;rw[hg] at gf;simp only[SR] at gf;obtain⟨x,y,bI,hx,hy⟩:=gf;simp only[SRs] at hx;subst hx;obtain⟨B1,F1,ni,nj,uj,lj⟩:=P7 hG hy qa;obtain⟨gJ,qb⟩:=aA.it f it hit;obtain⟨nk,qc⟩:=qb B1 cm y c m ar xs uj hc eJ;have uk:GRel P B1 F1 D0 (Zk (List.length env) (A.st p d0) (A.own p d0)) env U:=NZ ⟨B1,F1,pl,tb,⟨.refl _,.refl _,λ_ _ _ h=>h,(hB.trans ni).d⟩,nj⟩ eK;have lE:B1.get U.n=none:=B1.wf _ nj.leB.1;have vz:F1.get U.n=none:=F1.wf _ nj.le.1;show vwp (Q3 P) (.rangeF g ps a b) ro Q env U;simp only[vwp,AY,bI];have kT:(Q3 P).it f=some λi Y args U K=>VD P i Y->VCallsTo P f args U K:=by simp only[Q3];rw[z7 gJ]
     rw[kT];refine⟨?_,λr hY=>?_⟩
     .cases ro with
      |none=>trivial
      |some i =>obtain⟨e1,r1,st1,p6,hi⟩:=bP;exact⟨e1,r1,st1,p6,hG.le.2 _ _ (hB.f.2 _ _ hi)⟩
     .let rdy:Blk:=.obj (.lp env r .ready none) true;let eP:Blk:=.obj (.lp env r .busy none) true;have jJ:F1.Le (U.push rdy):=nj.le.push rdy;let Fr:=F1.ins (U.push rdy) U.n jJ.1;have iY:Fr.get U.n=some rdy:=by
       grind [Heap.q0k,Heap.q0a]
      have gi:Fr.n=U.n+1:=rfl;have um:F1.Le Fr:=jJ.ins U.n;let J:Nat->Heap->Prop:=λk Z=>∃ d,I k d/\GRel P B1 Fr D0 (Zk (List.length env) (A.st p d) (A.own p d)) env Z;let E:Heap->Prop:=λZ=>∃ cd e,Z.get U.n=some (.obj (.lp env r .done (some cd)) true)/\((cd=.ret/\e=Exit.ret)\/∃ id,cd=.exit id/\e=Exit.exit id)/\Q e env (Z.kill U.n);have back:∀ {s':St}{Z:Heap},GRel P B1 (Fr.upd U.n eP) D0 s' env Z->∀ b,GRel P B1 ((Fr.upd U.n eP).upd U.n b) D0 s' env (Z.upd U.n b):=λh b =>
       h.lpUpd (b0:=eP) (Heap.q0d _ _ (by rw[gi];omega)) lE
      have jK:∀ {Fx:Heap}{b0:Blk}{s':St}{Z:Heap},Fx.get U.n=some b0->(∀ i,i≠U.n->Fx.get i=F1.get i)->Fx.n=U.n+1->GRel P B1 Fx D0 s' env Z->GRel P B0 F0 D0 s' env (Z.kill U.n):=λ{Fx b0 s' Z} h1 h2 h3 h4=>by
       refine (h4.lpKill h1 lE).base (hB.b.trans ni.b) ⟨?_,λi b hb=>?_⟩ λi b k1 k2=>(hB.trans ni).x i b k1 k2
       .show F0.n<=Fx.n;rw[h3];have:=(hB.trans ni).f.1;have:=nj.le.1;omega
       .have bJ:=(hB.trans ni).f.2 _ _ hb
        grind [Heap.q0c]
      have qd:∀ i,i≠U.n->Fr.get i=F1.get i:=λi e=>Heap.q1a _ _ _ e;have aR:=qc U.n _ J E (U.push rdy) hY (λk Z ⟨d,_,hd⟩=>?_) (λk us Z hk ⟨d,rC,hd⟩ dE=>?_) ⟨d0,uh,?_⟩
      .refine VCallsTo.mono (R:=λ_ Z=>J m Z\/E Z) (by simpa using aR) λv Z ri=>?_;unfold Q54;rcases ri with⟨d,rC,hd⟩|⟨cd,e,h1,h2,h3⟩
       .have lC:Z.get U.n=some rdy:=by
         obtain⟨B',F',pl',tb',q1,q2⟩:=hd;exact q2.le.2 _ _ (q1.f.2 _ _ iY)
        grind
       grind
      .obtain⟨B',F',pl',tb',q1,q2⟩:=hd;exact q1.b.trans q2.leB
      .
       have lC:Z.get U.n=some rdy:=by obtain⟨B',F',pl',tb',q1,q2⟩:=hd;exact q2.le.2 _ _ (q1.f.2 _ _ iY)
       refine⟨lC,by rw[dS,<-(nk k).1,dE.length],?_⟩;have hF:=rB k d hk rC env;have bk:GRel P B1 Fr D0 ⟨Hi (Fw (2000000+n) env (Zk (List.length env) (A.st p d) (A.own p d))).env ps (xs k),(Fw (2000000+n) env (Zk (List.length env) (A.st p d) (A.own p d))).own,0⟩ (TX env ps us) Z:=by
        obtain⟨B',F',pl',tb',q1,q2⟩:=hd;have q3:Gam P B' F' (XE pl' (2000000+n) poison) tb' (Fw (2000000+n) env (Zk (List.length env) (A.st p d) (A.own p d))) env Z:=by refine q2.make (2000000+n) _ poison q2.le (λ_ _ _ _ _=>rfl) ?_ (λi hl _=>by cases hl);exact SRs.upd (.refl _) (λ_ _ h=>h) (λj hj=>by simp[XE,hj]) _ _ q2.env
        refine⟨B',F',XE pl' (2000000+n) poison,tb',q1,⟨q3.bf,q3.le,GD ?_ q3.env,q3.obj,q3.fresh,q3.sep,?_⟩⟩
        .exact SRs.mono q1.b (λ_ _ h=>h) _ _ (X1 _ _ (nk k).2 dE)
        .exact q3.free
       refine eN (B0:=B1) (F0:=Fr) n _ _ _ Z (some U.n) _ ⟨env,r,_,_,iY⟩ bk hF λe s3 p7 σ3 h7 h8=>?_;cases e with
       |normal =>
        have ke:σ3.get U.n=some rdy:=by obtain⟨B',F',pl',tb',q1,q2⟩:=h8;exact q2.le.2 _ _ (q1.f.2 _ _ iY)
        refine⟨ke,?_⟩;have h9:=h8.lpUpd (b:=eP) iY lE;have lD:(Fr.upd U.n eP).get U.n=some eP:=Heap.q0d _ _ (by rw[gi];omega);refine d_ (B0:=B1) (F0:=Fr.upd U.n eP) n _ _ _ _ (some U.n) _ ⟨env,r,_,_,lD⟩ h9 h7 λe s4 p8 σ4 bV hU=>?_;have nh:σ4.get U.n=some eP:=by obtain⟨B',F',pl',tb',q1,q2⟩:=hU;exact q2.le.2 _ _ (q1.f.2 _ _ lD)
        have rD:U.n<σ4.n:=σ4.lt nh;unfold Q2e at bV;split at bV
        .rename_i l vs ib;obtain⟨rfl,bV⟩:=bV;have cP:GRel P B1 (Fr.upd U.n eP) D0 ⟨l,s4.own,s4.nx⟩ vs σ4:=by
          obtain⟨B',F',pl',tb',q1,q2⟩:=hU;have:=q2.obj (2000000+n);rw[ib] at this;exact⟨B',F',pl',tb',q1,q2.bf,q2.le,this,q2.obj,q2.fresh,q2.sep,q2.free⟩
         have nq:∀ b,((Fr.upd U.n eP).upd U.n b).get U.n=some b:=λb=>Heap.q0d _ _ (by show U.n<Fr.n;rw[gi];omega);have rE:∀ b i,i≠U.n->((Fr.upd U.n eP).upd U.n b).get i=F1.get i:=(by grind [Heap.q0b]);refine⟨nh,?_⟩;cases e with
         |normal =>
          obtain⟨d',pL,uo⟩:=bV;refine .inl ⟨rfl,d',uo,?_⟩;have:=(back (NZ cP pL) rdy).base (B0:=B1) (F0:=Fr) (.refl _) ⟨zd _,λi b hb=>?_⟩ λi b k1 k2=>k2
          .exact this
          .grind
         |ret =>refine .inr ⟨rfl,_,_,Heap.q0d _ _ rD,.inl ⟨rfl,rfl⟩,hK _ _ _ _ bV (jK (nq _) (rE _) (by show Fr.n=_;exact gi) (back cP _))⟩
         |exit id =>refine .inr ⟨rfl,_,_,Heap.q0d _ _ rD,.inr ⟨id,rfl,rfl⟩,hK _ _ _ _ bV (jK (nq _) (rE _) (by show Fr.n=_;exact gi) (back cP _))⟩
         |_=>exact bV.elim
        .exact bV.elim
       |_=>exact h7.elim
      .
       obtain⟨B',F',pl',tb',q1,q2⟩:=uk;have hle:F'.Le (U.push rdy):=q2.le.push rdy;have uq:F'.get U.n=none:=F'.wf _ q2.le.1;have ao:∀ d i,(Qk (Zk (List.length env) (A.st p d0) (A.own p d0)).own d).live=true->Oid (pl' d) i->i<U.n:=λd i h1 h2=>(q2.obj d).q1n h1 h2;refine⟨B',F'.ins (U.push rdy) U.n hle.1,pl',tb',⟨q1.b,Heap.q1x q1.f _ _ _,λi b k1 k2=>?_,q1.d.trans (Dead.push _ _)⟩,⟨q2.bf.trans (hle.ins _),hle.q1w _,q2.env,λd=>(q2.obj d).mono (.refl _) (λ_ _ h=>h) (by grind [Heap.q0j]),λd i h1 h2=>?_,q2.sep,q2.free⟩⟩
       .by_cases e:i=U.n
        .subst e;exact B'.wf _ q2.leB.1
        .rw[qd i e] at k1;exact q1.x i b k1 k2
       .rw[Heap.q1a _ _ _ (Nat.ne_of_lt (ao d i h1 h2))];exact q2.fresh d i h1 h2
    .exact h.elim
   .exact h.elim
  .exact h.elim
 |bad=>intro B0 F0 D0 n K s env U ro Q bP hR h hK;exact h.elim
 |ret=>intro B0 F0 D0 n K s env U ro Q bP hR h hK;exact hK _ _ _ _ h hR
 |exit id=>intro B0 F0 D0 n K s env U ro Q bP hR h hK;exact hK _ _ _ _ h hR
 |seq a b eN d_ =>
  intro B0 F0 D0 n K s env U ro Q bP hR h hK;refine eN n _ s env U ro _ bP hR h λe s' ai U' h1 h2=>?_;cases e with
  |normal=>exact d_ n K s' ai U' ro Q bP h2 h1 hK
  |_=>exact hK _ _ _ _ h1 h2
 |cond c a b eN d_ =>
  intro B0 F0 D0 n K s env U ro Q bP hR h hK;simp only[gwp] at h;split at h
  .rename_i t ht;have pR:=hR;obtain⟨B,F,pl,tb,hB,hG⟩:=hR;have:=MZ hG ht;simp only[vwp,this,EW];cases t with
   |true=>exact⟨(by grind),λe=>by cases e⟩
   |false=>exact⟨(λe=>by cases e),(by grind)⟩
  split at h
  .rename_i t ht;obtain⟨B,F,pl,tb,hB,hG⟩:=hR;have:=Y1 ht (hG.evs Gds.nil c);simp only[vwp,this,EW];split at h
   .rename_i A hA;obtain⟨p,I,hF,hI⟩:=h;have fin:∀ e s' ai U',Q8l s.env.length A p I K e s'->GRel P B0 F0 D0 s' ai U'->Q e ai U':=λe s' ai U' h1 h2=>by
     cases e with
     |normal =>obtain⟨d,h3,h4⟩:=h1;exact hK _ _ _ _ (hI d h4) (N_ h2 h3)
     |_=>exact hK _ _ _ _ h1 h2
    exact⟨λe=>eN n _ s env U ro Q bP ⟨B,F,pl,tb,hB,hG⟩ (hF.1 e) fin,λe=>d_ n _ s env U ro Q bP ⟨B,F,pl,tb,hB,hG⟩ (hF.2 e) fin⟩
   exact⟨λe=>eN n K s env U ro Q bP ⟨B,F,pl,tb,hB,hG⟩ (h.1 e) hK,λe=>d_ n K s env U ro Q bP ⟨B,F,pl,tb,hB,hG⟩ (h.2 e) hK⟩
  .exact h.elim
 |block id b ih =>
  intro B0 F0 D0 n K s env U ro Q bP hR h hK;refine ih id _ s env U ro _ bP hR h λe s' ai U' h1 h2=>?_;cases e with
  |exit gv =>
   simp only[Q1m] at h1;simp only[EM];split
   .grind
   .grind
  |_=>exact hK _ _ _ _ h1 h2
 |loop b ih =>
  intro B0 F0 D0 n K s env U ro Q bP hR h hK;simp only[gwp] at h;split at h
  .rename_i A hA;obtain⟨p,d0,h1,I,μ,h2,h3⟩:=h;have hlen:s.env.length=env.length:=by obtain⟨B,F,pl,tb,_,hG⟩:=hR;exact hG.env.length
   have hk:∀ d,(A.st p d).map (·.1)=A.sl:=λd=>R2 _ _;refine⟨A.sl,λm vs U'=>∃ d,I d/\μ d=m/\GRel P B0 F0 D0 (Zk s.env.length (A.st p d) (A.own p d)) (Wy A.sl vs (List.replicate env.length poison)) U',μ d0,⟨d0,h2,rfl,?_⟩,λm vs U' ⟨d,h4,h5,h6⟩=>?_⟩
   .grind [PY]
   .refine ih n _ _ _ U' ro _ bP h6 (h3 d h4) λe s' ai aJ h7 h8=>?_;cases e with
    |normal =>
     simp only[Q6a] at h7;cases mG:Z3i s'.own with
     |false=>rw[mG] at h7;exact h7.elim
     |true =>
     rw[mG] at h7;obtain⟨d',h9,bV,hU⟩:=h7;refine⟨μ d',by omega,d',bV,rfl,?_⟩;have:=PY h8 h9 s.env.length;rw[hk d',hlen] at this;rw[hlen];exact this
    |_=>exact hK _ _ _ _ h7 h8
  .exact h.elim
end
end Go.V
namespace Go.V
open Go
def Fa (s:St):VResult->Option SV
 |.tmp t=>some (s.env.getD t .any)
 |.cell a agg size=>bif Nat.blt 0 size then Q47 s.own agg size (s.env.getD a .any) else none
def M3 (s:St) (rs:List VResult):Option SV :=
 match rs with
 |[r]=>Fa s r
 |rs=>(rs.mapM (Fa s)).map .tup
def Q6y (mp:List (Nat×Option Nat)) (j:Nat) (a:Option Nat):Option (List (Nat×Option Nat)) :=
 if (QR mp j).isSome then none else match a with
 |some x=>if mp.any λp=>p.2==some x then none else some (mp++[(j,a)])
 |none=>some (mp++[(j,a)])
mutual
def rmap:SV->SV->List (Nat×Option Nat)->Option (List (Nat×Option Nat))
 |.lst j,v,mp=>match v with|.lst a=>Q6y mp j (some a)|.nilS=>Q6y mp j none|_=>none
 |.map j,v,mp=>match v with|.map a=>Q6y mp j (some a)|_=>none
 |.dd j w,v,mp=>match w with
  |.out=>(match v with
   |.dd a w'=>(match w' with|.out=>Q6y mp j (some a)|_=>none)
   |.nilS=>Q6y mp j none
   |_=>none)
  |_=>none
 |.box j _,v,mp=>match v with|.box a _=>Q6y mp j (some a)|_=>none
 |.agg l,v,mp=>match v with|.agg l'=>Oq l l' mp|_=>none
 |.tup l,v,mp=>match v with|.tup l'=>Oq l l' mp|_=>none
 |.any,_,mp=>some mp
 |.val _ _,_,mp=>some mp
 |.nilS,_,mp=>some mp
 |.nilP,_,mp=>some mp
 |.nilM,_,mp=>some mp
 |.nilF,_,mp=>some mp
 |.sub _ _ _ _,_,_|.elp _ _ _ _,_,_|.grd _ _,_,_|.cp _ _,_,_|.fn _ _ _,_,_|.rop _ _ _ _,_,_|.pf _ _ _ _,_,_|.bid _ _,_,_=>none
def Oq:List SV->List SV->List (Nat×Option Nat)->Option (List (Nat×Option Nat))
 |[],_,mp=>some mp
 |s::ss,l,mp=>match l with
  |v::vs=>match rmap s v mp with|some mp=>Oq ss vs mp|none=>none
  |[]=>none
end
def Q5a (s:St) (mp:List (Nat×Option Nat)):Nat->List OB->Prop
 |_,[]=>True
 |j,b::r=>Q17 s mp j b/\Q5a s mp (j+1) r
def YI (rs:List VResult) (v:SV) (bs:List OB):Exit->St->Prop:=λe s =>
 let fin:=match M3 s rs with
  |some r=>(match rmap v r [] with
   |some mp=>S1 mp v r/\Q5a s mp 0 bs
   |none=>False)
  |none=>False
 match e with
 |.normal=>fin
 |.ret=>fin
 |_=>False
section
variable {P:Program}{B F:Heap}{pl:Nat->Value}{tb:Nat->Option Bool}{s:St}{env:Env}{U:Heap}
theorem S7 (hG:Gam P B F pl tb s env U) {r:VResult}{v:SV}(h:Fa s r=some v):∃ u,Xs env U r=some u/\SR P B pl tb v u:=by
 cases r with
 |tmp t=>obtain rfl:=osj h;exact⟨_,rfl,hG.env.getD t undef⟩
 |cell a agg size =>
  simp only[Fa] at h;cases hb:Nat.blt 0 size with
  |false=>rw[hb] at h;cases h
  |true =>rw[hb] at h;obtain⟨i,o,c,e,wr,t,u,h1,h2,h3,h4⟩:=SC hG.leB hG.obj (by simpa [zB] using hb) h (hG.env.getD a undef);refine⟨u,?_,h4⟩;simp only[Xs,Q6,Q4,h1,h2,h3];rfl
theorem UM (hG:Gam P B F pl tb s env U) {rs:List VResult}{v:SV}(h:M3 s rs=some v):∃ u,XR env U rs=some u/\SR P B pl tb v u:=by
 have all:∀ (rs:List VResult) (l:List SV),rs.mapM (Fa s)=some l->∃ us,rs.mapM (Xs env U)=some us/\SRs P B pl tb l us:=by
  intro rs;induction rs with
  |nil=>intro l h;simp at h;subst h;exact⟨[],rfl,rfl⟩
  |cons r rs ih =>
   intro l h;rw[zX] at h;cases h1:Fa s r with
   |none=>simp[h1] at h
   |some a =>
    cases h2:rs.mapM (Fa s) with
    |none=>simp[h1,h2] at h
    |some l' =>simp[h1,h2] at h;subst h;obtain⟨u,h3,h4⟩:=S7 hG h1;obtain⟨us,h5,h6⟩:=ih l' h2;exact⟨u::us,by rw[zX];simp[h3,h5],by simp only[SRs];exact⟨u,us,rfl,h4,h6⟩⟩
 have tup:(rs.mapM (Fa s)).map SV.tup=some v->∃ u,(rs.mapM (Xs env U)).map (λvs=>Value.tuple vs.toArray)=some u/\SR P B pl tb v u:=λh=>by simp only[zn] at h;obtain⟨l,h1,rfl⟩:=h;obtain⟨us,h2,h3⟩:=all rs l h1;exact⟨.tuple us.toArray,by rw[h2];rfl,by simp only[SR];exact⟨us,rfl,h3⟩⟩
 match rs,h,tup with
 |[r],h,_=>exact S7 hG h
 |[],h,tup=>exact tup h
 |_::_::_,h,tup=>exact tup h
theorem TM {mp bQ:List (Nat×Option Nat)}{j:Nat}{a:Option Nat}(h:Q6y mp j a=some bQ) (hi:Inj mp):Inj bQ:=by
 unfold Q6y at h;split at h
 .cases h
 .split at h
  .rename_i x;split at h
   .cases h
   .rename_i hc;obtain rfl:=osj h;have cP:∀ d,QR mp d≠some (some x):=(by grind [E3,List.any_eq_true]);intro t1 t2 a' h1 h2;rw[Uo] at h1 h2;split at h1
    .rename_i y1 e1;split at h2
     .rename_i y2 e2;obtain rfl:=osj h1;obtain rfl:=osj h2;exact hi t1 t2 a' e1 e2
     simp_all
    grind
  .obtain rfl:=osj h;intro t1 t2 a' h1 h2;rw[Uo] at h1 h2;split at h1
   .rename_i y1 e1;split at h2
    .rename_i y2 e2;obtain rfl:=osj h1;obtain rfl:=osj h2;exact hi t1 t2 a' e1 e2
    .split at h2<;>cases h2
   .split at h1<;>cases h1
mutual
theorem O8:∀ (v r:SV) (mp bQ:List (Nat×Option Nat)),rmap v r mp=some bQ->Inj mp->Inj bQ
 |.lst j,r,mp,bQ,h,hi=>by
  simp only[rmap] at h
  grind [TM]
 |.map j,r,mp,bQ,h,hi=>by
  simp only[rmap] at h
  grind [TM]
 |.dd j w,r,mp,bQ,h,hi=>by
  simp only[rmap] at h
  grind [TM]
 |.box j _,r,mp,bQ,h,hi=>by
  simp only[rmap] at h
  grind [TM]
 |.agg l,r,mp,bQ,h,hi=>by
  simp only[rmap] at h;split at h
  .exact SK l _ mp bQ h hi
  .cases h
 |.tup l,r,mp,bQ,h,hi=>by
  simp only[rmap] at h;split at h
  .exact SK l _ mp bQ h hi
  .cases h
 |.any,r,mp,bQ,h,hi|.val _ _,r,mp,bQ,h,hi|.nilS,r,mp,bQ,h,hi|.nilP,r,mp,bQ,h,hi|.nilM,r,mp,bQ,h,hi|.nilF,r,mp,bQ,h,hi=>by simp only[rmap] at h;simp_all
 |.sub _ _ _ _,r,mp,bQ,h,hi|.elp _ _ _ _,r,mp,bQ,h,hi|.grd _ _,r,mp,bQ,h,hi|.cp _ _,r,mp,bQ,h,hi|.fn _ _ _,r,mp,bQ,h,hi|.rop _ _ _ _,r,mp,bQ,h,hi|.pf _ _ _ _,r,mp,bQ,h,hi|.bid _ _,r,mp,bQ,h,hi=>by cases h
theorem SK:∀ (v r:List SV) (mp bQ:List (Nat×Option Nat)),Oq v r mp=some bQ->Inj mp->Inj bQ
 |[],r,mp,bQ,h,hi=>by simp only[Oq] at h;simp_all
 |s::ss,[],mp,bQ,h,hi=>by cases h
 |s::ss,r::rs,mp,bQ,h,hi=>by
  simp only[Oq] at h;split at h
  .rename_i rF h1;exact SK ss rs rF bQ h (O8 s r mp rF h1 hi)
  .cases h
end
theorem EH {mp:List (Nat×Option Nat)}:∀ (bs:List OB) (n:Nat),Q5a s mp n bs->∀ j b,bs[j]?=some b->Q17 s mp (n+j) b
 |[],n,_,j,b,hj=>by simp at hj
 |b0::r,n,h,j,b,hj=>by
  obtain⟨h1,h2⟩:=h;cases j with
  |zero=>simp at hj;subst hj;exact h1
  |succ j =>
   have:=EH r (n+1) h2 j b (by simpa using hj)
   rwa [zw,xT 1 j] at this
mutual
theorem O9 {n:Nat}{π:Nat->Nat}:∀ (v:SV) (u:Value),v.ret 0=true->SR P B pl tb v u->Ren n π u u
 |.val k x,u,h,hs=>by
  simp only[SR] at hs;cases k with
  |i ik=>simp only[KC] at hs;obtain rfl:=(zQ hs).1;exact .plain _ rfl
  |bo=>simp only[KC] at hs;obtain rfl:=(zQ hs).1;exact .plain _ rfl
  |st=>simp only[KC] at hs;obtain rfl:=(zQ hs).1;exact .plain _ rfl
  |list k=>cases h
  |pair a b =>have h1:=KC.length hs;have h2:=a.size_pos;have h3:=b.size_pos;simp only[Kind.size,zT] at h1;omega
 |.nilS,u,_,hs|.nilP,u,_,hs|.nilM,u,_,hs|.nilF,u,_,hs=>by simp only[SR] at hs;subst hs;exact .plain _ rfl
 |.lst j,u,h,_|.box j _,u,h,_|.map j,u,h,_=>by simp[SV.ret,zB] at h
 |.dd j w,u,h,_=>by cases w<;>simp[SV.ret,zB] at h
 |.agg l,u,h,hs=>by simp only[SR] at hs;obtain⟨cs,rfl,h2⟩:=hs;have:=RI (n:=n) (π:=π) l cs h h2;exact .agg _ _ rfl λi h3 _=>this _ (by simp)
 |.tup l,u,h,hs=>by simp only[SR] at hs;obtain⟨cs,rfl,h2⟩:=hs;have:=RI (n:=n) (π:=π) l cs h h2;exact .tuple _ _ rfl λi h3 _=>this _ (by simp)
 |.any,_,h,_|.bid _ _,_,h,_|.grd _ _,_,h,_|.sub _ _ _ _,_,h,_|.elp _ _ _ _,_,h,_|.rop _ _ _ _,_,h,_|.cp _ _,_,h,_|.fn _ _ _,_,h,_|.pf _ _ _ _,_,h,_=>by cases h
theorem RI {n:Nat}{π:Nat->Nat}:∀ (v:List SV) (u:List Value),SVs.ret 0 v=true->SRs P B pl tb v u->∀ x∈u,Ren n π x x
 |[],u,_,hs=>by simp only[SRs] at hs;subst hs;intro x hx;cases hx
 |s::ss,u,h,hs=>by
  simp only[SVs.ret,z1] at h;simp only[SRs] at hs;obtain⟨x,y,rfl,h1,h2⟩:=hs;intro z hz;rcases zG.1 hz with rfl|hz
  .exact O9 s z h.1 h1
  .exact RI ss y h.2 h2 z hz
end
theorem OP (exact:Bool) {σ0:Heap}{sf:St}{kU:Env}{σf:Heap}(hR:GRel P σ0 σ0 σ0 sf kU σf) {rs:List VResult}{v:SV}{bs:List OB}{e:Exit}(hv:v.ret bs.length=true) (hb:bs.all OB.ret=true) (h:YI rs v bs e sf) (hx:exact=true->bs.all OB.isL=true/\U_ v=true) :
  Z35 σ0 rs (λu U'=>if exact then u=UH (Cf σ0 bs) v/\U'=Tp σ0 bs else Ret P σ0 v bs u U') e kU σf:=by
 have main:(match M3 sf rs with
  |some r=>(match rmap v r [] with
   |some mp=>S1 mp v r/\Q5a sf mp 0 bs
   |none=>False)
  |none=>False)->Z8 (XR kU σf rs) λu=>∃ v' U',DropTo σ0 u σf v' U'/\(if exact then v'=UH (Cf σ0 bs) v/\U'=Tp σ0 bs else Ret P σ0 v bs v' U'):=λh=>by
  split at h
  .rename_i r hr;split at h
   .rename_i mp kR;obtain⟨h1,h2⟩:=h;obtain⟨B,F,pl,tb,⟨hB,hF,_,hd⟩,hG⟩:=hR;obtain⟨u,h3,h4⟩:=UM hG hr;have iB:=N4 v r u h1 h4;have eE:=O8 v r [] mp kR (λt t' a h=>by cases h);have ao:∀ j b,bs[j]?=some b->Q17 sf mp j b:=λj b hj=>by have:=EH bs 0 h2 j b hj;rwa [zS] at this
    rw[h3];have hle:σ0.Le σf:=hF.trans hG.le;have hA:Agree σ0 σf:=λi hi=>by
     cases hg:σ0.get i with
     |none=>exact hd.2 i hi hg
     |some b=>exact hle.2 i b hg
    have aS:∀ j b,bs[j]?=some b->OR P hNil (GQ pl mp) XC σf (GQ pl mp j) b/\∀ i,Oid (GQ pl mp j) i->σ0.get i=none/\σ0.n<=i:=λj b hj=>by
     obtain⟨k1,k2⟩:=Z7 hG (ao j b hj);have cY:=zh.1 hb b (x4 hj);have ax:b.live=true:=by cases b<;>first|rfl|cases cY
     refine⟨k1.retd cY λ_ _=>rfl,λi hi=>?_⟩;obtain⟨a,e1,e2,e3⟩:=k2 ax i hi;have lE:=hG.fresh a i e2 e3;have hn:σ0.get i=none:=by
      cases hg:σ0.get i with
      |none=>rfl
      |some b=>rw[hF.2 i b hg] at lE;cases lE
     refine⟨hn,Nat.le_of_not_lt λal=>?_⟩;have aX:=hd.2 i al hn;have ao:=hG.obj a;cases ho:Qk sf.own a with
     |dead=>rw[ho] at e2;cases e2
     |lst ty k xs nl =>
      rw[ho] at ao;rcases ao with⟨_,_,h2⟩|⟨_,i',cap,c,t,h2,_,h3,_⟩
      .rw[h2] at e3;cases e3
      .rw[h2] at e3;obtain rfl:=osj e3;rw[h3] at aX;cases aX
     |cells l u=>rw[ho] at ao;obtain⟨i',c,e,t,h2,h3,_⟩:=ao;rw[h2] at e3;obtain rfl:=osj e3;rw[h3] at aX;cases aX
     |mapE kk vk m key n=>rw[ho] at ao;obtain⟨i',es,cl,r,e,h2,h3,_⟩:=ao;rw[h2] at e3;obtain rfl:=osj e3;rw[h3] at aX;cases aX
     |map kk vk m=>rw[ho] at ao;obtain⟨i',es,cl,h2,h3,_⟩:=ao;rw[h2] at e3;obtain rfl:=osj e3;rw[h3] at aX;cases aX
     |fm ik l=>rw[ho] at ao;obtain⟨i',es,cl,h2,h3,_⟩:=ao;rw[h2] at e3;obtain rfl:=osj e3;rw[h3] at aX;cases aX
     |stk l vals=>rw[ho] at e2;cases e2
     |lpf l q s=>rw[ho] at ao e2;obtain⟨h2,_,h3⟩:=ao;rw[h2] at e3;obtain rfl:=osj e3;have h3:=h3 e2;rw[aX] at h3;cases h3
     |iter kk vk m dn=>rw[ho] at ao;obtain⟨j',i',es,cl,wr,seen,h2,h3,_⟩:=ao;rw[h2] at e3;obtain rfl:=osj e3;rw[h3] at aX;cases aX
     |siter l pos=>rw[ho] at ao;obtain⟨j',s',h2,h3,_⟩:=ao;rw[h2] at e3;obtain rfl:=osj e3;rw[h3] at aX;cases aX
     |rmap kk vk m=>rw[ho] at e2;cases e2
     |deep ty q k xs nl hh =>rw[ho] at ao;obtain⟨is,_,d2,d3,_⟩:=DP.open ao;obtain⟨c,e,t,h⟩:=d2.cells i ((d3 i).1 e3);rw[h] at aX;cases aX
    have h_:∀ j j' i,j<bs.length->j'<bs.length->j≠j'->Oid (GQ pl mp j) i->Oid (GQ pl mp j') i->False:=λj j' i hj cR aK hi cE=>by
     have bJ:=z8 hj;have b7:=z8 cR;have r1:=zh.1 hb _ (zk hj);have r2:=zh.1 hb _ (zk cR);have l1:(bs[j]).live=true:=by cases n_:bs[j]<;>first|rfl|(rw[n_] at r1;cases r1)
     have l2:(bs[j']).live=true:=by cases n_:bs[j']<;>first|rfl|(rw[n_] at r2;cases r2)
     obtain⟨a,e1,e2,e3⟩:=(Z7 hG (ao j _ bJ)).2 l1 i hi;obtain⟨a',ur,jC,uu⟩:=(Z7 hG (ao j' _ b7)).2 l2 i cE;by_cases e:a=a'
     .subst e;exact aK (eE j j' a e1 ur)
     .exact hG.sep a a' i e e2 jC e3 uu
    cases hex:exact with
    |true =>obtain⟨hl,cF⟩:=hx hex;have nr:=Q0k (P:=P) hA hle.1 hv cF hb hl (pl:=GQ pl mp) (u:=u) (λj b hj=>⟨(aS j b hj).1,λi hi=>((aS j b hj).2 i (Py hi)).2⟩) (λj j' i a b c d e=>h_ j j' i a b c (Py d) (Py e)) (iB.retd (λj hj=>rfl) _ _ hv);exact⟨_,_,nr,by simp⟩
    |false =>
     simp only[zt,if_false];by_cases bL:bs=[]
     .subst bL;refine⟨u,σ0,.rename (λi=>i) (zd _) (λi hi=>⟨rfl,(hA i hi).symm,.inl (hA i hi)⟩) (λi k1 k2=>by omega) (λ_ _ _ _ _ _ h=>h) (O9 v u hv iB),?_⟩;exact⟨⟨Heap.Le.refl _,Dead.refl _⟩,λ_=>rfl,WB,(λj b hj=>by simp at hj),(λj j' i hj=>by simp at hj),iB.retd (λj hj=>by simp at hj) _ _ hv⟩
     .exact⟨u,σf,.refl _ _ _,⟨hle,hd⟩,λe=>absurd e bL,GQ pl mp,aS,h_,iB.retd (λj hj=>rfl) _ _ hv⟩
   .exact h.elim
  .exact h.elim
 cases e with
 |normal=>exact main h
 |ret=>exact main h
 |_=>exact h.elim
def Qv (nt:Nat) (args:List SV):St:=⟨args++List.replicate (nt-args.length) .any,[],0⟩
theorem OH {args:List SV}{vs:List Value}(h:SRs P U WB XC args vs) (nt:Nat):GRel P U U U (Qv nt args) (vs++List.replicate (nt-vs.length) undef) U:=by
 have uv:∀ n,SRs P U WB XC (List.replicate n .any) (List.replicate n undef):=by
  intro n;induction n with
  |zero=>simp[SRs]
  |succ n ih=>simp only[xn,SRs];exact⟨_,_,rfl,by simp[SR],ih⟩
 refine⟨U,U,WB,XC,⟨Heap.Le.refl _,Heap.Le.refl _,(by simp_all),Dead.refl _⟩,Heap.Le.refl _,Heap.Le.refl _,?_,λd=>trivial,(λd i hl=>by cases hl),(λd d' i _ hl=>by cases hl),λ_ _=>rfl⟩;have:=h.length;simp only[Qv,this];exact h.append (uv _)
theorem Fun.okC {f:Nat}{vc:VCode}{rs:List VResult}{nt:Nat}(h:Fun P f vc rs nt) (hm:P.follows .mixedOrders=true) {sp:CSp}
  (hb:∀ ap,Q83 P ap->∀ args c v bs,sp ap args=some (c,v,bs)->c->∃ (C:Cx) (L:List (Nat×LoopAnn)) (bZ:List SV),(∀ U vs,SRs P U WB XC args vs->SRs P U WB XC bZ vs)/\COk P C/\gwp C L vc 0 (YI rs v bs) (Qv nt bZ)):OkC P f sp:=by
 intro ap dA U args vs c v bs av eO hv bL hc;obtain⟨C,L,bZ,h1,h2,h3⟩:=hb ap dA args c v bs eO hc;have main:∀ exact:Bool,(exact=true->bs.all OB.isL=true/\U_ v=true)->VCalled P f vs U λu U'=>if exact then u=UH (Cf U bs) v/\U'=Tp U bs else Ret P U v bs u U':=λexact hx=>by refine h.calls hm RR ?_;exact Hk h2 vc 0 _ _ _ U none _ trivial (OH (h1 U vs av) nt) h3 λe s' ai U' k1 k2=>OP exact k2 hv bL k1 hx
 simp_all
theorem OkC.true {f:Nat}{sp:CSp}(h:OkC P f sp) (he:Xz P f) {U:Heap}{args:List SV}{vs:List Value}(ha:SRs P U WB XC args vs) {c:Prop}(hs:sp (λ_ _=>none) args=some (c,.val .bo true,[])) (hc:c) :
  VCallsTo P f vs U λv _=>v=.bool true:=by
 have:=(h (λ_ _=>none) (λ_ _ _ _ _ _ _ _ _ h=>by cases h) U args vs c _ [] ha hs rfl rfl hc).1;intro ρ w aw hH hL;rcases this ρ w aw hH hL with⟨_,h2⟩|⟨c',_,h2⟩
 .refine h2.mono λe w' ⟨c',h3,h4⟩=>⟨c',h3,h4.mono λu U' hr=>?_⟩;have:=(hr.flat rfl).2;simpa only [SR,KC,List.cons.injEq,and_true] using this
 .have:=h2 w (Like.refl ρ w)
  grind [UC]
end
end Go.V
namespace Go.V
open Go
mutual
inductive AP:Type->Type 1 where
 |k (k:Kind):AP k.T
 |agg {D:Type}(l:AL D):AP D
 |ptr {D:Type}(l:AL D):AP D
 |fnx {D:Type}(g:Nat) (l:AL D):AP D
 |fn (ks:List Kind) (r:Kind):AP ((AT ks->Prop)×(AT ks->r.T))
 |nilS:AP Unit
 |any:AP Unit
 |int (k:IntKind) (n:Int):AP Unit
inductive AL:Type->Type 1 where
 |nil:AL Unit
 |one {D:Type}(a:AP D):AL D
 |cons {D E:Type}(a:AP D) (r:AL E):AL (D×E)
end
def Am:(ks:List Kind)->AT ks->List SV
 |[],_=>[]
 |[k],x=>[It k x]
 |k::k'::ks,x=>It k x.1::Am (k'::ks) x.2
abbrev Ap:=SV->List SV->Option (Prop×SV)
def Q5w (ap:Ap) (f:SV) (ks:List Kind) (r:Kind) (x:AT ks):Prop:=match ap f (Am ks x) with
 |some (c,v)=>(match gap.asV r v with|some _=>c|none=>False)
 |none=>False
def fnP (ap:Ap) (f:SV) (ks:List Kind) (r:Kind) (x:AT ks):r.T:=match ap f (Am ks x) with
 |some (_,v)=>(match gap.asV r v with|some y=>y|none=>r.dflt)
 |none=>r.dflt
mutual
def AP.dec (ap:Ap):{D:Type}->(p:AP D)->SV->Option D
 |_,.k k,v=>match k with
  |.list k=>view [] k v
  |.i ik=>L9 (.i ik) [v]
  |.bo=>L9 .bo [v]
  |.st=>L9 .st [v]
  |.pair _ _=>none
 |_,.agg l,v=>match v with|.agg vs=>AL.dec ap l vs|_=>none
 |_,.nilS,v=>match v with|.nilS=>some ()|_=>none
 |_,.any,_=>some ()
 |_,.int k n,v=>match L9 (.i k) [v] with|some x=>if (show Int from x)=n then some () else none|none=>none
 |_,.ptr l,v=>match v with|.cp vs 0=>AL.dec ap l vs|_=>none
 |_,.fnx g l,v=>match v with|.fn g' [] vs=>if g'=g then AL.dec ap l vs else none|_=>none
 |_,.fn ks r,v=>match v with
  |.fn g a b=>some (Q5w ap (.fn g a b) ks r,fnP ap (.fn g a b) ks r)
  |.pf rG r' cw p=>some (Q5w ap (.pf rG r' cw p) ks r,fnP ap (.pf rG r' cw p) ks r)
  |_=>none
def AL.dec (ap:Ap):{D:Type}->(l:AL D)->List SV->Option D
 |_,.nil,vs=>match vs with|[]=>some ()|_=>none
 |_,.one a,vs=>match vs with|[v]=>AP.dec ap a v|_=>none
 |_,.cons a r,vs=>match vs with
  |v::vs=>(match AP.dec ap a v,AL.dec ap r vs with|some x,some y=>some (x,y)|_,_=>none)
  |[]=>none
end
mutual
def AP.can:{D:Type}->(p:AP D)->D->SV
 |_,.k k,x=>.val k x
 |_,.agg l,x=>.agg (AL.can l x)
 |_,.nilS,_=>.nilS
 |_,.any,_=>.any
 |_,.int k n,_=>.val (.i k) n
 |_,.ptr l,x=>.cp (AL.can l x) 0
 |_,.fnx g l,x=>.fn g [] (AL.can l x)
 |_,.fn ks r,x=>.pf ks r x.1 x.2
def AL.can:{D:Type}->(l:AL D)->D->List SV
 |_,.nil,_=>[]
 |_,.one a,x=>[AP.can a x]
 |_,.cons a r,x=>AP.can a x.1::AL.can r x.2
end
def XU {D:Type}(l:AL D) (pre:D->Prop) (res:D->SV) (obs:D->List OB):CSp:=λap args=>match AL.dec ap l args with
 |some d=>some (pre d,res d,obs d)
 |none=>none
section
variable {P:Program}{U:Heap}
theorem Bz:∀ {ks:List Kind}{x:AT ks}{vs:List Value},C8 U ks x vs->SRs P U WB XC (Am ks x) vs
 |[],x,vs,h=>by simp only[C8] at h;subst h;simp[Am,SRs]
 |[k],x,vs,h=>by obtain⟨v,rfl,h1⟩:=h;simp only[Am,SRs];grind [Wm]
 |k::k'::ks,x,vs,h=>by obtain⟨v,cy,rfl,h1,h2⟩:=h;simp only[Am,SRs];exact⟨v,cy,rfl,Wm h1,Bz h2⟩
theorem O4 {ap:Ap}(dA:Q83 P ap) {f:SV}{v:Value}(hf:SR P U WB XC f v) (hv:∃ g a b,v=.func (.func g) a b) (ks:List Kind) (r:Kind):SR P U WB XC (.pf ks r (Q5w ap f ks r) (fnP ap f ks r)) v:=by
 obtain⟨g,a,b,rfl⟩:=hv;simp only[SR];refine⟨g,a,b,rfl,λx hd Z vs hle b_=>?_⟩;unfold Q5w at hd;split at hd
 .rename_i c u nu;split at hd
  .rename_i y hy;obtain⟨h1,g',a',b',h2,h3⟩:=dA Z f (Am ks x) c u (.func (.func g) a b) vs (SR.mono hle (λ_ _ h=>h) _ _ hf) (Bz b_) nu hd;obtain⟨rfl,rfl,rfl⟩:=(by simpa using h2:g=g'/\a=a'/\b=b');have hp:fnP ap f ks r x=y:=by simp[fnP,nu,hy]
   rw[hp];exact h3.mono λu' U' hu=>⟨hu.1,(RG hy hu.2).vcall (IJ _)⟩
  .exact hd.elim
 .exact hd.elim
mutual
theorem AP.q0l {ap:Ap}(dA:Q83 P ap):∀ {D:Type}(p:AP D) {v:SV}{x:D}{u:Value},AP.dec ap p v=some x->SR P U WB XC v u->SR P U WB XC (AP.can p x) u
 |_,.k k,v,x,u,h,hs=>by
  have one:SRs P U WB XC [v] [u]:=by simp only[SRs];exact⟨u,[],rfl,hs,rfl⟩
  simp only[AP.can,SR];cases k with
  |list k =>have:=Ny (own:=[]) (Heap.Le.refl U) (λd=>(trivial:OR P U WB XC U (WB d) .dead)) (show view [] k v=some x from h) hs;exact⟨u,rfl,this⟩
  |i ik=>exact QT (k:=.i ik) h one
  |bo=>exact QT (k:=.bo) h one
  |st=>exact QT (k:=.st) h one
  |pair a b=>cases h
 |_,.agg l,v,x,u,h,hs=>by
  simp only[AP.dec] at h;split at h
  .simp only[SR] at hs;obtain⟨cs,rfl,hs⟩:=hs;simp only[AP.can,SR];exact⟨cs,rfl,AL.q0l dA l h hs⟩
  .cases h
 |_,.any,v,x,u,h,hs=>by simp only[AP.can,SR]
 |_,.int k n,v,x,u,h,hs=>by
  have one:SRs P U WB XC [v] [u]:=by simp only[SRs];exact⟨u,[],rfl,hs,rfl⟩
  simp only[AP.dec] at h;split at h
  .rename_i y hy;split at h
   .rename_i e;subst e;simp only[AP.can,SR];exact QT (k:=.i k) hy one
   .cases h
  .cases h
 |_,.nilS,v,x,u,h,hs=>by
  simp only[AP.dec] at h;split at h
  .simp only[AP.can];exact hs
  .cases h
 |_,.ptr l,v,x,u,h,hs=>by
  simp only[AP.dec] at h;split at h
  .simp only[SR] at hs;obtain⟨b,c,e,wr,t,h1,rfl,h3⟩:=hs;simp only[AP.can,SR];exact⟨b,c,e,wr,t,h1,rfl,AL.q0l dA l h h3⟩
  .cases h
 |_,.fnx g l,v,x,u,h,hs=>by
  simp only[AP.dec] at h;split at h
  .split at h
   .rename_i e;subst e;simp only[SR] at hs;obtain⟨a,b,rfl,h1,h2⟩:=hs;simp only[AP.can,SR];exact⟨a,b,rfl,h1,AL.q0l dA l h h2⟩
   .cases h
  .cases h
 |_,.fn ks r,v,x,u,h,hs=>by
  simp only[AP.dec] at h;split at h
  .obtain rfl:=osj h;exact O4 dA hs (by simp only[SR] at hs;grind) ks r
  .obtain rfl:=osj h;exact O4 dA hs (by simp only[SR] at hs;obtain⟨g,x,y,rfl,_⟩:=hs;exact⟨_,_,_,rfl⟩) ks r
  .cases h
theorem AL.q0l {ap:Ap}(dA:Q83 P ap):∀ {D:Type}(l:AL D) {vs:List SV}{x:D}{us:List Value},AL.dec ap l vs=some x->SRs P U WB XC vs us->SRs P U WB XC (AL.can l x) us
 |_,.nil,vs,x,us,h,hs=>by
  simp only[AL.dec] at h;split at h
  .exact hs
  .cases h
 |_,.one a,vs,x,us,h,hs=>by
  simp only[AL.dec] at h;split at h
  .obtain⟨u,rfl,h1⟩:=hs.one;simp only[AL.can,SRs];exact⟨u,[],rfl,AP.q0l dA a h h1,rfl⟩
  .cases h
 |_,.cons a r,vs,x,us,h,hs=>by
  simp only[AL.dec] at h;split at h
  .rename_i v cy;split at h
   .rename_i y z h1 h2;obtain rfl:=osj h;simp only[SRs] at hs;obtain⟨u,lx,rfl,h3,h4⟩:=hs;simp only[AL.can,SRs];exact⟨u,lx,rfl,AP.q0l dA a h1 h3,AL.q0l dA r h2 h4⟩
   .cases h
  .cases h
end
theorem CsOk.nil:CsOk P []:=λf sp h=>by cases h
theorem CsOk.cons {f:Nat}{sp:CSp}{cs:List (Nat×CSp)}(h:OkC P f sp) (t:CsOk P cs):CsOk P ((f,sp)::cs):=λg uw hg=>by
 simp only[QR] at hg;cases hb:Nat.beq f g with
 |true=>rw[hb] at hg;obtain rfl:=zC hb;obtain rfl:=osj hg;exact h
 |false=>rw[hb] at hg;exact t g uw hg
theorem Z28 {f:Nat}{vc:VCode}{rs:List VResult}{nt:Nat}(h:Fun P f vc rs nt) (hm:P.follows .mixedOrders=true) {D:Type}{l:AL D}{pre:D->Prop}{res:D->SV}{obs:D->List OB}
  {C:Cx}(aA:COk P C) (L:D->List (Nat×LoopAnn)) (hb:∀ d,pre d->gwp C (L d) vc 0 (YI rs (res d) (obs d)) (Qv nt (AL.can l d))):OkC P f (XU l pre res obs):=by
 refine h.okC hm λap dA args c v bs hs hc=>?_;unfold XU at hs
 grind [AL.q0l]
theorem QB {f:Nat}{vc:VCode}{rs:List VResult}{nt:Nat}(h:Fun P f vc rs nt) (hm:P.follows .mixedOrders=true) {D:Type}{l:AL D}{pre:D->Prop}{res:D->SV}{obs:D->List OB}
  {C:Cx}(aA:COk P C) {L:D->List (Nat×LoopAnn)}{V:D->Prop}(hq:∀ d,gwp C (L d) vc 0 (YI rs (res d) (obs d)) (Qv nt (AL.can l d))=V d) (hb:∀ d,pre d->V d):OkC P f (XU l pre res obs) :=
 Z28 h hm aA L λd hp=>(hq d).mpr (hb d hp)
end
end Go.V
namespace Go.V
open Go
def Z3z (key:Nat) (vals:List Value) (rs:List VResult) (K:SV->St->Prop):Exit->St->Prop:=λe s =>
 let fin:=match M3 s rs,Qk s.own key with
  |some r,.stk l vs=>vs=vals/\K r ⟨l,s.own,s.nx⟩
  |_,_=>False
 match e with
 |.normal=>fin
 |.ret=>fin
 |_=>False
def Q8w:XSp:=λ_ args s K=>match args with
 |[v]=>K v s
 |_=>False
def AX (C:Cx) (L:List Value->List (Nat×LoopAnn)) (vc:VCode) (rs:List VResult) (nt:Nat):XSp:=λd args s K =>
 ∀ vals,gwp {C with off:=100000*(d+1)} (L vals) vc 0 (Z3z (100000*(d+1)-1) vals rs K) ⟨SVs.kill (100000*(d+1)-1) args++List.replicate (nt-args.length) .any,(Fw (100000*(d+1)-1) vals s).own,s.nx⟩
def Z6c (C:Cx) (L:List (Nat×LoopAnn)) (vc:VCode) (nt:Nat):Q99:=λo args y s K =>
 gwp {C with off:=100000*(o+1),yl:=[y]} L vc 0 (λe s'=>match e with|.normal=>K s'|.ret=>K s'|_=>False) ⟨args++List.replicate (nt-args.length) .any,s.own,s.nx⟩
section
variable {P:Program}
theorem CL {B:Heap}{pl:Nat->Value}{tb:Nat->Option Bool}:∀ n,SRs P B pl tb (List.replicate n .any) (List.replicate n undef)
 |0=>by simp[SRs]
 |n+1=>by simp only[xn,SRs];exact⟨_,_,rfl,by simp[SR],CL n⟩
theorem O7 {f:Nat}(h:∀ (v:Value) (U:Heap) (K:Value->Heap->Prop),K v U->VCalled P f [v] U K):XOk P f Q8w:=by
 intro B F pl tb s env U d args vs K R hG ha hx hK
 match args,ha,hx with
 |[v],ha,hx =>simp only[SRs] at ha;obtain⟨u,_,rfl,h1,rfl⟩:=ha;exact h u U R (hK v s B F pl tb u U hx (.of hG.bf (.refl _)) hG h1)
 |[],_,hx=>exact hx.elim
 |_::_::_,_,hx=>exact hx.elim
theorem Wh {f:Nat}{vc:VCode}{rs:List VResult}{nt:Nat}(h:Fun P f vc rs nt) (hm:P.follows .mixedOrders=true) {C:Cx}(aA:COk P C) (L:List Value->List (Nat×LoopAnn)):XOk P f (AX C L vc rs nt):=by
 intro B F pl tb s env U d args vs K R hG ha hx hK;have hx:=hx env;refine h.calls hm RR ?_;have q3:Gam P B F (XE pl (100000*(d+1)-1) poison) tb (Fw (100000*(d+1)-1) env s) env U:=by refine hG.make _ _ poison hG.le (λ_ _ _ _ _=>rfl) ?_ (λi hl _=>by cases hl);exact SRs.upd (.refl _) (λ_ _ h=>h) (λj hj=>by simp[XE,hj]) _ _ hG.env
 have kV:COk P {C with off:=100000*(d+1)}:=⟨aA.cs,aA.xs,aA.it,aA.yl,aA.iy,aA.xf⟩;have av:=SRs.upd (P:=P) (Heap.Le.refl B) (λ_ _ h=>h) (pl':=XE pl (100000*(d+1)-1) poison) (tb':=tb) (o:=100000*(d+1)-1) (λj hj=>by simp[XE,hj]) _ _ ha;have bk:GRel P B F U ⟨SVs.kill (100000*(d+1)-1) args++List.replicate (nt-args.length) .any,(Fw (100000*(d+1)-1) env s).own,s.nx⟩ (vs++List.replicate (nt-vs.length) undef) U:=by refine⟨B,F,_,tb,.of hG.bf (.refl _),⟨q3.bf,q3.le,?_,q3.obj,q3.fresh,q3.sep,q3.free⟩⟩;rw[ha.length];exact av.append (CL _)
 refine Hk kV vc 0 _ _ _ U none _ trivial bk hx λe s' ai U' h1 h2=>?_
 .have main:(match M3 s' rs,Qk s'.own (100000*(d+1)-1) with
   |some r,.stk l vs=>vs=env/\K r ⟨l,s'.own,s'.nx⟩
   |_,_=>False)->Z8 (XR ai U' rs) λv=>∃ v' aJ,DropTo U v U' v' aJ/\R v' aJ:=λh=>by
   obtain⟨B',F',pl',tb',k1,k2⟩:=h2;split at h
   .rename_i r l cy hr ib;obtain⟨rfl,h⟩:=h;obtain⟨u,h3,h4⟩:=UM k2 hr;rw[h3];have ao:=k2.obj (100000*(d+1)-1);rw[ib] at ao;exact⟨u,U',.refl _ _ _,hK r _ B' F' pl' tb' u U' h k1 ⟨k2.bf,k2.le,ao,k2.obj,k2.fresh,k2.sep,k2.free⟩ h4⟩
   .exact h.elim
  cases e with
  |normal=>exact main h1
  |ret=>exact main h1
  |_=>exact h1.elim
theorem Q8t {f:Nat}{vc:VCode}{nt:Nat}(h:Fun P f vc [] nt) (hm:P.follows .mixedOrders=true) {C:Cx}(aA:COk P C) (L:List (Nat×LoopAnn)):Q92 P f (Z6c C L vc nt):=by
 refine⟨h.enterable,λB F pl tb s env U o args vs y K R hG ha hy hx hK=>h.callsTo hm RR ?_⟩;have kV:COk P {C with off:=100000*(o+1),yl:=[(o,y)]}:=⟨aA.cs,aA.xs,aA.it,λo' y' h'=>by
  simp only[QR] at h'
  grind [Nat.eq_of_beq_eq_true,osj],aA.iy,aA.xf⟩
 have bk:GRel P B F U ⟨args++List.replicate (nt-args.length) .any,s.own,s.nx⟩ (vs++List.replicate (nt-vs.length) undef) U:=by refine⟨B,F,pl,tb,.of hG.bf (Dead.refl _),⟨hG.bf,hG.le,?_,hG.obj,hG.fresh,hG.sep,hG.free⟩⟩;rw[ha.length];exact ha.append (CL _)
 refine Hk kV vc 0 _ _ _ U none _ trivial bk hx λe s' ai U' h1 h2=>?_;have main:K s'->Z8 (XR ai U' []) λv=>∃ v' aJ,DropTo U v U' v' aJ/\R aJ:=λh=>by obtain⟨B',F',pl',tb',k1,k2⟩:=h2;exact⟨_,U',.refl _ _ _,hK s' B' F' pl' tb' ai U' h k1 k2⟩
 cases e with
 |normal=>exact main h1
 |ret=>exact main h1
 |_=>exact h1.elim
end
end Go.V
namespace Go.V
open Go
def Z3b:SV->Option Nat
 |.lst o=>some o
 |.box o off=>bif Nat.beq off 0 then some o else none
 |_=>none
def lsv:OB->SV
 |.lst _ _ _ _=>.lst 0
 |_=>.box 0 0
def Z36:SV->OB->Bool
 |.lst _,.lst _ _ _ _=>true
 |.box _ _,.cells _ _=>true
 |_,_=>false
abbrev LSp:=Ap->OB->List SV->Option (Prop×SV×OB)
def Oz (ap:Ap) (sp:LSp):XSp:=λ_ args s K =>
 match args with
 |a::args=>(match Z3b a with
  |some o=>bif (Qk s.own o).ret&&Z36 a (Qk s.own o) then (match sp ap (Qk s.own o) (SZ (oset s.own o .dead) args) with
    |some (c,v,b)=>bif v.ret 0&&b.ret then c/\K v ⟨s.env,oset s.own o b,s.nx⟩ else False
    |none=>False) else False
  |none=>False)
 |[]=>False
def G5 (nt:Nat) (a0:SV) (b:OB) (vals:List Value) (args:List SV):St:=⟨a0::(args++List.replicate (nt-(args.length+1)) .any),[(0,b),(4000000,.stk [a0] vals)],0⟩
def Q3a (vals:List Value) (rs:List VResult) (v:SV) (b:OB) (a0:SV):Exit->St->Prop:=λe s =>
 let fin:=match M3 s rs,Qk s.own 4000000 with
  |some r,.stk l vs=>vs=vals/\Dm [(0,some 0)] [a0] l/\S1 [] v r/\Q17 s [(0,some 0)] 0 b
  |_,_=>False
 match e with
 |.normal=>fin
 |.ret=>fin
 |_=>False
section
variable {P:Program}
theorem Heap.Le.kill' {B U:Heap}(h:B.Le U) {i:Nat}(hi:B.get i=none):B.Le (U.kill i):=⟨h.1,λj b hb=>by
 have:j≠i:=by rintro rfl;rw[hi] at hb;cases hb
 rw[Heap.q0c _ this];exact h.2 _ _ hb⟩
theorem Heap.q2f (U:Heap) (i:Nat):(U.kill i).Le U:=⟨zd _,(by grind [Heap.q0g,Heap.q0c])⟩
def Ae (U:Heap) (p:Value):Heap:=match oid p with|some i=>U.kill i|none=>U
theorem Q5h (U:Heap) (p:Value):(Ae U p).Le U:=by
 unfold Ae;split
 .exact Heap.q2f _ _
 .exact .refl _
theorem IU {B U:Heap}{p:Value}(h:B.Le U) (hi:∀ i,oid p=some i->B.get i=none):B.Le (Ae U p):=by
 unfold Ae;split
 .rename_i i e;exact h.kill' (hi i e)
 .exact h
theorem Q0i {U:Heap}{p:Value}{i:Nat}(h:oid p=some i):(Ae U p).get i=none:=by unfold Ae;rw[h];exact Heap.q0g _ _
theorem Ej {U:Heap}{p:Value}{i:Nat}(h:oid p≠some i):(Ae U p).get i=U.get i:=by unfold Ae;grind [Heap.q0c]
theorem Q7o {p:Value}{i:Nat}(hp:∀ l,p≠.tuple l) (h:Oid p i):oid p=some i:=by cases p<;>first|exact h|exact absurd rfl (hp _)
theorem OB.q2b {b:OB}(h:b.ret=true):b.live=true:=by cases b<;>first|rfl|cases h
theorem Q5g {o:Nat}{b:OB}(h:Z36 (.lst o) b=true):lsv b=.lst 0:=by cases b<;>first|rfl|cases h
theorem Q5p {o off:Nat}{b:OB}(h:Z36 (.box o off) b=true):lsv b=.box 0 0:=by cases b<;>first|rfl|cases h
theorem Q5y {f:Nat}{vc:VCode}{rs:List VResult}{nt:Nat}(h:Fun P f vc rs nt) (hm:P.follows .mixedOrders=true) {sp:LSp}{ap:Ap}
  (hb:∀ b args c v b',sp ap b args=some (c,v,b')->c->∃ (C:Cx) (L:List Value->List (Nat×LoopAnn)) (bZ:List SV),SVs.pure bZ=true/\(∀ U vs,SRs P U WB XC args vs->SRs P U WB XC bZ vs)/\COk P C/\∀ vals,gwp C (L vals) vc 0 (Q3a vals rs v b' (lsv b)) (G5 nt (lsv b) b vals bZ)):XOk P f (Oz ap sp):=by
 intro B F pl tb s env U d args vs K R hG ha hx hK;unfold Oz at hx;split at hx
 .rename_i a args;split at hx
  .rename_i o aU;cases kH:((Qk s.own o).ret&&Z36 a (Qk s.own o)) with
   |false=>rw[kH] at hx;exact hx.elim
   |true =>
   rw[kH] at hx;simp only[zj] at hx;simp only[z1] at kH;obtain⟨lz,eW⟩:=kH;split at hx
   .rename_i c v b' eO;cases dq:(v.ret 0&&b'.ret) with
    |false=>rw[dq] at hx;exact hx.elim
    |true =>
    rw[dq] at hx;obtain⟨hc,hx⟩:=hx;simp only[z1] at dq;simp only[SRs] at ha;obtain⟨u,us,rfl,lF,dE⟩:=ha;have ax:=OB.q2b lz;have ao:=hG.obj o;have hid:∀ i,oid (pl o)=some i->F.get i=none:=λi hi=>hG.fresh o i ax (Py hi);have qe:∀ i,oid (pl o)=some i->B.get i=none:=λi hi=>by
     cases hg:B.get i with
     |none=>rfl
     |some b=>have:=hG.bf.2 _ _ hg;rw[hid i hi] at this;cases this
    have ec:∀ l,pl o≠.tuple l:=λl he=>by
     unfold Z3b at aU;split at aU
     .obtain rfl:=osj aU;simp only[SR] at lF
      grind
     .rename_i o' off;cases aZ:Nat.beq off 0 with
      |false=>rw[aZ] at aU;cases aU
      |true =>rw[aZ] at aU;obtain rfl:=osj aU;simp only[SR] at lF;obtain⟨_,h,_⟩:=lF;rw[he] at h;cases h
     .cases aU
    have kW:∀ (B:Heap) (pl':Nat->Value) (tb':Nat->Option Bool),(SR P B pl' tb' (lsv (Qk s.own o)) u<->pl' 0=pl o):=λB pl' tb'=>by
     unfold Z3b at aU;split at aU
     .obtain rfl:=osj aU;simp only[SR] at lF;rw[Q5g eW];simp only[SR]
      grind
     .rename_i o' off;cases aZ:Nat.beq off 0 with
      |false=>rw[aZ] at aU;cases aU
      |true =>
       rw[aZ] at aU;obtain rfl:=osj aU;obtain rfl:=zC aZ;simp only[SR] at lF;rw[Q5p eW];simp only[SR];obtain⟨i,h1,rfl⟩:=lF;rw[h1];constructor
       .simp_all
       .intro h2;exact⟨i,h2,rfl⟩
     .cases aU
    obtain⟨C,L,bZ,rH,qf,aA,hg⟩:=hb _ _ c v b' eO hc;have hg:=hg [u];let σc:=Ae U (pl o);have ux:B.Le σc:=IU hG.leB qe;have uy:F.Le σc:=IU hG.le hid;have av:SRs P σc WB XC bZ us:=by
     refine qf σc us (Nw (own:=oset s.own o .dead) ux (pl:=pl) (tb:=tb) (λd=>?_) dE);rw[Qo];by_cases e:d=o
     .rw[z7 e];trivial
     .rw[z6 e];exact(hG.obj d).mono (.refl _) (λ_ _ h=>h) λhl i hi=>Ej λmi=>hG.sep d o i e hl ax hi (Py mi)
    let qg:Nat->Value:=λj=>if j=0 then pl o else poison
    have bk:GRel P σc σc U (G5 nt (lsv (Qk s.own o)) (Qk s.own o) [u] bZ) (u::us++List.replicate (nt-(u::us).length) undef) U:=by
     refine⟨σc,σc,qg,XC,⟨.refl _,.refl _,λ_ _ _ h=>h,.refl _⟩,.refl _,Q5h _ _,?_,λj=>?_,λj i h1 h2=>?_,λj j' i aK h1 h2 h3 h4=>?_,λ_ _=>rfl⟩
     .simp only[G5,SRs,xr];refine⟨u,_,rfl,(kW _ _ _).2 (by simp[qg]),?_⟩;rw[av.length,x9]
      grind [SRs.append,CL,X1]
     .simp only[G5,Qk];by_cases e0:j=0
      .subst e0;simp only[Nat.beq_refl,zj];exact ao.retd lz λi _=>rfl
      .rw[Xw (λe=>e0 e.symm),cond_false];by_cases e1:j=4000000
       .subst e1;simp only[Nat.beq_refl,zj];exact⟨u,[],rfl,(kW _ _ _).2 (by simp[qg]),rfl⟩
       .rw[Xw (λe=>e1 e.symm),cond_false];trivial
     .simp only[G5,Qk] at h1;by_cases e0:j=0
      .grind [Q0i,Q7o]
      .rw[Xw (λe=>e0 e.symm),cond_false] at h1;by_cases e1:j=4000000
       .subst e1;cases h1
       .rw[Xw (λe=>e1 e.symm),cond_false] at h1;cases h1
     .have z:∀ j,(Qk (G5 nt (lsv (Qk s.own o)) (Qk s.own o) [u] bZ).own j).live=true->j=0:=λj h1=>by
       simp only[G5,Qk] at h1;by_cases e0:j=0
       .exact e0
       .rw[Xw (λe=>e0 e.symm),cond_false] at h1;by_cases e1:j=4000000
        .subst e1;cases h1
        .rw[Xw (λe=>e1 e.symm),cond_false] at h1;cases h1
      grind
    refine h.calls hm RR ?_;refine Hk aA vc 0 _ _ _ U none _ trivial bk hg λe s' ai U' h1 h2=>?_
    have main:(match M3 s' rs,Qk s'.own 4000000 with
     |some r,.stk l vs=>vs=[u]/\Dm [(0,some 0)] [lsv (Qk s.own o)] l/\S1 [] v r/\Q17 s' [(0,some 0)] 0 b'
     |_,_=>False)->Z8 (XR ai U' rs) λv=>∃ v' aJ,DropTo U v U' v' aJ/\R v' aJ:=λh=>by
     obtain⟨B',F',pl',tb',k1,k2⟩:=h2;split at h
     .rename_i r l cy hr ib;obtain⟨rfl,m1,m2,m3⟩:=h;obtain⟨w,h3,h4⟩:=UM k2 hr;rw[h3];have jL:=k2.obj 4000000;rw[ib] at jL;have qh:pl' 0=pl o:=by
       have:=Jp [lsv (Qk s.own o)] l [u] m1 jL;simp only[SRs] at this;obtain⟨u',_,dg,h5,_⟩:=this;obtain rfl:u=u':=(zQ dg).1;have:=(kW _ _ _).1 h5;simpa [GQ,QR] using this
      have nw:=(Z7 k2 m3).1;have kR:GQ pl' [(0,some 0)] 0=pl o:=by simpa [GQ,QR] using qh
      rw[kR] at nw;have dO:=(N4 v r w m2 h4).retd (B':=B) (pl':=pl) (tb':=tb) (n:=0) (λj hj=>by omega) _ _ dq.1;have hle:σc.Le U':=k1.f.trans k2.le;refine⟨w,U',.refl _ _ _,hK v _ B F pl tb w U' hx (.of hG.bf k1.d) ⟨hG.bf,uy.trans hle,hG.env,λd=>?_,λd i q1 q2=>?_,λd d' i aK q1 q2 q3 q4=>?_,hG.free⟩ dO⟩
      .simp only[Qo];by_cases e:d=o
       .subst e;rw[z7 rfl];exact nw.retd dq.2 λ_ _=>rfl
       .rw[z6 e];refine (hG.obj d).mono (.refl _) (λ_ _ h=>h) λhl i hi=>?_;have al:=(hG.obj d).q1n hl hi;cases hg:U.get i with
        |none=>exact k1.d.2 i al hg
        |some bb=>exact hle.2 _ _ (by rw[Ej λmi=>hG.sep d o i e hl ax hi (Py mi)];exact hg)
      .simp only[Qo] at q1;by_cases e:d=o
       .subst e;exact hG.fresh d i ax q2
       .rw[z6 e] at q1;exact hG.fresh d i q1 q2
      .have lv:∀ d,(Qk (oset s.own o b') d).live=true->(Qk s.own d).live=true:=λd h=>by
        rw[Qo] at h
        grind
       exact hG.sep d d' i aK (lv d q1) (lv d' q2) q3 q4
     .exact h.elim
    cases e with
    |normal=>exact main h1
    |ret=>exact main h1
    |_=>exact h1.elim
   .exact hx.elim
  .exact hx.elim
 .exact hx.elim
mutual
theorem AP.q0v:∀ {D:Type}(p:AP D) (x:D),(AP.can p x).pure=true
 |_,.k k,x=>rfl
 |_,.agg l,x=>by simp only[AP.can,SV.pure];exact AL.q0v l x
 |_,.nilS,x=>rfl
 |_,.any,x=>rfl
 |_,.int k n,x=>rfl
 |_,.ptr l,x=>by simp only[AP.can,SV.pure];exact AL.q0v l x
 |_,.fnx g l,x=>by simp only[AP.can,SV.pure,SVs.pure,AL.q0v l x];rfl
 |_,.fn ks r,x=>rfl
theorem AL.q0v:∀ {D:Type}(l:AL D) (x:D),SVs.pure (AL.can l x)=true
 |_,.nil,x=>rfl
 |_,.one a,x=>by simp only[AL.can,SVs.pure,AP.q0v a x];rfl
 |_,.cons a r,x=>by simp only[AL.can,SVs.pure,AP.q0v a x.1,AL.q0v r x.2];rfl
end
def Q2y (ty:Nat) (k:Kind) {D:Type}(l:AL D) (pre:List k.T->Bool->D->Prop) (res:List k.T->Bool->D->SV) (post:List k.T->Bool->D->List k.T):LSp:=λap b args=>match b with
 |.lst iz _k' xs nl=>if iz=ty then (match M6 xs k,AL.dec ap l args with
  |some xs,some d=>some (pre xs nl d,res xs nl d,.lst ty k (post xs nl d) nl)
  |_,_=>none) else none
 |_=>none
theorem CX {f:Nat}{vc:VCode}{rs:List VResult}{nt:Nat}(h:Fun P f vc rs nt) (hm:P.follows .mixedOrders=true) {ap:Ap}(dA:Q83 P ap) {ty:Nat}{k:Kind}{D:Type}{l:AL D}{pre:List k.T->Bool->D->Prop}{res:List k.T->Bool->D->SV}{post:List k.T->Bool->D->List k.T}
  {C:Cx}(aA:COk P C) {L:List k.T->Bool->D->List Value->List (Nat×LoopAnn)}{V:List k.T->Bool->D->Prop}
  (hq:∀ xs nl d,(∀ vals,gwp C (L xs nl d vals) vc 0 (Q3a vals rs (res xs nl d) (.lst ty k (post xs nl d) nl) (.lst 0)) (G5 nt (.lst 0) (.lst ty k xs nl) vals (AL.can l d)))=V xs nl d)
  (hb:∀ xs nl d,pre xs nl d->V xs nl d):XOk P f (Oz ap (Q2y ty k l pre res post)):=by
 refine Q5y h hm λb args c v b' hs hc=>?_;unfold Q2y at hs;split at hs
 .rename_i iz k' xs nl;split at hs
  .rename_i e;subst e;split at hs
   .rename_i ys d h1 h2;obtain⟨rfl,rfl,rfl⟩:=(by simpa using hs:pre ys nl d=c/\res ys nl d=v/\OB.lst iz k (post ys nl d) nl=b');unfold M6 at h1;split at h1
    .rename_i e;subst e;obtain rfl:=osj h1;exact⟨C,L xs nl d,AL.can l d,AL.q0v l d,λU vs hv=>AL.q0l dA l h2 hv,aA,(hq xs nl d).mpr (hb xs nl d hc)⟩
    .cases h1
   .cases hs
  .cases hs
 .cases hs
end
end Go.V
namespace Go.V
open Go
abbrev lI {α:Type}(l:List α):Int:=(l.length:Int)
abbrev gD {α:Type}(l:List α) (i:Int) (d:α):α:=l.getD i.toNat d
abbrev sT {α:Type}(l:List α) (i:Int) (x:α):List α:=l.set i.toNat x
abbrev I64 (x:Int):Prop:=InK .i64 x
theorem QD (x:Int):InK .i64 x<->-9223372036854775808<=x/\x<=9223372036854775807:=by simp[InK,IntKind.min,IntKind.max,IntKind.bits,IntKind.signed]
theorem IC (x:Int):InK .u8 x<->0<=x/\x<=255:=by simp[InK,IntKind.min,IntKind.max,IntKind.bits,IntKind.signed]
theorem Q7d (x:Int):InK .u16 x<->0<=x/\x<=65535:=by simp[InK,IntKind.min,IntKind.max,IntKind.bits,IntKind.signed]
theorem S5 (x:Int):InK .u64 x<->0<=x/\x<=18446744073709551615:=by simp[InK,IntKind.min,IntKind.max,IntKind.bits,IntKind.signed]
theorem LoopP.count {F:Int->(Int->Prop)->Prop}(n:Nat) (J:Nat->Prop) (h0:J 0) (hr:∀ k:Nat,k<=n->J k->∀ q:Int->Prop,(k<n->J (k+1)->q ((k:Int)+1))->F k q):LoopP F 0:=by
 refine⟨λd=>∃ k:Nat,d=k/\k<=n/\J k,λd=>n-d.toNat,⟨0,rfl,Nat.zero_le _,h0⟩,λd ⟨k,hd,hk,hJ⟩=>?_⟩
 grind
theorem LoopP.count1 {X:Type}{F:Int×X->(Int×X->Prop)->Prop}(n:Nat) (J:Nat->X->Prop) {x0:X}(h0:J 0 x0) (hr:∀ (k:Nat) (x:X),k<=n->J k x->∀ q:Int×X->Prop,(∀ x',k<n->J (k+1) x'->q ((k:Int)+1,x'))->F ((k:Int),x) q):LoopP F (0,x0):=by
 refine⟨λd=>∃ k:Nat,d.1=k/\k<=n/\J k d.2,λd=>n-d.1.toNat,⟨0,rfl,Nat.zero_le _,h0⟩,λ⟨d,x⟩ ⟨k,hd,hk,hJ⟩=>?_⟩
 grind
theorem LoopP.count2 {X:Type}{F:X×Int->(X×Int->Prop)->Prop}(n:Nat) (J:Nat->X->Prop) {x0:X}(h0:J 0 x0) (hr:∀ (k:Nat) (x:X),k<=n->J k x->∀ q:X×Int->Prop,(∀ x',k<n->J (k+1) x'->q (x',(k:Int)+1))->F (x,(k:Int)) q):LoopP F (x0,0):=by
 refine⟨λd=>∃ k:Nat,d.2=k/\k<=n/\J k d.1,λd=>n-d.2.toNat,⟨0,rfl,Nat.zero_le _,h0⟩,λ⟨x,d⟩ ⟨k,hd,hk,hJ⟩=>?_⟩
 grind
theorem Qj {α:Type}{l:List α}{k:Nat}{d:α}(h:k<l.length):l.getD k d=l[k]:=by simp_all
theorem ZI {α:Type}{l:List α}{k:Nat}(h:k<l.length):l.take (k+1)=l.take k++[l[k]]:=by rw[List.take_succ_eq_append_getElem h]
def Q6l (agg:Bool) (sz:Nat):VCode :=
 .seq (.region [
  ⟨(some 4),.load false 1 (.tmp 1),none⟩,
  ⟨(some 5),.len (.tmp 4),none⟩,
  ⟨(some 6),.arith .sub (.tmp 5) (.const (.int .i64 (1))),none⟩,
  ⟨(some 3),.move (.tmp 6),none⟩])
 (.block 0 (.loop (.seq (.seq (.region [
    ⟨(some 7),.move (.tmp 3),none⟩,
    ⟨(some 8),.cmp .geq (.tmp 7) (.const (.int .i64 (0))),none⟩])
   (.cond (.tmp 8) (.skip)
    (.exit 0)))
   (.seq (.block 1 (.seq (.region [
     ⟨(some 11),.move (.tmp 0),none⟩,
     ⟨(some 12),.move (.tmp 3),none⟩,
     ⟨(some 13),.load false 1 (.tmp 1),none⟩,
     ⟨(some 14),.move (.tmp 3),none⟩,
     ⟨(some 15),.indexAddr sz (.tmp 13) (.tmp 14),none⟩,
     ⟨(some 16),.load agg sz (.tmp 15),none⟩,
     ⟨(some 17),.callV (.tmp 11) [.tmp 12,.tmp 16],none⟩,
     ⟨(some 18),.un .not (.tmp 17),none⟩])
    (.cond (.tmp 18) (.ret)
     (.skip))))
   (.region [
    ⟨(some 9),.move (.tmp 3),none⟩,
    ⟨(some 10),.arith .sub (.tmp 9) (.const (.int .i64 (1))),none⟩,
    ⟨(some 3),.move (.tmp 10),none⟩])))))
def Z3c (k:Kind):ISp:=λargs=>match args with
 |[.cp l 0]=>(match l with
  |[.val (.list _k') l]=>(match M6 l k with
   |some l=>some (l.length<4611686018427387904,l.length,2,λj=>[.val (.i .i64) ((l.length:Int)-1-j),It k (l.getD (l.length-1-j) k.dflt)])
   |none=>none)
  |_=>none)
 |_=>none
section
variable {P:Program}
theorem Q1z:∀ (k:Kind) (x:k.T),(It k x).pure=true
 |.i _,_|.bo,_|.st,_|.list _,_=>rfl
 |.pair a b,x=>by
  have app:∀ l m:List SV,SVs.pure l=true->SVs.pure m=true->SVs.pure (l++m)=true:=by
   intro l m hl hm;induction l with
   |nil=>exact hm
   |cons s l ih =>simp only[SVs.pure,z1,xr] at hl |-;exact⟨hl.1,ih hl.2⟩
  have cells:∀ (k:Kind) (x:k.T),SVs.pure (Mn k x)=true:=by
   intro k;induction k with
   |pair a b eN d_=>intro x;exact app _ _ (eN x.1) (d_ x.2)
   |_=>intro x;rfl
  simp only[It,SV.pure];exact cells (.pair a b) x
theorem st1 {S:VSpecs}{d:Nat}{op:VOp}{rest:List VOper}{env:Env}{U:Heap}{K:Env->Heap->Prop}{v:Value}(hv:∀ K',vop S op env U K'=Z8 (Q6 op (Q4 env) U) λp=>K' p.1 p.2) (h:Q6 op (Q4 env) U=some (v,U)) (hr:HS S rest (env.set d v) U K):HS S (⟨some d,op,none⟩::rest) env U K:=by show Z8 (some true) _;refine⟨λ_=>?_,λe=>by cases e⟩;rw[hv,h];exact hr
theorem Q84 {B Z:Heap}(hle:B.Le Z) {k:Kind}{l:List k.T}{x:Value}(hs:SlRel B k.size (λx c=>KC B k x c) l x) {n:Nat}(hn:n<l.length) :
  ∃ i o cap c e wr t w,x=.slice (some ⟨i,o,none⟩) l.length cap/\Z.get i=some (.cells c e wr t)/\Wi (!k.one) k.size c (o+n*k.size)=some w/\KV B k l[n] w:=by
 rcases hs with⟨rfl,_⟩|⟨i,o,cap,c,e,wr,t,h1,h2,h3,h4,h5,h6⟩
 .simp at hn
 .have hmul:n*k.size+k.size<=l.length*k.size:=by
   have:=zq k.size (show n+1<=l.length from hn)
   rwa [zD,xp] at this
  have eA:=h6.at (n:=k.size) (λx c hx=>KC.length hx) hn;have e1:(((c.drop o).take (l.length*k.size)).drop (n*k.size)).take k.size=(c.drop (o+n*k.size)).take k.size:=by rw[List.drop_take,List.drop_drop,List.take_take,xB (by omega)]
  rw[e1] at eA;have hlen:=KC.length eA;cases bp:k.one with
  |true =>
   have aE:=Kind.q1o bp;rw[aE] at eA hlen hmul h5 |-;have al:o+n*1<c.length:=by omega
   refine⟨i,o,cap,c,e,wr,t,c[o+n*1],h1,hle.2 _ _ h3,?_,.inl ⟨bp,?_⟩⟩
   .simp[Wi]
   .grind [List.drop_eq_getElem_cons]
  |false =>refine⟨i,o,cap,c,e,wr,t,_,h1,hle.2 _ _ h3,?_,.inr ⟨bp,_,rfl,eA⟩⟩;simp only[Wi,Bool.not_false,zr];rw[z7 (by omega)]
theorem VYields.mono {i:Nat}{args:List Value}{U:Heap}{R R':Value->Heap->Prop}(h:VYields P i args U R) (hr:∀ v U',R v U'->R' v U'):VYields P i args U R':=by intro ρ w aw hH hL;obtain⟨p,h1,fn,tmps,dY,body,h2,h3⟩:=h ρ w aw hH hL;exact⟨p,h1,fn,tmps,dY,body,h2,h3.mono λe w' ⟨c,he,hg⟩=>⟨c,he,hg.mono hr⟩⟩
set_option maxHeartbeats 4000000 in
theorem Q5k {B Z:Heap}{k:Kind}{l1:List k.T}{x:Value}{i b j:Nat}{Y:RP}{J:Nat->Heap->Prop}{E:Heap->Prop}(hY:VD P i Y)
  (oC:∀ (env:Env) (j:Nat),Q4 env (.tmp j)=.pointer (some ⟨b,0,none⟩)->Q6 (.load false 1 (.tmp j)) (Q4 env) Z=some (x,Z)) (ez:SlRel B k.size (λx c=>KC B k x c) l1 x) (iZ:B.Le Z) (lu:j<=l1.length) (hc:l1.length<4611686018427387904)
  (eD:j<l1.length->∀ us,SRs P B WB XC [.val (.i .i64) ((l1.length:Int)-1-j),It k (l1[l1.length-1-j]?.getD k.dflt)] us->Y us Z λv Z'=>(v=.bool true/\J (j+1) Z')\/(v=.bool false/\E Z'))
  {Q:Exit->Env->Heap->Prop}(uz:J l1.length Z->∀ env,Q .normal env Z) (uA:∀ Z,E Z->∀ env,Q .ret env Z) (hJ:J j Z) {n:Nat}(f_:n=l1.length-j) (len:Nat) (hlen:len=19) :
  vwp (Q3 P) (.seq (.seq (.region [
    ⟨(some 7),.move (.tmp 3),none⟩,
    ⟨(some 8),.cmp .geq (.tmp 7) (.const (.int .i64 (0))),none⟩])
   (.cond (.tmp 8) (.skip)
    (.exit 0)))
   (.seq (.block 1 (.seq (.region [
     ⟨(some 11),.move (.tmp 0),none⟩,
     ⟨(some 12),.move (.tmp 3),none⟩,
     ⟨(some 13),.load false 1 (.tmp 1),none⟩,
     ⟨(some 14),.move (.tmp 3),none⟩,
     ⟨(some 15),.indexAddr k.size (.tmp 13) (.tmp 14),none⟩,
     ⟨(some 16),.load (!k.one) k.size (.tmp 15),none⟩,
     ⟨(some 17),.callV (.tmp 11) [.tmp 12,.tmp 16],none⟩,
     ⟨(some 18),.un .not (.tmp 17),none⟩])
    (.cond (.tmp 18) (.ret)
     (.skip))))
   (.region [
    ⟨(some 9),.move (.tmp 3),none⟩,
    ⟨(some 10),.arith .sub (.tmp 9) (.const (.int .i64 (1))),none⟩,
    ⟨(some 3),.move (.tmp 10),none⟩]))) none (λe ai aJ=>match e with
   |.normal=>∃ n',n'<n/\∃ j,j<=l1.length/\n'=l1.length-j/\HU [0,1,3] ai=[.func (.yield i) #[] #[],.pointer (some ⟨b,0,none⟩),.int .i64 ((l1.length:Int)-1-j)]/\J j aJ
   |e=>EM 0 Q e ai aJ) (Wy [0,1,3] [.func (.yield i) #[] #[],.pointer (some ⟨b,0,none⟩),.int .i64 ((l1.length:Int)-1-j)] (List.replicate len poison)) Z:=by
 subst hlen;show HS _ _ [.func (.yield i) #[] #[],.pointer (some ⟨b,0,none⟩),poison,.int .i64 ((l1.length:Int)-1-j),poison,poison,poison,poison,poison,poison,poison,poison,poison,poison,poison,poison,poison,poison,poison] _ _;refine st1 (λ_=>rfl) rfl ?_;refine st1 (v:=.bool (decide ((0:Int)<=(l1.length:Int)-1-j))) (λ_=>rfl) rfl ?_;show EW (.bool _) _ _;refine⟨λbI=>?_,λal=>?_⟩
 .have bI:(0:Int)<=(l1.length:Int)-1-j:=by simpa using bI
  have il:l1.length-1-j<l1.length:=by omega
  obtain⟨i',o',au,c',e',jh,t',w,q1,q2,q3,q4⟩:=Q84 iZ ez il;show HS _ _ _ _ _;refine st1 (λ_=>rfl) rfl ?_;refine st1 (λ_=>rfl) rfl ?_;refine st1 (λ_=>rfl) (oC _ _ rfl) ?_;refine st1 (λ_=>rfl) rfl ?_;refine st1 (v:=.pointer (some ⟨i',o'+(l1.length-1-j)*k.size,none⟩)) (λ_=>rfl) ?_ ?_
  .rw[q1];show (if 0<=(l1.length:Int)-1-j/\(l1.length:Int)-1-j<l1.length then some (Value.pointer (some ⟨i',o'+((l1.length:Int)-1-j).toNat*k.size,none⟩),Z) else none)=_
   grind
  refine st1 (v:=w) (λ_=>rfl) ?_ ?_
  .show (match Z.get i' with|some (.cells c _ _ _)=>(match Wi (!k.one) k.size c (o'+(l1.length-1-j)*k.size) with|some v=>some (v,Z)|none=>none)|_=>none)=_;rw[q2];simp only[q3]
  show Z8 (some true) _;refine⟨λ_=>?_,λe=>by cases e⟩;show VYields P i [.int .i64 ((l1.length:Int)-1-j),w] Z _;refine VYields.mono (hY _ _ _ (eD (by omega) [.int .i64 ((l1.length:Int)-1-j),w] ?_)) ?_
  .simp only[SRs];refine⟨_,_,rfl,rfl,w,[],rfl,?_,rfl⟩;rw[z8 il];exact Wm q4
  .rintro v Z' (⟨rfl,uB⟩|⟨rfl,hE⟩)
   .show HS _ _ _ _ _;refine st1 (v:=.bool false) (λ_=>rfl) rfl ?_;show EW (.bool false) _ _;refine⟨(λe=>by cases e),λ_=>?_⟩;show HS _ _ _ _ _;refine st1 (λ_=>rfl) rfl ?_;refine st1 (v:=.int .i64 ((l1.length:Int)-1-(j+1:Nat))) (λ_=>rfl) ?_ ?_
    .show (if IntKind.i64=IntKind.i64 then some (Value.int .i64 (IntKind.i64.wrap ((l1.length:Int)-1-j-1)),Z') else none)=_;rw[z7 rfl,Fe (by omega)]
     grind
    refine st1 (λ_=>rfl) rfl ?_;exact⟨l1.length-(j+1),by omega,j+1,by omega,rfl,rfl,uB⟩
   .show HS _ _ _ _ _;refine st1 (v:=.bool true) (λ_=>rfl) rfl ?_;show EW (.bool true) _ _;refine⟨λ_=>?_,λe=>by cases e⟩;exact uA _ hE _
 .have al:¬ (0:Int)<=(l1.length:Int)-1-j:=by simpa using al
  have hj:j=l1.length:=by omega
  subst hj;exact uz hJ _
theorem Z43 {f:Nat}{k:Kind}(h:Fun P f (Q6l (!k.one) k.size) [] 19) (hm:P.follows .mixedOrders=true):Q94 P f (Z3c k):=by
 refine⟨h.enterable,λB args vs c m ar xs hs hit hc=>?_⟩;unfold Z3c at hit;split at hit
 .rename_i l0;split at hit
  .rename_i k' l1;split at hit
   .rename_i l hl;unfold M6 at hl;split at hl
    .rename_i e;subst e;obtain rfl:=osj hl;obtain⟨rfl,rfl,rfl,rfl⟩:=(by simpa using hit:(l1.length<4611686018427387904)=c/\l1.length=m/\2=ar/\_=xs);refine⟨λj=>⟨rfl,by simp only[SVs.pure,SV.pure,Q1z];rfl⟩,λi Y J E τ0 hY hle eD h0=>?_⟩;simp only[SRs,SR] at hs;obtain⟨cap,_,rfl,⟨b,cc,e,wr,t,hb,rfl,x,_,rfl,⟨y,hy,ez⟩,rfl⟩,rfl⟩:=hs;obtain rfl:x=y:=by simpa using hy
     have cell:∀ Z,B.Le Z->Z.get b=some (.cells [x] e wr t):=λZ hτ=>hτ.2 _ _ hb;obtain⟨xa,uC,bc⟩:=SlRel.len ez;have dH:∀ (env:Env) (U:Heap) (j:Nat),Q4 env (.tmp j)=x->Q6 (.len (.tmp j)) (Q4 env) U=some (.int .i64 l1.length,U):=λenv U j hj=>by simp only[Q6,hj,bc]
     refine h.callsTo hm RR ?_;have oC:∀ (env:Env) (U:Heap) (j:Nat),B.Le U->Q4 env (.tmp j)=.pointer (some ⟨b,0,none⟩)->Q6 (.load false 1 (.tmp j)) (Q4 env) U=some (x,U):=λenv U j hσ hj=>by simp only[Q6,hj,cell U hσ,Wi];rfl
     have qi:=hle 0 τ0 h0;show HS _ _ _ _ _;refine st1 (λ_=>rfl) (oC _ _ _ qi rfl) ?_;refine st1 (λ_=>rfl) (dH _ _ _ rfl) ?_;refine st1 (v:=.int .i64 ((l1.length:Int)-1)) (λ_=>rfl) ?_ ?_
     .show (if IntKind.i64=IntKind.i64 then some (Value.int .i64 (IntKind.i64.wrap ((l1.length:Int)-1)),τ0) else none)=_;rw[z7 rfl,Fe (by omega)]
     refine st1 (v:=.int .i64 ((l1.length:Int)-1)) (λ_=>rfl) rfl ?_;show Q9v _ _ _ _;refine⟨[0,1,3],λn vs Z=>∃ j,j<=l1.length/\n=l1.length-j/\vs=[.func (.yield i) #[] #[],.pointer (some ⟨b,0,none⟩),.int .i64 ((l1.length:Int)-1-j)]/\J j Z,l1.length,⟨0,Nat.zero_le _,rfl,?_,h0⟩,λn vs Z ⟨j,lu,f_,uD,hJ⟩=>?_⟩
     .simp[HU]
     .subst uD;have iZ:=hle j Z hJ;refine Q5k (J:=J) (E:=E) hY (λenv jj h=>oC _ _ _ iZ h) ez iZ lu hc (by simp_all) ?_ ?_ hJ f_ _ rfl
      .exact λhJ env=>⟨_,_,.refl _ _ _,.inl hJ⟩
      .exact λZ hE env=>⟨_,_,.refl _ _ _,.inr hE⟩
    .cases hl
   .cases hit
  .cases hit
 .cases hit
theorem YlOk.nil:∀ o y,QR ([]:List (Nat×YSp)) o=some y->Q5c P o y:=λo y h=>by cases h
theorem IysOk.nil:∀ f x,QR ([]:List (Nat×Q99)) f=some x->Q92 P f x:=λf x h=>by cases h
theorem IysOk.cons {f:Nat}{x:Q99}{l:List (Nat×Q99)}(h:Q92 P f x) (t:∀ g y,QR l g=some y->Q92 P g y):∀ g y,QR ((f,x)::l) g=some y->Q92 P g y:=λg y hg=>by
 simp only[QR] at hg
 grind [Nat.eq_of_beq_eq_true,osj]
theorem XsOk.nil:∀ f x,QR ([]:List (Nat×XSp)) f=some x->XOk P f x:=λf x h=>by cases h
theorem XsOk.cons {f:Nat}{x:XSp}{l:List (Nat×XSp)}(h:XOk P f x) (t:∀ g y,QR l g=some y->XOk P g y):∀ g y,QR ((f,x)::l) g=some y->XOk P g y:=λg y hg=>by
 simp only[QR] at hg
 grind [Nat.eq_of_beq_eq_true,osj]
theorem ItsOk.nil:∀ f x,QR ([]:List (Nat×ISp)) f=some x->Q94 P f x:=λf x h=>by cases h
theorem ItsOk.cons {f:Nat}{x:ISp}{l:List (Nat×ISp)}(h:Q94 P f x) (t:∀ g y,QR l g=some y->Q94 P g y):∀ g y,QR ((f,x)::l) g=some y->Q94 P g y:=λg y hg=>by
 simp only[QR] at hg
 grind [Nat.eq_of_beq_eq_true,osj]
end
end Go.V
namespace Go.Proofs.Tryz
open Go Go.V Go.Proofs
theorem Q5o:Fun Tryz.prog 108 (Q6l false 1) [] 19:=⟨Tryz.f108,Tryz.func108,by kernel_rfl,by kernel_rfl,rfl,rfl⟩
end Go.Proofs.Tryz
namespace Go.V
open Go
section
variable {P:Program}
theorem XfOk.nil {xs:List (Nat×XSp)}:∀ f j,QR ([]:List (Nat×Nat)) f=some j->∀ x,QR xs f=some x->Z62 P f x j:=λf j h=>by cases h
end
end Go.V
namespace Go.V
open Go
def pj4 {A B C D E:Type}(x:A×B×C×D×E):E:=x.2.2.2.2
def pj8 {A B C D A' B' C' D' E:Type}(x:A×B×C×D×A'×B'×C'×D'×E):E:=x.2.2.2.2.2.2.2.2
def Q2 {A B C D A' B' C' D' A1 B1 C1 D1 A2 B2 C2 D2 E:Type}(x:A×B×C×D×A'×B'×C'×D'×A1×B1×C1×D1×A2×B2×C2×D2×E):E:=x.2.2.2.2.2.2.2.2.2.2.2.2.2.2.2.2
theorem P3 {x:Nat}(h:x<9223372036854775808):IntKind.wrap .i64 (x:Int)=x:=by
 have e:((x:Int) % (18446744073709551616:Int))=x:=by omega
 have:¬ ((x:Int)>=9223372036854775808):=by omega
 show (if (true&&decide ((x:Int) % (18446744073709551616:Int)>=9223372036854775808))=true then (x:Int) % (18446744073709551616:Int)-18446744073709551616 else (x:Int) % (18446744073709551616:Int))=x;simp only[e,this,decide_false,Bool.and_false,zt,if_false]
theorem Q4s {x y:Nat}(h:x<9223372036854775808):x &&& y<9223372036854775808:=xP Nat.and_le_left h
theorem Q7k {x y:Nat}(hx:x<9223372036854775808) (hy:y<9223372036854775808):x ||| y<9223372036854775808:=Nat.or_lt_two_pow (n:=63) hx hy
theorem Q64 {x y:Nat}(hx:x<9223372036854775808) (hy:y<9223372036854775808):x ^^^ y<9223372036854775808:=Nat.xor_lt_two_pow (n:=63) hx hy
theorem Fs (x:Nat):BitVec.ofInt 64 (x:Int)=BitVec.ofNat 64 x:=by apply BitVec.eq_of_toNat_eq;simp
theorem toNat_ofInt {x:Nat}(h:x<9223372036854775808):(BitVec.ofInt 64 (x:Int)).toNat=x:=by rw[Fs,BitVec.toNat_ofNat,xV (by omega)]
theorem CW {x y:Nat}(hx:x<9223372036854775808) (hy:y<9223372036854775808):Q1 .and .i64 x y=((x &&& y:Nat):Int):=by
 have e:(BitVec.ofInt 64 (x:Int) &&& BitVec.ofInt 64 (y:Int)).toNat=x &&& y:=by rw[BitVec.toNat_and,toNat_ofInt hx,toNat_ofInt hy]
 show IntKind.wrap .i64 ((BitVec.ofInt 64 (x:Int) &&& BitVec.ofInt 64 (y:Int)).toNat:Int)=_;rw[e,P3 (Q4s hx)]
theorem Q7e {x y:Nat}(hx:x<9223372036854775808) (hy:y<9223372036854775808):Q1 .or .i64 x y=((x ||| y:Nat):Int):=by
 have e:(BitVec.ofInt 64 (x:Int) ||| BitVec.ofInt 64 (y:Int)).toNat=x ||| y:=by rw[BitVec.toNat_or,toNat_ofInt hx,toNat_ofInt hy]
 show IntKind.wrap .i64 ((BitVec.ofInt 64 (x:Int) ||| BitVec.ofInt 64 (y:Int)).toNat:Int)=_;rw[e,P3 (Q7k hx hy)]
theorem Q55 {x y:Nat}(hx:x<9223372036854775808) (hy:y<9223372036854775808):Q1 .xor .i64 x y=((x ^^^ y:Nat):Int):=by
 have e:(BitVec.ofInt 64 (x:Int) ^^^ BitVec.ofInt 64 (y:Int)).toNat=x ^^^ y:=by rw[BitVec.toNat_xor,toNat_ofInt hx,toNat_ofInt hy]
 show IntKind.wrap .i64 ((BitVec.ofInt 64 (x:Int) ^^^ BitVec.ofInt 64 (y:Int)).toNat:Int)=_;rw[e,P3 (Q64 hx hy)]
theorem Q7p {x i:Nat}(hi:i<=64):Q9 .i64 x i=((x >>> i:Nat):Int):=by have:Nat.min i 64=i:=xB hi;simp only[Q9,zg,IntKind.bits,this];rw[zE,Int.fdiv_eq_ediv_of_nonneg _ (Int.le_of_lt (Int.pow_pos (by omega)))];norm_cast
theorem Q7s {x i:Nat}(hi:i<=64):WX .i64 x i=((x <<< i:Nat):Int):=by have:Nat.min i 64=i:=xB hi;simp only[WX,zg,IntKind.bits,this,Nat.shiftLeft_eq];norm_cast
theorem Q7w {x i:Nat}(hx:x<9223372036854775808) (hi:i<=64):(Q1 .and .i64 (Q9 .i64 x i) 1==1)=x.testBit i:=by have h1:x >>> i<9223372036854775808:=xP (by rw[zE];exact Nat.div_le_self _ _) hx;rw[Q7p hi,show (1:Int)=((1:Nat):Int) from rfl,CW h1 (by omega),Nat.testBit];rw[Bool.eq_iff_iff];simp only[zF,bne_iff_ne,ne_eq];rw[Nat.and_comm,Nat.one_and_eq_mod_two];omega
def CSp.or (a b:CSp):CSp:=λap args=>match a ap args with
 |some r=>some r
 |none=>b ap args
theorem OkC.or {P:Program}{f:Nat}{a b:CSp}(ha:OkC P f a) (hb:OkC P f b):OkC P f (a.or b):=by
 intro ap dA U args vs c v bs hs h;unfold CSp.or at h;split at h
 .rename_i r hr;exact ha ap dA U args vs c v bs hs (hr.trans h)
 .exact hb ap dA U args vs c v bs hs h
end Go.V
namespace Go.Proofs.Tryz
open Go Go.V Go.Proofs
abbrev q4 {A B C D E:Type}(x:A×B×C×D×E):E:=x.2.2.2.2
def inI (n a b:Int):Bool:=decide (a<=n)&&decide (n<=b)
def Zp (hk:Int) (lw:List Int):Int:=if !inI hk 1 24 then 2 else if 96<lw.length then 5 else if lw.length=0 then 7 else if lw.any (λx=>!inI x 0 (hk-1)) then 2 else 0
def Q40 (l:List Int) (p:Int->Bool):Int:=match l.findIdx? p with|some i=>(i:Int)|none=>-1
def FV {α:Type}(l:List α) (p:α->Bool):Int:=match l.findIdx? p with|some i=>(i:Int)|none=>-1
def u8s (l:List Int):Prop:=∀ x∈l,0<=x/\x<=255
def Z5x (l:List Int):Prop:=∀ x∈l,0<=x/\x<=65535
def bOk (h8:Int) (ws rs ds:List Int):Prop:=0<=h8/\h8<=255/\u8s ws/\Z5x rs/\u8s ds
def hkN (m h8:Int):Int:=1+Int.tmod h8 m
def Qq (hk:Int) (cap:Nat) (ws:List Int):List Int:=if ws=[] then [0] else (ws.take cap).map λx=>Int.tmod x hk
def Q7 (hk:Int) (cap:Nat) (rs:List Int):List Int:=if rs=[] then [21 % 2 ^ hk.toNat] else (rs.take cap).map λx=>x % 2 ^ hk.toNat
def BZ (b:Bool):Int:=if b then 120 else 46
def Z6 (lw:List Int) (row:Int):List UInt8:=lw.map λk=>if row.toNat.testBit k.toNat then 120 else 46
def Qe (hd:Int) (rows:List Int):Int:=if !inI hd 1 24 then 2 else if 60<rows.length then 5 else if rows.length=0 then 7 else if rows.any (λx=>!inI x 0 (2 ^ hd.toNat-1)) then 2 else 0
def Qb (hk:Int) (lw:List Int) (hd:Int) (rows:List Int):Int:=if Zp hk lw≠0 then Zp hk lw else if Qe hd rows≠0 then Qe hd rows else if hd≠hk then 4 else 0
def Zz (hk:Int) (lw:List Int) (hd:Int) (rows:List Int):List (List UInt8):=if Qb hk lw hd rows=0 then rows.map (Z6 lw) else []
theorem TU {hk:Int}{lw:List Int}(h:Zp hk lw=0):1<=hk/\hk<=24/\lw.length<=96/\lw.length≠0/\∀ x∈lw,0<=x/\x<hk:=by
 unfold Zp at h;split at h
 .cases h
 .rename_i h1;split at h
  .cases h
  .rename_i h2;split at h
   .cases h
   .rename_i h3;split at h
    .cases h
    .rename_i h4;have h1:1<=hk/\hk<=24:=by simpa [inI] using h1
     refine⟨h1.1,h1.2,by omega,h3,λx hx=>?_⟩;have h5:∀ x∈lw,inI x 0 (hk-1)=true:=by simpa using h4
     have:=h5 x hx;simp only[inI,z1,zf] at this;omega
theorem ES {α:Type}{l:List α}{p:α->Bool}{k:Nat}(hk:k<l.length) (h:p l[k]=true) (hJ:(l.take k).any p=false):FV l p=k:=by
 have:l.findIdx? p=some k:=by rw[List.findIdx?_eq_some_iff_getElem];refine⟨hk,h,λj hj=>?_⟩;have hn:=xi.1 hJ l[j] (List.mem_take_iff_getElem.2 ⟨j,by omega,rfl⟩);simpa using hn
 simp[FV,this]
theorem Rm {α:Type}{l:List α}{p:α->Bool}(hJ:l.any p=false):FV l p=-1:=by
 have:l.findIdx? p=none:=by rw[List.findIdx?_eq_none_iff];intro x hx;have:=xi.1 hJ x hx;simpa using this
 simp[FV,this]
theorem Iw {α:Type}(l:List α) (p:α->Bool):(decide (FV l p>=0))=l.any p:=by
 cases h:l.any p with
 |false=>rw[Rm h];rfl
 |true =>
  have:(l.findIdx? p).isSome=true:=by rw[List.findIdx?_isSome,h]
  obtain⟨i,hi⟩:=Option.isSome_iff_exists.1 this;have e:FV l p=(i:Int):=by simp[FV,hi]
  rw[e];exact wk (Int.natCast_nonneg i)
def rowAt (rows:List Int) (p:Int):Nat:=(rows.getD (p.toNat % rows.length) 0).toNat
abbrev Dmg:=Int×Int×Int×Int×Bool
def Ho (hd:Int) (rows lw:List Int) (d:Dmg):Bool :=
 inI d.1 1 5&&(if d.1=1 then d.2.2.2.1==0&&!d.2.2.2.2 else if d.1=2 then d.2.1==0&&d.2.2.2.1==0 else if d.1=5 then d.2.1==0&&d.2.2.1==0&&!d.2.2.2.2 else d.2.2.1==0&&d.2.2.2.1==0&&!d.2.2.2.2) &&
  inI d.2.1 0 (rows.length-1)&&inI d.2.2.1 0 (hd-1)&&inI d.2.2.2.1 0 (lw.length-1)
def W4 (hk:Int) (lw:List Int) (hd:Int) (rows:List Int) (ds:List Dmg):Int:=if Qb hk lw hd rows≠0 then Qb hk lw hd rows else if 100<ds.length then 5 else if ds.any (λd=>!Ho hd rows lw d) then 2 else 0
def Qr (hk:Int) (lw:List Int) (hd:Int) (rows:List Int) (ds:List Dmg) (n:Int):Int:=if W4 hk lw hd rows ds≠0 then W4 hk lw hd rows ds else if inI n 1 120 then 0 else 3
def Dp (k:Int):Int:=if k=2 then 1 else if k=5 then 2 else 0
def Q8c (n:Nat) (r:Nat):Nat->Nat
 |0=>0
 |h+1=>Q8c n r h*2+(if r.testBit h then 1 else 0)
def Hc (hd:Int) (rows:List Int) (d:Dmg):List Int :=
 if d.1=1 then rows.set d.2.1.toNat (((rows.getD d.2.1.toNat 0).toNat ^^^ 2 ^ d.2.2.1.toNat:Nat):Int)
 else if d.1=2 then rows.map λr=>((if d.2.2.2.2 then r.toNat ||| 2 ^ d.2.2.1.toNat else (r.toNat ||| 2 ^ d.2.2.1.toNat) ^^^ 2 ^ d.2.2.1.toNat:Nat):Int)
 else if d.1=3 then rows.set d.2.1.toNat ((Q8c hd.toNat (rows.getD d.2.1.toNat 0).toNat hd.toNat:Nat):Int)
 else if d.1=4 then (rows.set d.2.1.toNat (rows.getD ((d.2.1.toNat+1) % rows.length) 0)).set ((d.2.1.toNat+1) % rows.length) (rows.getD d.2.1.toNat 0)
 else rows
def L1 (d:Dmg) (s:List UInt8):List UInt8:=if d.1=5 then s.set d.2.2.2.1.toNat 46 else s
def Ve (lw:List Int) (hd:Int) (rows:List Int) (ds:List Dmg):List (List UInt8):=match ds with
 |[]=>rows.map (Z6 lw)
 |d::_=>(Hc hd rows d).map λr=>L1 d (Z6 lw r)
def Q4e (lw:List Int) (hd:Int) (rows:List Int) (ds:List Dmg) (n:Nat):List (List UInt8):=(List.range n).map λi=>(Ve lw hd rows ds).getD (i % (Ve lw hd rows ds).length) []
def Q3w (i:Nat) (s t:List UInt8):List (Int×Int×Bool):=((List.range s.length).filter λ(w:Nat)=>s.getD w 0 != t.getD w 0).map λ(w:Nat)=>((i:Int),((w:Int),s.getD w 0==120))
def Q91 (a b:List (List UInt8)):List (Int×Int×Bool):=(List.range a.length).flatMap λi=>Q3w i (a.getD i []) (b.getD i [])
def RJ (hk:Int) (lw:List Int) (hd:Int) (rows:List Int) (ds:List Dmg) (n:Int):List (Int×Int×Bool):=if Qr hk lw hd rows ds n=0 then Q91 (Q4e lw hd rows ds n.toNat) (Q4e lw hd rows [] n.toNat) else []
theorem Q2j (i:Nat) (s:List UInt8):Q3w i s s=[]:=by unfold Q3w;rw[List.filter_eq_nil_iff.2 (λw _=>by simp)];rfl
def Wc:AL (List Int×((Int->Prop)×(Int->Bool))):=(.cons (.k (.list (.i .i64))) (.one (.fn [(.i .i64)] .bo)))
def Vi (d:List Int×((Int->Prop)×(Int->Bool))):Prop:=d.1.length<=1000000/\∀ x∈d.1,d.2.1 x
def XL (d:List Int×((Int->Prop)×(Int->Bool))):SV:=.val (.i .i64) (Q40 d.1 d.2.2)
def XH (d:List Int×((Int->Prop)×(Int->Bool))):List OB:=[]
def JL:CSp:=XU Wc Vi XL XH
def Zj (l:List Int) (p:(Int->Prop)×(Int->Bool)):Prop :=
 ∃ (e2:Unit) (d20:Int),((l=l/\(SV.pf [(.i .i64)] .bo p.1 p.2=SV.pf [(.i .i64)] .bo p.1 p.2)/\(lI l)=(lI l)/\(0:Int)=d20/\True)/\(True)) /\
 LoopP (λ(d2:Int) (q2:(Int)->Prop) =>
  ((decide (d2<(lI l)))=true ->
   (0<=d2)/\(d2<(List.length l))/\(p.1 (gD l d2 0))/\((p.2 (gD l d2 0))=true ->
    (d2=(Q40 l p.2)/\(True))) /\
   ((p.2 (gD l d2 0))=false ->
    (I64 (d2+(1:Int)))/\(∃ d3:Int,((l=l/\(SV.pf [(.i .i64)] .bo p.1 p.2=SV.pf [(.i .i64)] .bo p.1 p.2)/\(lI l)=(lI l)/\(d2+(1:Int))=d3/\True)/\(True))/\q2 d3))) /\
  ((decide (d2<(lI l)))=false ->
   ((-1:Int)=(Q40 l p.2)/\(True)))) d20
def W6:Cx:=⟨[],[],19,[],0,[],[],[],[],false,[],[],[],[]⟩
def VV (l:List Int) (p:(Int->Prop)×(Int->Bool)):List (Nat×LoopAnn):=[(0,⟨Unit,Int,[0,1,7,8],λe x=>[.val (.list (.i .i64)) l,.pf [(.i .i64)] .bo p.1 p.2,.val (.i .i64) (((List.length l):Nat):Int),.val (.i .i64) x],λe x=>[]⟩)]
theorem VZ (d:List Int×((Int->Prop)×(Int->Bool))):gwp (W6) (VV d.1 d.2) c97 0 (YI [.tmp 4] (XL d) (XH d)) (Qv 19 (AL.can Wc d))=Zj d.1 d.2:=by kernel_rfl
abbrev VC:Prop:=OkC Tryz.prog 97 JL
theorem VQ (h:∀ (l:List Int) (p:(Int->Prop)×(Int->Bool)),(l.length<=1000000/\∀ x∈l,p.1 x)->Zj l p):OkC Tryz.prog 97 JL :=
 QB Z15 mixed (C:=W6) (V:=λ(d:List Int×((Int->Prop)×(Int->Bool)))=>Zj d.1 d.2) ⟨.nil,XsOk.nil,ItsOk.nil,YlOk.nil,IysOk.nil,XfOk.nil⟩ (VZ) λd hp=>h d.1 d.2 hp
theorem Q3i {l:List Int}{p:Int->Bool}{k:Nat}(hk:k<l.length) (h:p l[k]=true) (hJ:(l.take k).any p=false):Q40 l p=k:=by
 have:l.findIdx? p=some k:=by rw[List.findIdx?_eq_some_iff_getElem];refine⟨hk,h,λj hj=>?_⟩;have hn:=xi.1 hJ l[j] (List.mem_take_iff_getElem.2 ⟨j,by omega,rfl⟩);simpa using hn
 simp[Q40,this]
theorem Q2v {l:List Int}{p:Int->Bool}(hJ:l.any p=false):Q40 l p=-1:=by
 have:l.findIdx? p=none:=by rw[List.findIdx?_eq_none_iff];intro x hx;have:=xi.1 hJ x hx;simpa using this
 simp[Q40,this]
theorem Iq (l:List Int) (p:Int->Bool):decide (Q40 l p>=0)=l.any p:=by
 unfold Q40;cases h:l.findIdx? p with
 |none =>
  have:=List.findIdx?_eq_none_iff.1 h;have:l.any p=false:=by rw[xi];intro x hx;simp[this x hx]
  rw[this];rfl
 |some i =>obtain⟨h1,h2,_⟩:=List.findIdx?_eq_some_iff_getElem.1 h;rw[xN.2 ⟨l[i],zk h1,h2⟩];simp
theorem VX:VC:=VQ λl p hp=>by
 unfold Zj;(try delta lI gD sT I64 Q2 pj8 pj4);simp only[true_and,and_true,exists_eq_left',exists_const,zf,zy];refine LoopP.count l.length (λk=>(l.take k).any p.2=false) (by simp) λk bD hJ q hq=>?_;simp only[zg,Int.ofNat_lt,QD];refine⟨λal=>?_,λbI=>?_⟩
 .rw[Qj al];refine⟨by omega,al,hp.2 _ (zk al),λhx=>?_,λhx=>⟨by omega,hq al ?_⟩⟩
  .rw[Q3i al hx hJ]
  .rw[ZI al,List.any_append,hJ];simp[hx]
 .rw[x5 (by omega)] at hJ;rw[Q2v hJ]
def Xk:AL (List Int×((Int->Prop)×(Int->Bool))):=(.cons (.k (.list (.i .i64))) (.one (.fn [(.i .i64)] .bo)))
def K5 (d:List Int×((Int->Prop)×(Int->Bool))):Prop:=d.1.length<=1000000/\∀ x∈d.1,d.2.1 x
def Xf (d:List Int×((Int->Prop)×(Int->Bool))):SV:=.val .bo (d.1.any d.2.2)
def Xh (d:List Int×((Int->Prop)×(Int->Bool))):List OB:=[]
def QM:CSp:=XU Xk K5 Xf Xh
def ZL (l:List Int) (p:(Int->Prop)×(Int->Bool)):Prop :=
 (l.length<=1000000/\∀ x∈l,(λ(x1:Int)=>p.1 x1) x)/\((decide ((Q40 l (λ(x1:Int)=>(p.2 x1)))>=(0:Int)))=(l.any p.2)/\(True))
def Xm:Cx:=⟨[],[(97,JL)],9,[],0,[],[],[],[],false,[],[],[],[]⟩
def KB (l:List Int) (p:(Int->Prop)×(Int->Bool)):List (Nat×LoopAnn):=[]
theorem Ky (d:List Int×((Int->Prop)×(Int->Bool))):gwp (Xm) (KB d.1 d.2) c66 0 (YI [.tmp 4] (Xf d) (Xh d)) (Qv 9 (AL.can Xk d))=ZL d.1 d.2:=by kernel_rfl
abbrev KH:Prop:=OkC Tryz.prog 66 QM
theorem Kw (h:∀ (l:List Int) (p:(Int->Prop)×(Int->Bool)),(l.length<=1000000/\∀ x∈l,p.1 x)->ZL l p):OkC Tryz.prog 66 QM :=
 QB Z2q mixed (C:=Xm) (V:=λ(d:List Int×((Int->Prop)×(Int->Bool)))=>ZL d.1 d.2) ⟨(.cons VX .nil),XsOk.nil,ItsOk.nil,YlOk.nil,IysOk.nil,XfOk.nil⟩ (Ky) λd hp=>h d.1 d.2 hp
theorem ZJ:KH:=Kw λl p hp=>by exact⟨hp,Iq l p.2,trivial⟩
def GG:AL (Int×Int×Int):=(.cons (.k (.i .i64)) (.cons (.ptr (.one (.k (.i .i64)))) (.one (.ptr (.one (.k (.i .i64)))))))
def Tj (d:Int×Int×Int):Prop:=True
def Mk (d:Int×Int×Int):SV:=.val .bo (decide (d.1<d.2.1)||decide (d.2.2<d.1))
def Mq (d:Int×Int×Int):List OB:=[]
def N0:CSp:=XU GG Tj Mk Mq
def U7 (n:Int) (a:Int) (b:Int):Prop :=
 (((decide (n<a))||(decide (n > b)))=(decide (n<a)||decide (b<n))/\(True))
def GA:Cx:=⟨[],[],13,[],0,[],[],[],[],false,[],[],[],[]⟩
def Ru (n:Int) (a:Int) (b:Int):List (Nat×LoopAnn):=[]
theorem Sg (d:Int×Int×Int):gwp (GA) (Ru d.1 d.2.1 d.2.2) c84 0 (YI [.tmp 4] (Mk d) (Mq d)) (Qv 13 (AL.can GG d))=U7 d.1 d.2.1 d.2.2:=by kernel_rfl
abbrev Su:Prop:=OkC Tryz.prog 84 N0
theorem S3 (h:∀ (n:Int) (a:Int) (b:Int),(True)->U7 n a b):OkC Tryz.prog 84 N0 :=
 QB Z0u mixed (C:=GA) (V:=λ(d:Int×Int×Int)=>U7 d.1 d.2.1 d.2.2) ⟨.nil,XsOk.nil,ItsOk.nil,YlOk.nil,IysOk.nil,XfOk.nil⟩ (Sg) λd hp=>h d.1 d.2.1 d.2.2 hp
theorem TZ:Su:=S3 λn a b _=>by exact⟨rfl,trivial⟩
def Hw:AL (Int×Int×List Int):=(.cons (.k (.i .i64)) (.cons (.k (.i .i64)) (.one (.k (.list (.i .i64))))))
def L2 (d:Int×Int×List Int):Prop:=d.2.2.length<=1000000
def B7 (d:Int×Int×List Int):SV:=.val .bo (!(d.2.2.any λn=>decide (n<d.1)||decide (d.2.1<n)))
def Bi (d:Int×Int×List Int):List OB:=[]
def Ur:CSp:=XU Hw L2 B7 Bi
def M0 (a:Int) (b:Int) (l:List Int):Prop :=
 (l.length<=1000000/\∀ x∈l,(λ(x1:Int)=>True) x)/\((!(l.any (λ(x1:Int)=>(decide (x1<a)||decide (b<x1)))))=(!(l.any λn=>decide (n<a)||decide (b<n)))/\(True))
def Hd:Cx:=⟨[],[(66,QM),(84,N0)],11,[],0,[],[],[],[],false,[],[],[],[]⟩
def AN (a:Int) (b:Int) (l:List Int):List (Nat×LoopAnn):=[]
theorem A5 (d:Int×Int×List Int):gwp (Hd) (AN d.1 d.2.1 d.2.2) c54 0 (YI [.tmp 6] (B7 d) (Bi d)) (Qv 11 (AL.can Hw d))=M0 d.1 d.2.1 d.2.2:=by kernel_rfl
abbrev CJ:Prop:=OkC Tryz.prog 54 Ur
theorem A6 (h:∀ (a:Int) (b:Int) (l:List Int),(l.length<=1000000)->M0 a b l):OkC Tryz.prog 54 Ur :=
 QB Q9s mixed (C:=Hd) (V:=λ(d:Int×Int×List Int)=>M0 d.1 d.2.1 d.2.2) ⟨(.cons ZJ (.cons TZ .nil)),XsOk.nil,ItsOk.nil,YlOk.nil,IysOk.nil,XfOk.nil⟩ (A5) λd hp=>h d.1 d.2.1 d.2.2 hp
theorem H9:CJ:=A6 λa b l h=>by exact⟨⟨h,λ_ _=>trivial⟩,rfl,trivial⟩
def T5:AL (Int×List Int):=(.one (.agg (.cons (.k (.i .i64)) (.one (.k (.list (.i .i64)))))))
def Ax (d:Int×List Int):Prop:=d.2.length<=1000000
def H4 (d:Int×List Int):SV:=.val (.i .i64) (Zp d.1 d.2)
def Ht (d:Int×List Int):List OB:=[]
def U6:CSp:=XU T5 Ax H4 Ht
def Uq (hk:Int) (lw:List Int):Prop :=
 ([hk].length<=1000000)/\((!(!([hk].any λn=>decide (n<(1:Int))||decide ((24:Int)<n))))=true ->
  ((2:Int)=(Zp hk lw)/\(True))) /\
 ((!(!([hk].any λn=>decide (n<(1:Int))||decide ((24:Int)<n))))=false ->
  ((decide ((lI lw) > (96:Int)))=true ->
   ((5:Int)=(Zp hk lw)/\(True))) /\
  ((decide ((lI lw) > (96:Int)))=false ->
   (((lI lw)==(0:Int))=true ->
    ((7:Int)=(Zp hk lw)/\(True))) /\
   (((lI lw)==(0:Int))=false ->
    (I64 (hk-(1:Int)))/\(lw.length<=1000000)/\((!(!(lw.any λn=>decide (n<(0:Int))||decide ((hk-(1:Int))<n))))=true ->
     ((2:Int)=(Zp hk lw)/\(True))) /\
    ((!(!(lw.any λn=>decide (n<(0:Int))||decide ((hk-(1:Int))<n))))=false ->
     ((0:Int)=(Zp hk lw)/\(True))))))
def PE:Cx:=⟨[(3,(.i .i64))],[(54,Ur)],27,[],0,[],[],[],[],false,[],[],[],[]⟩
def ED (hk:Int) (lw:List Int):List (Nat×LoopAnn):=[]
theorem Fh (d:Int×List Int):gwp (PE) (ED d.1 d.2) c49 0 (YI [.tmp 2] (H4 d) (Ht d)) (Qv 27 (AL.can T5 d))=Uq d.1 d.2:=by kernel_rfl
abbrev Ec:Prop:=OkC Tryz.prog 49 U6
theorem EC (h:∀ (hk:Int) (lw:List Int),(lw.length<=1000000)->Uq hk lw):OkC Tryz.prog 49 U6 :=
 QB Z2c mixed (C:=PE) (V:=λ(d:Int×List Int)=>Uq d.1 d.2) ⟨(.cons H9 .nil),XsOk.nil,ItsOk.nil,YlOk.nil,IysOk.nil,XfOk.nil⟩ (Fh) λd hp=>h d.1 d.2 hp
theorem nI (n a b:Int):(!inI n a b)=(decide (n<a)||decide (b<n)):=by simp only[inI,Bool.not_and];by_cases h1:a<=n<;>by_cases h2:n<=b<;>simp[h1,h2]<;>omega
theorem G6:Ec:=EC λhk lw hl=>by
 unfold Uq;(try delta lI gD sT I64 Q2 pj8 pj4);simp only[and_true,zf,zy,zF,ne_eq,xg,gt_iff_lt,Bool.not_not];simp only[<-nI];refine⟨by simp,λh1=>by simp at h1;simp[Zp,h1],λh1=>⟨λh2=>?_,λh2=>⟨λh3=>?_,λh3=>?_⟩⟩⟩;all_goals simp only[List.any_cons,List.any_nil,xX,xl] at h1
 .have:96<lw.length:=by omega
  simp[Zp,h1,this]
 .have h3:lw.length=0:=by omega
  simp[Zp,h1,h3]
 have fG:¬ 96<lw.length:=by omega
 have fW:¬ lw.length=0:=by omega
 have hi:1<=hk/\hk<=24:=by simpa [inI] using h1
 have qj:Zp hk lw=if lw.any (λx=>!inI x 0 (hk-1)) then 2 else 0:=by simp only[Zp,h1,fG,fW];simp
 rw[qj];simp only[QD];refine⟨by omega,by omega,λh=>by rw[z7 h],λh=>by rw[h];rfl⟩
def Na:AL (Int×Int×Int):=(.cons (.k (.i .i64)) (.cons (.ptr (.one (.k (.i .i64)))) (.one (.ptr (.one (.k (.i .i64)))))))
def HH (d:Int×Int×Int):Prop:=True
def UD (d:Int×Int×Int):SV:=.val .bo (decide (d.1<d.2.1)||decide (d.2.2<d.1))
def Un (d:Int×Int×Int):List OB:=[]
def KT:CSp:=XU Na HH UD Un
def K6 (n:Int) (a:Int) (b:Int):Prop :=
 (((decide (n<a))||(decide (n > b)))=(decide (n<a)||decide (b<n))/\(True))
def NB:Cx:=⟨[],[],13,[],0,[],[],[],[],false,[],[],[],[]⟩
def P1 (n:Int) (a:Int) (b:Int):List (Nat×LoopAnn):=[]
theorem Ps (d:Int×Int×Int):gwp (NB) (P1 d.1 d.2.1 d.2.2) c78 0 (YI [.tmp 4] (UD d) (Un d)) (Qv 13 (AL.can Na d))=K6 d.1 d.2.1 d.2.2:=by kernel_rfl
abbrev Ph:Prop:=OkC Tryz.prog 78 KT
theorem PA (h:∀ (n:Int) (a:Int) (b:Int),(True)->K6 n a b):OkC Tryz.prog 78 KT :=
 QB Z00 mixed (C:=NB) (V:=λ(d:Int×Int×Int)=>K6 d.1 d.2.1 d.2.2) ⟨.nil,XsOk.nil,ItsOk.nil,YlOk.nil,IysOk.nil,XfOk.nil⟩ (Ps) λd hp=>h d.1 d.2.1 d.2.2 hp
theorem P8:Ph:=PA λn a b _=>by exact⟨rfl,trivial⟩
def Gl:AL (Int×Int×List Int):=(.cons (.k (.i .i64)) (.cons (.k (.i .i64)) (.one (.k (.list (.i .i64))))))
def Tz (d:Int×Int×List Int):Prop:=d.2.2.length<=1000000
def Mi (d:Int×Int×List Int):SV:=.val .bo (!(d.2.2.any λn=>decide (n<d.1)||decide (d.2.1<n)))
def Mj (d:Int×Int×List Int):List OB:=[]
def UK:CSp:=XU Gl Tz Mi Mj
def Uf (a:Int) (b:Int) (l:List Int):Prop :=
 (l.length<=1000000/\∀ x∈l,(λ(x1:Int)=>True) x)/\((!(l.any (λ(x1:Int)=>(decide (x1<a)||decide (b<x1)))))=(!(l.any λn=>decide (n<a)||decide (b<n)))/\(True))
def Gt:Cx:=⟨[],[(66,QM),(78,KT)],11,[],0,[],[],[],[],false,[],[],[],[]⟩
def Sb (a:Int) (b:Int) (l:List Int):List (Nat×LoopAnn):=[]
theorem RX (d:Int×Int×List Int):gwp (Gt) (Sb d.1 d.2.1 d.2.2) c52 0 (YI [.tmp 6] (Mi d) (Mj d)) (Qv 11 (AL.can Gl d))=Uf d.1 d.2.1 d.2.2:=by kernel_rfl
abbrev Ra:Prop:=OkC Tryz.prog 52 UK
theorem Sa (h:∀ (a:Int) (b:Int) (l:List Int),(l.length<=1000000)->Uf a b l):OkC Tryz.prog 52 UK :=
 QB Z07 mixed (C:=Gt) (V:=λ(d:Int×Int×List Int)=>Uf d.1 d.2.1 d.2.2) ⟨(.cons ZJ (.cons P8 .nil)),XsOk.nil,ItsOk.nil,YlOk.nil,IysOk.nil,XfOk.nil⟩ (RX) λd hp=>h d.1 d.2.1 d.2.2 hp
theorem Rl:Ra:=Sa λa b l h=>by exact⟨⟨h,λ_ _=>trivial⟩,rfl,trivial⟩
def DL:AL (Int×List Int):=(.one (.agg (.cons (.k (.i .i64)) (.one (.k (.list (.i .i64)))))))
def R5 (d:Int×List Int):Prop:=d.2.length<=1000000
def G1 (d:Int×List Int):SV:=.val (.i .i64) (Qe d.1 d.2)
def MS (d:Int×List Int):List OB:=[]
def Yl:CSp:=XU DL R5 G1 MS
def Kn (hd:Int) (rows:List Int):Prop :=
 ([hd].length<=1000000)/\((!(!([hd].any λn=>decide (n<(1:Int))||decide ((24:Int)<n))))=true ->
  ((2:Int)=(Qe hd rows)/\(True))) /\
 ((!(!([hd].any λn=>decide (n<(1:Int))||decide ((24:Int)<n))))=false ->
  ((decide ((lI rows) > (60:Int)))=true ->
   ((5:Int)=(Qe hd rows)/\(True))) /\
  ((decide ((lI rows) > (60:Int)))=false ->
   (((lI rows)==(0:Int))=true ->
    ((7:Int)=(Qe hd rows)/\(True))) /\
   (((lI rows)==(0:Int))=false ->
    (0<=hd)/\(I64 (WX .i64 (1:Int) hd))/\(I64 ((WX .i64 (1:Int) hd)-(1:Int)))/\(rows.length<=1000000)/\((!(!(rows.any λn=>decide (n<(0:Int))||decide (((WX .i64 (1:Int) hd)-(1:Int))<n))))=true ->
     ((2:Int)=(Qe hd rows)/\(True))) /\
    ((!(!(rows.any λn=>decide (n<(0:Int))||decide (((WX .i64 (1:Int) hd)-(1:Int))<n))))=false ->
     ((0:Int)=(Qe hd rows)/\(True))))))
def DJ:Cx:=⟨[(3,(.i .i64))],[(52,UK)],28,[],0,[],[],[],[],false,[],[],[],[]⟩
def Lf (hd:Int) (rows:List Int):List (Nat×LoopAnn):=[]
theorem LB (d:Int×List Int):gwp (DJ) (Lf d.1 d.2) c35 0 (YI [.tmp 2] (G1 d) (MS d)) (Qv 28 (AL.can DL d))=Kn d.1 d.2:=by kernel_rfl
abbrev LR:Prop:=OkC Tryz.prog 35 Yl
theorem Lm (h:∀ (hd:Int) (rows:List Int),(rows.length<=1000000)->Kn hd rows):OkC Tryz.prog 35 Yl :=
 QB Z0y mixed (C:=DJ) (V:=λ(d:Int×List Int)=>Kn d.1 d.2) ⟨(.cons Rl .nil),XsOk.nil,ItsOk.nil,YlOk.nil,IysOk.nil,XfOk.nil⟩ (LB) λd hp=>h d.1 d.2 hp
theorem I5 {h:Int}(h1:0<=h) (h2:h<=62):WX .i64 1 h=2 ^ h.toNat:=by obtain⟨n,rfl⟩:=zu h1;have:Nat.min n 64=n:=xB (by omega);simp only[WX,zg,IntKind.bits,this,Int.one_mul]
theorem Ng {h:Int}(h1:1<=h) (h2:h<=24):(2:Int)<=2 ^ h.toNat/\(2:Int) ^ h.toNat<=16777216:=by
 obtain⟨n,rfl⟩:=zu (show 0<=h by omega);have a1:2 ^ 1<=2 ^ n:=Nat.pow_le_pow_right (by omega) (by omega);have a2:2 ^ n<=2 ^ 24:=Nat.pow_le_pow_right (by omega) (by omega);simp only[zg];have e:((2:Int) ^ n)=((2 ^ n:Nat):Int):=by norm_cast
 rw[e];omega
theorem UU:LR:=Lm λhd rows hl=>by
 unfold Kn;(try delta lI gD sT I64 Q2 pj8 pj4);simp only[and_true,zf,zy,zF,ne_eq,xg,gt_iff_lt,Bool.not_not];simp only[<-nI];refine⟨by simp,λh1=>by simp at h1;simp[Qe,h1],λh1=>⟨λh2=>?_,λh2=>⟨λh3=>?_,λh3=>?_⟩⟩⟩;all_goals simp only[List.any_cons,List.any_nil,xX,xl] at h1
 .have:60<rows.length:=by omega
  simp[Qe,h1,this]
 .have h3:rows.length=0:=by omega
  simp[Qe,h1,h3]
 have fG:¬ 60<rows.length:=by omega
 have fW:¬ rows.length=0:=by omega
 have hi:1<=hd/\hd<=24:=by simpa [inI] using h1
 have hp:=Ng hi.1 hi.2;have qj:Qe hd rows=if rows.any (λx=>!inI x 0 (2 ^ hd.toNat-1)) then 2 else 0:=by simp only[Qe,h1,fG,fW];simp
 rw[qj];simp only[QD,I5 (show 0<=hd by omega) (by omega)];refine⟨by omega,by omega,by omega,by omega,λh=>by rw[z7 h],λh=>by rw[h];rfl⟩
end Go.Proofs.Tryz