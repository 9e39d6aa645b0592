/- A framework for walks, contracts of functions, and their proofs: part 3. -/
import Derived.Laws.Closers25b
import Derived.Test.YtdjglebmapcdmaaGreatDoorB2
namespace Go.V
open Go
section
variable {P:Program}{B:Heap}{pl:Nat->Value}{tb:Nat->Option Bool}{own:Own}{U:Heap}
theorem JK {s:SV}{v:Value}{k:IntKind}{x:Int}(h:asI s=some (k,x)) (hs:SR P B pl tb s v):v=.int k x:=by
 unfold asI at h;split at h
 .obtain⟨rfl,rfl⟩:=(by simpa using h:_=k/\_=x);simp only[SR,KC] at hs;simpa using hs
 .cases h
theorem WM {s:SV}{v:Value}{x:Bool}(h:asB s=some x) (hs:SR P B pl tb s v):v=.bool x:=by
 unfold asB at h;split at h
 .obtain rfl:=osj h;simp only[SR,KC] at hs;simpa using hs
 .obtain rfl:=osj h;simp only[SR] at hs;exact hs.1
 .cases h
theorem MZ {s:SV}{v:Value}{x:List UInt8}(h:asS s=some x) (hs:SR P B pl tb s v):v=.string ⟨x.toArray⟩:=by
 unfold asS at h;split at h
 .obtain rfl:=osj h;simp only[SR,KC] at hs;simpa using hs
 .cases h
theorem WY {k k':Kind}{l:List k.T}{l':List k'.T}(h:Bh l k'=some l'):k=k':=by
 unfold Bh at h;split at h
 .assumption
 .cases h
theorem W_ {k:Kind}{l l':List k.T}(h:Bh l k=some l'):l'=l:=by unfold Bh at h;simp_all
theorem Ix {k k':Kind}{x:k.T}{x':k'.T}(h:Q81 x k'=some x'):k=k':=by
 unfold Q81 at h;split at h
 .assumption
 .cases h
theorem I6 {k:Kind}{x x':k.T}(h:Q81 x k=some x'):x'=x:=by unfold Q81 at h;simp_all
theorem Rz (v:Value):SR P B pl tb (cvp v) v:=by unfold cvp;split<;>simp[SR,KC]
theorem Z2y (v:Value):SR P B pl tb (cv v) v:=by
 unfold cv;split
 .rename_i cs;simp only[SR];refine⟨cs.toList,by simp,?_⟩;have:SRs P B pl tb (cs.toList.map cvp) (cs.toList.map id):=SRs.map λx _=>Rz x;simpa using this
 .exact Rz v
def Gds (tb:Nat->Option Bool) (gs:List Gd):Prop:=∀ g∈gs,g.c=g.want/\tb g.id=some g.c
theorem Q7p {a b:List Gd}(h:Z4h a b=true) (hb:Gds tb b) (ha:∀ g∈a,tb g.id=some g.c):∀ g∈a,g.c=g.want:=by
 induction b generalizing a with
 |nil=>cases a with
  |nil=>intro g hg;cases hg
  |cons x a=>simp[Z4h] at h
 |cons y b ih =>
  cases a with
  |nil=>intro g hg;cases hg
  |cons x a =>
   have cZ:Gds tb b:=λg hg=>hb g (zr _ hg);simp only[Z4h] at h;cases hc:(Nat.beq x.id y.id&&(x.want==y.want)) with
   |true =>
    rw[hc] at h;simp only[zd] at h;simp only[z1,zD] at hc;have e1:=zq hc.1;intro g hg;rcases zK.1 hg with rfl|hg
    .have h1:=ha g (by simp);have h2:=hb y (by simp);simp_all
    .grind
   |false =>rw[hc] at h;exact ih h cZ ha
theorem Q1e {gs:List Gd}(hg:Gds tb gs) {s:SV}{v:Value}(h:SR P B pl tb s v):SR P B pl tb (Z0k gs s) v:=by
 unfold Z0k;split
 .rename_i g s;simp only[SR] at h;cases hs:Z4h g gs with
  |true=>exact h.2.1 (Q7p hs hg h.1.1)
  |false=>trivial
 .exact h
theorem Q83 {gs:List Gd}(hg:Gds tb gs) {env:List SV}{m9:Env}(h:SRs P B pl tb env m9) (x:Operand):SR P B pl tb (gev gs env x) (Q5 m9 x):=by
 cases x with
 |tmp t=>exact Q1e hg (h.getD t undef)
 |const v=>exact Z2y v
 |global g=>trivial
 |func f=>simp only[gev,Q5,SR,SRs];exact⟨[],[],rfl,rfl,rfl⟩
theorem KT {h:Heap}:∀ {k:Kind}{x:k.T}{cs:List Value},KC h k x cs->SRs P h pl tb (BN k x) cs
 |.i ik,x,cs,e=>by simp only[KC] at e;subst e;simp[BN,SRs,SR,KC]
 |.bo,x,cs,e=>by simp only[KC] at e;subst e;simp[BN,SRs,SR,KC]
 |.st,x,cs,e=>by simp only[KC] at e;subst e;simp[BN,SRs,SR,KC]
 |.list k,l,cs,e=>by obtain⟨v,rfl,hs⟩:=e;simp only[BN,SRs,SR];exact⟨v,[],rfl,⟨v,rfl,hs⟩,rfl⟩
 |.pair a b,x,cs,e=>by obtain⟨c1,c2,rfl,h1,h2⟩:=e;exact(KT h1).append (KT h2)
theorem W0 {h:Heap}{k:Kind}{x:k.T}{v:Value}(e:KV h k x v):SR P h pl tb (Z0f k x) v:=by
 cases k with
 |pair a b =>
  rcases e with⟨h1,_⟩|⟨_,cs,rfl,e⟩
  .cases h1
  .simp only[Z0f,SR];exact⟨cs,rfl,KT e⟩
 |i k|bo|st|list k =>
  rcases e with⟨_,e⟩|⟨h1,_⟩
  .simpa only [Z0f,SR] using e
  .cases h1
theorem X2 {l:List SV}{c:List Value}(h:SRs P B pl tb l c) {agg:Bool}{size off:Nat}{v:SV}(hv:Lq agg size l off=some v):∃ u,VZ agg size c off=some u/\SR P B pl tb v u:=by
 cases agg with
 |true =>
  simp only[Lq,zd] at hv;split at hv
  .rename_i hle;obtain rfl:=osj hv;rw[h.length] at hle;refine⟨.agg ((c.drop off).take size).toArray,by simp only[VZ,zn,hle],?_⟩;simp only[SR];exact⟨_,rfl,(h.drop off).take size⟩
  .cases hv
 |false =>simp only[Lq,zI] at hv;obtain⟨u,h1,h2⟩:=h.get hv;exact⟨u,by simpa [VZ] using h1,h2⟩
theorem BF {agg:Bool}{size off n m i:Nat}{c:List Value}{u:Value}(aQ:off+size<=n) (hs:0<size) (h:VZ agg size (((c.take m).drop (i*n)).take n) off=some u) (hl:i*n+n<=m):VZ agg size c (i*n+off)=some u:=by
 cases agg with
 |true =>
  simp only[VZ,zn] at h |-;split at h
  .rename_i hle;simp only[wD,wJ] at hle;rw[z2 (by omega)];obtain rfl:=osj h;congr 3;apply x3
   grind
  .cases h
 |false =>simp only[VZ,zk,if_false] at h |-;simp only[xi,zV] at h;rw[z2 (by omega),z2 (by omega)] at h;exact h
theorem KC.q0h {h:Heap}{k:Kind}:∀ (x:k.T) (c:List Value),KC h k x c->c.length=k.size:=λ_ _ e=>KC.length e
theorem KC.flat {h h':Heap}:∀ {k:Kind}{x:k.T}{cs:List Value},k.flat=true->KC h k x cs->KC h' k x cs
 |.i _,_,_,_,e|.bo,_,_,_,e|.st,_,_,_,e=>e
 |.list _,_,_,f,_=>by cases f
 |.pair a b,x,cs,f,e=>by simp only[Kind.flat,z1] at f;obtain⟨c1,c2,hc,h1,h2⟩:=e;exact⟨c1,c2,hc,KC.flat f.1 h1,KC.flat f.2 h2⟩
theorem KV.flat {h h':Heap}{k:Kind}{x:k.T}{v:Value}(e:KV h k x v) (f:k.flat=true):KV h' k x v:=by
 rcases e with⟨ho,e⟩|⟨ho,cs,hv,e⟩
 .exact .inl ⟨ho,KC.flat f e⟩
 .exact .inr ⟨ho,cs,hv,KC.flat f e⟩
theorem KO.kc {H:Heap}:∀ {k:Kind}{q:Option Nat}{x:k.T}{cs:List Value}{is:List Nat},KO H q k x cs is->KC H k x cs
 |.i _,_,_,_,_,h=>by simp only[KO] at h;exact h.1
 |.bo,_,_,_,_,h=>by simp only[KO] at h;exact h.1
 |.st,_,_,_,_,h=>by simp only[KO] at h;exact h.1
 |.list k,q,l,cs,is,h=>by
  simp only[KO] at h;rcases h with⟨rfl,rfl,_⟩|⟨i,cap,c,e,t,js,rfl,rfl,h1,h2,h3,_,h4,h5⟩
  .exact⟨_,rfl,.inl ⟨rfl,rfl⟩⟩
  .refine⟨_,rfl,.inr ⟨i,0,cap,c,e,true,t,rfl,h1,h2,h3,by have:=zj k.size h1;omega,?_⟩⟩;rw[xG];have key:∀ {xs:List k.T}{cs:List Value}{js:List Nat},RowsO (λx c is=>KO H none k x c is) xs cs js->Rows (λx c=>KC H k x c) xs cs:=λh=>by
    induction h with
    |nil=>exact .nil
    |cons h _ ih=>exact .cons (KO.kc (k:=k) h) ih
   exact key h5
 |.pair a b,_,x,cs,is,h=>by simp only[KO] at h;obtain⟨c1,c2,i1,i2,rfl,rfl,h1,h2⟩:=h;exact⟨c1,c2,rfl,h1.kc,h2.kc⟩
def Z9g:Kind->List Value->Prop
 |.list _,cs=>∀ v,cs=[v]->∀ a n c,v=.slice (some a) n c->a.off=0
 |_,_=>True
theorem KO.koff {H:Heap}:∀ {k:Kind}{q:Option Nat}{x:k.T}{cs:List Value}{is:List Nat},KO H q k x cs is->Z9g k cs
 |.i _,_,_,_,_,_|.bo,_,_,_,_,_|.st,_,_,_,_,_|.pair _ _,_,_,_,_,_=>trivial
 |.list k,q,l,cs,is,h=>by
  simp only[KO] at h;intro v hv a n c' hs
  grind
theorem RowsH.rows {α:Type}{R:α->List Value->List Nat->Prop}{R':α->List Value->Prop}(hR:∀ x c is,R x c is->R' x c) {sz:Nat}:∀ {xs:List α}{j:Nat}{cs:List Value}{is:List Nat},RowsH R sz none j xs cs is->Rows R' xs cs
 |[],j,cs,is,h=>by obtain⟨rfl,_⟩:=h;exact .nil
 |x::xs,j,cs,is,h=>by obtain⟨c,cs',i1,i2,rfl,rfl,h1,h2⟩:=h;rw[z0 (by simp)] at h1;exact .cons (hR _ _ _ h1) (RowsH.rows hR h2)
theorem Iq:∀ {l:List (Nat×Blk)}{p:Nat×Blk},p∈l->∃ b,IJ l p.1=some b
 |(j,b)::r,p,h=>by
  by_cases e:p.1=j
  .exact⟨b,by simp only[IJ,z2 e]⟩
  .rcases zK.1 h with rfl|h
   .exact absurd rfl e
   .obtain⟨b',h'⟩:=Iq h;exact⟨b',by simp only[IJ,z0 e];exact h'⟩
theorem Z07:∀ {l:List (Nat×Blk)}{n:Nat},(∀ p∈l,p.1<n)->Tj l<=n
 |[],n,_=>Nat.zero_le _
 |(j,b)::r,n,h=>by have h1:=h (j,b) zz;have h2:=Z07 (l:=r) (n:=n) (by grind);simp only[Tj];simp only at h1;omega
theorem Q6z (p:Value):∃ l,Wn p=listH l:=by
 unfold Wn;split
 .exact⟨_,rfl⟩
 .exact⟨_,rfl⟩
theorem Z1p {p:Value}{U:Heap}(h:∀ i b,(Wn p).get i=some b->U.get i=some b):(Wn p).Le U:=by obtain⟨l,e⟩:=Q6z p;rw[e] at h |-;refine⟨Z07 λx hx=>?_,h⟩;obtain⟨b,hb⟩:=Iq hx;exact U.lt (h x.1 b hb)
theorem Q3s:∀ (l:List Value) {i:Nat}{c:List Value}{e:El}{wr t:Bool},IJ (Z6t l) i=some (.cells c e wr t)->wr=true
 |[],i,c,e,wr,t,h=>by cases h
 |v::vs,i,c,e,wr,t,h=>by
  unfold Z6t at h;split at h
  .rename_i q hq;obtain⟨j,b⟩:=q;simp only[IJ] at h;split at h
   .obtain rfl:=osj h;unfold J12 at hq
    grind
   .exact Q3s vs h
  .exact Q3s vs h
theorem Z1y {p:Value}{i:Nat}{c:List Value}{e:El}{wr t:Bool}(h:(Wn p).get i=some (.cells c e wr t)):wr=true:=by
 unfold Wn at h;split at h
 .exact Q3s _ h
 .cases h
theorem DP.le {U:Heap}{p:Value}{ty:Nat}{q:Option Nat}{k:Kind}{xs:List k.T}{nl:Bool}{h:Option Nat}(hd:DP U p ty q k xs nl h):(Wn p).Le U:=by obtain⟨is,_,_,_,_,h4,_⟩:=hd;exact Z1p h4
theorem DP.sl {U:Heap}{p:Value}{ty:Nat}{q:Option Nat}{k:Kind}{xs:List k.T}{nl:Bool}(hd:DP U p ty q k xs nl none):SlRel (Wn p) k.size (KC (Wn p) k) xs (phd p):=by
 obtain⟨is,_,_,h2,_,_,_⟩:=hd;rcases h2 with⟨rfl,h,_⟩|⟨i,cap,c,t,js,h,_,h1,h3,h4,h5⟩
 .exact .inl ⟨rfl,h⟩
 .refine .inr ⟨i,0,cap,c,_,true,t,h,h1,h3,rfl,by have:=zj k.size h1;omega,?_⟩;rw[xG];exact h5.rows λ_ _ _ h=>h.kc
theorem DP.hd {U:Heap}{p:Value}{ty:Nat}{q:Option Nat}{k:Kind}{xs:List k.T}{nl:Bool}{h:Option Nat}(hd:DP U p ty q k xs nl h):∃ a cap,phd p=.slice a xs.length cap:=by
 obtain⟨is,_,_,h2,_,_,_⟩:=hd;rcases h2 with⟨rfl,h,_⟩|⟨i,cap,c,t,js,h,_⟩
 .exact⟨_,_,h⟩
 .exact⟨_,_,h⟩
theorem Q52 {H:Heap}{k:Kind}{l:List k.T}{v:Value}(h:KC H (.list k) l [v]) {j:Nat}(hj:j<l.length):∃ b o cap c e wr t,v=.slice (some ⟨b,o,none⟩) l.length cap/\H.get b=some (.cells c e wr t)/\o+l.length*k.size<=c.length/\Rows (KC H k) l ((c.drop o).take (l.length*k.size)):=by
 obtain⟨v',e,hs⟩:=h;obtain rfl:=(zF e).1;rcases hs with⟨rfl,_⟩|⟨b,o,cap,c,e',wr,t,h2,h3,h4,h5,h6,h7⟩
 .simp at hj
 grind
theorem AI {p:Value}{k:Kind}{l:List k.T}{v:Value}(h:KC (Wn p) (.list k) l [v]):SlRel (Wn p) k.size (λx c=>KC (Wn p) k x c) l v:=by obtain⟨v',e,hs⟩:=h;simp_all
theorem Ma (hle:B.Le U) (aF:∀ d,OR P B pl tb U (pl d) (Qe own d)) {k:Kind}{s:SV}{l:List k.T}{v:Value}(h:view own k s=some l) (hs:SR P B pl tb s v):SlRel U k.size (KC B k) l v:=by
 unfold view at h;split at h
 .obtain rfl:=osj h;simp only[SR] at hs;exact .inl ⟨rfl,hs⟩
 .rename_i k' l0;obtain rfl:=WY h;obtain rfl:=W_ h;simp only[SR,KC] at hs;obtain⟨v',e,hs⟩:=hs;obtain rfl:=(zF e).1;exact hs.mono hle λ_ _ h=>h
 .rename_i o;have ho:=aF o;simp only[SR] at hs
  replace hs:=hs.1
  split at h
  .rename_i ty k' xs nl heq;obtain rfl:=WY h;obtain rfl:=W_ h;rw[heq] at ho;rcases ho with⟨_,rfl,h2⟩|⟨_,i,cap,c,t,h1,h2,h3,h4,h5⟩
   .exact .inl ⟨rfl,by rw[hs,h2]⟩
   .refine .inr ⟨i,0,cap,c,_,true,t,by rw[hs,h1],h2,h3,rfl,?_,by simpa using h5⟩;have:=zj k'.size h2;omega
  .cases h
 .rename_i o lo n sz;have ho:=aF o;split at h
  .rename_i ty k' xs nl heq;split at h
   .rename_i aP;subst aP;cases hc:Bh xs k with
    |none=>rw[hc] at h;cases h
    |some b_ =>
     obtain rfl:=WY hc;obtain rfl:=W_ hc;rw[hc] at h;obtain rfl:=osj h;simp only[SR] at hs;rw[heq] at ho;rcases hs with⟨rfl,rfl,rfl,_⟩|⟨i,len,cap,ax,h1,h2,h3,rfl⟩
     .exact .inl ⟨by simp,rfl⟩
     .rcases ho with⟨_,_,h4⟩|⟨_,i',h_,c,t,h4,h5,h6,h7,h8⟩
      .rw[h1] at h4;cases h4
      .rw[h1] at h4;obtain⟨rfl,rfl,rfl⟩:=(by simpa using h4:i=i'/\len=b_.length/\cap=h_);have hlen:((b_.drop lo).take n).length=n:=by simp;omega
       have k1:lo*k'.size+n*k'.size<=b_.length*k'.size:=by rw[<-zB];exact zj _ h2
       have k2:=zj k'.size h5;refine .inr ⟨i,lo*k'.size,ax,c,_,true,t,by rw[hlen],by rw[hlen];exact h3,h6,rfl,by rw[hlen];omega,?_⟩;rw[hlen];have:=(h8.drop KC.q0h lo).take KC.q0h n;have e:((c.take (b_.length*k'.size)).drop (lo*k'.size)).take (n*k'.size)=(c.drop (lo*k'.size)).take (n*k'.size):=by
        apply x3
        grind
       rw[e] at this;exact this
   .cases h
  .cases h
 .rename_i o w;have ho:=aF o;simp only[SR] at hs;cases hf:k.flat with
  |false=>rw[hf] at h;cases h
  |true =>
   rw[hf] at h;simp only[zd] at h;split at h
   .rename_i ty q k' xs nl hole heq;rw[heq] at ho;have cW:=DP.le ho;split at h
    .split at h
     .obtain rfl:=WY h;obtain rfl:=W_ h;obtain⟨hs,_⟩:=hs;rw[hs];exact(DP.sl ho).mono cW λ_ _ e=>KC.flat hf e
     .cases h
    .rename_i k' l';obtain rfl:=WY h;obtain rfl:=W_ h;exact(AI hs).mono cW λ_ _ e=>KC.flat hf e
    .rename_i k' l' i;obtain rfl:=WY h;obtain rfl:=W_ h;exact(AI hs.1).mono cW λ_ _ e=>KC.flat hf e
    .cases h
   .cases h
 .cases h
theorem SlRel.len {h:Heap}{sz:Nat}{α:Type}{R:α->List Value->Prop}{l:List α}{v:Value}(hs:SlRel h sz R l v):∃ a cap,v=.slice a l.length cap:=by
 rcases hs with⟨rfl,rfl⟩|⟨i,o,cap,c,e,wr,t,rfl,_⟩
 .exact⟨_,_,rfl⟩
 .exact⟨_,_,rfl⟩
theorem Q73 (aF:∀ d,OR P B pl tb U (pl d) (Qe own d)) {s:SV}{n:Nat}{v:Value}(h:Z9m own s=some n) (hs:SR P B pl tb s v):∃ a cap,v=.slice a n cap:=by
 unfold Z9m at h;split at h
 .obtain rfl:=osj h;simp only[SR] at hs;exact⟨_,_,hs⟩
 .obtain rfl:=osj h;simp only[SR,KC] at hs;obtain⟨v',e,hs⟩:=hs;obtain rfl:=(zF e).1;exact hs.len
 .rename_i o;have ho:=aF o;simp only[SR] at hs
  replace hs:=hs.1
  split at h
  .rename_i ty k' xs nl heq;obtain rfl:=osj h;rw[heq] at ho;rcases ho with⟨_,rfl,h2⟩|⟨_,i,cap,c,t,h1,h2,h3,h4,h5⟩
   .exact⟨_,_,by rw[hs,h2];rfl⟩
   .exact⟨_,_,by rw[hs,h1]⟩
  .cases h
 .obtain rfl:=osj h;simp only[SR] at hs
  grind
 .rename_i o w;have ho:=aF o;simp only[SR] at hs;split at h
  .rename_i ty q k' xs nl hole heq;rw[heq] at ho;split at h
   .split at h
    .obtain rfl:=osj h;obtain⟨hs,_⟩:=hs;rw[hs];exact DP.hd ho
    .cases h
   .obtain rfl:=osj h;exact(AI hs).len
   .obtain rfl:=osj h;exact(AI hs.1).len
   .cases h
  .cases h
 .cases h
theorem JZ {o:Nat}:∀ {k:Kind}{x:k.T}{cs:List Value},KC (Wn (pl o)) k x cs->SRs P B pl tb (Po o k x) cs
 |.i ik,x,cs,h=>by simp only[KC] at h;subst h;simp[Po,SRs,SR,KC]
 |.bo,x,cs,h=>by simp only[KC] at h;subst h;simp[Po,SRs,SR,KC]
 |.st,x,cs,h=>by simp only[KC] at h;subst h;simp[Po,SRs,SR,KC]
 |.list k,x,cs,h=>by have hl:=KC.length h;obtain⟨v,rfl⟩:=zT.1 (show cs.length=1 from hl);simp only[Po,SRs,SR,DR];exact⟨v,[],rfl,h,rfl⟩
 |.pair a b,x,cs,h=>by obtain⟨c1,c2,rfl,h1,h2⟩:=h;exact SRs.append (JZ h1) (JZ h2)
theorem Q6w {o:Nat}{i:Int}:∀ {k:Kind}{x:k.T}{cs:List Value},KC (Wn (pl o)) k x cs->Z9g k cs->(k.one=true->∀ v,cs=[v]->∃ b len cap c e t,phd (pl o)=.slice (some ⟨b,0,none⟩) len cap/\0<=i/\i<len/\(Wn (pl o)).get b=some (.cells c e true t)/\c[i.toNat]?=some v)->SRs P B pl tb (Z9r o i k x) cs
 |.i ik,x,cs,h,_,_=>JZ (o:=o) h
 |.bo,x,cs,h,_,_=>JZ (o:=o) h
 |.st,x,cs,h,_,_=>JZ (o:=o) h
 |.list k,x,cs,h,ho,hr=>by have hl:=KC.length h;obtain⟨v,rfl⟩:=zT.1 (show cs.length=1 from hl);simp only[Z9r,SRs,SR,DR];exact⟨v,[],rfl,⟨h,ho v rfl,hr rfl v rfl⟩,rfl⟩
 |.pair a b,x,cs,h,_,_=>JZ (o:=o) h
theorem DP.elem {U:Heap}{p:Value}{ty:Nat}{q:Option Nat}{k:Kind}{xs:List k.T}{nl:Bool}(hd:DP U p ty q k xs nl none) {b len cap:Nat}(hp:phd p=.slice (some ⟨b,0,none⟩) len cap) :
  ∃ c t,(Wn p).get b=some (.cells c ⟨k.size,ty⟩ true t)/\len=xs.length/\xs.length<=cap/\cap*k.size<=c.length/\Rows (λx c=>KC (Wn p) k x c/\Z9g k c) xs (c.take (xs.length*k.size)):=by
 obtain⟨is,_,_,h2,_,_,_⟩:=hd;rcases h2 with⟨rfl,h,_⟩|⟨i,ax,c,t,js,h,_,h1,h3,h4,h5⟩
 .rw[hp] at h;cases h
 .rw[hp] at h;obtain⟨rfl,rfl,rfl⟩:=(by simpa using h:b=i/\len=xs.length/\cap=ax);exact⟨c,t,h3,rfl,h1,h4,h5.rows λ_ _ _ h=>⟨h.kc,h.koff⟩⟩
theorem Ek (hle:B.Le U) (aF:∀ d,OR P B pl tb U (pl d) (Qe own d)) {agg:Bool}{size:Nat}(aP:0<size) {s v:SV}{p:Value}(h:Z15 own agg size s=some v) (hs:SR P B pl tb s p) :
  ∃ i o c e wr t u,p=.pointer (some ⟨i,o,none⟩)/\U.get i=some (.cells c e wr t)/\VZ agg size c o=some u/\SR P B pl tb v u:=by
 unfold Z15 at h;split at h
 .rename_i o off;have ho:=aF o;simp only[SR] at hs;obtain⟨b,h1,rfl⟩:=hs;split at h
  .rename_i l _ heq;rw[heq] at ho;obtain⟨i,c,e,t,h2,h3,h4,_⟩:=ho
   grind [X2]
  .cases h
 .rename_i l off;simp only[SR] at hs;obtain⟨b,c,e,wr,t,h1,rfl,h3⟩:=hs;obtain⟨u,h5,h6⟩:=X2 h3 h;exact⟨b,off,c,e,wr,t,u,rfl,hle.2 _ _ h1,h5,h6⟩
 .rename_i o i off sz;have ho:=aF o;simp only[SR] at hs;obtain⟨b,len,cap,h1,h2,h3,rfl⟩:=hs;split at h
  .rename_i ty k xs nl heq;rw[heq] at ho;split at h
   .rename_i ah;obtain⟨rfl,aQ⟩:=ah;rcases ho with⟨_,_,h4⟩|⟨_,i',h_,c,t,h4,h5,h6,h7,h8⟩
    .rw[h1] at h4;cases h4
    .rw[h1] at h4;obtain⟨rfl,rfl,rfl⟩:=(by simpa using h4:b=i'/\len=xs.length/\cap=h_);have hi:i.toNat<xs.length:=by omega
     have hr:=h8.at KC.q0h hi;have hx:xs.getD i.toNat k.dflt=xs[i.toNat]:=by simp_all
     rw[hx] at h;obtain⟨u,h9,bM⟩:=X2 (KT (P:=P) (pl:=pl) (tb:=tb) hr) h;refine⟨b,_,c,_,true,t,u,rfl,h6,BF aQ aP h9 ?_,bM⟩;have:(i.toNat+1)*k.size<=xs.length*k.size:=zj _ hi
     rwa [zB,xx] at this
   .cases h
  .cases h
 .rename_i k l i off;simp only[SR] at hs;obtain⟨b,o,c,e,wr,t,h1,h2,h3,rfl,h5,h6⟩:=hs;split at h
  .rename_i aQ;have hi:i.toNat<l.length:=by omega
   have hr:=h6.at KC.q0h hi;have hx:l.getD i.toNat k.dflt=l[i.toNat]:=by simp_all
   rw[hx] at h;obtain⟨u,h9,bM⟩:=X2 (KT (P:=P) (pl:=pl) (tb:=tb) hr) h;have ep:(i.toNat+1)*k.size<=l.length*k.size:=zj _ hi;rw[zB,xx] at ep;refine⟨b,_,c,e,wr,t,u,rfl,hle.2 _ _ h3,?_,bM⟩;have:=BF aQ aP h9 ep;clear h9;cases agg with
   |true =>
    simp only[VZ,zn,wJ] at this |-;split at this
    .rename_i cW;rw[z2 (by omega)];rw[<-this,List.drop_drop,zo]
    .cases this
   |false =>simp only[VZ,zk,if_false,zV] at this |-;rw[<-this,zo]
  .cases h
 .rename_i o w;have ho:=aF o;simp only[SR] at hs;split at h
  .rename_i ty q k xs nl hole heq;rw[heq] at ho;split at h
   .have cW:=DP.le ho;split at h
    .rename_i i off sz;obtain⟨b,len,cap,h1,h2,h3,rfl⟩:=hs;split at h
     .rename_i ah;obtain⟨rfl,aQ⟩:=ah;obtain⟨c,t,h4,rfl,h5,h6,h7⟩:=DP.elem ho h1;have hi:i.toNat<xs.length:=by omega
      have hr:=h7.at (λx c h=>KC.q0h x c h.1) hi;have hx:xs.getD i.toNat k.dflt=xs[i.toNat]:=by simp_all
      rw[hx] at h;have ia:(i.toNat+1)*k.size<=xs.length*k.size:=zj _ hi;rw[zB,xx] at ia;obtain⟨u,h9,bM⟩:=X2 (Q6w (P:=P) (B:=B) (tb:=tb) hr.1 hr.2 λbJ v hv=>by
       refine⟨b,_,cap,c,_,t,h1,h2,h3,h4,?_⟩;have vO:=Kind.q1k bJ;have:(((c.take (xs.length*k.size)).drop (i.toNat*k.size)).take k.size)[0]?=some v:=by rw[hv];rfl
       grind) h
      exact⟨b,_,c,_,true,t,u,rfl,cW.2 _ _ h4,BF aQ aP h9 ia,bM⟩
     .cases h
    .rename_i k' x i j off;obtain⟨b,len,cap,c,e,t,r,rl,rc,bB,re,rt,h1,h2,h3,h4,h5,h6,h7,h8,h9,bM,gb,rfl⟩:=hs;split at h
     .rename_i aQ;subst h8;have hj:j.toNat<x.length:=by omega
      have hr:=gb.at KC.q0h hj;have hx:x.getD j.toNat k'.dflt=x[j.toNat]:=by simp_all
      rw[hx] at h;have ia:(j.toNat+1)*k'.size<=x.length*k'.size:=zj _ hj;rw[zB,xx] at ia;obtain⟨u,k9,p9⟩:=X2 (JZ (P:=P) (B:=B) (tb:=tb) hr) h;exact⟨r,_,bB,_,true,rt,u,rfl,cW.2 _ _ h9,BF aQ aP k9 ia,p9⟩
     .cases h
    .rename_i k' l j off;obtain⟨b,o',c,e,wr,t,h1,h2,h3,rfl,h5,h6⟩:=hs;split at h
     .rename_i aQ;have hj:j.toNat<l.length:=by omega
      have hr:=h6.at KC.q0h hj;have hx:l.getD j.toNat k'.dflt=l[j.toNat]:=by simp_all
      rw[hx] at h;obtain⟨u,k9,p9⟩:=X2 (JZ (P:=P) (B:=B) (tb:=tb) hr) h;have ep:(j.toNat+1)*k'.size<=l.length*k'.size:=zj _ hj;rw[zB,xx] at ep;refine⟨b,_,c,e,wr,t,u,rfl,cW.2 _ _ h3,?_,p9⟩;have:=BF aQ aP k9 ep;clear k9;cases agg with
      |true =>
       simp only[VZ,zn,wJ] at this |-;split at this
       .rename_i tM;rw[z2 (by omega)];rw[<-this,List.drop_drop,zo]
       .cases this
      |false =>simp only[VZ,zk,if_false,zV] at this |-;rw[<-this,zo]
     .cases h
    .cases h
   .cases h
  .cases h
 .cases h
end
end Go.V
namespace Go.V
open Go
section
variable {P:Program}{B:Heap}{pl:Nat->Value}{tb:Nat->Option Bool}{own:Own}{U:Heap}
theorem Is {s:SV}{v:Value}(h:s.solid=true) (hs:SR P B pl tb s v):SQ v=some [v]/\cellOk v=true:=by
 cases s with
 |any=>cases h
 |grd gs s=>cases h
 |agg l=>cases h
 |tup l=>cases h
 |val k x =>
  simp only[SR] at hs;cases k with
  |i ik=>simp only[KC] at hs;obtain rfl:=(zF hs).1;exact⟨rfl,rfl⟩
  |bo=>simp only[KC] at hs;obtain rfl:=(zF hs).1;exact⟨rfl,rfl⟩
  |st=>simp only[KC] at hs;obtain rfl:=(zF hs).1;exact⟨rfl,rfl⟩
  |list k =>obtain⟨v',e,hs⟩:=hs;obtain rfl:=(zF e).1;obtain⟨a,c,rfl⟩:=hs.len;exact⟨rfl,rfl⟩
  |pair a b =>have h1:=KC.length hs;have h2:=a.size_pos;have h3:=b.size_pos;simp only[Kind.size,xm] at h1;omega
 |bid n c=>simp only[SR] at hs;obtain⟨rfl,_⟩:=hs;exact⟨rfl,rfl⟩
 |nilS=>simp only[SR] at hs;subst hs;exact⟨rfl,rfl⟩
 |nilP=>simp only[SR] at hs;subst hs;exact⟨rfl,rfl⟩
 |nilM=>simp only[SR] at hs;subst hs;exact⟨rfl,rfl⟩
 |nilF=>simp only[SR] at hs;subst hs;exact⟨rfl,rfl⟩
 |lst o=>simp only[SR] at hs;obtain⟨_,a,n,c,rfl⟩:=hs;exact⟨rfl,rfl⟩
 |dd o w =>
  simp only[SR] at hs;cases w with
  |out=>obtain⟨_,a,n,c,rfl⟩:=hs;exact⟨rfl,rfl⟩
  |el i off sz=>obtain⟨_,_,_,_,_,_,rfl⟩:=hs;exact⟨rfl,rfl⟩
  |row k x i=>obtain⟨a,c,rfl⟩:=(AI hs.1).len;exact⟨rfl,rfl⟩
  |rowp k x i j off=>obtain⟨_,_,_,_,_,_,_,_,_,_,_,_,_,_,_,_,_,_,_,_,_,_,_,rfl⟩:=hs;exact⟨rfl,rfl⟩
  |inn k x=>obtain⟨a,c,rfl⟩:=(AI hs).len;exact⟨rfl,rfl⟩
  |inp k l j off=>obtain⟨_,_,_,_,_,_,_,_,_,rfl,_⟩:=hs;exact⟨rfl,rfl⟩
  |dat=>rcases hs with⟨_,rfl⟩|⟨_,_,_,_,_,rfl⟩<;>exact⟨rfl,rfl⟩
  |obx c=>rcases hs with⟨_,rfl⟩|⟨_,_,_,rfl⟩<;>exact⟨rfl,rfl⟩
  |yv=>obtain⟨_,_,rfl⟩:=hs;exact⟨rfl,rfl⟩
 |sub o lo n sz=>simp only[SR] at hs;rcases hs with⟨_,_,rfl,_⟩|⟨_,_,_,_,_,_,_,rfl⟩<;>exact⟨rfl,rfl⟩
 |elp o i off sz=>simp only[SR] at hs;obtain⟨_,_,_,_,_,_,rfl⟩:=hs;exact⟨rfl,rfl⟩
 |rop k l i off=>simp only[SR] at hs;obtain⟨_,_,_,_,_,_,_,_,_,rfl,_⟩:=hs;exact⟨rfl,rfl⟩
 |box o off=>simp only[SR] at hs;obtain⟨_,_,rfl⟩:=hs;exact⟨rfl,rfl⟩
 |cp l off=>simp only[SR] at hs;obtain⟨_,_,_,_,_,_,rfl,_⟩:=hs;exact⟨rfl,rfl⟩
 |map o=>simp only[SR] at hs;obtain⟨_,m,rfl⟩:=hs;exact⟨rfl,rfl⟩
 |fn f a b=>simp only[SR] at hs;obtain⟨_,_,rfl,_⟩:=hs;exact⟨rfl,rfl⟩
 |pf ks r cE p=>simp only[SR] at hs;obtain⟨_,_,_,rfl,_⟩:=hs;exact⟨rfl,rfl⟩
theorem SU:∀ {l:List SV}{c:List Value},l.all SV.solid=true->SRs P B pl tb l c->c.all cellOk=true
 |[],c,_,h=>by simp only[SRs] at h;subst h;rfl
 |s::ss,c,hl,h=>by simp only[SRs] at h;obtain⟨x,y,rfl,h1,h2⟩:=h;simp only[zM,z1] at hl |-;exact⟨(Is hl.1 h1).2,SU hl.2 h2⟩
theorem KR {s:SV}{v:Value}{l:List SV}(h:P3 s=some l) (hs:SR P B pl tb s v):∃ c,SQ v=some c/\SRs P B pl tb l c/\c.all cellOk=true:=by
 have key:s.solid=true->some [s]=some l->∃ c,SQ v=some c/\SRs P B pl tb l c/\c.all cellOk=true:=λp_ e=>by obtain rfl:=osj e;obtain⟨h1,h2⟩:=Is p_ hs;exact⟨[v],h1,by simp only[SRs];exact⟨v,[],rfl,hs,rfl⟩,by simp[h2]⟩
 cases s with
 |any=>cases h
 |grd gs s=>cases h
 |tup l=>cases h
 |agg l' =>
  simp only[P3] at h;cases hl:l'.all SV.solid with
  |false=>rw[hl] at h;cases h
  |true =>rw[hl] at h;obtain rfl:=osj h;simp only[SR] at hs;obtain⟨cs,rfl,hs⟩:=hs;exact⟨cs,rfl,hs,SU hl hs⟩
 |_=>exact key rfl h
theorem S6:∀ {vs:List SV}{us:List Value}{c:List SV}{cV:List Value}{o:Nat},SRs P B pl tb c cV->SRs P B pl tb vs us->SRs P B pl tb (gfill.setS c o vs) (M1 cV o us)
 |[],us,c,cV,o,h,h'=>by simp only[SRs] at h';subst h';exact h
 |v::vs,us,c,cV,o,h,h'=>by simp only[SRs] at h';obtain⟨x,y,rfl,h1,h2⟩:=h';simp only[gfill.setS,M1];exact S6 (h.set o h1) h2
theorem Cw:∀ {ps:List (Nat×Nat×Operand)}{c l:List SV}{cV:List Value}{ev:Operand->SV}{evV:Operand->Value},(∀ x,SR P B pl tb (ev x) (evV x))->SRs P B pl tb c cV->gfill c (ps.map λp=>(p.1,p.2.1,ev p.2.2))=some l ->
  ∃ lV,RI cV (ps.map λp=>(p.1,p.2.1,evV p.2.2))=some lV/\SRs P B pl tb l lV
 |[],c,l,cV,ev,evV,ai,h,hg=>by obtain rfl:=osj hg;exact⟨cV,rfl,h⟩
 |p::ps,c,l,cV,ev,evV,ai,h,hg=>by
  simp only[zx,gfill] at hg;split at hg
  .rename_i vs hs;split at hg
   .rename_i ah;obtain⟨us,h1,h2,_⟩:=KR hs (ai p.2.2);obtain⟨lV,h3,h4⟩:=Cw ai (S6 h h2) hg;refine⟨lV,?_,h4⟩;simp only[zx,RI,h1];rw[z2 ⟨by rw[<-h2.length];exact ah.1,by rw[<-h.length];exact ah.2⟩];exact h3
   .cases hg
  .cases hg
theorem KS {h:Heap}:∀ {k:Kind}{z:List Value},NB k z=true->KC h k k.dflt z
 |.i ik,z,e=>by unfold NB at e;split at e<;>simp_all [KC,Kind.dflt]
 |.bo,z,e=>by unfold NB at e;split at e<;>simp_all [KC,Kind.dflt]
 |.st,z,e=>by unfold NB at e;split at e<;>simp_all [KC,Kind.dflt];rename_i s;cases s;simp_all
 |.list k,z,e=>by unfold NB at e;split at e<;>simp_all [KC,Kind.dflt];exact .inl ⟨rfl,rfl⟩
 |.pair a b,z,e=>by simp only[NB,z1] at e;exact⟨_,_,(wE a.size z).symm,KS e.1,KS e.2⟩
theorem Oj {h:Heap}{mk:MK}{kk:Kind}(hk:gq.mkP mk kk=true) {x:kk.T}{cs:List Value}(e:KC h kk x cs):∃ v,cs=[v]/\JC mk v=true/\Q74 mk v=true:=by
 unfold gq.mkP at hk;split at hk
 .simp only[KC] at e;subst e;obtain rfl:=z7 hk;exact⟨_,rfl,by simp[JC],by simp[Q74]⟩
 .simp only[KC] at e;subst e;exact⟨_,rfl,rfl,rfl⟩
 .simp only[KC] at e;subst e;exact⟨_,rfl,rfl,rfl⟩
 .cases hk
theorem Z3e {h:Heap}{mk:MK}{kk:Kind}(hk:gq.mkP mk kk=true) {x y:kk.T}{u v:Value}(e:KC h kk x [u]) (e':KC h kk y [v]):WO u v=gq.keq kk x y/\Ut u v=gq.keq kk x y:=by
 unfold gq.mkP at hk;split at hk
 .simp only[KC] at e e';obtain rfl:=(zF e).1;obtain rfl:=(zF e').1;exact⟨rfl,rfl⟩
 .simp only[KC] at e e';obtain rfl:=(zF e).1;obtain rfl:=(zF e').1;simp[WO,Ut,gq.keq]
 .simp only[KC] at e e';obtain rfl:=(zF e).1;obtain rfl:=(zF e').1;exact⟨rfl,rfl⟩
 .cases hk
theorem Aq {h:Heap}:∀ {k:Kind}{l r:List MK}{x:k.T}{cs ds:List Value},gq.mkAt k l=some r->KC h k x cs->fits l (cs++ds)=fits r ds
 |.pair a b,l,r,x,cs,ds,hk,e=>by
  simp only[gq.mkAt] at hk;split at hk
  .rename_i q hq;obtain⟨c1,c2,rfl,h1,h2⟩:=e;rw[zX,Aq hq h1,Aq hk h2]
  .cases hk
 |.i _,m::l,r,x,cs,ds,hk,e|.bo,m::l,r,x,cs,ds,hk,e|.st,m::l,r,x,cs,ds,hk,e|.list _,m::l,r,x,cs,ds,hk,e=>by
  simp only[gq.mkAt] at hk;cases hp:gq.mkP m _ with
  |false=>rw[hp] at hk;cases hk
  |true =>rw[hp] at hk;obtain rfl:=osj hk;obtain⟨v,rfl,_,h2⟩:=Oj hp e;simp[fits,h2]
 |.i _,[],r,x,cs,ds,hk,e|.bo,[],r,x,cs,ds,hk,e|.st,[],r,x,cs,ds,hk,e|.list _,[],r,x,cs,ds,hk,e=>by cases hk
theorem Q3r {h:Heap}:∀ {k:Kind}{l r:List MK}{x y:k.T}{cs ds cs' ds':List Value},gq.mkAt k l=some r->KC h k x cs->KC h k y ds->QB (cs++cs') (ds++ds')=(gq.keq k x y&&QB cs' ds')
 |.pair a b,l,r,x,y,cs,ds,cs',ds',hk,e,e'=>by
  simp only[gq.mkAt] at hk;split at hk
  .rename_i q hq;obtain⟨c1,c2,rfl,h1,h2⟩:=e;obtain⟨d1,d2,rfl,g1,g2⟩:=e';rw[zX,zX,Q3r hq h1 g1,Q3r hk h2 g2];simp only[gq.keq,Bool.and_assoc]
  .cases hk
 |.i _,m::l,r,x,y,cs,ds,cs',ds',hk,e,e'|.bo,m::l,r,x,y,cs,ds,cs',ds',hk,e,e'|.st,m::l,r,x,y,cs,ds,cs',ds',hk,e,e'|.list _,m::l,r,x,y,cs,ds,cs',ds',hk,e,e'=>by
  simp only[gq.mkAt] at hk;cases hp:gq.mkP m _ with
  |false=>rw[hp] at hk;cases hk
  |true =>obtain⟨v,rfl,_,_⟩:=Oj hp e;obtain⟨w,rfl,_,_⟩:=Oj hp e';simp only[x7,xp,QB,(Z3e hp e e').2]
 |.i _,[],r,x,y,cs,ds,cs',ds',hk,e,e'|.bo,[],r,x,y,cs,ds,cs',ds',hk,e,e'|.st,[],r,x,y,cs,ds,cs',ds',hk,e,e'|.list _,[],r,x,y,cs,ds,cs',ds',hk,e,e'=>by cases hk
theorem GC {h:Heap}{mk:MK}{kk:Kind}(hk:gq.mkOk mk kk=true) {x:kk.T}{v:Value}(e:KV h kk x v):JC mk v=true:=by
 unfold gq.mkOk at hk;rcases e with⟨ho,e⟩|⟨ho,cs,rfl,e⟩
 .grind [Oj,List.cons.inj]
 .rw[ho] at hk;simp only[zI] at hk;split at hk
  .rename_i l;split at hk
   .rename_i hr;have:=Aq (ds:=[]) hr e;rw[xn] at this;simp only[JC];rw[this];rfl
   .cases hk
  .cases hk
theorem Ro {h:Heap}{mk:MK}{kk:Kind}(hk:gq.mkOk mk kk=true) {x y:kk.T}{u v:Value}(e:KV h kk x u) (e':KV h kk y v):WO u v=gq.keq kk x y:=by
 unfold gq.mkOk at hk;rcases e with⟨ho,e⟩|⟨ho,cs,rfl,e⟩
 .rcases e' with⟨_,e'⟩|⟨fS,_⟩
  .rw[ho] at hk;exact(Z3e hk e e').1
  .rw[ho] at fS;cases fS
 .rcases e' with⟨fS,_⟩|⟨_,ds,rfl,e'⟩
  .rw[ho] at fS;cases fS
  .rw[ho] at hk;simp only[zI] at hk;split at hk
   .split at hk
    .rename_i hr;have:=Q3r (cs':=[]) (ds':=[]) hr e e';rw[xn,xn] at this;simp only[WO];rw[this];simp[QB]
    .cases hk
   .cases hk
theorem MT {B:Heap}{k:Kind}{v:SV}{u:Value}{x:k.T}(h:dkV k v=some x) (hs:SR P B pl tb v u) (hd:∀ {k:Kind}{l:List SV}{x:k.T}{c:List Value},EJ k l=some x->SRs P B pl tb l c->KC B k x c):KV B k x u:=by
 unfold dkV at h;cases bJ:k.one with
 |true =>rw[bJ] at h;exact .inl ⟨bJ,hd h (by simp only[SRs];exact⟨u,[],rfl,hs,rfl⟩)⟩
 |false =>
  rw[bJ] at h;simp only[zI] at h;split at h
  .simp only[SR] at hs;obtain⟨cs,rfl,hs⟩:=hs;exact .inr ⟨bJ,cs,rfl,hd h hs⟩
  .cases h
theorem SK {B:Heap}{k:Kind}{z:Value}(h:NB k (Q4f k z)=true):KV B k k.dflt z:=by
 have e:=KS (h:=B) h;unfold Q4f at e;cases bJ:k.one with
 |true=>rw[bJ] at e;exact .inl ⟨bJ,e⟩
 |false =>
  rw[bJ] at e;simp only[zI] at e;split at e
  .exact .inr ⟨bJ,_,by simp,e⟩
  .have:=KC.length e;have:=k.size_pos;simp at *
   omega
theorem KV.kc {B:Heap}{k:Kind}{x:k.T}{v:Value}(h:KV B k x v) (ho:k.one=true):KC B k x [v]:=by
 rcases h with⟨_,h⟩|⟨h1,_⟩
 .exact h
 .rw[ho] at h1;cases h1
theorem MR.keys {mk:MK}{kk vk:Kind}(hk:gq.mkOk mk kk=true):∀ {m:List (kk.T×vk.T)}{es:List XY},MR B kk vk m es->es.all (λe=>JC mk e.1)=true
 |[],es,h=>by simp only[MR] at h;subst h;rfl
 |m::ms,es,h=>by obtain⟨e,bV,rfl,h2,h3,h4⟩:=h;simp only[zM,z1];exact⟨GC hk h2,MR.keys hk h4⟩
theorem MR.length {kk vk:Kind}:∀ {m:List (kk.T×vk.T)}{es:List XY},MR B kk vk m es->es.length=m.length
 |[],es,h=>by simp only[MR] at h;subst h;rfl
 |m::ms,es,h=>by obtain⟨e,bV,rfl,h2,h3,h4⟩:=h;simp[MR.length h4]
theorem MR.find {mk:MK}{kk vk:Kind}(hk:gq.mkOk mk kk=true) {key:kk.T}{kv:Value}(aS:KV B kk key kv) {d:vk.T}{z:Value}(hz:KV B vk d z):∀ {m:List (kk.T×vk.T)}{es:List XY},MR B kk vk m es ->
  (∃ e,Qq kv es=some e/\gq.ahas kk m key=true/\KV B vk (gq.aget kk m key d) e.2.1)\/(Qq kv es=none/\gq.ahas kk m key=false/\gq.aget kk m key d=d)
 |[],es,h=>by simp only[MR] at h;subst h;exact .inr ⟨rfl,rfl,rfl⟩
 |m::ms,es,h=>by
  obtain⟨e,bV,rfl,h2,h3,h4⟩:=h;have hq:=Ro hk aS h2;cases hc:gq.keq kk key m.1 with
  |true =>refine .inl ⟨e,by simp[Qq,hq,hc],by simp[gq.ahas,hc],by simpa [gq.aget,hc] using h3⟩
  |false =>
   rcases MR.find hk aS hz h4 with⟨e',k1,k2,k3⟩|⟨k1,k2,k3⟩
   .exact .inl ⟨e',by simp[Qq,hq,hc,k1],by simp[gq.ahas,hc,k2],by simpa [gq.aget,hc] using k3⟩
   .exact .inr ⟨by simp[Qq,hq,hc,k1],by simp[gq.ahas,hc,k2],by simpa [gq.aget,hc] using k3⟩
theorem SRs.one {v:SV}{c:List Value}(h:SRs P B pl tb [v] c):∃ u,c=[u]/\SR P B pl tb v u:=by simp only[SRs] at h;simp_all
theorem QK:∀ {k:Kind}{l:List SV}{x:k.T}{c:List Value},EJ k l=some x->SRs P B pl tb l c->KC B k x c
 |.i ik,[],x,c,h,hs|.bo,[],x,c,h,hs|.st,[],x,c,h,hs|.list _,[],x,c,h,hs=>by cases h
 |.i ik,_::_::_,x,c,h,hs|.bo,_::_::_,x,c,h,hs|.st,_::_::_,x,c,h,hs|.list _,_::_::_,x,c,h,hs=>by cases h
 |.i ik,[v],x,c,h,hs=>by
  obtain⟨u,rfl,h1⟩:=hs.one;simp only[EJ] at h;split at h
  .rename_i rL y;split at h
   .rename_i e;obtain rfl:=osj h;subst e;simp only[SR] at h1;exact h1
   .cases h
  .cases h
 |.bo,[v],x,c,h,hs=>by obtain⟨u,rfl,h1⟩:=hs.one;rw[WM h h1];rfl
 |.st,[v],x,c,h,hs=>by obtain⟨u,rfl,h1⟩:=hs.one;rw[MZ h h1];rfl
 |.list k,[v],x,c,h,hs=>by
  obtain⟨u,rfl,h1⟩:=hs.one;simp only[EJ] at h;split at h
  .obtain rfl:=osj h;simp only[SR] at h1;subst h1;exact⟨_,rfl,.inl ⟨rfl,rfl⟩⟩
  .rename_i k' l';obtain rfl:=WY h;obtain rfl:=W_ h;simp only[SR] at h1;exact h1
  .cases h
 |.pair a b,l,x,c,h,hs=>by
  simp only[EJ] at h;split at h
  .rename_i y z h1 h2;obtain rfl:=osj h;exact⟨c.take a.size,c.drop a.size,(wE _ _).symm,QK h1 (hs.take _),QK h2 (hs.drop _)⟩
  .cases h
end
end Go.V
namespace Go.V
open Go
theorem InK.wrap {k:IntKind}{x:Int}(h:InK k x):k.wrap x=x:=by obtain⟨h1,h2⟩:=h;cases k<;>simp[IntKind.wrap,IntKind.bits,IntKind.signed,IntKind.min,IntKind.max] at h1 h2 |-<;>(try split)<;>omega
section
variable {P:Program}{B:Heap}{pl:Nat->Value}{tb:Nat->Option Bool}{own:Own}{U:Heap}
def QOk (P:Program) (B:Heap) (pl:Nat->Value) (tb:Nat->Option Bool) (U:Heap) (o:VOp) (evV:Operand->Value) (v:SV):Prop:=∃ u,Qc o evV U=some (u,U)/\SR P B pl tb v u
theorem WT (k:IntKind) (x:Int):SR P B pl tb (.val (.i k) x) (.int k x):=by simp[SR,KC]
theorem Js (x:Bool):SR P B pl tb (.val .bo x) (.bool x):=by simp[SR,KC]
theorem Q49 (x:List UInt8):SR P B pl tb (.val .st x) (.string ⟨x.toArray⟩):=by simp[SR,KC]
theorem Zy {α β:Type _}{a c:α}{b d:β}(h:some (a,b)=some (c,d)):a=c/\b=d:=by cases h;exact⟨rfl,rfl⟩
section
variable {kt:List (Nat×Kind)}{raw:Bool}{ev:Operand->SV}{evV:Operand->Value}{cs:List Prop}{v:SV}
theorem TB (ai:∀ x,SR P B pl tb (ev x) (evV x)) {x y:Operand}{k k':IntKind}{a b:Int}(h1:asI (ev x)=some (k,a)) (h2:asI (ev y)=some (k',b)):evV x=.int k a/\evV y=.int k' b:=⟨JK h1 (ai x),JK h2 (ai y)⟩
theorem Z53 (ai:∀ x,SR P B pl tb (ev x) (evV x)) {op:BinOp}{x y:Operand}(h:gq kt raw (.arith op x y) ev own=some (cs,v)) (hc:∀ c∈cs,c):QOk P B pl tb U (.arith op x y) evV v:=by
 simp only[gq] at h;split at h
 .rename_i k a k' b h1 h2;obtain⟨e1,e2⟩:=TB ai h1 h2;split at h
  .rename_i hk;subst hk;cases raw with
   |true =>
    obtain⟨rfl,rfl⟩:=Zy h;refine⟨_,by simp only[Qc,e1,e2,zn]<;>rfl,?_⟩;have:CP op k a b=k.wrap (AF op a b):=by cases op<;>rfl
    rw[this];exact WT _ _
   |false =>
    obtain⟨rfl,rfl⟩:=Zy h;refine⟨_,by simp only[Qc,e1,e2,zn]<;>rfl,?_⟩;have:CP op k a b=AF op a b:=by
     have hw:InK k (AF op a b):=hc _ (by simp);have e:CP op k a b=k.wrap (AF op a b):=by cases op<;>rfl
     rw[e,hw.wrap]
    rw[this];exact WT _ _
  .cases h
 .cases h
theorem Z9x (ai:∀ x,SR P B pl tb (ev x) (evV x)) {op:BinOp}{x y:Operand}(h:gq kt raw (.div op x y) ev own=some (cs,v)) (hc:∀ c∈cs,c):QOk P B pl tb U (.div op x y) evV v:=by
 simp only[gq] at h;split at h
 .rename_i k a k' b h1 h2;obtain⟨e1,e2⟩:=TB ai h1 h2;split at h
  .rename_i hk;subst hk;split at h
   .obtain⟨rfl,rfl⟩:=Zy h;have hb:b≠0:=hc _ (by simp);have hw:InK k (a.tdiv b):=hc _ (by simp);refine⟨_,by simp only[Qc,e1,e2,hb,ne_eq,not_false_iff,wM,zn]<;>rfl,?_⟩;simp only[Z7m,hw.wrap];exact WT _ _
   .obtain⟨rfl,rfl⟩:=Zy h;have hb:b≠0:=hc _ (by simp);refine⟨_,by simp only[Qc,e1,e2,hb,ne_eq,not_false_iff,wM,zn]<;>rfl,?_⟩;rename_i bC;have:Z7m op k a b=a.tmod b:=by unfold Z7m;split<;>simp_all
    rw[this];exact WT _ _
  .cases h
 .cases h
theorem Z7l (ai:∀ x,SR P B pl tb (ev x) (evV x)) {op:BinOp}{x y:Operand}(h:gq kt raw (.bits op x y) ev own=some (cs,v)):QOk P B pl tb U (.bits op x y) evV v:=by
 simp only[gq] at h;split at h
 .rename_i k a k' b h1 h2;obtain⟨e1,e2⟩:=TB ai h1 h2;split at h
  .rename_i hk;subst hk;obtain⟨rfl,rfl⟩:=Zy h;exact⟨_,by simp only[Qc,e1,e2,zn]<;>rfl,WT _ _⟩
  .cases h
 .cases h
theorem Z4m (ai:∀ x,SR P B pl tb (ev x) (evV x)) {op:BinOp}{x y:Operand}(h:gq kt raw (.shift op x y) ev own=some (cs,v)) (hc:∀ c∈cs,c):QOk P B pl tb U (.shift op x y) evV v:=by
 simp only[gq] at h;split at h
 .rename_i k a k' b h1 h2;obtain⟨e1,e2⟩:=TB ai h1 h2;split at h
  .cases raw with
   |true =>obtain⟨rfl,rfl⟩:=Zy h;have hb:0<=b:=hc _ (by simp);exact⟨_,by simp only[Qc,e1,e2,hb,zn]<;>rfl,WT _ _⟩
   |false =>obtain⟨rfl,rfl⟩:=Zy h;have hb:0<=b:=hc _ (by simp);have hw:InK k (Wk k a b):=hc _ (by simp);refine⟨_,by simp only[Qc,e1,e2,hb,zn]<;>rfl,?_⟩;have:Ad .shl k a b=k.wrap (Wk k a b):=rfl;rw[this,hw.wrap];exact WT _ _
  .obtain⟨rfl,rfl⟩:=Zy h;have hb:0<=b:=hc _ (by simp);refine⟨_,by simp only[Qc,e1,e2,hb,zn]<;>rfl,?_⟩;have:Ad op k a b=Zg k a b:=by unfold Ad;split<;>simp_all [Zg]
   rw[this];exact WT _ _
 .cases h
theorem Z94 (ai:∀ x,SR P B pl tb (ev x) (evV x)) {op:BinOp}{x y:Operand}(h:gq kt raw (.cmp op x y) ev own=some (cs,v)):QOk P B pl tb U (.cmp op x y) evV v:=by
 simp only[gq] at h;split at h
 .rename_i k a k' b h1 h2;obtain⟨e1,e2⟩:=TB ai h1 h2;split at h
  .rename_i hk;subst hk;obtain⟨rfl,rfl⟩:=Zy h;exact⟨_,by simp only[Qc,e1,e2,zn]<;>rfl,Js _⟩
  .cases h
 .cases h
theorem J0l (ai:∀ x,SR P B pl tb (ev x) (evV x)) {op:BinOp}{x y:Operand}(h:gq kt raw (.str op x y) ev own=some (cs,v)) (hc:∀ c∈cs,c):QOk P B pl tb U (.str op x y) evV v:=by
 simp only[gq] at h;split at h
 .rename_i a b h1 h2;have e1:=MZ h1 (ai x);have e2:=MZ h2 (ai y);split at h
  .obtain⟨rfl,rfl⟩:=Zy h;have hw:a.length+b.length<=4611686018427387904:=hc _ (by simp);refine⟨.string (⟨a.toArray⟩++⟨b.toArray⟩),by simp only[Qc,e1,e2];rw[z2 (by simpa [ByteArray.size] using hw)],?_⟩;have:(⟨a.toArray⟩:ByteArray)++⟨b.toArray⟩=⟨(a++b).toArray⟩:=by
    apply ByteArray.ext;simp
   rw[this];exact Q49 _
  .obtain⟨rfl,rfl⟩:=Zy h;exact⟨_,by simp only[Qc,e1,e2]<;>rfl,Js _⟩
  .obtain⟨rfl,rfl⟩:=Zy h;exact⟨_,by simp only[Qc,e1,e2]<;>rfl,Js _⟩
  .obtain⟨rfl,rfl⟩:=Zy h;exact⟨_,by simp only[Qc,e1,e2]<;>rfl,Js _⟩
  .cases h
 .cases h
theorem J06 (ai:∀ x,SR P B pl tb (ev x) (evV x)) {neg:Bool}{x y:Operand}(h:gq kt raw (.eqB neg x y) ev own=some (cs,v)):QOk P B pl tb U (.eqB neg x y) evV v:=by
 simp only[gq] at h;split at h
 .rename_i a b h1 h2;have e1:=WM h1 (ai x);have e2:=WM h2 (ai y);obtain⟨rfl,rfl⟩:=Zy h;exact⟨_,by simp only[Qc,e1,e2]<;>rfl,Js _⟩
 .cases h
theorem E4 {k:MK}{a b:SV}{r:Bool}{u w:Value}(h:Q75 k a b=some r) (ha:SR P B pl tb a u) (hb:SR P B pl tb b w):Q74 k u=true/\Q74 k w=true/\Ut u w=r:=by
 cases k with
 |agg s=>cases h
 |int q =>
  simp only[Q75] at h;split at h
  .rename_i q1 x q2 y h1 h2;split at h
   .rename_i hq;obtain⟨rfl,rfl⟩:=hq;obtain rfl:=osj h;rw[JK h1 ha,JK h2 hb];exact⟨by simp[Q74],by simp[Q74],rfl⟩
   .cases h
  .cases h
 |bool =>
  simp only[Q75] at h;split at h
  .rename_i x y h1 h2;obtain rfl:=osj h;rw[WM h1 ha,WM h2 hb];exact⟨rfl,rfl,rfl⟩
  .cases h
 |string =>
  simp only[Q75] at h;split at h
  .rename_i x y h1 h2;obtain rfl:=osj h;rw[MZ h1 ha,MZ h2 hb];exact⟨rfl,rfl,rfl⟩
  .cases h
theorem SD:∀ {s:List MK}{l m:List SV}{r:Bool}{us ws:List Value},Az s l m=some r->SRs P B pl tb l us->SRs P B pl tb m ws->fits s us=true/\fits s ws=true/\QB us ws=r
 |[],_,_,_,_,_,h,_,_=>by cases h
 |k::ks,[],_,_,_,_,h,_,_=>by simp[Az] at h
 |k::ks,_::_,[],_,_,_,h,_,_=>by simp[Az] at h
 |[k],a::l,b::m,r,us,ws,h,ha,hb=>by
  simp only[Az] at h;split at h
  .simp only[SRs] at ha hb;obtain⟨u,jO,rfl,h1,rfl⟩:=ha;obtain⟨w,tN,rfl,h2,rfl⟩:=hb;obtain⟨f1,f2,f3⟩:=E4 h h1 h2;simp[fits,QB,f1,f2,f3]
  .cases h
 |k::k'::ks,a::l,b::m,r,us,ws,h,ha,hb=>by
  simp only[Az] at h;split at h
  .rename_i x y hx hy;obtain rfl:=osj h;simp only[SRs] at ha hb;obtain⟨u,jO,rfl,h1,oG⟩:=ha;obtain⟨w,tN,rfl,h2,oH⟩:=hb;obtain⟨f1,f2,f3⟩:=E4 hx h1 h2;obtain⟨g1,g2,g3⟩:=SD (s:=k'::ks) hy oG oH;rw[fits,fits,f1,f2,g1,g2,QB,f3,g3];exact⟨rfl,rfl,rfl⟩
  .cases h
theorem Z58 (ai:∀ x,SR P B pl tb (ev x) (evV x)) {neg:Bool}{s:List MK}{x y:Operand}(h:gq kt raw (.ext (.eqAgg neg s x y)) ev own=some (cs,v)):QOk P B pl tb U (.ext (.eqAgg neg s x y)) evV v:=by
 simp only[gq] at h;split at h
 .rename_i l m h1 h2;obtain⟨b,hb,he⟩:=zi.1 h;obtain⟨rfl,rfl⟩:=(by cases he;exact⟨rfl,rfl⟩:[]=cs/\SV.val .bo (bif neg then !b else b)=v);have e1:=ai x;have e2:=ai y;rw[h1] at e1;rw[h2] at e2;simp only[SR] at e1 e2;obtain⟨us,e1,k1⟩:=e1;obtain⟨ws,e2,k2⟩:=e2;obtain⟨f1,f2,f3⟩:=SD hb k1 k2;refine⟨.bool (if neg then !b else b),?_,by cases neg<;>exact Js _⟩;simp only[Qc,JY,e1,e2];simp_all
 .cases h
theorem J1x (ai:∀ x,SR P B pl tb (ev x) (evV x)) {op:UnOp}{x:Operand}(h:gq kt raw (.un op x) ev own=some (cs,v)) (hc:∀ c∈cs,c):QOk P B pl tb U (.un op x) evV v:=by
 simp only[gq] at h;split at h
 .split at h
  .rename_i b h1;obtain⟨rfl,rfl⟩:=Zy h;exact⟨_,by simp only[Qc,WM h1 (ai x)]<;>rfl,Js _⟩
  .cases h
 .split at h
  .rename_i k n h1;obtain⟨rfl,rfl⟩:=Zy h;have hw:InK k (0-n):=hc _ (by simp);refine⟨_,by simp only[Qc,JK h1 (ai x)]<;>rfl,?_⟩;rw[hw.wrap];exact WT _ _
  .cases h
 .split at h
  .rename_i k n h1;obtain⟨rfl,rfl⟩:=Zy h;exact⟨_,by simp only[Qc,JK h1 (ai x)]<;>rfl,WT _ _⟩
  .cases h
 .cases h
theorem Z5i (ai:∀ x,SR P B pl tb (ev x) (evV x)) {k:IntKind}{x:Operand}(h:gq kt raw (.convI k x) ev own=some (cs,v)) (hc:∀ c∈cs,c):QOk P B pl tb U (.convI k x) evV v:=by
 simp only[gq] at h;split at h
 .rename_i k' n h1;cases raw with
  |true =>obtain⟨rfl,rfl⟩:=Zy h;exact⟨_,by simp only[Qc,JK h1 (ai x)]<;>rfl,WT _ _⟩
  |false =>obtain⟨rfl,rfl⟩:=Zy h;have hw:InK k n:=hc _ (by simp);refine⟨_,by simp only[Qc,JK h1 (ai x)]<;>rfl,?_⟩;rw[hw.wrap];exact WT _ _
 .cases h
theorem Z4b (ai:∀ x,SR P B pl tb (ev x) (evV x)) {x:Operand}(h:gq kt raw (.convS x) ev own=some (cs,v)):QOk P B pl tb U (.convS x) evV v:=by
 simp only[gq] at h;split at h
 .rename_i s h1;obtain⟨rfl,rfl⟩:=Zy h;exact⟨_,by simp only[Qc,MZ h1 (ai x)]<;>rfl,Q49 _⟩
 .cases h
theorem Z5u (ai:∀ x,SR P B pl tb (ev x) (evV x)) {z:List Value}{ps:List (Nat×Nat×Operand)}(h:gq kt raw (.build z ps) ev own=some (cs,v)):QOk P B pl tb U (.build z ps) evV v:=by
 simp only[gq] at h;split at h
 .rename_i l h1;obtain⟨rfl,rfl⟩:=Zy h;have hz:SRs P B pl tb (z.map cvp) (z.map id):=SRs.map λx _=>Rz x;rw[List.map_id] at hz;obtain⟨lV,h2,h3⟩:=Cw ai hz h1;refine⟨.agg lV.toArray,by simp only[Qc,h2],?_⟩;simp only[SR];exact⟨lV,rfl,h3⟩
 .cases h
theorem Z6k (ai:∀ x,SR P B pl tb (ev x) (evV x)) (hle:B.Le U) (aF:∀ d,OR P B pl tb U (pl d) (Qe own d)) {agg:Bool}{size:Nat}{a:Operand}(h:gq kt raw (.load agg size a) ev own=some (cs,v)):QOk P B pl tb U (.load agg size a) evV v:=by
 simp only[gq] at h;cases hb:Nat.blt 0 size with
 |false=>rw[hb] at h;cases h
 |true =>
  rw[hb] at h;simp only[zd,zi] at h;obtain⟨v',h1,h2⟩:=h;obtain⟨rfl,rfl⟩:=(by simpa only [Prod.mk.injEq] using h2:_=cs/\_=v);have hs:0<size:=by simpa [zy] using hb
  obtain⟨i,o,c,e,wr,t,u,h3,h4,h5,h6⟩:=Ek hle aF hs h1 (ai a);exact⟨u,by simp only[Qc,h3,h4,h5],h6⟩
theorem Q3u (ai:∀ x,SR P B pl tb (ev x) (evV x)) {off:Nat}{a:Operand}(h:gq kt raw (.fieldAddr off a) ev own=some (cs,v)):QOk P B pl tb U (.fieldAddr off a) evV v:=by
 have ha:=ai a;simp only[gq] at h;split at h
 .rename_i o f heq;obtain⟨rfl,rfl⟩:=Zy h;rw[heq] at ha;simp only[SR] at ha;obtain⟨b,h1,h2⟩:=ha;refine⟨_,by simp only[Qc,h2]<;>rfl,?_⟩;simp only[SR];exact⟨b,h1,rfl⟩
 .rename_i l f heq;obtain⟨rfl,rfl⟩:=Zy h;rw[heq] at ha;simp only[SR] at ha;obtain⟨b,c,e,wr,t,h1,h2,h3⟩:=ha;refine⟨_,by simp only[Qc,h2]<;>rfl,?_⟩;simp only[SR];exact⟨b,c,e,wr,t,h1,rfl,h3⟩
 .rename_i o i f sz heq;obtain⟨rfl,rfl⟩:=Zy h;rw[heq] at ha;simp only[SR] at ha;obtain⟨b,len,cap,h1,h2,h3,h4⟩:=ha;refine⟨_,by simp only[Qc,h4]<;>rfl,?_⟩;simp only[SR];grind
 .rename_i o w heq;rw[heq] at ha;simp only[SR] at ha;split at h
  .obtain⟨rfl,rfl⟩:=Zy h;obtain⟨b,len,cap,h1,h2,h3,h4⟩:=ha;refine⟨_,by simp only[Qc,h4]<;>rfl,?_⟩;simp only[SR,DR];grind
  .obtain⟨rfl,rfl⟩:=Zy h;obtain⟨b,len,cap,c,e,t,r,rl,rc,bB,re,rt,h1,h2,h3,h4,h5,h6,h7,h8,h9,bM,gb,kI⟩:=ha;refine⟨_,by simp only[Qc,kI]<;>rfl,?_⟩;simp only[SR,DR];exact⟨b,len,cap,c,e,t,r,rl,rc,bB,re,rt,h1,h2,h3,h4,h5,h6,h7,h8,h9,bM,gb,by rw[zo]⟩
  .obtain⟨rfl,rfl⟩:=Zy h;obtain⟨b,o',c,e,wr,t,h1,h2,h3,h4,h5,h6⟩:=ha;refine⟨_,by simp only[Qc,h4]<;>rfl,?_⟩;simp only[SR,DR];grind
  .cases h
 .rename_i k l i f heq;obtain⟨rfl,rfl⟩:=Zy h;rw[heq] at ha;simp only[SR] at ha;obtain⟨b,o,c,e,wr,t,h1,h2,h3,h4,h5,h6⟩:=ha;refine⟨_,by simp only[Qc,h4]<;>rfl,?_⟩;simp only[SR];grind
 .cases h
theorem Z4i (ai:∀ x,SR P B pl tb (ev x) (evV x)) {agg:Bool}{off size:Nat}{x:Operand}(h:gq kt raw (.field agg off size x) ev own=some (cs,v)):QOk P B pl tb U (.field agg off size x) evV v:=by
 have ha:=ai x;simp only[gq] at h;split at h
 .rename_i l heq;rw[heq] at ha;simp only[SR] at ha;obtain⟨c,h1,h2⟩:=ha;simp only[zi] at h;obtain⟨v',h3,h4⟩:=h;obtain⟨rfl,rfl⟩:=(by simpa only [Prod.mk.injEq] using h4:_=cs/\_=v);obtain⟨u,h5,h6⟩:=X2 h2 h3;exact⟨u,by simp only[Qc,h1,h5],h6⟩
 .cases h
theorem Q85 (ai:∀ x,SR P B pl tb (ev x) (evV x)) {x:Operand}{i:Nat}(h:gq kt raw (.extract x i) ev own=some (cs,v)):QOk P B pl tb U (.extract x i) evV v:=by
 have ha:=ai x;simp only[gq] at h;split at h
 .rename_i l heq;rw[heq] at ha;simp only[SR] at ha;obtain⟨c,h1,h2⟩:=ha;simp only[zi] at h;obtain⟨v',h3,h4⟩:=h;obtain⟨rfl,rfl⟩:=(by simpa only [Prod.mk.injEq] using h4:_=cs/\_=v);obtain⟨u,h5,h6⟩:=h2.get h3;exact⟨u,by simp only[Qc,h1,h5],h6⟩
 .cases h
theorem Q6a (ai:∀ x,SR P B pl tb (ev x) (evV x)) {x:Operand}(h:gq kt raw (.nilCheck x) ev own=some (cs,v)):QOk P B pl tb U (.nilCheck x) evV v:=by
 have ha:=ai x;simp only[gq] at h;split at h
 .rename_i o f heq;obtain⟨rfl,rfl⟩:=Zy h;rw[heq] at ha;have hb:=ha;simp only[SR] at ha;obtain⟨b,h1,h2⟩:=ha;exact⟨_,by simp only[Qc,h2]<;>rfl,by rw[<-h2];exact hb⟩
 .rename_i l f heq;obtain⟨rfl,rfl⟩:=Zy h;rw[heq] at ha;have hb:=ha;simp only[SR] at ha;obtain⟨b,c,e,wr,t,h1,h2,h3⟩:=ha;exact⟨_,by simp only[Qc,h2]<;>rfl,by rw[<-h2];exact hb⟩
 .rename_i f a b heq;obtain⟨rfl,rfl⟩:=Zy h;rw[heq] at ha;have hb:=ha;simp only[SR] at ha;obtain⟨x1,y1,h1,h2,h3⟩:=ha;exact⟨_,by simp only[Qc,h1]<;>rfl,by rw[<-h1];exact hb⟩
 .cases h
theorem Q78 (ai:∀ x,SR P B pl tb (ev x) (evV x)) {x i:Operand}(h:gq kt raw (.indexStr x i) ev own=some (cs,v)) (hc:∀ c∈cs,c):QOk P B pl tb U (.indexStr x i) evV v:=by
 simp only[gq] at h;split at h
 .rename_i s k j h1 h2;have e1:=MZ h1 (ai x);have e2:=JK h2 (ai i);obtain⟨rfl,rfl⟩:=Zy h;have k1:0<=j:=hc _ (by simp);have k2:j<s.length:=hc _ (by simp);have k3:j.toNat<s.length:=by omega
  refine⟨.int .u8 (s[j.toNat].toNat:Int),by simp only[Qc,e1,e2,k1,zn];simp[k3],?_⟩
  grind [WT]
 .cases h
theorem Q5u (ai:∀ x,SR P B pl tb (ev x) (evV x)) (fK:∀ c,evV (.const c)=c) {len size:Nat}{agg:Bool}{x i:Operand}(h:gq kt raw (.indexArr len agg size x i) ev own=some (cs,v)):QOk P B pl tb U (.indexArr len agg size x i) evV v:=by
 have ha:=ai x;simp only[gq] at h;split at h
 .rename_i l k j heq;split at h
  .rename_i hj;rw[heq] at ha;simp only[SR] at ha;obtain⟨c,h1,h2⟩:=ha;simp only[zi] at h;obtain⟨v',h3,h4⟩:=h;obtain⟨rfl,rfl⟩:=(by simpa only [Prod.mk.injEq] using h4:_=cs/\_=v);obtain⟨u,h5,h6⟩:=X2 h2 h3;refine⟨u,?_,h6⟩;simp only[Qc,h1,fK];simp_all
  .cases h
 .cases h
theorem Fo (ai:∀ x,SR P B pl tb (ev x) (evV x)) (fK:∀ c,evV (.const c)=c) {len size:Nat}{x i:Operand}(h:gq kt raw (.indexAddrArr len size x i) ev own=some (cs,v)):QOk P B pl tb U (.indexAddrArr len size x i) evV v:=by
 have ha:=ai x;simp only[gq] at h;split at h
 .rename_i o f k j heq;split at h
  .rename_i hj;obtain⟨rfl,rfl⟩:=Zy h;rw[heq] at ha;simp only[SR] at ha;obtain⟨b,h1,h2⟩:=ha;refine⟨.pointer (some ⟨b,f+j*size,none⟩),?_,?_⟩
   .simp only[Qc,h2,fK];simp_all
   .simp only[SR];exact⟨b,h1,rfl⟩
  .cases h
 .rename_i l f k j heq;split at h
  .rename_i hj;obtain⟨rfl,rfl⟩:=Zy h;rw[heq] at ha;simp only[SR] at ha;obtain⟨b,c,e,wr,t,h1,h2,h3⟩:=ha;refine⟨.pointer (some ⟨b,f+j*size,none⟩),?_,?_⟩
   .simp only[Qc,h2,fK];simp_all
   .simp only[SR];exact⟨b,c,e,wr,t,h1,rfl,h3⟩
  .cases h
 .cases h
theorem Q3t (ai:∀ x,SR P B pl tb (ev x) (evV x)) (_hle:B.Le U) (aF:∀ d,OR P B pl tb U (pl d) (Qe own d)) {size:Nat}{x i:Operand}(h:gq kt raw (.indexAddr size x i) ev own=some (cs,v)) (hc:∀ c∈cs,c):QOk P B pl tb U (.indexAddr size x i) evV v:=by
 have ha:=ai x;simp only[gq] at h;split at h
 .rename_i o k' j heq hj;have ej:=JK hj (ai i);split at h
  .rename_i ty k xs nl ho;split at h
   .rename_i aP;obtain⟨rfl,rfl⟩:=Zy h;have h0:0<=j:=hc _ (by simp);have h1:j<xs.length:=hc _ (by simp);rw[heq] at ha;simp only[SR] at ha;have au:=aF o;rw[ho] at au;rcases au with⟨_,rfl,_⟩|⟨_,b,cap,c,t,h2,h3,h4,h5,h6⟩
    .simp at h1;omega
    .refine⟨.pointer (some ⟨b,0+j.toNat*size,none⟩),?_,?_⟩
     .simp only[Qc,ha.1,h2,ej];rw[z2 ⟨h0,h1⟩]
     .simp only[SR];grind
   .cases h
  .cases h
 .rename_i o w k' j heq hj;have ej:=JK hj (ai i);rw[heq] at ha;simp only[SR] at ha;have au:=aF o;split at h
  .rename_i ty q k xs nl hole ho;rw[ho] at au;split at h
   .have key:(if k.size=size then some ([0<=j,j<xs.length],SV.dd o (.el j 0 size)) else none)=some (cs,v)->QOk P B pl tb U (.indexAddr size x i) evV v:=by
     intro h;split at h
     .rename_i aP;obtain⟨rfl,rfl⟩:=Zy h;have h0:0<=j:=hc _ (by simp);have h1:j<xs.length:=hc _ (by simp);obtain⟨is,_,_,h2,_⟩:=au;rcases h2 with⟨rfl,_⟩|⟨b,cap,c,t,js,h2,_⟩
      .simp at h1;omega
      .refine⟨.pointer (some ⟨b,0+j.toNat*size,none⟩),?_,?_⟩
       .simp only[Qc,ha.1,h2,ej];rw[z2 ⟨h0,h1⟩]
       .simp only[SR,DR];grind
     .cases h
    grind
   .rename_i kr l ir;split at h
    .rename_i aP;obtain⟨rfl,rfl⟩:=Zy h;have h0:0<=j:=hc _ (by simp);have h1:j<l.length:=hc _ (by simp);obtain⟨tO,aQ,b,len,cap,c,e,t,g1,g2,g3,g4,g5⟩:=ha;obtain⟨r,o',rc,bB,re,rN,rt,k1,k2,k3,k4⟩:=Q52 tO (j:=j.toNat) (by omega);obtain rfl:o'=0:=aQ _ _ _ k1;obtain rfl:=Z1y k2;refine⟨.pointer (some ⟨r,0+j.toNat*size,none⟩),?_,?_⟩
     .simp only[Qc,k1,ej];rw[z2 ⟨h0,h1⟩]
     .simp only[SR,DR];exact⟨b,len,cap,c,e,t,r,l.length,rc,bB,re,rt,g1,g2,g3,g4,by rw[g5,k1],h0,h1,rfl,k2,by omega,by rw[xG] at k4;exact k4,by simp[aP]⟩
    .cases h
   .rename_i kr l;split at h
    .rename_i aP;obtain⟨rfl,rfl⟩:=Zy h;have h0:0<=j:=hc _ (by simp);have h1:j<l.length:=hc _ (by simp);obtain⟨r,o',rc,bB,re,rN,rt,k1,k2,k3,k4⟩:=Q52 (show KC (Wn (pl o)) (.list kr) l [evV x] from ha) (j:=j.toNat) (by omega);refine⟨.pointer (some ⟨r,o'+j.toNat*size,none⟩),?_,?_⟩
     .simp only[Qc,k1,ej];rw[z2 ⟨h0,h1⟩]
     .simp only[SR,DR];exact⟨r,o',bB,re,rN,rt,h0,h1,k2,by simp[aP],k3,k4⟩
    .cases h
   .cases h
  .cases h
 .rename_i o lo n sz k' j heq hj;have ej:=JK hj (ai i);split at h
  .rename_i ty k xs nl ho;split at h
   .rename_i aP;obtain⟨aP,rfl⟩:=aP;obtain⟨rfl,rfl⟩:=Zy h;have h0:0<=j:=hc _ (by simp);have h1:j<n:=hc _ (by simp);rw[heq] at ha;simp only[SR] at ha;rcases ha with⟨rfl,rfl,_,_⟩|⟨b,len,cap,ax,h2,h3,h4,h5⟩
    .simp at h1;omega
    .refine⟨.pointer (some ⟨b,lo*sz+j.toNat*sz,none⟩),?_,?_⟩
     .simp only[Qc,h5,ej];rw[z2 ⟨h0,h1⟩]
     .simp only[SR];refine⟨b,len,cap,h2,by omega,by omega,?_⟩;have:((lo:Int)+j).toNat=lo+j.toNat:=by omega
      rw[this,zB,zY]
   .cases h
  .cases h
 .rename_i k l k' j heq hj;have ej:=JK hj (ai i);split at h
  .rename_i aP;obtain⟨rfl,rfl⟩:=Zy h;have h0:0<=j:=hc _ (by simp);have h1:j<l.length:=hc _ (by simp);rw[heq] at ha;simp only[SR,KC] at ha;obtain⟨v',e,hs⟩:=ha;obtain e:=(zF e).1;rcases hs with⟨rfl,_⟩|⟨b,o,cap,c,e',wr,t,h2,h3,h4,h5,h6,h7⟩
   .simp at h1;omega
   .refine⟨.pointer (some ⟨b,o+j.toNat*size,none⟩),?_,?_⟩
    .simp only[Qc,e,h2,ej];rw[z2 ⟨h0,h1⟩]
    .simp only[SR];exact⟨b,o,c,e',wr,t,h0,h1,h4,by rw[aP,zY],h6,h7⟩
  .cases h
 .cases h
theorem Zq (ai:∀ x,SR P B pl tb (ev x) (evV x)) {x:Option Operand}{d:Nat}{a:Int}(h:K7 ev x d=some a) (ha:0<=a):Y0 evV x d=some a.toNat:=by
 cases x with
 |none=>obtain rfl:=osj h;simp[Y0]
 |some x =>simp only[K7,zi] at h;obtain⟨⟨k,a'⟩,h1,h2⟩:=h;simp only at h2;subst h2;simp only[Y0,JK h1 (ai x),ha,zn]
theorem Q7j (ai:∀ x,SR P B pl tb (ev x) (evV x)) {x:Operand}{lo hi:Option Operand}(h:gq kt raw (.sliceStr x lo hi) ev own=some (cs,v)) (hc:∀ c∈cs,c):QOk P B pl tb U (.sliceStr x lo hi) evV v:=by
 simp only[gq] at h;split at h
 .rename_i s hs;have es:=MZ hs (ai x);split at h
  .rename_i a b h1 h2;obtain⟨rfl,rfl⟩:=Zy h;have k0:0<=a:=hc _ (by simp);have k1:a<=b:=hc _ (by simp);have k2:b<=s.length:=hc _ (by simp);have e1:=Zq (evV:=evV) ai h1 k0;have e2:=Zq (evV:=evV) ai h2 (by omega);have ic:(ByteArray.mk s.toArray).size=s.length:=by simp[ByteArray.size]
   refine⟨.string ((ByteArray.mk s.toArray).extract a.toNat b.toNat),?_,?_⟩
   .simp only[Qc,es,ic,e1,e2];rw[z2 (by omega)]
   .have:(ByteArray.mk s.toArray).extract a.toNat b.toNat=⟨((s.drop a.toNat).take (b-a).toNat).toArray⟩:=by
     apply ByteArray.ext
     grind [ByteArray.data_extract]
    rw[this];exact Q49 _
  .cases h
 .cases h
theorem Z8r (ai:∀ x,SR P B pl tb (ev x) (evV x)) (aF:∀ d,OR P B pl tb U (pl d) (Qe own d)) {x:Operand}(h:gq kt raw (.len x) ev own=some (cs,v)):QOk P B pl tb U (.len x) evV v:=by
 simp only[gq] at h;split at h
 .rename_i n h1;obtain⟨rfl,rfl⟩:=Zy h;obtain⟨a,cap,e⟩:=Q73 aF h1 (ai x);exact⟨.int .i64 n,by simp only[Qc,e],WT _ _⟩
 .cases h
theorem Z39 (ai:∀ x,SR P B pl tb (ev x) (evV x)) {x:Operand}(h:gq kt raw (.lenStr x) ev own=some (cs,v)):QOk P B pl tb U (.lenStr x) evV v:=by
 simp only[gq] at h;split at h
 .rename_i s h1;obtain⟨rfl,rfl⟩:=Zy h;exact⟨.int .i64 s.length,by simp only[Qc,MZ h1 (ai x)];simp[ByteArray.size],WT _ _⟩
 .cases h
theorem Z9a (ai:∀ x,SR P B pl tb (ev x) (evV x)) {x y:Operand}(h:gq kt raw (.max x y) ev own=some (cs,v)):QOk P B pl tb U (.max x y) evV v:=by
 simp only[gq] at h;split at h
 .rename_i k a k' b h1 h2;obtain⟨e1,e2⟩:=TB ai h1 h2;split at h
  .rename_i hk;subst hk;obtain⟨rfl,rfl⟩:=Zy h;exact⟨.int k (LD a b),by simp only[Qc,e1,e2,zn];rfl,WT _ _⟩
  .cases h
 .cases h
theorem Z7f (ai:∀ x,SR P B pl tb (ev x) (evV x)) {x y z w:Operand}(h:gq kt raw (.max4 x y z w) ev own=some (cs,v)):QOk P B pl tb U (.max4 x y z w) evV v:=by
 simp only[gq] at h;split at h
 .rename_i k a k2 b k3 c k4 d h1 h2 h3 h4;obtain⟨e1,e2⟩:=TB ai h1 h2;obtain⟨e3,e4⟩:=TB ai h3 h4;split at h
  .rename_i hk;obtain⟨rfl,rfl,rfl⟩:=hk;obtain⟨rfl,rfl⟩:=Zy h;exact⟨.int k (LD (LD (LD a b) c) d),by simp only[Qc,e1,e2,e3,e4,wM,zn];rfl,WT _ _⟩
  .cases h
 .cases h
theorem J0v (ai:∀ x,SR P B pl tb (ev x) (evV x)) {x y:Operand}(h:gq kt raw (.min x y) ev own=some (cs,v)):QOk P B pl tb U (.min x y) evV v:=by
 simp only[gq] at h;split at h
 .rename_i k a k' b h1 h2;obtain⟨e1,e2⟩:=TB ai h1 h2;split at h
  .rename_i hk;subst hk;obtain⟨rfl,rfl⟩:=Zy h;exact⟨.int k (Q72 a b),by simp only[Qc,e1,e2,zn];rfl,WT _ _⟩
  .cases h
 .cases h
theorem Q61 (ai:∀ x,SR P B pl tb (ev x) (evV x)) {fn:Fn}{a b:List Operand}(h:gq kt raw (.makeFunc fn a b) ev own=some (cs,v)):QOk P B pl tb U (.makeFunc fn a b) evV v:=by
 cases fn with
 |func f =>obtain⟨rfl,rfl⟩:=Zy h;refine⟨.func (.func f) (a.map evV).toArray (b.map evV).toArray,by simp only[Qc],?_⟩;simp only[SR];exact⟨_,_,rfl,SRs.map λx _=>ai x,SRs.map λx _=>ai x⟩
 |_=>cases h
theorem SlRel.sl {h:Heap}{sz:Nat}{α:Type}{R:α->List Value->Prop}{l:List α}{v:Value}(hs:SlRel h sz R l v):∃ cs a cap,h.sl sz v=some cs/\Rows R l cs/\v=.slice a l.length cap:=by
 rcases hs with⟨rfl,rfl⟩|⟨i,o,cap,c,e,wr,t,rfl,h2,h3,h4,h5,h6⟩
 .exact⟨[],_,_,rfl,.nil,rfl⟩
 .refine⟨_,_,cap,?_,h6,rfl⟩;simp only[Heap.sl,h3];rw[z2 ⟨h4,h5⟩]
theorem Q82 {h:Heap}:∀ {xs:List Int}{cs:List Value},Rows (KC h (.i .u8)) xs cs->Ip cs=some ⟨(xs.map λx=>x.toNat.toUInt8).toArray⟩:=by
 have key:∀ {xs:List Int}{cs:List Value},Rows (KC h (.i .u8)) xs cs->cs.mapM Q38=some (xs.map λx=>x.toNat.toUInt8):=λ{xs cs} hr=>by
  induction hr with
  |nil=>rfl
  |@cons x xs c cs hx _ ih =>simp only[KC] at hx;subst hx;simp only[List.singleton_append,x4,Q38,ih,zx];rfl
 intro xs cs hr;simp only[Ip,key hr,wG]
theorem Q6o (ai:∀ x,SR P B pl tb (ev x) (evV x)) (hle:B.Le U) (aF:∀ d,OR P B pl tb U (pl d) (Qe own d)) {x:Operand}(h:gq kt raw (.ext (.bytesStr x)) ev own=some (cs,v)):QOk P B pl tb U (.ext (.bytesStr x)) evV v:=by
 simp only[gq] at h;split at h
 .rename_i xs h1;obtain⟨rfl,rfl⟩:=Zy h;obtain⟨cs,a,cap,h2,h3,h4⟩:=(Ma hle aF h1 (ai x)).sl;refine⟨.string ⟨(Z41 xs).toArray⟩,?_,Q49 _⟩;have aP:Kind.size (.i .u8)=1:=rfl;rw[h4,aP] at h2;simp only[Qc,JY,h4,h2,Q82 h3];rfl
 .cases h
theorem Z3c (ai:∀ x,SR P B pl tb (ev x) (evV x)) (aF:∀ d,OR P B pl tb U (pl d) (Qe own d)) {neg:Bool}{x y:Operand}(h:gq kt raw (.ext (.eqNil 0 neg x y)) ev own=some (cs,v)) (hc:∀ c∈cs,c):QOk P B pl tb U (.ext (.eqNil 0 neg x y)) evV v:=by
 have hx:=ai x;have hy:=ai y;simp only[gq] at h;split at h
 .rename_i h1 h2;obtain⟨rfl,rfl⟩:=Zy h;rw[h1] at hx;rw[h2] at hy;simp only[SR] at hx hy;exact⟨.bool (!neg),by simp only[Qc,JY,hx,hy,Xk];cases neg<;>rfl,Js _⟩
 .rename_i o f h1 h2;obtain⟨rfl,rfl⟩:=Zy h;rw[h1] at hx;rw[h2] at hy;simp only[SR] at hx hy;obtain⟨b,_,hb⟩:=hx;exact⟨.bool neg,by simp only[Qc,JY,hb,hy,Xk];cases neg<;>rfl,Js _⟩
 .rename_i l f h1 h2;obtain⟨rfl,rfl⟩:=Zy h;rw[h1] at hx;rw[h2] at hy;simp only[SR] at hx hy;obtain⟨b,c,e,wr,t,_,hb,_⟩:=hx;exact⟨.bool neg,by simp only[Qc,JY,hb,hy,Xk];cases neg<;>rfl,Js _⟩
 .rename_i o c h1 h2;obtain⟨rfl,rfl⟩:=Zy h;rw[h1] at hx;rw[h2] at hy;simp only[SR,DR] at hx hy;rcases hx with⟨rfl,hb⟩|⟨rfl,b,_,hb⟩
  .exact⟨.bool (bif neg then false else true),by simp only[Qc,JY,hb,hy,Xk];cases neg<;>rfl,Js _⟩
  .exact⟨.bool (bif neg then true else false),by simp only[Qc,JY,hb,hy,Xk];cases neg<;>rfl,Js _⟩
 .rename_i o c o' f h1 h2;split at h
  .rename_i l u ho;split at h
   .rename_i he;obtain⟨rfl,rfl⟩:=he;obtain⟨rfl,rfl⟩:=Zy h;have tP:c=true:=hc _ (by simp);rw[h1] at hx;rw[h2] at hy;simp only[SR,DR] at hx hy;have au:=aF o;rw[ho] at au;obtain⟨i,cc,e,t,hp,hg,_⟩:=au;obtain⟨b',bu,hy⟩:=hy;rcases hx with⟨jC,_⟩|⟨_,b,cU,hb⟩
    .rw[tP] at jC;cases jC
    .rw[hp] at bu cU;simp only[phd,Value.pointer.injEq,xg] at bu cU;have e1:i=b':=by injection bu
     have e2:i=b:=by injection cU
     subst e1;subst e2;exact⟨.bool (!neg),by simp only[Qc,JY,hb,hy,Xk,hg,Option.isSome_some,wM,zn];cases neg<;>rfl,Js _⟩
   .cases h
  .cases h
 .cases h
theorem Q6k (ai:∀ x,SR P B pl tb (ev x) (evV x)) (aF:∀ d,OR P B pl tb U (pl d) (Qe own d)) {x:Operand}(h:gq kt raw (.ext (.toUnsafe x)) ev own=some (cs,v)):QOk P B pl tb U (.ext (.toUnsafe x)) evV v:=by
 have hx:=ai x;simp only[gq] at h;split at h
 .rename_i o f h1;split at h
  .rename_i l u ho;split at h
   .rename_i hf;obtain⟨rfl,rfl⟩:=Zy h;rw[h1] at hx;have qa:=hx;simp only[SR] at hx;obtain⟨b,hp,hv⟩:=hx;have au:=aF o;rw[ho] at au;obtain⟨i,c,e,t,cU,hg,hl,_⟩:=au;rw[hp] at cU;have e1:b=i:=by simpa using cU
    subst e1;refine⟨.pointer (some ⟨b,f,none⟩),?_,by rw[<-hv];exact qa⟩;simp only[Qc,JY,hv,hg];rw[z2 (by rw[<-hl.length];exact hf)]
   .cases h
  .cases h
 .cases h
theorem Q0n (ai:∀ x,SR P B pl tb (ev x) (evV x)) (aF:∀ d,OR P B pl tb U (pl d) (Qe own d)) {u size:Nat}{x:Operand}(h:gq kt raw (.ext (.fromUnsafe u size x)) ev own=some (cs,v)):QOk P B pl tb U (.ext (.fromUnsafe u size x)) evV v:=by
 have hx:=ai x;simp only[gq] at h;split at h
 .rename_i o f h1;split at h
  .rename_i l t0 ho;split at h
   .rename_i hf;obtain⟨rfl,rfl,aP⟩:=hf;obtain⟨rfl,rfl⟩:=Zy h;rw[h1] at hx;have qa:=hx;simp only[SR] at hx;obtain⟨b,hp,hv⟩:=hx;have au:=aF o;rw[ho] at au;obtain⟨i,c,e,t,cU,hg,hl,hu⟩:=au;obtain⟨he,ht⟩:=hu _ rfl;subst ht;rw[hp] at cU;have e1:b=i:=by simpa using cU
    subst e1;refine⟨.pointer (some ⟨b,0,none⟩),?_,by rw[<-hv];exact qa⟩;simp only[Qc,JY,hv,hg];rw[z2 ⟨trivial,he,by rw[<-hl.length];exact aP⟩]
   .cases h
  .cases h
 .cases h
theorem Q2u (ai:∀ x,SR P B pl tb (ev x) (evV x)) (aF:∀ d,OR P B pl tb U (pl d) (Qe own d)) {x:Operand}(h:gq kt raw (.ext (.sliceData x)) ev own=some (cs,v)) (hc:∀ c∈cs,c):QOk P B pl tb U (.ext (.sliceData x)) evV v:=by
 have hx:=ai x;simp only[gq] at h;split at h
 .rename_i h1;obtain⟨rfl,rfl⟩:=Zy h;rw[h1] at hx;simp only[SR] at hx;exact⟨.pointer none,by simp only[Qc,JY,hx],by simp[SR]⟩
 .rename_i o h1;split at h
  .rename_i ty k xs nl ho;obtain⟨rfl,rfl⟩:=Zy h;have eM:nl=false->xs≠[]:=hc _ (by simp);rw[h1] at hx;simp only[SR] at hx;have au:=aF o;rw[ho] at au;rcases au with⟨_,_,hp⟩|⟨ku,i,cap,c,t,hp,cA,hg,_⟩
   .refine⟨.pointer none,by simp only[Qc,JY,hx.1,hp],?_⟩;simp only[SR,DR];exact .inl ⟨by rw[hp];rfl,trivial⟩
   .have aK:=zt.2 (eM ku);refine⟨.pointer (some ⟨i,0,none⟩),?_,?_⟩
    .simp only[Qc,JY,hx.1,hp,hg,Option.isSome_some,and_true];rw[z2 (by omega)]
    .simp only[SR,DR];exact .inr ⟨i,xs.length,cap,by rw[hp];rfl,aK,rfl⟩
  .cases h
 .cases h
theorem Cg {size:Nat}{i o len cap l h:Nat}{c:List Value}{e:El}{wr t:Bool}(hg:U.get i=some (.cells c e wr t)) (he:e.sz=size) (h1:l<=h) (h2:h<=cap) :
  Vz size U (.slice (some ⟨i,o,none⟩) len cap) l h none=some (.slice (some ⟨i,o+l*size,none⟩) (h-l) (cap-l),U):=by
 simp only[Vz,hg];rw[z2 ⟨he,h1,h2⟩]
theorem Z7g {H:Heap}{k:Kind}{l:List k.T}{v:Value}(h:KC H (.list k) l [v]):∃ a c,v=.slice a l.length c:=by
 obtain⟨v',e,hs⟩:=h;obtain rfl:=(zF e).1;rcases hs with⟨rfl,rfl⟩|⟨i,o,cap,c,e',wr,t,rfl,_⟩
 .exact⟨_,_,rfl⟩
 .exact⟨_,_,rfl⟩
theorem Q4e {H:Heap}(hle:H.Le U) {k:Kind}{l:List k.T}{v:Value}{a b:Nat}(h:KC H (.list k) l [v]) (k1:a<=b) (k2:b<=l.length) :
  ∃ u,Vz k.size U v a b none=some (u,U)/\KC H (.list k) ((l.drop a).take (b-a)) [u]:=by
 obtain⟨v',e,hs⟩:=h;obtain rfl:=(zF e).1;rcases hs with⟨rfl,rfl⟩|⟨i,o,cap,c,e',wr,t,rfl,h4,h5,h6,h7,h8⟩
 .simp only[List.length_nil] at k2;have za:a=0:=by omega
  have zb:b=0:=by omega
  subst za;subst zb;exact⟨.slice none 0 0,by simp only[Vz];rfl,_,rfl,.inl ⟨by simp,rfl⟩⟩
 .have hlen:((l.drop a).take (b-a)).length=b-a:=by simp;omega
  refine⟨.slice (some ⟨i,o+a*k.size,none⟩) (b-a) (cap-a),Cg (hle.2 _ _ h5) h6 (by omega) (by omega),_,rfl,.inr ⟨i,o+a*k.size,cap-a,c,e',wr,t,by rw[hlen],by rw[hlen];omega,h5,h6,?_,?_⟩⟩
  .rw[hlen];have:(a+(b-a))*k.size<=l.length*k.size:=zj _ (by omega);rw[zB] at this;omega
  .rw[hlen];have:=(h8.drop KC.q0h a).take KC.q0h (b-a);have e3:(((c.drop o).take (l.length*k.size)).drop (a*k.size)).take ((b-a)*k.size)=(c.drop (o+a*k.size)).take ((b-a)*k.size):=by
    apply x3;intro j;simp only[xi,zV];split
    .have:(a+(b-a))*k.size<=l.length*k.size:=zj _ (by omega)
     grind
    .rfl
   rw[e3] at this;exact this
theorem Z54 (ai:∀ x,SR P B pl tb (ev x) (evV x)) (hle:B.Le U) (aF:∀ d,OR P B pl tb U (pl d) (Qe own d)) {size:Nat}{x:Operand}{lo hi mx:Option Operand}(h:gq kt raw (.slice size x lo hi mx) ev own=some (cs,v)) (hc:∀ c∈cs,c):QOk P B pl tb U (.slice size x lo hi mx) evV v:=by
 have ha:=ai x;cases mx with
 |some m=>cases h
 |none =>
 simp only[gq] at h;split at h
 .rename_i o heq;rw[heq] at ha;simp only[SR] at ha;have au:=aF o;split at h
  .rename_i ty k xs nl ho;rw[ho] at au;split at h
   .rename_i aP;split at h
    .rename_i a b h1 h2;obtain⟨rfl,rfl⟩:=Zy h;have k0:0<=a:=hc _ (by simp);have k1:a<=b:=hc _ (by simp);have k2:b<=xs.length:=hc _ (by simp);have e1:=Zq (evV:=evV) (d:=0) ai h1 k0;have e2:=Zq (evV:=evV) ai h2 (by omega);rcases au with⟨_,rfl,h3⟩|⟨_,i,cap,c,t,h3,h4,h5,h6,h7⟩
     .simp only[List.length_nil] at k2 e2;have za:a.toNat=0:=by omega
      have zb:b.toNat=0:=by omega
      have zc:(b-a).toNat=0:=by omega
      refine⟨.slice none 0 0,?_,?_⟩
      .simp only[Qc,ha.1,h3,e1,e2,za,zb,Vz];rfl
      .rw[za,zc];simp only[SR];grind
     .refine⟨.slice (some ⟨i,0+a.toNat*size,none⟩) (b.toNat-a.toNat) (cap-a.toNat),?_,?_⟩
      .simp only[Qc,ha.1,h3,e1,e2]
       grind [Cg]
      .simp only[SR];refine .inr ⟨i,_,cap,cap-a.toNat,h3,by omega,by omega,?_⟩
       grind
    .cases h
   .cases h
  .cases h
 .rename_i o l0 n sz heq;rw[heq] at ha;simp only[SR] at ha;have au:=aF o;split at h
  .rename_i ty k xs nl ho;rw[ho] at au;split at h
   .rename_i aP;obtain⟨aP,rfl⟩:=aP;split at h
    .rename_i a b h1 h2;obtain⟨rfl,rfl⟩:=Zy h;have k0:0<=a:=hc _ (by simp);have k1:a<=b:=hc _ (by simp);have k2:b<=n:=hc _ (by simp);have e1:=Zq (evV:=evV) (d:=0) ai h1 k0;have e2:=Zq (evV:=evV) ai h2 (by omega);rcases ha with⟨rfl,rfl,hv,hp⟩|⟨i,len,cap,ax,h3,h4,h5,hv⟩
     .have za:a.toNat=0:=by omega
      have zb:b.toNat=0:=by omega
      have zc:(b-a).toNat=0:=by omega
      refine⟨.slice none 0 0,?_,?_⟩
      .simp only[Qc,hv,e1,e2,za,zb,Vz];rfl
      grind
     .rcases au with⟨_,_,h6⟩|⟨_,i',h_,c,t,h6,h7,h8,h9,bM⟩
      .rw[h3] at h6;cases h6
      .rw[h3] at h6;obtain⟨rfl,rfl,rfl⟩:=(by simpa using h6:i=i'/\len=xs.length/\cap=h_);refine⟨.slice (some ⟨i,l0*sz+a.toNat*sz,none⟩) (b.toNat-a.toNat) (ax-a.toNat),?_,?_⟩
       .simp only[Qc,hv,e1,e2]
        grind [Cg]
       .simp only[SR];refine .inr ⟨i,_,cap,ax-a.toNat,h3,by omega,by omega,?_⟩
        grind
    .cases h
   .cases h
  .cases h
 .rename_i k l heq;rw[heq] at ha;simp only[SR] at ha;split at h
  .rename_i aP;split at h
   .rename_i a b h1 h2;obtain⟨rfl,rfl⟩:=Zy h;have k0:0<=a:=hc _ (by simp);have k1:a<=b:=hc _ (by simp);have k2:b<=l.length:=hc _ (by simp);have e1:=Zq (evV:=evV) (d:=0) ai h1 k0;have e2:=Zq (evV:=evV) ai h2 (by omega);obtain⟨v',e⟩:=zT.1 (KC.length ha);obtain⟨u,g1,g2⟩:=Q4e hle (a:=a.toNat) (b:=b.toNat) ha (by omega) (by omega);obtain⟨n,cap,e3⟩:=Z7g ha;refine⟨u,?_,?_⟩
    .simp only[Qc,e3,e1,e2];rw[<-aP,<-e3];exact g1
    .simp only[SR]
     grind
   .cases h
  .cases h
 .rename_i o w heq;rw[heq] at ha;simp only[SR] at ha;have au:=aF o;split at h
  .rename_i ty q k xs nl hole ho;rw[ho] at au
   have key:∀ (k:Kind) (l:List k.T),KC (Wn (pl o)) (.list k) l [evV x]->(if k.size=size then (match K7 ev lo 0,K7 ev hi l.length with
     |some a,some b=>some ([0<=a,a<=b,b<=(l.length:Int)],SV.dd o (.inn k ((l.drop a.toNat).take (b-a).toNat)))
     |_,_=>none) else none)=some (cs,v)->QOk P B pl tb U (.slice size x lo hi none) evV v:=by
    intro k l ha h;split at h
    .rename_i aP;split at h
     .rename_i a b h1 h2;obtain⟨rfl,rfl⟩:=Zy h;have k0:0<=a:=hc _ (by simp);have k1:a<=b:=hc _ (by simp);have k2:b<=l.length:=hc _ (by simp);have e1:=Zq (evV:=evV) (d:=0) ai h1 k0;have e2:=Zq (evV:=evV) ai h2 (by omega);obtain⟨u,g1,g2⟩:=Q4e (DP.le au) (a:=a.toNat) (b:=b.toNat) ha (by omega) (by omega);obtain⟨n,cap,e3⟩:=(AI ha).len;refine⟨u,?_,?_⟩
      .simp only[Qc,e3,e1,e2];rw[<-aP,<-e3];exact g1
      .simp only[SR,DR]
       grind
     .cases h
    .cases h
   split at h
   .exact key _ _ ha h
   .exact key _ _ ha.1 h
   .cases h
  .cases h
 .rename_i heq;rw[heq] at ha;simp only[SR] at ha;split at h
  .rename_i a b h1 h2;obtain⟨rfl,rfl⟩:=Zy h;have k0:a=0:=hc _ (by simp);have k1:b=0:=hc _ (by simp);subst k0;subst k1;have e1:=Zq (evV:=evV) (d:=0) ai h1 (Int.le_refl _);have e2:=Zq (evV:=evV) (d:=0) ai h2 (Int.le_refl _);refine⟨.slice none 0 0,?_,?_⟩
   .simp only[Qc,ha,e1,e2,Vz];rfl
   .simp only[SR]
  .cases h
 .cases h
theorem Z4f (ai:∀ x,SR P B pl tb (ev x) (evV x)) {neg:Bool}{x y:Operand}(aF:∀ d,OR P B pl tb U (pl d) (Qe own d)) (h:gq kt raw (.ext (.eqNil 1 neg x y)) ev own=some (cs,v)) (hc:∀ c∈cs,c):QOk P B pl tb U (.ext (.eqNil 1 neg x y)) evV v:=by
 have ha:=ai x;have hb:=ai y;simp only[gq] at h;split at h
 .rename_i h1 h2;rw[h1] at ha;rw[h2] at hb;simp only[SR] at ha hb;obtain⟨rfl,rfl⟩:=Zy h;refine⟨.bool (!neg),?_,Js _⟩;simp only[Qc,JY,ha,hb,Xk];cases neg<;>rfl
 .rename_i o h1 h2;rw[h1] at ha;rw[h2] at hb;simp only[SR] at ha hb;have au:=aF o;split at h
  .rename_i ty k xs nl ho;rw[ho] at au;obtain⟨rfl,rfl⟩:=Zy h;refine⟨.bool (bif neg then !nl else nl),?_,Js _⟩;rcases au with⟨rfl,_,h3⟩|⟨rfl,i,cap,c,t,h3,_⟩
   .simp only[Qc,JY,ha.1,h3,hb,Xk];cases neg<;>rfl
   .simp only[Qc,JY,ha.1,h3,hb,Xk];cases neg<;>rfl
  .cases h
 .rename_i o h1 h2;rw[h1] at ha;rw[h2] at hb;simp only[SR] at ha hb;have au:=aF o;split at h
  .rename_i ty q k xs nl hole ho;rw[ho] at au;obtain⟨rfl,rfl⟩:=Zy h;refine⟨.bool (bif neg then !nl else nl),?_,Js _⟩;obtain⟨is,_,_,g2,_,_,g5⟩:=au;obtain⟨e1,_⟩:=ha;rcases g2 with⟨_,h3,_⟩|⟨i,cap,c,t,js,h3,_⟩
   .obtain rfl:=g5.2 h3;simp only[Qc,JY,e1,h3,hb,Xk];cases neg<;>rfl
   .have hn:nl=false:=by
     simp_all
    subst hn;simp only[Qc,JY,e1,h3,hb,Xk];cases neg<;>rfl
  .cases h
 .rename_i k l h1 h2;rw[h1] at ha;rw[h2] at hb;simp only[SR] at ha hb;obtain⟨rfl,rfl⟩:=Zy h;have hl:=hc (l≠[]) (by simp);refine⟨.bool neg,?_,Js _⟩;obtain⟨u,hu,hs⟩:=ha;obtain rfl:=(zF hu).1;rcases hs with⟨e,_⟩|⟨i,o,cap,c,e,wr,t,h3,_⟩
  .exact absurd e hl
  .simp only[Qc,JY,h3,hb,Xk];cases neg<;>rfl
 .cases h
theorem Z2f (ai:∀ x,SR P B pl tb (ev x) (evV x)) {mk:MK}{z:Value}{ok:Bool}{x i:Operand}(_hle:B.Le U) (aF:∀ d,OR P B pl tb U (pl d) (Qe own d)) (h:gq kt raw (.ext (.lookup mk z ok x i)) ev own=some (cs,v)):QOk P B pl tb U (.ext (.lookup mk z ok x i)) evV v:=by
 have ha:=ai x;simp only[gq] at h;split at h
 .rename_i o h1;rw[h1] at ha;simp only[SR] at ha;have au:=aF o;split at h
  .rename_i kk vk m ho;rw[ho] at au;obtain⟨id,es,clock,h2,h3,h4⟩:=au;split at h
   .rename_i bQ;obtain⟨bQ,hz⟩:=bQ;split at h
    .rename_i key aS;have hk:=MT aS (ai i) QK;have bG:=GC bQ hk;have hall:=MR.keys bQ h4.1;have qb:KV B vk vk.dflt z:=SK hz;have aH:U.mapAt id=some (es,clock,true):=by simp[Heap.mapAt,h3]
     have aO:=MR.find bQ hk qb h4.1
     have base:∀ u,(match Qq (evV i) es with
      |some e=>some (if ok then Value.tuple #[e.2.1,.bool true] else e.2.1,U)
      |none=>some (if ok then .tuple #[z,.bool false] else z,U))=some (u,U)->Qc (.ext (.lookup mk z ok x i)) evV U=some (u,U):=λu hu=>by
      simp only[Qc,JY,bG,zn,ha.1,h2,aH,hall];exact hu
     cases ok with
     |true =>
      simp only[zn] at h;obtain⟨rfl,rfl⟩:=Zy h;rcases aO with⟨e,k1,k2,k3⟩|⟨k1,k2,k3⟩
      .refine⟨.tuple #[e.2.1,.bool true],base _ (by rw[k1];rfl),?_⟩;simp only[SR];refine⟨[e.2.1,.bool true],rfl,?_⟩;simp only[SRs,SR];exact⟨_,_,rfl,W0 k3,_,_,rfl,by simp[KC,k2],rfl⟩
      .refine⟨.tuple #[z,.bool false],base _ (by rw[k1];rfl),?_⟩;simp only[SR];refine⟨[z,.bool false],rfl,?_⟩;simp only[SRs,SR];exact⟨_,_,rfl,by rw[k3];exact W0 qb,_,_,rfl,by simp[KC,k2],rfl⟩
     |false =>
      simp only[zk,if_false] at h;obtain⟨rfl,rfl⟩:=Zy h;rcases aO with⟨e,k1,k2,k3⟩|⟨k1,k2,k3⟩
      .exact⟨e.2.1,base _ (by rw[k1];rfl),W0 k3⟩
      .exact⟨z,base _ (by rw[k1];rfl),by rw[k3];exact W0 qb⟩
    .cases h
   .cases h
  .cases h
 .cases h
theorem Z1h (ai:∀ x,SR P B pl tb (ev x) (evV x)) {x:Operand}(aF:∀ d,OR P B pl tb U (pl d) (Qe own d)) (h:gq kt raw (.ext (.lenMap x)) ev own=some (cs,v)):QOk P B pl tb U (.ext (.lenMap x)) evV v:=by
 have ha:=ai x;simp only[gq] at h;split at h
 .rename_i o h1;rw[h1] at ha;simp only[SR] at ha;have au:=aF o;split at h
  .rename_i kk vk m ho;rw[ho] at au;obtain⟨id,es,clock,h2,h3,h4⟩:=au;obtain⟨rfl,rfl⟩:=Zy h;have aH:U.mapAt id=some (es,clock,true):=by simp[Heap.mapAt,h3]
   refine⟨.int .i64 es.length,by simp only[Qc,JY,ha.1,h2,aH],?_⟩;rw[h4.1.length];exact WT _ _
  .cases h
 .cases h
theorem MR.at {kk vk:Kind}:∀ {m:List (kk.T×vk.T)}{es:List XY}{r:Nat}{e:XY},MR B kk vk m es->es[r]?=some e->∃ h:r<m.length,KV B kk m[r].1 e.1/\KV B vk m[r].2 e.2.1
 |[],es,r,e,h,he=>by simp only[MR] at h;subst h;simp at he
 |x::m,es,r,e,h,he=>by
  obtain⟨e',bV,rfl,h1,h2,h3⟩:=h;cases r with
  |zero=>simp only[List.getElem?_cons_zero,xg] at he;subst he;exact⟨by simp,h1,h2⟩
  |succ r =>obtain⟨k1,k2,k3⟩:=MR.at h3 (by simpa using he);exact⟨by simpa using k1,k2,k3⟩
theorem Tp:∀ {k:Kind},k.keyk=true->∀ {x:k.T}{cs:List Value},KC B k x cs->cs.all Jy=true
 |.pair a b,hk,x,cs,h=>by simp only[Kind.keyk,z1] at hk;obtain⟨c1,c2,rfl,h1,h2⟩:=h;rw[List.all_append,Tp hk.1 h1,Tp hk.2 h2];rfl
 |.i _,_,x,cs,h=>by simp only[KC] at h;subst h;rfl
 |.bo,_,x,cs,h=>by simp only[KC] at h;subst h;rfl
 |.st,_,x,cs,h=>by simp only[KC] at h;subst h;rfl
 |.list _,hk,_,_,_=>by cases hk
theorem Q0h {k:Kind}(hk:k.keyk=true) {x:k.T}{v:Value}(h:KV B k x v):Bn v=true:=by
 rcases h with⟨ho,h⟩|⟨ho,cs,rfl,h⟩
 .have:=Tp hk h;rw[zM,z1] at this;have hp:=this.1;cases v<;>first|exact hp|cases hp
 .show cs.toArray.toList.all Jy=true;exact Tp hk h
theorem TM {es:List XY}{clock:Nat}(h:SOk es clock) {r r':Nat}{e e':XY}(h1:es[r]?=some e) (h2:es[r']?=some e') (he:e.2.2=e'.2.2):r=r':=by
 obtain⟨k1,rfl⟩:=zm.1 h1;obtain⟨k2,rfl⟩:=zm.1 h2;have:=h.1
 grind [List.pairwise_iff_getElem,Nat.lt_trichotomy]
theorem Q7h {es:List XY}{clock:Nat}(h:SOk es clock) {r:Nat}{e:XY}(h1:es[r]?=some e):es.find? (λe'=>e'.2.2==e.2.2)=some e:=by
 obtain⟨k1,rfl⟩:=zm.1 h1;rw[List.find?_eq_some_iff_getElem];refine⟨by simp,r,k1,rfl,λj hj=>?_⟩;have cH:j<es.length:=by omega
 simp only[Bool.not_eq_true',zW];intro he;have:=TM h (z3 cH) h1 he;omega
theorem Z5k (ai:∀ x,SR P B pl tb (ev x) (evV x)) (hle:B.Le U) (aF:∀ d,OR P B pl tb U (pl d) (Qe own d)) {x:Operand}(h:gq kt raw (.ext (.entry x)) ev own=some (cs,v)) (hc:∀ c∈cs,c):QOk P B pl tb U (.ext (.entry x)) evV v:=by
 simp only[gq] at h;split at h
 .rename_i o f h1;split at h
  .rename_i kk vk m dn ho;split at h
   .rename_i ah;obtain⟨rfl,hk,hv⟩:=ah;obtain⟨rfl,rfl⟩:=Zy h;have tQ:dn≠[]:=hc _ (by simp);have e1:=ai x;rw[h1] at e1;simp only[SR] at e1;obtain⟨b,e2,e3⟩:=e1;have au:=aF o;rw[ho] at au;obtain⟨j,i,es,clock,wr,seen,h2,h3,h4,h5,h6⟩:=au;rw[h2] at e2;obtain rfl:j=b:=by simpa using e2
    have br:0<dn.length:=zt.2 tQ;have fc:dn[dn.length-1]?=some (dn.getLastD 0):=by
     grind
    obtain⟨e,lR,jz⟩:=h6.2 _ _ fc;have fT:seen.getLast?=some e.2.2:=by rw[List.getLast?_eq_getElem?,h6.1];exact jz
    obtain⟨hr,k1,k2⟩:=MR.at h5.1 lR;have k2:=k2.kc hv;have aH:U.mapAt i=some (es,clock,wr):=by simp[Heap.mapAt,hle.2 _ _ h4]
    have cJ:=Q7h h5.2 lR;refine⟨.tuple #[e.1,e.2.1],?_,?_⟩
    .simp only[Qc,JY,e3,h3,aH,fT,cJ,zn];rw[z2 (Q0h hk k1)]
    .simp only[SR,SRs]
     grind [List.getElem?_eq_getElem,W0]
   .cases h
  .cases h
 .cases h
theorem OG (ai:∀ x,SR P B pl tb (ev x) (evV x)) (fK:∀ c,evV (.const c)=c) (hle:B.Le U) (aF:∀ d,OR P B pl tb U (pl d) (Qe own d)) {o:VOp}(h:gq kt raw o ev own=some (cs,v)) (hc:∀ c∈cs,c):QOk P B pl tb U o evV v:=by
 cases o with
 |move x=>obtain⟨rfl,rfl⟩:=Zy h;exact⟨evV x,rfl,ai x⟩
 |arith=>exact Z53 ai h hc
 |div=>exact Z9x ai h hc
 |bits=>exact Z7l ai h
 |shift=>exact Z4m ai h hc
 |cmp=>exact Z94 ai h
 |str=>exact J0l ai h hc
 |eqB=>exact J06 ai h
 |un=>exact J1x ai h hc
 |convI=>exact Z5i ai h hc
 |convS=>exact Z4b ai h
 |build=>exact Z5u ai h
 |load=>exact Z6k ai hle aF h
 |fieldAddr=>exact Q3u ai h
 |field=>exact Z4i ai h
 |indexAddr=>exact Q3t ai hle aF h hc
 |indexAddrArr=>exact Fo ai fK h
 |indexStr=>exact Q78 ai h hc
 |indexArr=>exact Q5u ai fK h
 |slice=>exact Z54 ai hle aF h hc
 |sliceStr=>exact Q7j ai h hc
 |len=>exact Z8r ai aF h
 |lenStr=>exact Z39 ai h
 |max=>exact Z9a ai h
 |max4=>exact Z7f ai h
 |min=>exact J0v ai h
 |makeFunc=>exact Q61 ai h
 |extract=>exact Q85 ai h
 |nilCheck=>exact Q6a ai h
 |ext x =>
  cases x with
  |eqNil k neg a b =>
   match k with
   |1=>exact Z4f ai aF h hc
   |0=>exact Z3c ai aF h hc
   |(n+2)=>cases h
  |eqAgg n s a b=>exact Z58 ai h
  |toUnsafe a=>exact Q6k ai aF h
  |fromUnsafe u size a=>exact Q0n ai aF h
  |sliceData a=>exact Q2u ai aF h hc
  |bytesStr a=>exact Q6o ai hle aF h
  |lookup=>exact Z2f ai hle aF h
  |lenMap=>exact Z1h ai aF h
  |entry a=>exact Z5k ai hle aF h hc
  |_=>cases h
 |_=>cases h
end
end
end Go.V
namespace Go.V
open Go
theorem J1k {α:Type}{l:List α}(h:¬ l=[]) (b:Bool):(l.isEmpty&&b)=false:=by simp_all
theorem Z8s {α:Type}{l:List α}(h:¬ l=[]):l.isEmpty=false:=by simp_all
theorem S2 {c vs:List Value}{o:Nat}(h:o+vs.length<=c.length):M1 c o vs=c.take o++vs++c.drop (o+vs.length):=by
 apply x3;intro k;rcases zu k o with hk|hk
 .rw[Np vs c o k (.inl hk),zX,xD (by simp;omega),xi,z2 hk]
 .rcases zu k (o+vs.length) with aC|aC
  .have:=Q03 vs c o (k-o) h (by omega)
   grind
  .rw[Np vs c o k (.inr aC),xA (by simp;omega),zV];congr 1;simp;omega
theorem Z34 (us c:List Value) {m p n off:Nat}(h1:off+us.length<=n) (h2:p+n<=m) (h3:m<=c.length) :
  (M1 c (p+off) us).take m=(c.take m).take p++M1 (((c.take m).drop p).take n) off us++(c.take m).drop (p+n):=by
 have l1:(((c.take m).drop p).take n).length=n:=by simp;omega
 have cP:∀ q,q<n->(((c.take m).drop p).take n)[q]?=c[p+q]?:=(by simp_all);generalize ((c.take m).drop p).take n=row at l1 cP;have l2:((c.take m).take p).length=p:=by simp;omega
 have l3:(M1 row off us).length=n:=by rw[Ko,l1]
 have g2:∀ q,q<p->((c.take m).take p)[q]?=c[q]?:=(by simp_all);generalize (c.take m).take p=pre at l2 g2;apply x3;intro j;rw[xi,zX];by_cases hj:j<m
 .rw[z2 hj];rcases zu j p with a1|a1
  .grind [Np,List.getElem?_append_left]
  .rw[xA (by omega),l2];rcases zu j (p+n) with a2|a2
   .rw[xD (by omega)];rcases zu (j-p) off with a3|a3
    .grind [Np]
    .rcases zu (j-p) (off+us.length) with a4|a4
     .have b1:=Q03 us c (p+off) (j-(p+off)) (by omega) (by omega);have b2:=Q03 us row off (j-(p+off)) (by omega) (by omega);rw[show p+off+(j-(p+off))=j by omega] at b1;rw[show off+(j-(p+off))=j-p by omega] at b2;rw[b1,b2]
     grind [Np]
   .rw[Np us c _ j (.inr (by omega)),xA (by omega),zV,xi,l3,z2 (by omega)];congr 1;omega
 grind
theorem Heap.Le.push {B U:Heap}(h:B.Le U) (b:Blk):B.Le (U.push b) :=
 ⟨by have:=h.1;simp;omega,λi b' hb=>by rw[Heap.q0l _ _ (U.lt (h.2 i b' hb))];exact h.2 i b' hb⟩
theorem Heap.Le.upd {B U:Heap}(h:B.Le U) {i:Nat}(hi:B.get i=none) (b:Blk):B.Le (U.upd i b) :=
 ⟨by simpa using h.1,λj b' hb=>by
  have:j≠i:=(by grind);rw[Heap.q0b _ _ this];exact h.2 j b' hb⟩
theorem Heap.Le.kill {B U:Heap}(h:B.Le U) {i:Nat}(hi:B.get i=none):B.Le (U.kill i) :=
 ⟨by simpa using h.1,λj b' hb=>by
  have:j≠i:=(by grind);rw[Heap.q0c _ this];exact h.2 j b' hb⟩
theorem Heap.Le.fresh {B U:Heap}(h:B.Le U):B.get U.n=none:=B.wf _ h.1
section
variable {P:Program}{B F:Heap}{pl:Nat->Value}{tb:Nat->Option Bool}{s:St}{env:Env}{U:Heap}
theorem OR.q0v {p:Value}{b:OB}(h:OR P B pl tb U p b) (hl:b.live=true) {i:Nat}(hi:Oid p i):i<U.n:=by
 cases b with
 |dead=>cases hl
 |lst ty k xs nl =>
  rcases h with⟨_,_,rfl⟩|⟨_,i',cap,c,t,rfl,_,h3,_⟩
  .cases hi
  .obtain rfl:=osj hi;exact U.lt h3
 |cells l u=>obtain⟨i',c,e,t,rfl,h2,_⟩:=h;obtain rfl:=osj hi;exact U.lt h2
 |map kk vk m=>obtain⟨i',es,clock,rfl,h2,_⟩:=h;obtain rfl:=osj hi;exact U.lt h2
 |mapE kk vk m key n=>obtain⟨i',es,clock,r,e,rfl,h2,_⟩:=h;obtain rfl:=osj hi;exact U.lt h2
 |iter kk vk m dn=>obtain⟨j,i',es,clock,wr,seen,rfl,h2,_⟩:=h;obtain rfl:=osj hi;exact U.lt h2
 |lpf l q s=>obtain⟨rfl,_,h2⟩:=h;obtain rfl:=osj hi;exact U.lt (h2 hl)
 |deep ty q k xs nl hh =>obtain⟨is,hO,_,_,_,h4,_⟩:=h;obtain⟨b',cZ⟩:=(hO i).1 hi;exact U.lt (h4 i b' cZ)
 |stk l vals=>cases hl
theorem Gam.push (h:Gam P B F pl tb s env U) (d:Nat) (b:OB) (p:Value) (blk:Blk) (hp:oid p=some U.n) (hb:OR P B (Xd pl d p) tb (U.push blk) p b):Gam P B F (Xd pl d p) tb (s.make d b) env (U.push blk):=by
 refine h.make d b p (h.le.push blk) (λj i hj hl hi=>?_) hb (λi _ hi=>?_)
 .exact Heap.q0l _ _ ((h.obj j).q0v hl hi)
 .obtain rfl:=Z0h hp hi;exact⟨h.le.fresh,λj _ hl e=>by have:=(h.obj j).q0v hl e;omega⟩
theorem Rows.cellOk {k:Kind}{xs:List k.T}{cs:List Value}(h:Rows (KC B k) xs cs):cs.all Go.V.cellOk=true:=by
 induction h with
 |nil=>rfl
 |cons h _ ih=>rw[List.all_append,KC.cellOk h,ih];rfl
theorem RU {pl:Nat->Value}:∀ {k:Kind}{off:Nat}{v:SV}{u:Value}{x y:k.T}{row:List Value},Z70 k off v x=some y->KC B k x row->SR P B pl tb v u->off<k.size->KC B k y (M1 row off [u])
 |.pair a b,off,v,u,x,y,row,h,hr,hv,ho=>by
  obtain⟨c1,c2,rfl,h1,h2⟩:=hr;have l1:=KC.length h1;have l2:=KC.length h2;simp only[Z70] at h;simp only[M1];cases hb:Nat.blt off a.size with
  |true =>
   rw[hb] at h;simp only[zd,zi] at h;obtain⟨z,h3,rfl⟩:=h;have aQ:off<a.size:=by simpa [zy] using hb
   have:=RU h3 h1 hv aQ;exact⟨c1.set off u,c2,by simp_all,this,h2⟩
  |false =>
   rw[hb] at h;simp only[zI,zi] at h;obtain⟨z,h3,rfl⟩:=h;have aQ:¬ off<a.size:=by
    grind [Nat.blt_eq]
   simp only[Kind.size] at ho;have:=RU h3 h2 hv (by omega);refine⟨c1,c2.set (off-a.size) u,?_,h1,this⟩;rw[List.set_append_right _ _ (by omega),l1]
 |.i ik,off,v,u,x,y,row,h,hr,hv,ho=>by
  have:=QK (k:=.i ik) h (show SRs P B pl tb [v] [u] by simp only[SRs];exact⟨_,[],rfl,hv,rfl⟩);have hl:=KC.length hr;simp only[Kind.size] at hl ho;obtain⟨c,rfl⟩:=zT.1 hl;obtain rfl:off=0:=by omega
  exact this
 |.bo,off,v,u,x,y,row,h,hr,hv,ho=>by
  have:=QK (k:=.bo) h (show SRs P B pl tb [v] [u] by simp only[SRs];exact⟨_,[],rfl,hv,rfl⟩);have hl:=KC.length hr;simp only[Kind.size] at hl ho;obtain⟨c,rfl⟩:=zT.1 hl;obtain rfl:off=0:=by omega
  exact this
 |.st,off,v,u,x,y,row,h,hr,hv,ho=>by
  have:=QK (k:=.st) h (show SRs P B pl tb [v] [u] by simp only[SRs];exact⟨_,[],rfl,hv,rfl⟩);have hl:=KC.length hr;simp only[Kind.size] at hl ho;obtain⟨c,rfl⟩:=zT.1 hl;obtain rfl:off=0:=by omega
  exact this
 |.list k,off,v,u,x,y,row,h,hr,hv,ho=>by
  have:=QK (k:=.list k) h (show SRs P B pl tb [v] [u] by simp only[SRs];exact⟨_,[],rfl,hv,rfl⟩);have hl:=KC.length hr;simp only[Kind.size] at hl ho;obtain⟨c,rfl⟩:=zT.1 hl;obtain rfl:off=0:=by omega
  exact this
theorem Hv {mk:MK}{kk vk:Kind}(hk:gq.mkOk mk kk=true) {key:kk.T}{x:vk.T}{kv xv:Value}{clock:Nat}(aS:KV B kk key kv) (hx:KV B vk x xv):∀ {m:List (kk.T×vk.T)}{es:List XY},MR B kk vk m es->MR B kk vk (Dk kk m key x) (QM kv xv clock es).1
 |[],es,h=>by simp only[MR] at h;subst h;exact⟨_,[],rfl,aS,hx,rfl⟩
 |m::ms,es,h=>by
  obtain⟨e,bV,rfl,h2,h3,h4⟩:=h;have hq:=Ro hk aS h2;simp only[QM,Dk,hq];cases gq.keq kk key m.1 with
  |true=>exact⟨_,bV,rfl,aS,hx,h4⟩
  |false=>exact⟨e,_,rfl,h2,h3,Hv hk aS hx h4⟩
theorem TJ (k v:Value) (clock:Nat):∀ es:List XY,((QM k v clock es).2=clock/\(QM k v clock es).1.map (λe=>e.2.2)=es.map λe=>e.2.2)\/((QM k v clock es).2=clock+1/\(QM k v clock es).1.map (λe=>e.2.2)=(es.map λe=>e.2.2)++[clock])
 |[]=>.inr ⟨rfl,rfl⟩
 |e::es=>by
  simp only[QM];split
  .exact .inl ⟨rfl,rfl⟩
  .rcases TJ k v clock es with⟨h1,h2⟩|⟨h1,h2⟩
   .exact .inl ⟨h1,by simp[h2]⟩
   .exact .inr ⟨h1,by simp[h2]⟩
theorem SOk.put {es:List XY}{clock:Nat}(h:SOk es clock) {k v:Value}:SOk (QM k v clock es).1 (QM k v clock es).2:=by
 obtain⟨h1,h2⟩:=h;have mem:∀ (l:List XY) (x:Nat),x∈l.map (λe=>e.2.2)<->∃ e∈l,e.2.2=x:=λl x=>by simp
 rcases TJ k v clock es with⟨e1,e2⟩|⟨e1,e2⟩
 .refine⟨by rw[e2];exact h1,λe he=>?_⟩;have:e.2.2∈es.map λe=>e.2.2:=by grind
  grind
 .refine⟨?_,λe he=>?_⟩
  .grind
  .have:e.2.2∈(es.map λe=>e.2.2)++[clock]:=by grind
   grind
theorem Iv {mk:MK}{kk vk:Kind}(hk:gq.mkOk mk kk=true) {key:kk.T}{kv:Value}(aS:KV B kk key kv):∀ {m:List (kk.T×vk.T)}{es:List XY},MR B kk vk m es->MR B kk vk (Z3a kk m key) (Mv kv es)
 |[],es,h=>by simp only[MR] at h;subst h;rfl
 |m::ms,es,h=>by
  obtain⟨e,bV,rfl,h2,h3,h4⟩:=h;have hq:=Ro hk aS h2;simp only[Mv,Z3a,hq];cases gq.keq kk key m.1 with
  |true=>exact h4
  |false=>exact⟨e,_,rfl,h2,h3,Iv hk aS h4⟩
theorem Sr (k:Value):∀ es:List XY,(Mv k es).Sublist es
 |[]=>.slnil
 |e::es=>by
  simp only[Mv];split
  .exact List.sublist_cons_self _ _
  .exact(Sr k es).cons_cons _
theorem SOk.del {es:List XY}{clock:Nat}(h:SOk es clock) {k:Value}:SOk (Mv k es) clock :=
 ⟨h.1.sublist ((Sr k es).map _),λe he=>h.2 e ((Sr k es).subset he)⟩
def Fr (T:Nat) (s s':St) (pl pl':Nat->Value) (U U':Heap):Prop :=
 ∀ q,q≠T->(Qe s'.own q).live=(Qe s.own q).live/\pl' q=pl q/\((Qe s.own q).live=true->∀ i,Oid (pl q) i->U'.get i=U.get i)
theorem MI (s:St) (d:Nat) (b:OB) {q:Nat}(hq:q≠d):(Qe (s.make d b).own q).live=(Qe s.own q).live:=by simp only[St.make,St.kill,Qn,Mt,z0 hq,OB.q0t]
theorem Gam.makeF {s:St}{env:Env}{U U':Heap}{pl:Nat->Value}(h:Gam P B F pl tb s env U) (d:Nat) (b:OB) (p:Value) (hle:F.Le U') (ho:∀ j i,j≠d->(Qe s.own j).live=true->Oid (pl j) i->U'.get i=U.get i)
  (hb:OR P B (Xd pl d p) tb U' p b) (hf:∀ i,b.live=true->Oid p i->F.get i=none/\∀ j,j≠d->(Qe s.own j).live=true->¬ Oid (pl j) i):Gam P B F (Xd pl d p) tb (s.make d b) env U'/\Fr d s (s.make d b) pl (Xd pl d p) U U' :=
 ⟨h.make d b p hle ho hb hf,λq hq=>⟨MI s d b hq,by simp[Xd,hq],λhl i hi=>ho q i hq hl hi⟩⟩
theorem Gam.writeF {s:St}{env:Env}{U U':Heap}{pl:Nat->Value}(h:Gam P B F pl tb s env U) (d:Nat) (b:OB) (hle:F.Le U') (aq:(Qe s.own d).live=true)
  (dz:∀ j i,j≠d->(Qe s.own j).live=true->Oid (pl j) i->U'.get i=U.get i) (hb:OR P B pl tb U' (pl d) b):Gam P B F pl tb ⟨s.env,oset s.own d b,s.nx⟩ env U'/\Fr d s ⟨s.env,oset s.own d b,s.nx⟩ pl pl U U' :=
 ⟨h.write d b hle aq dz hb,λq hq=>⟨by simp only[Qn,z0 hq],rfl,λhl i hi=>dz q i hq hl hi⟩⟩
theorem Gam.pushF {s:St}{env:Env}{U:Heap}{pl:Nat->Value}(h:Gam P B F pl tb s env U) (d:Nat) (b:OB) (p:Value) (blk:Blk) (hp:oid p=some U.n) (hb:OR P B (Xd pl d p) tb (U.push blk) p b):Gam P B F (Xd pl d p) tb (s.make d b) env (U.push blk)/\Fr d s (s.make d b) pl (Xd pl d p) U (U.push blk) :=
 ⟨h.push d b p blk hp hb,λq hq=>⟨MI s d b hq,by simp[Xd,hq],λhl i hi=>Heap.q0l _ _ ((h.obj q).q0v hl hi)⟩⟩
def NOk (P:Program) (B F:Heap) (tb:Nat->Option Bool) (o:VOp) (evV:Operand->Value) (env:Env) (U:Heap) (K:SV->St->Prop) (T:Nat) (s:St) (pl:Nat->Value):Prop :=
 ∃ u U' pl' v s',Qc o evV U=some (u,U')/\K v s'/\(Gam P B F pl' tb s' env U'/\Fr T s s' pl pl' U U')/\SR P B pl' tb v u
theorem YA (pl:Nat->Value) (d:Nat) (p:Value):Xd pl d p d=p:=by simp[Xd]
section
variable {C:Cx}{d:Nat}{ev:Operand->SV}{evV:Operand->Value}{K:SV->St->Prop}
theorem Q99 (ai:∀ x,SR P B pl tb (ev x) (evV x)) (hG:Gam P B F pl tb s env U) {t:Nat}{z:List Value}(h:gn C d (.alloc t z) ev s K):NOk P B F tb (.alloc t z) evV env U K (Z2 d (.alloc t z) ev) s pl:=by
 have _hev:=ai;simp only[gn] at h;refine⟨.pointer (some ⟨U.n,0,none⟩),_,Xd pl d (.pointer (some ⟨U.n,0,none⟩)),_,_,rfl,h,hG.pushF d _ _ _ rfl ?_,?_⟩
 .refine⟨U.n,z,_,_,rfl,Heap.q0a _ _,?_,(by simp_all)⟩;have hz:SRs P B (Xd pl d (.pointer (some ⟨U.n,0,none⟩))) tb (z.map cvp) (z.map id):=SRs.map λx _=>Rz x
  rwa [List.map_id] at hz
 .simp only[SR,YA];exact⟨_,rfl,rfl⟩
theorem Z78 (ai:∀ x,SR P B pl tb (ev x) (evV x)) (hG:Gam P B F pl tb s env U) {t:Nat}{x:Operand}(h:gn C d (.box t x) ev s K):NOk P B F tb (.box t x) evV env U K (Z2 d (.box t x) ev) s pl:=by
 simp only[gn] at h;split at h
 .rename_i l hl;obtain⟨c,h1,h2,_⟩:=KR hl (ai x);refine⟨.pointer (some ⟨U.n,0,none⟩),U.push (.cells c ⟨c.length,t⟩ true true),Xd pl d (.pointer (some ⟨U.n,0,none⟩)),_,_,by simp only[Qc,h1],h,hG.pushF d _ _ _ rfl ?_,?_⟩
  .exact⟨U.n,c,_,_,rfl,Heap.q0a _ _,SRs.upd (Heap.Le.refl B) (λ_ _ h=>h) (λj hj=>by simp[Xd,hj]) _ _ h2,(by simp_all)⟩
  .simp only[SR,YA];exact⟨_,rfl,rfl⟩
 .cases h
theorem SH (ai:∀ x,SR P B pl tb (ev x) (evV x)) {k:Kind}:∀ {ps:List (Nat×Operand)}{xs ys:List k.T}{c:List Value},Q1n k ev ps xs=some ys->Rows (KC B k) xs c ->
  ys.length=xs.length/\∃ c',RI c (ps.map λp=>(p.1*k.size,k.size,evV p.2))=some c'/\Rows (KC B k) ys c'
 |[],xs,ys,c,h,hr=>by obtain rfl:=osj h;exact⟨rfl,c,rfl,hr⟩
 |(j,x)::r,xs,ys,c,h,hr=>by
  simp only[Q1n] at h;split at h
  .rename_i l hl;split at h
   .rename_i y hy;split at h
    .rename_i hj;obtain⟨vs,h1,h2,_⟩:=KR hl (ai x);have hk:=QK hy h2;have hlen:=KC.length hk;have cg:=hr.length KC.q0h;have cH:(j+1)*k.size<=xs.length*k.size:=zj _ hj;rw[zB,xx] at cH;have bA:=hr.set KC.q0h hj hk;have e:M1 c (j*k.size) vs=c.take (j*k.size)++vs++c.drop (j*k.size+k.size):=by
      rw[S2 (by omega),hlen]
     rw[<-e] at bA;obtain⟨h3,c',h4,h5⟩:=SH ai h bA;refine⟨by rw[h3,xc],c',?_,h5⟩;simp only[zx,RI,h1];simp_all
    .cases h
   .cases h
  .cases h
theorem BW (ai:∀ x,SR P B pl tb (ev x) (evV x)) (hG:Gam P B F pl tb s env U) {e:El}{z:List Value}{n:Nat}{ps:List (Nat×Operand)}(h:gn C d (.buildSlice e z n ps) ev s K):NOk P B F tb (.buildSlice e z n ps) evV env U K (Z2 d (.buildSlice e z n ps) ev) s pl:=by
 simp only[gn] at h;split at h
 .rename_i k _;split at h
  .rename_i hc;obtain⟨aP,hz⟩:=hc;split at h
   .rename_i xs hx;have qc:KC B k k.dflt z:=KS hz;have cP:Rows (KC B k) (List.replicate n k.dflt) (Q0a n z):=by rw[Mm];exact Rows.replicate qc n
    obtain⟨h3,c',h4,h5⟩:=SH (B:=B) ai hx cP;rw[xl] at h3;have cg:=h5.length KC.q0h;refine⟨.slice (some ⟨U.n,0,none⟩) n n,U.push (.cells c' e true true),Xd pl d (.slice (some ⟨U.n,0,none⟩) n n),_,_,?_,h,hG.pushF d _ _ _ rfl ?_,?_⟩
    .simp only[Qc];rw[<-aP,h4]
    .refine .inr ⟨rfl,U.n,n,c',true,by rw[h3],by omega,?_,by rw[cg,h3];exact z5 _,?_⟩
     .rw[Heap.q0a,aP]
     grind
    .simp only[SR,YA];exact⟨trivial,_,_,_,rfl⟩
   .cases h
  .cases h
 .cases h
theorem AB (ai:∀ x,SR P B pl tb (ev x) (evV x)) (hG:Gam P B F pl tb s env U) {e:El}{bytes:Nat}{z:List Value}{l c:Operand}(h:gn C d (.makeSlice e bytes z l c) ev s K):NOk P B F tb (.makeSlice e bytes z l c) evV env U K (Z2 d (.makeSlice e bytes z l c) ev) s pl:=by
 simp only[gn] at h;split at h
 .rename_i k k1 a k2 b _ h1 h2;have e1:=JK h1 (ai l);have e2:=JK h2 (ai c);split at h
  .rename_i hc;obtain⟨aP,hz⟩:=hc;simp only[Q2l,Z64] at h;obtain⟨k3,k4,k5,k6,h⟩:=h;have qc:KC B k k.dflt z:=KS hz;have cP:Rows (KC B k) (List.replicate b.toNat k.dflt) (Q0a b.toNat z):=by rw[Mm];exact Rows.replicate qc _
   have cg:=cP.length KC.q0h;rw[xl] at cg;have ht:=cP.take KC.q0h a.toNat;rw[List.take_replicate,xF (by omega)] at ht;refine⟨.slice (some ⟨U.n,0,none⟩) a.toNat b.toNat,U.push (.cells (Q0a b.toNat z) e true true),Xd pl d (.slice (some ⟨U.n,0,none⟩) a.toNat b.toNat),_,_,?_,h,hG.pushF d _ _ _ rfl ?_,?_⟩
   .simp only[Qc,e1,e2];simp_all
   .refine .inr ⟨rfl,U.n,b.toNat,_,true,by rw[xl],by simp;omega,?_,by rw[cg];exact z5 _,?_⟩
    .rw[Heap.q0a,aP]
    .rw[xl];exact ht
   .simp only[SR,YA];exact⟨trivial,_,_,_,rfl⟩
  .cases h
 .cases h
theorem Q4j (ai:∀ x,SR P B pl tb (ev x) (evV x)) (hG:Gam P B F pl tb s env U) {e:El}{bytes:Nat}{x y:Operand}(h:gn C d (.append e bytes x y) ev s K):NOk P B F tb (.append e bytes x y) evV env U K (Z2 d (.append e bytes x y) ev) s pl:=by
 have ha:=ai x;simp only[gn] at h;split at h
 .rename_i k _;split at h
  .rename_i ys hy;obtain⟨cs,ay,tR,aE,dD,rO⟩:=(Ma hG.leB hG.obj hy (ai y)).sl;have av:cs.all cellOk=true:=dD.cellOk;have cg:=dD.length KC.q0h;split at h
   .rename_i hx;have hT:Z2 d (.append e bytes x y) ev=d:=by simp only[Z2,hx]
    rw[hT];rw[hx] at ha;simp only[SR] at ha;split at h
    .rename_i aP;simp only[Q2l,Z64] at h;obtain⟨h1,h⟩:=h;rw[aP] at aE;have base:Qc (.append e bytes x y) evV U=N_ e bytes U (.slice none 0 0) ys.length cs:=by
      simp only[Qc,rO] at aE |-;simp only[aE,av,zn,ha]
     by_cases hm:ys=[]
     .subst hm;refine⟨.slice none 0 0,U,Xd pl d (.slice none 0 0),_,_,by rw[base];rfl,h,?_,?_⟩
      .refine hG.makeF d _ _ hG.le (λj i _ _ _=>rfl) (.inl ⟨rfl,rfl,rfl⟩) λi _ hi=>by cases hi
      .simp only[SR,YA];exact⟨trivial,_,_,_,rfl⟩
     .have eO:ys.length≠0:=(by simp_all);refine⟨.slice (some ⟨U.n,0,none⟩) ys.length ys.length,U.push (.cells cs e true false),Xd pl d (.slice (some ⟨U.n,0,none⟩) ys.length ys.length),_,_,?_,h,hG.pushF d _ _ _ rfl ?_,?_⟩
      .rw[base];simp only[N_];simp_all
      .refine .inr ⟨Z8s hm,U.n,ys.length,cs,false,rfl,z5 _,?_,by omega,?_⟩
       .rw[Heap.q0a,aP]
       grind
      .simp only[SR,YA];exact⟨trivial,_,_,_,rfl⟩
    .cases h
   .rename_i o hx;have hT:Z2 d (.append e bytes x y) ev=o:=by simp only[Z2,hx]
    rw[hT];rw[hx] at ha;simp only[SR] at ha;have au:=hG.obj o;split at h
    .rename_i ty k' xs nl ho;rw[ho] at au;have aq:(Qe s.own o).live=true:=by rw[ho];rfl
     split at h
     .rename_i aP;obtain⟨ou,aP⟩:=aP;split at h
      .rename_i b_ jP;obtain rfl:=WY jP;obtain rfl:=W_ jP;simp only[Q2l,Z64] at h;obtain⟨h1,h⟩:=h;rw[aP] at aE;have base:Qc (.append e bytes x y) evV U=N_ e bytes U (pl o) ys.length cs:=by
        simp only[Qc,rO] at aE |-;simp only[aE,av,zn,ha.1]
       have he:e=⟨k'.size,ty⟩:=by simp_all
       rcases au with⟨rfl,rfl,h3⟩|⟨rfl,i,cap,c,t,h3,h4,h5,h6,h7⟩
       .
        rw[h3] at base;by_cases hm:ys=[]
        .subst hm;refine⟨.slice none 0 0,U,Xd pl o (.slice none 0 0),_,_,by rw[base];rfl,h,?_,?_⟩
         .refine hG.makeF o _ _ hG.le (λj i _ _ _=>rfl) (.inl ⟨rfl,rfl,rfl⟩) λi _ hi=>by cases hi
         .simp only[SR,YA];exact⟨trivial,_,_,_,rfl⟩
        .have eO:ys.length≠0:=(by grind);refine⟨.slice (some ⟨U.n,0,none⟩) ys.length ys.length,U.push (.cells cs e true false),Xd pl o (.slice (some ⟨U.n,0,none⟩) ys.length ys.length),_,_,?_,h,hG.pushF o _ _ _ rfl ?_,?_⟩
         .rw[base];simp only[N_]
          grind
         .rw[xp];refine .inr ⟨J1k hm _,U.n,ys.length,cs,false,rfl,z5 _,?_,by omega,?_⟩
          .rw[Heap.q0a,he]
          grind
         .simp only[SR,YA];exact⟨trivial,_,_,_,rfl⟩
       .rw[h3] at base;have k1:b_.length*k'.size<=cap*k'.size:=zj _ h4;have bD:F.get i=none:=hG.fresh o i aq (by rw[h3];rfl);have cK:∀ j i',j≠o->(Qe s.own j).live=true->Oid (pl j) i'->i'≠i:=λj i' hj hl hi e=>by
         subst e;exact hG.sep j o i' hj hl aq hi (by rw[h3];rfl)
        have ah:e=e/\b_.length<=cap/\0+b_.length*e.sz<=c.length:=⟨rfl,h4,by rw[<-aP];omega⟩;simp only[N_,h5] at base;rw[<-he,z2 ah] at base;by_cases hm:ys=[]
        .subst hm;simp only[List.length_nil,zn] at base;refine⟨_,U,Xd pl o (pl o),_,_,base,h,?_,?_⟩
         .refine hG.makeF o _ _ hG.le (λj i _ _ _=>rfl) (.inr ⟨rfl,i,cap,c,t,?_,?_,h5,h6,?_⟩) λi' _ hi=>?_
          .rw[h3];simp
          .simpa using h4
          .simpa using h7
          .rw[h3] at hi;obtain rfl:=osj hi
           grind
         .simp only[SR,YA,h3];exact⟨trivial,_,_,_,rfl⟩
        .have eO:ys.length≠0:=(by grind);have ku:(ys.isEmpty&&false)=false:=by simp
         have rP:Rows (KC B k') (b_++ys) (c.take (b_.length*k'.size)++cs):=h7.append dD;have eR:=rP.length KC.q0h;rw[z0 eO] at base;by_cases bT:b_.length+ys.length<=cap
         .have ky:(b_.length+ys.length)*k'.size<=cap*k'.size:=zj _ bT;have pJ:b_.length*k'.size+ys.length*k'.size<=cap*k'.size:=by rw[<-zB];exact ky
          rw[z2 bT,z2 ⟨trivial,by rw[<-aP];omega⟩] at base;refine⟨_,_,Xd pl o (.slice (some ⟨i,0,none⟩) (b_.length+ys.length) cap),_,_,base,h,?_,?_⟩
          .refine hG.makeF o _ _ (hG.le.upd bD _) (by grind [Heap.q0b]) (.inr ⟨ku,i,cap,M1 c (0+b_.length*e.sz) cs,t,by rw[zP],by rw[zP];exact bT,?_,?_,?_⟩) λi' _ hi=>?_
           .rw[Heap.q0d _ _ (U.lt h5),he]
           .rw[Ko];exact h6
           .have ep:0+b_.length*e.sz+cs.length<=c.length:=by rw[<-aP];omega
            rw[S2 ep,<-aP,zN,List.take_left' (by rw[eR])];exact rP
           .obtain rfl:=osj hi
            grind
          .simp only[SR,YA];exact⟨trivial,_,_,_,rfl⟩
         .rw[z0 bT,z2 (by simpa using h1)] at base;have jj:((c.drop 0).take (b_.length*e.sz)++cs)=c.take (b_.length*k'.size)++cs:=by rw[xG,aP]
          cases t with
          |true =>
           simp only[zn] at base;rw[jj] at base;refine⟨_,_,Xd pl o (.slice (some ⟨U.n,0,none⟩) (b_.length+ys.length) (b_.length+ys.length)),_,_,base,h,hG.pushF o _ _ _ rfl (.inr ⟨ku,U.n,b_.length+ys.length,c.take (b_.length*k'.size)++cs,false,by rw[zP],by grind,?_,?_,?_⟩),?_⟩
           .rw[Heap.q0a,he]
           .grind
           .grind
           .simp only[SR,YA];exact⟨trivial,_,_,_,rfl⟩
          |false =>
           simp only[zk,if_false,zn] at base;rw[jj] at base;have hn:(U.kill i).n=U.n:=rfl;refine⟨_,_,Xd pl o (.slice (some ⟨U.n,0,none⟩) (b_.length+ys.length) (b_.length+ys.length)),_,_,base,h,?_,?_⟩
           .refine hG.makeF o _ _ ((hG.le.kill bD).push _) (λj i' hj hl hi=>?_) (.inr ⟨ku,U.n,b_.length+ys.length,c.take (b_.length*k'.size)++cs,false,by rw[zP],by grind,?_,?_,?_⟩) λi' _ hi=>?_
            .rw[Heap.q0l _ _ (by rw[hn];exact(hG.obj j).q0v hl hi)]
             grind [Heap.q0c]
            .rw[<-hn,Heap.q0a,he]
            .grind
            .grind
            .obtain rfl:=osj hi;exact⟨hG.le.fresh,λj _ hl e=>Nat.lt_irrefl U.n ((hG.obj j).q0v hl e)⟩
           .simp only[SR,YA];exact⟨trivial,_,_,_,rfl⟩
      .cases h
     .cases h
    .cases h
   .cases h
  .cases h
 .cases h
theorem Q8v (ai:∀ x,SR P B pl tb (ev x) (evV x)) (hG:Gam P B F pl tb s env U) {size:Nat}{a x:Operand}(h:gn C d (.store size a x) ev s K):NOk P B F tb (.store size a x) evV env U K (Z2 d (.store size a x) ev) s pl:=by
 have ha:=ai a;simp only[gn] at h;split at h
 .rename_i o off vs h1 h2;have hT:Z2 d (.store size a x) ev=o:=by simp only[Z2,h1]
  rw[hT];obtain⟨us,h3,h4,h5⟩:=KR h2 (ai x);rw[h1] at ha;simp only[SR] at ha;obtain⟨b,h6,h7⟩:=ha;have au:=hG.obj o;split at h
  .rename_i l u ho;rw[ho] at au;have aq:(Qe s.own o).live=true:=by rw[ho];rfl
   obtain⟨i,c,e,t,h8,h9,bM,gb⟩:=au;rw[h6] at h8;obtain rfl:=(by simpa using h8:b=i);split at h
   .rename_i hc;have bD:F.get b=none:=hG.fresh o b aq (by rw[h6];rfl);have cK:∀ j i',j≠o->(Qe s.own j).live=true->Oid (pl j) i'->i'≠b:=λj i' hj hl hi e=>by
     subst e;exact hG.sep j o i' hj hl aq hi (by rw[h6];rfl)
    refine⟨undef,U.upd b (.cells (M1 c off us) e true t),pl,_,_,?_,h,hG.writeF o _ (hG.le.upd bD _) aq (by grind [Heap.q0b]) ?_,by simp[SR]⟩
    .simp only[Qc,h7,h3,h9];rw[z2 ⟨trivial,by rw[<-h4.length];exact hc.1,by rw[<-bM.length];exact hc.2,h5⟩]
    .exact⟨b,_,e,t,h6,Heap.q0d _ _ (U.lt h9),S6 bM h4,gb⟩
   .cases h
  .cases h
 .rename_i o i off sz vs h1 h2;have hT:Z2 d (.store size a x) ev=o:=by simp only[Z2,h1]
  rw[hT];obtain⟨us,h3,h4,h5⟩:=KR h2 (ai x);rw[h1] at ha;simp only[SR] at ha;obtain⟨b,len,cap,h6,h7,h8,h9⟩:=ha;have au:=hG.obj o;split at h
  .rename_i ty k xs nl ho;rw[ho] at au;have aq:(Qe s.own o).live=true:=by rw[ho];rfl
   rcases au with⟨_,_,k3⟩|⟨rfl,i',ax,c,t,k3,k4,k5,k6,k7⟩
   .rw[h6] at k3;cases k3
   .rw[h6] at k3;obtain⟨rfl,rfl,rfl⟩:=(by simpa using k3:b=i'/\len=xs.length/\cap=ax);have bD:F.get b=none:=hG.fresh o b aq (by rw[h6];rfl);have cK:∀ j i',j≠o->(Qe s.own j).live=true->Oid (pl j) i'->i'≠b:=λj i' hj hl hi e=>by
     subst e;exact hG.sep j o i' hj hl aq hi (by rw[h6];rfl)
    have hi:i.toNat<xs.length:=by omega
    have aP:(i.toNat+1)*k.size<=xs.length*k.size:=zj _ hi;rw[zB,xx] at aP;have k8:=zj k.size k4
    have fin:∀ (y:k.T) (us:List Value) (dm:Nat),dm+us.length<=k.size->KC B k y (M1 (((c.take (xs.length*k.size)).drop (i.toNat*k.size)).take k.size) dm us) ->
      Gam P B F pl tb ⟨s.env,oset s.own o (.lst ty k (xs.set i.toNat y) false),s.nx⟩ env (U.upd b (.cells (M1 c (i.toNat*k.size+dm) us) ⟨k.size,ty⟩ true t))/\Fr o s ⟨s.env,oset s.own o (.lst ty k (xs.set i.toNat y) false),s.nx⟩ pl pl U (U.upd b (.cells (M1 c (i.toNat*k.size+dm) us) ⟨k.size,ty⟩ true t)):=by
     intro y us dm m_ hk;refine hG.writeF o _ (hG.le.upd bD _) aq (by grind [Heap.q0b]) (.inr ⟨rfl,b,cap,M1 c (i.toNat*k.size+dm) us,t,by rw[h6];simp,by simpa using k4,Heap.q0d _ _ (U.lt k5),by rw[Ko];exact k6,?_⟩);have bA:=k7.set KC.q0h hi hk;rw[xc];rw[Z34 us c (m:=xs.length*k.size) (p:=i.toNat*k.size) (n:=k.size) (off:=dm) m_ aP (by omega)];exact bA
    have cP:=k7.at KC.q0h hi;have eR:=KC.length cP;split at h
    .rename_i hc;obtain⟨rfl,rfl,rfl⟩:=hc;split at h
     .rename_i y hy;have hk:=QK hy h4;have hl:=KC.length hk;refine⟨undef,U.upd b (.cells (M1 c (i.toNat*k.size+0) us) ⟨k.size,ty⟩ true t),pl,_,_,?_,h,fin y us 0 (by omega) ?_,by simp[SR]⟩
      .simp only[Qc,h9,h3,k5]
       grind
      .rw[S2 (by omega),zN,List.take_zero,xp,List.drop_of_length_le (by omega),xn];exact hk
     .cases h
    .split at h
     .rename_i hc;obtain⟨rfl,hv1,rfl,aQ⟩:=hc;split at h
      .rename_i y hy;obtain⟨v0,rfl⟩:∃ v0,vs=[v0]:=by
        cases vs with
        |nil=>cases hv1
        |cons a r=>cases r with
         |nil=>exact⟨a,rfl⟩
         |cons _ _=>simp at hv1
       obtain⟨u0,rfl,vQ⟩:=h4.one;have hx:xs.getD i.toNat k.dflt=xs[i.toNat]:=by simp_all
       rw[hx] at hy;refine⟨undef,U.upd b (.cells (M1 c (i.toNat*k.size+off) [u0]) ⟨k.size,ty⟩ true t),pl,_,_,?_,h,(by grind [RU]),by simp[SR]⟩;simp only[Qc,h9,h3,k5]
       grind
      .cases h
     .cases h
  .cases h
 .cases h
theorem Ec (ai:∀ x,SR P B pl tb (ev x) (evV x)) (hG:Gam P B F pl tb s env U) {mk:MK}{m kx vx:Operand}(h:gn C d (.ext (.mapUpdate mk m kx vx)) ev s K):NOk P B F tb (.ext (.mapUpdate mk m kx vx)) evV env U K (Z2 d (.ext (.mapUpdate mk m kx vx)) ev) s pl:=by
 have ha:=ai m;simp only[gn] at h;split at h
 .rename_i o h1;have hT:Z2 d (.ext (.mapUpdate mk m kx vx)) ev=o:=by simp only[Z2,h1]
  rw[hT];rw[h1] at ha;simp only[SR] at ha;have au:=hG.obj o;split at h
  .rename_i kk vk l ho;rw[ho] at au;have aq:(Qe s.own o).live=true:=by rw[ho];rfl
   obtain⟨id,es,clock,h2,h3,h4⟩:=au;split at h
   .rename_i hc;have bQ:=hc;split at h
    .rename_i key x aS hx;have hk:=MT aS (ai kx) QK;have hv:=MT hx (ai vx) QK;have bD:F.get id=none:=hG.fresh o id aq (by rw[h2];rfl);have cK:∀ j i',j≠o->(Qe s.own j).live=true->Oid (pl j) i'->i'≠id:=λj i' hj hl hi e=>by
      subst e;exact hG.sep j o i' hj hl aq hi (by rw[h2];rfl)
     have aH:U.mapAt id=some (es,clock,true):=by simp[Heap.mapAt,h3]
     refine⟨undef,U.upd id (.obj (.map (QM (evV kx) (evV vx) clock es).1 (QM (evV kx) (evV vx) clock es).2) true),pl,_,_,?_,h,hG.writeF o _ (hG.le.upd bD _) aq (by grind [Heap.q0b]) ?_,by simp[SR]⟩
     .simp only[Qc,JY,ha.1,h2,aH];rw[z2 (by rw[GC bQ hk,h4.1.keys bQ];rfl)]
     .exact⟨id,_,_,h2,Heap.q0d _ _ (U.lt h3),Hv bQ hk hv h4.1,h4.2.put⟩
    .cases h
   .cases h
  .cases h
 .cases h
theorem Q53 (ai:∀ x,SR P B pl tb (ev x) (evV x)) (hG:Gam P B F pl tb s env U) {mk:MK}{m kx:Operand}(h:gn C d (.ext (.delete mk m kx)) ev s K):NOk P B F tb (.ext (.delete mk m kx)) evV env U K (Z2 d (.ext (.delete mk m kx)) ev) s pl:=by
 have ha:=ai m;simp only[gn] at h;split at h
 .rename_i o h1;have hT:Z2 d (.ext (.delete mk m kx)) ev=o:=by simp only[Z2,h1]
  rw[hT];rw[h1] at ha;simp only[SR] at ha;have au:=hG.obj o;split at h
  .rename_i kk vk l ho;rw[ho] at au;have aq:(Qe s.own o).live=true:=by rw[ho];rfl
   obtain⟨id,es,clock,h2,h3,h4⟩:=au;split at h
   .rename_i bQ;split at h
    .rename_i key aS;have hk:=MT aS (ai kx) QK;have bD:F.get id=none:=hG.fresh o id aq (by rw[h2];rfl);have cK:∀ j i',j≠o->(Qe s.own j).live=true->Oid (pl j) i'->i'≠id:=λj i' hj hl hi e=>by
      subst e;exact hG.sep j o i' hj hl aq hi (by rw[h2];rfl)
     have aH:U.mapAt id=some (es,clock,true):=by simp[Heap.mapAt,h3]
     refine⟨.tuple #[],U.upd id (.obj (.map (Mv (evV kx) es) clock) true),pl,_,_,?_,h,hG.writeF o _ (hG.le.upd bD _) aq (by grind [Heap.q0b]) ?_,by simp[SR]⟩
     .simp only[Qc,JY,ha.1,h2,aH];rw[z2 (by rw[GC bQ hk,h4.1.keys bQ];rfl)]
     .exact⟨id,_,_,h2,Heap.q0d _ _ (U.lt h3),Iv bQ hk h4.1,h4.2.del⟩
    .cases h
   .cases h
  .cases h
 .cases h
theorem Q5d {mk:MK}{kk:Kind}(hk:gq.mkP mk kk=true) (x:kk.T):gq.keq kk x x=true:=by
 unfold gq.mkP at hk;split at hk
 .simp[gq.keq]
 .simp[gq.keq]
 .simp[gq.keq]
 .cases hk
theorem AZ:∀ {k:Kind}{l r:List MK},gq.mkAt k l=some r->∀ x:k.T,gq.keq k x x=true
 |.pair a b,l,r,hk,x=>by
  simp only[gq.mkAt] at hk;split at hk
  .rename_i q hq;simp only[gq.keq,AZ hq,AZ hk,Bool.and_self]
  .cases hk
 |.i _,m::l,r,hk,x|.bo,m::l,r,hk,x|.st,m::l,r,hk,x|.list _,m::l,r,hk,x=>by
  simp only[gq.mkAt] at hk
  grind [Q5d]
 |.i _,[],r,hk,x|.bo,[],r,hk,x|.st,[],r,hk,x|.list _,[],r,hk,x=>by cases hk
theorem Q7z {mk:MK}{kk:Kind}(hk:gq.mkOk mk kk=true) (x:kk.T):gq.keq kk x x=true:=by
 unfold gq.mkOk at hk;cases ho:kk.one with
 |true=>rw[ho] at hk;exact Q5d hk x
 |false =>
  rw[ho] at hk;simp only[zI] at hk;split at hk
  .grind [AZ]
  .cases hk
theorem O5 {k v:Value}(hk:WO k k=true) (clock:Nat):∀ es:List XY,Qq k (QM k v clock es).1=some (k,v,match Qq k es with|some e=>e.2.2|none=>clock)
 |[]=>by simp[QM,Qq,hk]
 |e::es=>by
  simp only[QM,Qq];cases he:WO k e.1 with
  |true=>simp[Qq,hk]
  |false =>simp only[zk,if_false,Qq,he];exact O5 hk clock es
theorem OP {k v:Value}{clock:Nat}:∀ {es:List XY}{e:XY},Qq k es=some e->∃ j:Nat,es[j]?=some e/\QM k v clock es=(es.set j (k,v,e.2.2),clock)
 |[],e,h=>by cases h
 |a::es,e,h=>by
  simp only[Qq] at h;split at h
  .rename_i he;obtain rfl:=osj h;exact⟨0,rfl,by simp[QM,he]⟩
  .rename_i he;obtain⟨j,h1,h2⟩:=OP (v:=v) (clock:=clock) h;exact⟨j+1,by simpa using h1,by simp[QM,he,h2]⟩
theorem Eh (ai:∀ x,SR P B pl tb (ev x) (evV x)) (hG:Gam P B F pl tb s env U) {mk:MK}{z:Value}{m kx:Operand}(h:gn C d (.ext (.mapEntry mk z m kx)) ev s K):∃ u U' v s' T kv a8 i es c,T=Z2 d (.ext (.mapEntry mk z m kx)) ev/\Qc (.ext (.mapEntry mk z m kx)) evV U=some (u,U')/\K v s'/\(Gam P B F pl tb s' env U'/\Fr T s s' pl pl U U')/\SR P B pl tb v u /\
  (Qe s'.own T).live=true/\pl T=.map (some i)/\U.get i=some (.obj (.map es c) true)/\U'.get i=some (.obj (.map (QM kv a8 c es).1 (QM kv a8 c es).2) true)/\JC mk kv=true/\es.all (λe=>JC mk e.1)=true/\a8=(match Qq kv es with|some e=>e.2.1|none=>z):=by
 have ha:=ai m;simp only[gn] at h;split at h
 .rename_i o h1;have hT:Z2 d (.ext (.mapEntry mk z m kx)) ev=o:=by simp only[Z2,h1]
  rw[h1] at ha;simp only[SR] at ha;have au:=hG.obj o;split at h
  .rename_i kk vk l ho;rw[ho] at au;have aq:(Qe s.own o).live=true:=by rw[ho];rfl
   obtain⟨id,es,clock,h2,h3,h4⟩:=au;split at h
   .rename_i hc;obtain⟨bQ,tS⟩:=hc;split at h
    .rename_i key aS;have hk:=MT aS (ai kx) QK;have hz:KV B vk vk.dflt z:=SK tS;have bD:F.get id=none:=hG.fresh o id aq (by rw[h2];rfl);have cK:∀ j i',j≠o->(Qe s.own j).live=true->Oid (pl j) i'->i'≠id:=λj i' hj hl hi e=>by
      subst e;exact hG.sep j o i' hj hl aq hi (by rw[h2];rfl)
     have aH:U.mapAt id=some (es,clock,true):=by simp[Heap.mapAt,h3]
     have rQ:WO (evV kx) (evV kx)=true:=by rw[Ro bQ hk hk];exact Q7z bQ key
     obtain⟨a8,n,hold,fF⟩:∃ (a8:Value) (n:Nat),KV B vk (gq.aget kk l key vk.dflt) a8/\Qc (.ext (.mapEntry mk z m kx)) evV U=some (.tuple #[a8,.int .i64 n],U.upd id (.obj (.map (QM (evV kx) a8 clock es).1 (QM (evV kx) a8 clock es).2) true))/\Qq (evV kx) (QM (evV kx) a8 clock es).1=some (evV kx,a8,n)/\a8=(match Qq (evV kx) es with|some e=>e.2.1|none=>z):=by
      rcases MR.find bQ hk hz h4.1 with⟨e,k1,_,k3⟩|⟨k1,_,k3⟩
      .refine⟨e.2.1,e.2.2,k3,?_,?_,by rw[k1]⟩
       .simp only[Qc,JY,ha.1,h2,aH];rw[z2 (by rw[GC bQ hk,h4.1.keys bQ];rfl),k1]
       .rw[O5 rQ,k1]
      .refine⟨z,clock,by rw[k3];exact hz,?_,?_,by rw[k1]⟩
       .simp only[Qc,JY,ha.1,h2,aH];rw[z2 (by rw[GC bQ hk,h4.1.keys bQ];rfl),k1]
       .rw[O5 rQ,k1]
     obtain⟨fF,cJ,na⟩:=fF;obtain⟨r,hr,_⟩:=OP (v:=a8) (clock:=clock) cJ;refine⟨_,_,_,_,o,evV kx,a8,id,es,clock,hT.symm,fF,h n,hG.writeF o _ (hG.le.upd bD _) aq (by grind [Heap.q0b]) ?_,?_,by simp[Qn,OB.live],h2,h3,Heap.q0d _ _ (U.lt h3),GC bQ hk,h4.1.keys bQ,na⟩
     .exact⟨id,_,_,r,_,h2,Heap.q0d _ _ (U.lt h3),⟨Hv bQ hk hold h4.1,h4.2.put⟩,hr,hk,cJ,rfl,mk,bQ⟩
     .simp only[SR,SRs];exact⟨_,rfl,_,_,rfl,W0 hold,_,_,rfl,by simp[KC],rfl⟩
    .cases h
   .cases h
  .cases h
 .cases h
theorem Ib (ai:∀ x,SR P B pl tb (ev x) (evV x)) (hG:Gam P B F pl tb s env U) {mk:MK}{z:Value}{m kx:Operand}(h:gn C d (.ext (.mapEntry mk z m kx)) ev s K):NOk P B F tb (.ext (.mapEntry mk z m kx)) evV env U K (Z2 d (.ext (.mapEntry mk z m kx)) ev) s pl:=by obtain⟨u,U',v,s',T,kv,a8,i,es,c,rfl,h1,h2,h3,h4,_⟩:=Eh ai hG h;exact⟨u,U',pl,v,s',h1,h2,h3,h4⟩
theorem SP (ai:∀ x,SR P B pl tb (ev x) (evV x)) (hG:Gam P B F pl tb s env U) {m st vx:Operand}(h:gn C d (.ext (.entryStore m st vx)) ev s K):NOk P B F tb (.ext (.entryStore m st vx)) evV env U K (Z2 d (.ext (.entryStore m st vx)) ev) s pl:=by
 have ha:=ai m;simp only[gn] at h;split at h
 .rename_i o h1;have hT:Z2 d (.ext (.entryStore m st vx)) ev=o:=by simp only[Z2,h1]
  rw[hT];rw[h1] at ha;simp only[SR] at ha;have au:=hG.obj o;split at h
  .rename_i kk vk l key n ho;rw[ho] at au;have aq:(Qe s.own o).live=true:=by rw[ho];rfl
   obtain⟨id,es,clock,r,e,h2,h3,h4,h5,h6,h7,h8,mk,bQ⟩:=au;split at h
   .rename_i n' x aY hx;obtain⟨rfl,h⟩:=h;have tT:=JK aY (ai st);have hv:=MT hx (ai vx) QK;have bD:F.get id=none:=hG.fresh o id aq (by rw[h2];rfl);have cK:∀ j i',j≠o->(Qe s.own j).live=true->Oid (pl j) i'->i'≠id:=λj i' hj hl hi e=>by
     subst e;exact hG.sep j o i' hj hl aq hi (by rw[h2];rfl)
    have aH:U.mapAt id=some (es,clock,true):=by simp[Heap.mapAt,h3]
    obtain⟨q,hq,a_⟩:=OP (v:=evV vx) (clock:=clock) h7;obtain rfl:q=r:=TM h4.2 hq h5 rfl;have iJ:es.findIdx? (λa=>(a.2.2:Int)==n')=some q:=by
     obtain⟨tU,heq⟩:=zm.1 hq;rw[List.findIdx?_eq_some_iff_getElem];refine⟨tU,by rw[heq,h8];simp,λj hj=>?_⟩;have cH:j<es.length:=by omega
     cases hb:((es[j].2.2:Int)==n') with
     |false=>simp
     |true =>
      have:es[j].2.2=e.2.2:=by have:=eq_of_beq hb;omega
      have:=TM h4.2 (z3 cH) hq this;omega
    refine⟨undef,U.upd id (.obj (.map (es.set q (e.1,evV vx,e.2.2)) clock) true),pl,_,_,?_,h,hG.writeF o _ (hG.le.upd bD _) aq (by grind [Heap.q0b]) ?_,by simp[SR]⟩
    .simp only[Qc,JY,ha.1,h2,tT,aH,iJ,hq]
    .refine⟨id,_,_,h2,Heap.q0d _ _ (U.lt h3),?_⟩;have e1:=congrArg (λx:List XY×Nat=>x.1) a_;have e2:=congrArg (λx:List XY×Nat=>x.2) a_;simp only at e1 e2;have k1:=Hv (clock:=clock) bQ h6 hv h4.1;have k2:=h4.2.put (k:=e.1) (v:=evV vx);rw[e1] at k1 k2;rw[e2] at k2;exact⟨k1,k2⟩
   .cases h
  .cases h
 .cases h
end
theorem Z08 (hG:Gam P B F pl tb s env U) (d:Nat) (kk vk:Kind):Gam P B F (Xd pl d (.map (some U.n))) tb (s.make d (.map kk vk [])) env (U.push (.obj (.map [] 0) true))/\SR P B (Xd pl d (.map (some U.n))) tb (.map d) (.map (some U.n)):=by refine⟨hG.push d _ _ _ rfl ⟨U.n,[],0,rfl,Heap.q0a _ _,rfl,List.nodup_nil,λ_ h=>by cases h⟩,?_⟩;simp only[SR,YA];exact⟨trivial,_,rfl⟩
end
end Go.V
namespace Go.V
open Go
def Z2l (ρ1 ρ2:Plc):Prop:=∀ i p2,ρ2 i=some p2->∃ p1,ρ1 i=some p1/\p2.blk=p1.blk/\p2.shift=p1.shift/\p2.ext=p1.ext/\p2.esz=p1.esz/\(p2.tight=true->p1.tight=true)
theorem VRel.loose {ρ1 ρ2:Plc}{n:Nat}(hl:Z2l ρ1 ρ2) {v c:Value}(h:VRel ρ1 n v c):VRel ρ2 n v c:=by
 induction h with
 |poison c=>exact .poison c
 |bool b=>exact .bool b
 |int k x=>exact .int k x
 |string s=>exact .string s
 |nilPtr=>exact .nilPtr
 |nilSl=>exact .nilSl
 |nilMap=>exact .nilMap
 |nilFunc=>exact .nilFunc
 |nilIface=>exact .nilIface
 |glob g o s=>exact .glob g o s
 |ptr i o a hi h =>refine .ptr i o a hi λp hp=>?_;obtain⟨p1,h1,h2,h3,_⟩:=hl i p hp;rw[h2,h3];exact h p1 h1
 |sl i o len cap a ax hi h =>refine .sl i o len cap a ax hi λp hp=>?_;obtain⟨p1,h1,h2,h3,h4,h5,h6⟩:=hl i p hp;obtain⟨k1,k2,k3⟩:=h p1 h1;rw[h2,h3,h4,h5];exact⟨k1,λht=>k2 (h6 ht),k3⟩
 |slx i o len cap a hi h =>refine .slx i o len cap a hi λp hp=>?_;obtain⟨p1,h1,h2,h3,h4,h5,h6⟩:=hl i p hp;rw[h2,h3,h4,h5];exact h p1 h1
 |map i r hi h =>refine .map i r hi λp hp=>?_;obtain⟨p1,h1,h2,_⟩:=hl i p hp;rw[h2];exact h p1 h1
 |yield i r hi h =>refine .yield i r hi λp hp=>?_;obtain⟨p1,h1,h2,_⟩:=hl i p hp;rw[h2];exact h p1 h1
 |iface t v c _ ih=>exact .iface t v c ih
 |func fn fs gs cs ds hf hc _ _ lH lJ=>exact .func fn fs gs cs ds hf hc lH lJ
 |agg cs ds hc _ ih=>exact .agg cs ds hc ih
 |tuple cs ds hc _ ih=>exact .tuple cs ds hc ih
theorem LRel.loose {ρ1 ρ2:Plc}{n:Nat}(hl:Z2l ρ1 ρ2) {v c:List Value}(h:LRel ρ1 n v c):LRel ρ2 n v c:=⟨h.1,λi a b h1 h2=>(h.2 i a b h1 h2).loose hl⟩
theorem ORel.loose {ρ1 ρ2:Plc}{n:Nat}(hl:Z2l ρ1 ρ2) {o:VObj}{O:Obj}(h:ORel ρ1 n o O):ORel ρ2 n o O:=by
 cases o with
 |map es clock =>obtain⟨entries,h1,h2,h3⟩:=h;exact⟨entries,h1,h2,λk kv hk=>let ⟨e,he,h4,h5,hv⟩:=h3 k kv hk;⟨e,he,h4,h5,hv.loose hl⟩⟩
 |iter m since seen last=>obtain⟨rm,h1,h2⟩:=h;exact⟨rm,h1,h2.loose hl⟩
 |lp env r st pend=>exact⟨h.1,h.2.loose hl⟩
inductive Weak (n0:Nat->Prop):Value->Value->Prop
 |refl (v:Value):Weak n0 v v
 |sl (i len cap:Nat) (hi:n0 i) (hc:len<=cap):Weak n0 (.slice (some ⟨i,0,none⟩) len cap) (.slice (some ⟨i,0,none⟩) len len)
 |agg (cs ds:List Value) (hc:cs.length=ds.length) (h:∀ (i:Nat) (a b:Value),cs[i]?=some a->ds[i]?=some b->Weak n0 a b):Weak n0 (.agg cs.toArray) (.agg ds.toArray)
 |tuple (cs ds:List Value) (hc:cs.length=ds.length) (h:∀ (i:Nat) (a b:Value),cs[i]?=some a->ds[i]?=some b->Weak n0 a b):Weak n0 (.tuple cs.toArray) (.tuple ds.toArray)
theorem Weak.rel {ρ:Plc}{n:Nat}{n0:Nat->Prop}(hρ:∀ i p,n0 i->ρ i=some p->p.tight=false) {v v':Value}(h:Weak n0 v v'):∀ {c:Value},VRel ρ n v c->VRel ρ n v' c:=by
 induction h with
 |refl v=>exactλh=>h
 |sl i len cap hi hc =>
  intro c h;cases h with
  |sl _ _ _ _ a ax dj h =>
   refine .sl _ _ _ _ _ _ dj λp hp=>?_;obtain⟨k1,k2,k6|⟨o',k3,k4,k5⟩⟩:=h p hp
   .omega
   refine⟨by omega,(by grind),.inr ⟨o',k3,k4,?_⟩⟩;rcases k5 with k5|k5
   .exact .inl k5
   .exact .inr ⟨k5.1,k5.1⟩
 |agg cs ds hc h ih =>
  intro c hr;cases hr with
  |agg _ es d_ hr =>
   refine .agg _ _ (by simpa [hc] using d_) λi h1 h2=>?_;have l1:i<cs.length:=by simpa [hc] using h1
   have l2:i<ds.length:=by simpa using h1
   have:=ih i cs[i] ds[i] (z3 l1) (z3 l2) (hr i (by simpa using l1) h2);simpa using this
 |tuple cs ds hc h ih =>
  intro c hr;cases hr with
  |tuple _ es d_ hr =>
   refine .tuple _ _ (by simpa [hc] using d_) λi h1 h2=>?_;have l1:i<cs.length:=by simpa [hc] using h1
   have l2:i<ds.length:=by simpa using h1
   have:=ih i cs[i] ds[i] (z3 l1) (z3 l2) (hr i (by simpa using l1) h2);simpa using this
theorem DropTo.trans {σ0 σ1 σ2 σ3:Heap}{v1 v2 v3:Value}(h:DropTo σ0 v1 σ1 v2 σ2) (k:DropTo σ0 v2 σ2 v3 σ3):DropTo σ0 v1 σ1 v3 σ3:=by intro ρ0 w0 ρ w c gp hE hH hv;obtain⟨ρ',oB,gm,dP⟩:=h ρ0 w0 ρ w c gp hE hH hv;exact k ρ0 w0 ρ' w c gp dP gm oB
theorem DropTo.weaken {σ0 σ1 σ2:Heap}{v v':Value}(S:Nat->Bool) (hS:∀ i,S i=true->σ0.n<=i) (hn:σ2.n=σ1.n) (h0:σ0.n<=σ1.n) (h1:∀ i,S i=false->σ2.get i=σ1.get i)
  (h2:∀ i,S i=true->∃ c e wr t m,σ1.get i=some (.cells c e wr t)/\σ2.get i=some (.cells (c.take m) e wr false)) (hv:Weak (λi=>S i=true) v v'):DropTo σ0 v σ1 v' σ2:=by
 intro ρ0 w0 ρ w c gp hE hH eL;let ρ':Plc:=λi=>if S i=false then ρ i else (ρ i).map λp=>{p with tight:=false}
 have hl:Z2l ρ ρ':=λi p2 hp=>by
  change (if S i=false then ρ i else (ρ i).map λp=>{p with tight:=false})=some p2 at hp;by_cases hi:S i=false
  .simp_all
  .rw[z0 hi,zi] at hp
   grind
 have dX:∀ i p2,ρ' i=some p2->∃ p1,ρ i=some p1/\p2.blk=p1.blk/\p2.ext=p1.ext:=λi p2 hp=>by obtain⟨p1,k1,k2,k3,k4,_⟩:=hl i p2 hp;exact⟨p1,k1,k2,k4⟩
 have fO:∀ i b,σ2.get i=some b->∃ b1,σ1.get i=some b1/\b.wr=b1.wr:=λi b hb=>by
  by_cases hi:S i=false
  .simp_all
  .obtain⟨c,e,wr,t,m,k1,k2⟩:=h2 i (by simpa using hi);rw[k2] at hb;obtain rfl:=osj hb;exact⟨_,k1,rfl⟩
 have hX:Ext ρ0 σ0 w0 ρ' σ2 w:=by
  refine⟨hE.os,hE.tape,hE.output,hE.size,hE.keep,?_,by omega,λi hi p hp=>?_⟩
  .rintro B hB ⟨i,p,b,hp,hb,hw,rfl⟩;obtain⟨p1,k1,k2,_⟩:=dX i p hp;obtain⟨b1,k7,k8⟩:=fO i b hb;exact hE.wr _ hB ⟨i,p1,b1,k1,k7,by rw[<-k8];exact hw,k2.symm⟩
  .have:S i=false:=by
    grind
   simp only[ρ',this,zn] at hp;exact hE.pl i hi p hp
 refine⟨ρ',?_,gp.ext ⟨λi b hb=>?_,λi hi=>?_,λi p hp=>?_,λi j p q b cB hp hq hb hw hx=>?_⟩ hX,hX⟩
 .rw[hn];refine hv.rel (λi p hi hp=>?_) (eL.loose hl)
  grind
 .by_cases hi:S i=false
  .rw[h1 i hi] at hb;obtain⟨p,hp,hB⟩:=hH.live i b hb;refine⟨p,by simp only[ρ',hi,zn];exact hp,?_⟩;rw[hn];cases b with
   |cells c e wr t =>obtain⟨k1,k2,k3,k4,k5,k6⟩:=hB;exact⟨k1,k2,k3,k4,λk v hk=>let ⟨u,a1,a2⟩:=k5 k v hk;⟨u,a1,a2.loose hl⟩,k6⟩
   |obj o wr =>obtain⟨k1,O,k2,k3⟩:=hB;exact⟨k1,O,k2,k3.loose hl⟩
  .obtain⟨c,e,wr,t,m,k1,k2⟩:=h2 i (by simpa using hi);rw[k2] at hb;obtain rfl:=osj hb;obtain⟨p,hp,hB⟩:=hH.live i _ k1;obtain⟨a1,a2,a3,a4,a5,a6⟩:=hB;refine⟨{p with tight:=false},by simp[ρ',hi,hp],a1,rfl,by simp;omega,a4,λk v hk=>?_,(by simp_all)⟩;rw[xi] at hk;split at hk
   .obtain⟨u,b1,b2⟩:=a5 k v hk;rw[hn];exact⟨u,b1,b2.loose hl⟩
   .cases hk
 .have hd:σ1.get i=none:=by
   grind
  have:=hH.dead i hd;simp only[ρ',this];split<;>rfl
 .obtain⟨p1,k1,k2,_⟩:=dX i p hp;rw[k2];exact hH.lt i p1 k1
 .obtain⟨p1,k1,k2,k3⟩:=dX i p hp;obtain⟨q1,k4,k5,k6⟩:=dX j q hq;obtain⟨b1,k7,k8⟩:=fO i b hb;rw[k2,k5];exact hH.sep i j p1 q1 b1 cB k1 k4 k7 (by rw[<-k8];exact hw) (by rw[<-k6];exact hx)
def mkP (U:Heap) (v:Value) (is:List Nat):Value:=.tuple (v::is.map λi=>match U.get i with|some b=>J1l i b|none=>.bool true).toArray
theorem KO.imp {H H':Heap}:∀ {k:Kind}{q:Option Nat}{x:k.T}{cs:List Value}{is:List Nat},KO H q k x cs is->(∀ i∈is,H'.get i=H.get i)->KO H' q k x cs is
 |.i _,_,_,_,_,h,_|.bo,_,_,_,_,h,_|.st,_,_,_,_,h,_=>by simp only[KO] at h |-;exact h
 |.list k,q,l,cs,is,h,g=>by
  simp only[KO] at h |-;rcases h with h|⟨i,cap,c,e,t,js,h1,rfl,h3,h4,h5,h6,h7,h8⟩
  .exact .inl h
  .refine .inr ⟨i,cap,c,e,t,js,h1,rfl,h3,by rw[g i zz];exact h4,h5,h6,h7,?_⟩;have key:∀ {xs:List k.T}{cs:List Value}{js:List Nat},RowsO (λx c is=>KO H none k x c is) xs cs js->(∀ i∈js,H'.get i=H.get i)->RowsO (λx c is=>KO H' none k x c is) xs cs js:=λh=>by
    induction h with
    |nil=>exactλ_=>.nil
    |cons h _ ih=>exactλg=>.cons (KO.imp (k:=k) h (by simp_all)) (by simp_all)
   simp_all
 |.pair a b,_,x,cs,is,h,g=>by simp only[KO] at h |-;obtain⟨c1,c2,i1,i2,h1,rfl,h3,h4⟩:=h;exact⟨c1,c2,i1,i2,h1,rfl,h3.imp (by simp_all),h4.imp (by simp_all)⟩
theorem KO.cells {H:Heap}:∀ {k:Kind}{q:Option Nat}{x:k.T}{cs:List Value}{is:List Nat},KO H q k x cs is->∀ i∈is,∃ c e t,H.get i=some (.cells c e true t)
 |.i _,_,_,_,_,h,i,hi|.bo,_,_,_,_,h,i,hi|.st,_,_,_,_,h,i,hi=>by simp only[KO] at h;rw[h.2] at hi;cases hi
 |.list k,q,l,cs,is,h,i,hi=>by
  simp only[KO] at h;rcases h with⟨_,_,rfl⟩|⟨i',cap,c,e,t,js,h1,rfl,h3,h4,h5,h6,h7,h8⟩
  .cases hi
  .rcases zK.1 hi with rfl|hi
   .exact⟨_,_,_,h4⟩
   .have key:∀ {xs:List k.T}{cs:List Value}{js:List Nat},RowsO (λx c is=>KO H none k x c is) xs cs js->∀ i∈js,∃ c e t,H.get i=some (.cells c e true t):=λh=>by
     induction h with
     |nil=>exactλi hi=>by cases hi
     |cons h _ ih=>exactλi hi=>(xk.1 hi).elim (KO.cells (k:=k) h i) (ih i)
    exact key h8 i hi
 |.pair a b,_,x,cs,is,h,i,hi=>by simp only[KO] at h;obtain⟨c1,c2,i1,i2,h1,rfl,h3,h4⟩:=h;exact(xk.1 hi).elim (h3.cells i) (h4.cells i)
theorem KO.weak {H:Heap}:∀ {k:Kind}{q:Option Nat}{x:k.T}{cs:List Value}{is:List Nat},KO H q k x cs is->KO H none k x cs is
 |.i _,_,_,_,_,h|.bo,_,_,_,_,h|.st,_,_,_,_,h=>by simp only[KO] at h |-;exact h
 |.list k,q,l,cs,is,h=>by
  simp only[KO] at h |-
  grind
 |.pair a b,_,x,cs,is,h=>by simp only[KO] at h |-;exact h
theorem KO.q0h {H:Heap}{q:Option Nat}{k:Kind}:∀ (x:k.T) (c:List Value) (is:List Nat),KO H q k x c is->c.length=k.size:=λ_ _ _ h=>KC.length h.kc
section
variable {α:Type}{R R':α->List Value->List Nat->Prop}{sz:Nat}
theorem RowsH.imp:∀ {xs:List α}{h:Option Nat}{j:Nat}{cs:List Value}{is:List Nat},RowsH R sz h j xs cs is->(∀ x c js,R x c js->(∀ i∈js,i∈is)->R' x c js)->RowsH R' sz h j xs cs is
 |[],_,_,_,_,h,_=>h
 |x::xs,hh,j,cs,is,h,g=>by
  obtain⟨c,cs',i1,i2,rfl,rfl,h1,h2⟩:=h;refine⟨c,cs',i1,i2,rfl,rfl,?_,h2.imp (by simp_all)⟩
  grind
theorem RowsH.hole:∀ {xs:List α}{h h':Option Nat}{j j':Nat}{cs:List Value}{is:List Nat},RowsH R sz h j xs cs is->(∀ m,h=some (j+m)<->h'=some (j'+m))->RowsH R sz h' j' xs cs is
 |[],_,_,_,_,_,_,h,_=>h
 |x::xs,h,h',j,j',cs,is,hr,g=>by
  obtain⟨c,cs',i1,i2,rfl,rfl,h1,h2⟩:=hr;refine⟨c,cs',i1,i2,rfl,rfl,?_,h2.hole λm=>?_⟩
  .have:=g 0;simp_all
  .have:=g (1+m)
   grind
theorem RowsH.length (hR:∀ x c is,R x c is->c.length=sz):∀ {xs:List α}{h:Option Nat}{j:Nat}{cs:List Value}{is:List Nat},RowsH R sz h j xs cs is->cs.length=xs.length*sz
 |[],_,_,_,_,h=>by rw[h.1];simp
 |x::xs,_,j,cs,is,h=>by
  obtain⟨c,cs',i1,i2,rfl,rfl,h1,h2⟩:=h;have hc:c.length=sz:=by
   grind
  rw[zP,hc,h2.length hR,zJ,zB,xx,xV]
theorem RowsH.append:∀ {xs ys:List α}{j j':Nat}{cs ds:List Value}{is js:List Nat},RowsH R sz none j xs cs is->RowsH R sz none j' ys ds js->RowsH R sz none j (xs++ys) (cs++ds) (is++js)
 |[],ys,j,j',cs,ds,is,js,h,h'=>by obtain⟨rfl,rfl⟩:=h;exact h'.hole λm=>by simp
 |x::xs,ys,j,j',cs,ds,is,js,h,h'=>by obtain⟨c,cs',i1,i2,rfl,rfl,h1,h2⟩:=h;exact⟨c,cs'++ds,i1,i2++js,by rw[zX],by rw[zX],h1,h2.append h'⟩
theorem RowsH.replicate {x:α}{c:List Value}(h:R x c []):∀ (n j:Nat),RowsH R sz none j (List.replicate n x) (List.replicate n c).flatten []
 |0,_=>⟨rfl,rfl⟩
 |n+1,j=>⟨c,_,[],[],rfl,rfl,by rw[z0 (by simp)];exact h,RowsH.replicate h n (j+1)⟩
theorem RowsH.take (hR:∀ x c is,R x c is->c.length=sz):∀ {xs:List α}{j:Nat}{cs:List Value},RowsH R sz none j xs cs []->∀ n,RowsH R sz none j (xs.take n) (cs.take (n*sz)) []
 |[],j,cs,h,n=>by obtain⟨rfl,_⟩:=h;simp[RowsH]
 |x::xs,j,cs,h,0=>by simp[RowsH]
 |x::xs,j,cs,h,n+1=>by
  obtain⟨c,cs',i1,i2,rfl,e,h1,h2⟩:=h;obtain⟨rfl,rfl⟩:=List.append_eq_nil_iff.1 e.symm;have hc:c.length=sz:=by grind
  refine⟨c,cs'.take (n*sz),[],[],?_,rfl,h1,h2.take hR n⟩;rw[zB,xx,xV,List.take_append,hc,x9 (by omega),Nat.add_sub_cancel_left]
theorem RowsH.set (hR:∀ x c is,R x c is->c.length=sz):∀ {xs:List α}{h h':Option Nat}{j i:Nat}{cs:List Value}{is:List Nat}{x:α}{c':List Value}{inew:List Nat},
  RowsH R sz h j xs cs is->(hi:i<xs.length)->(∀ m,m≠i->(h=some (j+m)<->h'=some (j+m)))->c'.length=sz->(if h'=some (j+i) then inew=[] else R x c' inew) ->
  ∃ nc ix ng,is=nc++ix++ng/\RowsH R sz h' j (xs.set i x) (cs.take (i*sz)++c'++cs.drop (i*sz+sz)) (nc++inew++ng)/\(if h=some (j+i) then ix=[] else R xs[i] ((cs.drop (i*sz)).take sz) ix)
 |[],_,_,_,_,_,_,_,_,_,_,hi,_,_,_=>by simp at hi
 |y::ys,h,h',j,0,cs,is,x,c',inew,hr,hi,g,hl,hn=>by
  obtain⟨c,cs',i1,i2,rfl,rfl,h1,h2⟩:=hr;have hc:c.length=sz:=by
   grind
  have ht:RowsH R sz h' (j+1) ys cs' i2:=h2.hole λm=>by
   have:=g (m+1) (by omega)
   grind
  refine⟨[],i1,i2,rfl,?_,?_⟩
  .rw[List.set_cons_zero];refine⟨c',cs',inew,i2,?_,rfl,?_,ht⟩
   .simp_all
   simp_all
  simp_all
 |y::ys,h,h',j,i+1,cs,is,x,c',inew,hr,hi,g,hl,hn=>by
  obtain⟨c,cs',i1,i2,rfl,rfl,h1,h2⟩:=hr;have hc:c.length=sz:=by
   grind
  obtain⟨nc,ix,ng,rfl,k1,k2⟩:=RowsH.set hR h2 (i:=i) (h':=h') (x:=x) (c':=c') (inew:=inew) (by simpa using hi) (λm hm=>by
   have:=g (m+1) (by omega)
   grind) hl (by grind)
  have e0:(i+1)*sz=sz+i*sz:=by grind
  refine⟨i1++nc,ix,ng,by simp[zX],?_,?_⟩
  .rw[List.set_cons_succ];refine⟨c,_,i1,nc++inew++ng,?_,by simp[zX],?_,k1⟩
   .have e1:(c++cs').take ((i+1)*sz)=c++cs'.take (i*sz):=by
     grind
    have e2:(c++cs').drop ((i+1)*sz+sz)=cs'.drop (i*sz+sz):=by rw[e0,List.drop_append,hc,List.drop_of_length_le (by omega),xp];congr 1;omega
    rw[e1,e2];simp[zX]
   .have:=g 0 (by omega);simp_all
  .rw[show j+(i+1)=j+1+i by omega];have e3:(c++cs').drop ((i+1)*sz)=cs'.drop (i*sz):=by
    rw[e0,List.drop_append,hc,List.drop_of_length_le (by omega),xp];congr 1;omega
   rw[e3];exact k2
end
theorem DO.imp {H H':Heap}{ty:Nat}{q:Option Nat}{k:Kind}{xs:List k.T}{h:Option Nat}{v:Value}{is:List Nat}(hd:DO H ty q k xs h v is) (g:∀ i∈is,H'.get i=H.get i):DO H' ty q k xs h v is:=by
 rcases hd with hd|⟨i,cap,c,t,js,h1,rfl,h3,h4,h5,h6⟩
 .exact .inl hd
 .exact .inr ⟨i,cap,c,t,js,h1,rfl,h3,by rw[g i zz];exact h4,h5,h6.imp (by grind [KO.imp,List.mem_cons_of_mem])⟩
theorem RowsH.cells {H:Heap}{q:Option Nat}{k:Kind}{sz:Nat}:∀ {xs:List k.T}{h:Option Nat}{j:Nat}{cs:List Value}{is:List Nat},RowsH (KO H q k) sz h j xs cs is->∀ i∈is,∃ c e t,H.get i=some (.cells c e true t)
 |[],_,_,_,_,h,i,hi=>by rw[h.2] at hi;cases hi
 |x::xs,_,j,cs,is,h,i,hi=>by
  obtain⟨c,cs',i1,i2,rfl,rfl,h1,h2⟩:=h;rcases xk.1 hi with hi|hi
  .grind [KO.cells]
  .exact h2.cells i hi
theorem DO.cells {H:Heap}{ty:Nat}{q:Option Nat}{k:Kind}{xs:List k.T}{h:Option Nat}{v:Value}{is:List Nat}(hd:DO H ty q k xs h v is):∀ i∈is,∃ c e t,H.get i=some (.cells c e true t):=by
 rcases hd with⟨_,_,rfl⟩|⟨i,cap,c,t,js,h1,rfl,h3,h4,h5,h6⟩
 .exact λi hi=>by cases hi
 .exact λj hj=>(zK.1 hj).elim (by simp_all) (h6.cells j)
theorem DP.open {U:Heap}{p:Value}{ty:Nat}{q:Option Nat}{k:Kind}{xs:List k.T}{nl:Bool}{h:Option Nat}(hd:DP U p ty q k xs nl h) :
  ∃ is,is.Nodup/\DO U ty q k xs h (phd p) is/\(∀ i,Oid p i<->i∈is)/\(nl=true<->phd p=.slice none 0 0):=by
 obtain⟨is,hO,h1,h2,h3,h4,h5⟩:=hd;refine⟨is,h1,h2.imp λi hi=>?_,λi=>(hO i).trans (h3 i),h5⟩
 grind
end Go.V
namespace Go.V
open Go
section
variable {P:Program}{B F:Heap}{pl:Nat->Value}{tb:Nat->Option Bool}{s:St}{env:Env}{U U':Heap}
theorem KO.nil {H:Heap}{q:Option Nat}{k:Kind}:KO H q (.list k) [] [.slice none 0 0] []:=by unfold KO;exact .inl ⟨rfl,rfl,rfl⟩
def FrL (Ts:List Nat) (s s':St) (pl pl':Nat->Value) (U U':Heap):Prop :=
 ∀ q,q∉Ts->(Qe s'.own q).live=(Qe s.own q).live/\pl' q=pl q/\((Qe s.own q).live=true->∀ i,Oid (pl q) i->U'.get i=U.get i)
theorem FrL.mono {Ts rR:List Nat}{s s':St}{pl pl':Nat->Value}{U U':Heap}(h:FrL Ts s s' pl pl' U U') (hs:∀ t∈Ts,t∈rR):FrL rR s s' pl pl' U U':=λq hq=>h q λh=>hq (hs q h)
def Z75 (P:Program) (B F:Heap) (tb:Nat->Option Bool) (o:VOp) (evV:Operand->Value) (env:Env) (U:Heap) (K:SV->St->Prop) (Ts:List Nat) (s:St) (pl:Nat->Value):Prop :=
 ∃ u U' pl' v s',Qc o evV U=some (u,U')/\K v s'/\(Gam P B F pl' tb s' env U'/\FrL Ts s s' pl pl' U U')/\SR P B pl' tb v u
section
variable {C:Cx}{d:Nat}{ev:Operand->SV}{evV:Operand->Value}{K:SV->St->Prop}
theorem DO.sl {ty:Nat}{q:Option Nat}{k:Kind}{xs:List k.T}{v:Value}{is:List Nat}(hd:DO U ty q k xs none v is) (hn:is.Nodup) :
  ∃ a cap cs js,v=.slice a xs.length cap/\U.sl k.size v=some cs/\RowsH (KO U q k) k.size none 0 xs cs js/\(∀ i∈js,i∈is)/\js.Nodup/\cs.all cellOk=true/\cs.length=xs.length*k.size:=by
 rcases hd with⟨rfl,rfl,rfl⟩|⟨i,cap,c,t,js,rfl,rfl,h1,h3,h4,h5⟩
 .exact⟨_,_,[],[],rfl,rfl,⟨rfl,rfl⟩,λi hi=>hi,List.nodup_nil,rfl,by simp⟩
 .have hl:=h5.length KO.q0h;refine⟨_,_,c.take (xs.length*k.size),js,rfl,?_,h5,λi hi=>zr _ hi,(xI.1 hn).2,(h5.rows (R':=KC U k) λ_ _ _ h=>h.kc).cellOk,hl⟩;have:=zj k.size h1;simp only[Heap.sl,h3]
  grind
theorem Cy (ai:∀ x,SR P B pl tb (ev x) (evV x)) (hG:Gam P B F pl tb s env U) {o:VOp}(h:gnd C d o ev s K):Z75 P B F tb o evV env U K (Q1h d o ev) s pl:=h.elim
end
end
end Go.V
namespace Go.V
open Go
def X1:Nat->Value:=λ_=>poison
def ZU:Nat->Option Bool:=λ_=>none
def hNil:Heap:=⟨λ_=>none,0,λ_ _=>rfl⟩
theorem Q5k (B:Heap):hNil.Le B:=⟨Nat.zero_le _,λi b h=>by cases h⟩
section
variable {P:Program}
mutual
theorem SR.retd {B B':Heap}{pl pl':Nat->Value}{tb tb':Nat->Option Bool}{n:Nat}(hp:∀ j,j<n->pl' j=pl j) :
  ∀ (s:SV) (v:Value),s.ret n=true->SR P B pl tb s v->SR P B' pl' tb' s v
 |.any,_,h,_|.bid _ _,_,h,_|.grd _ _,_,h,_|.sub _ _ _ _,_,h,_|.elp _ _ _ _,_,h,_|.rop _ _ _ _,_,h,_|.cp _ _,_,h,_|.fn _ _ _,_,h,_|.pf _ _ _ _,_,h,_=>by cases h
 |.val k x,v,h,hs=>by simp only[SR] at hs |-;exact KC.flat h hs
 |.nilS,v,_,hs|.nilP,v,_,hs|.nilM,v,_,hs|.nilF,v,_,hs=>by simp only[SR] at hs |-;exact hs
 |.lst j,v,h,hs=>by
  have hj:j<n:=by simpa [SV.ret,zy] using h
  simp only[SR] at hs |-;rw[hp j hj];exact hs
 |.map j,v,h,hs=>by
  have hj:j<n:=by simpa [SV.ret,zy] using h
  simp only[SR] at hs |-;rw[hp j hj];exact hs
 |.dd j w,v,h,hs=>by
  cases w with
  |out =>
   have hj:j<n:=by simpa [SV.ret,zy] using h
   simp only[SR] at hs |-;rw[hp j hj];exact hs
  |_=>cases h
 |.box j off,v,h,hs=>by
  have hj:j<n:=by simpa [SV.ret,zy] using h
  simp only[SR] at hs |-;rw[hp j hj];exact hs
 |.agg l,v,h,hs=>by simp only[SR] at hs |-;obtain⟨cs,h1,h2⟩:=hs;exact⟨cs,h1,SRs.retd hp l cs h h2⟩
 |.tup l,v,h,hs=>by simp only[SR] at hs |-;obtain⟨cs,h1,h2⟩:=hs;exact⟨cs,h1,SRs.retd hp l cs h h2⟩
theorem SRs.retd {B B':Heap}{pl pl':Nat->Value}{tb tb':Nat->Option Bool}{n:Nat}(hp:∀ j,j<n->pl' j=pl j) :
  ∀ (s:List SV) (v:List Value),SVs.ret n s=true->SRs P B pl tb s v->SRs P B' pl' tb' s v
 |[],v,_,hs=>by simp only[SRs] at hs |-;exact hs
 |s::ss,v,h,hs=>by simp only[SVs.ret,z1] at h;simp only[SRs] at hs |-;obtain⟨x,y,h1,h2,h3⟩:=hs;exact⟨x,y,h1,SR.retd hp s x h.1 h2,SRs.retd hp ss y h.2 h3⟩
end
mutual
theorem SR.ren {B:Heap}{pl pl':Nat->Value}{tb tb':Nat->Option Bool}{n d nt:Nat}(hp:∀ j,j<n->pl' (d+j*nt)=pl j) :
  ∀ (s:SV) (v:Value),s.ret n=true->SR P B pl tb s v->SR P B pl' tb' (s.ren d nt) v
 |.any,_,h,_|.bid _ _,_,h,_|.grd _ _,_,h,_|.sub _ _ _ _,_,h,_|.elp _ _ _ _,_,h,_|.rop _ _ _ _,_,h,_|.cp _ _,_,h,_|.fn _ _ _,_,h,_|.pf _ _ _ _,_,h,_=>by cases h
 |.val k x,v,h,hs=>by simp only[SR,SV.ren] at hs |-;exact hs
 |.nilS,v,_,hs|.nilP,v,_,hs|.nilM,v,_,hs|.nilF,v,_,hs=>by simp only[SR,SV.ren] at hs |-;exact hs
 |.lst j,v,h,hs=>by
  have hj:j<n:=by simpa [SV.ret,zy] using h
  simp only[SR,SV.ren] at hs |-;rw[hp j hj];exact hs
 |.map j,v,h,hs=>by
  have hj:j<n:=by simpa [SV.ret,zy] using h
  simp only[SR,SV.ren] at hs |-;rw[hp j hj];exact hs
 |.dd j w,v,h,hs=>by
  cases w with
  |out =>
   have hj:j<n:=by simpa [SV.ret,zy] using h
   simp only[SR,SV.ren] at hs |-;rw[hp j hj];exact hs
  |_=>cases h
 |.box j off,v,h,hs=>by
  have hj:j<n:=by simpa [SV.ret,zy] using h
  simp only[SR,SV.ren] at hs |-;rw[hp j hj];exact hs
 |.agg l,v,h,hs=>by simp only[SR,SV.ren] at hs |-;obtain⟨cs,h1,h2⟩:=hs;exact⟨cs,h1,SRs.ren hp l cs h h2⟩
 |.tup l,v,h,hs=>by simp only[SR,SV.ren] at hs |-;obtain⟨cs,h1,h2⟩:=hs;exact⟨cs,h1,SRs.ren hp l cs h h2⟩
theorem SRs.ren {B:Heap}{pl pl':Nat->Value}{tb tb':Nat->Option Bool}{n d nt:Nat}(hp:∀ j,j<n->pl' (d+j*nt)=pl j) :
  ∀ (s:List SV) (v:List Value),SVs.ret n s=true->SRs P B pl tb s v->SRs P B pl' tb' (SVs.ren d nt s) v
 |[],v,_,hs=>by simp only[SRs,SVs.ren] at hs |-;exact hs
 |s::ss,v,h,hs=>by simp only[SVs.ret,z1] at h;simp only[SRs,SVs.ren] at hs |-;obtain⟨x,y,h1,h2,h3⟩:=hs;exact⟨x,y,h1,SR.ren hp s x h.1 h2,SRs.ren hp ss y h.2 h3⟩
end
theorem MR.flat {B B':Heap}{kk vk:Kind}(h1:kk.flat=true) (h2:vk.flat=true):∀ {m:List (kk.T×vk.T)}{es:List XY},MR B kk vk m es->MR B' kk vk m es
 |[],es,h=>h
 |m::ms,es,h=>by obtain⟨e,bV,k1,k2,k3,k4⟩:=h;exact⟨e,bV,k1,k2.flat h1,k3.flat h2,MR.flat h1 h2 k4⟩
theorem OR.retd {B B':Heap}{pl pl':Nat->Value}{tb tb':Nat->Option Bool}{U U':Heap}{p:Value}{b:OB}(hb:b.ret=true) (h:OR P B pl tb U p b) (hg:∀ i,Oid p i->U'.get i=U.get i):OR P B' pl' tb' U' p b:=by
 cases b with
 |dead=>trivial
 |lst ty k xs nl =>
  rcases h with h|⟨h0,i,cap,c,t,h1,h2,h3,h4,h5⟩
  .exact .inl h
  .exact .inr ⟨h0,i,cap,c,t,h1,h2,by rw[hg i (by rw[h1];rfl)];exact h3,h4,h5.mono λ_ _ e=>KC.flat hb e⟩
 |cells l u =>obtain⟨i,c,e,t,h1,h2,h3,h4⟩:=h;exact⟨i,c,e,t,h1,by rw[hg i (by rw[h1];rfl)];exact h2,SRs.retd (n:=0) (λj hj=>by omega) l c hb h3,h4⟩
 |map kk vk m =>simp only[OB.ret,z1] at hb;obtain⟨i,es,clock,h1,h2,h3⟩:=h;exact⟨i,es,clock,h1,by rw[hg i (by rw[h1];rfl)];exact h2,h3.1.flat hb.1 hb.2,h3.2⟩
 |stk l vals=>cases hb
 |deep ty q k xs nl hh=>exact DP.mono h hg
 |mapE kk vk m key n=>cases hb
 |iter kk vk m dn=>cases hb
 |lpf l q s=>cases hb
def Q0b:(k:Kind)->k.T->List Value
 |.i ik,x=>[.int ik x]
 |.bo,x=>[.bool x]
 |.st,x=>[.string ⟨x.toArray⟩]
 |.list _,_=>[]
 |.pair a b,x=>Q0b a x.1++Q0b b x.2
def Z2z:OB->Option Blk
 |.lst ty k xs nl=>if nl then none else some (.cells (xs.map (Q0b k)).flatten ⟨k.size,ty⟩ true false)
 |_=>none
def Eu (U:Heap) (bs:List OB):Heap where
 get i:=if i<U.n then U.get i else (bs[i-U.n]?).bind Z2z
 n:=U.n+bs.length
 wf i h:=by
  grind
def Iz (U:Heap) (bs:List OB) (j:Nat):Value:=match bs[j]? with
 |some (.lst _ _ xs nl)=>if nl then .slice none 0 0 else .slice (some ⟨U.n+j,0,none⟩) xs.length xs.length
 |_=>poison
mutual
def NM (p:Nat->Value):SV->Value
 |.val k x=>(Q0b k x).headD poison
 |.nilS=>.slice none 0 0
 |.nilP=>.pointer none
 |.nilM=>.map none
 |.nilF=>.nilFunc
 |.lst j=>p j
 |.agg l=>.agg (VD p l).toArray
 |.tup l=>.tuple (VD p l).toArray
 |_=>poison
def VD (p:Nat->Value):List SV->List Value
 |[]=>[]
 |s::ss=>NM p s::VD p ss
end
def Dead (U U':Heap):Prop:=U.n<=U'.n/\∀ i,i<U.n->U.get i=none->U'.get i=none
theorem Dead.refl (U:Heap):Dead U U:=⟨z5 _,λ_ _ h=>h⟩
theorem Dead.trans {σ0 U U':Heap}(h:Dead σ0 U) (h':Dead U U'):Dead σ0 U':=⟨xu h.1 h'.1,λi hi hg=>h'.2 i (zQ hi h.1) (h.2 i hi hg)⟩
def Ret (P:Program) (U:Heap) (v:SV) (bs:List OB) (u:Value) (U':Heap):Prop :=
 (U.Le U'/\Dead U U')/\(bs=[]->U'=U)/\∃ pl:Nat->Value,(∀ j b,bs[j]?=some b->OR P hNil pl ZU U' (pl j) b/\∀ i,Oid (pl j) i->U.get i=none/\U.n<=i) /\
  (∀ j j' i,j<bs.length->j'<bs.length->j≠j'->Oid (pl j) i->Oid (pl j') i->False)/\SR P hNil pl ZU v u
def Q7s (P:Program) (ap:SV->List SV->Option (Prop×SV)):Prop :=
 ∀ U f args c v fV vs,SR P U X1 ZU f fV->SRs P U X1 ZU args vs->ap f args=some (c,v)->c->v.ret 0=true/\∃ g a b,fV=.func (.func g) a b/\VCalled P g (a.toList++vs++b.toList) U λu U'=>U'=U/\SR P hNil X1 ZU v u
def OkC (P:Program) (f:Nat) (sp:CSp):Prop :=
 ∀ ap,Q7s P ap->∀ U args vs c v bs,SRs P U X1 ZU args vs->sp ap args=some (c,v,bs)->v.ret bs.length=true->bs.all OB.ret=true->c->(VCalled P f vs U λu U'=>Ret P U v bs u U') /\
  (bs.all OB.isL=true->NU v=true->VCalled P f vs U λu U'=>u=NM (Iz U bs) v/\U'=Eu U bs)
def CsOk (P:Program) (cs:List (Nat×CSp)):Prop:=∀ f sp,Qw cs f=some sp->OkC P f sp
theorem VCalled.mono {f:FuncId}{args:List Value}{U:Heap}{R R':Value->Heap->Prop}(h:VCalled P f args U R) (hr:∀ v U',R v U'->R' v U'):VCalled P f args U R':=by
 intro ρ w aG hH hL;rcases h ρ w aG hH hL with⟨h1,h2⟩|⟨c,h1,h2⟩
 .exact .inl ⟨h1,h2.mono λ_ _ ⟨c,he,hg⟩=>⟨c,he,hg.mono hr⟩⟩
 .exact .inr ⟨c,h1.mono hr,h2⟩
theorem AJ {B:Heap}{pl:Nat->Value}{tb:Nat->Option Bool}{k:Kind}{v:SV}{u:Value}{x:k.T}(h:gap.asV k v=some x) (hs:SR P B pl tb v u):KV B k x u:=by
 unfold gap.asV at h;cases bJ:k.one with
 |true =>rw[bJ] at h;exact .inl ⟨bJ,QK h (by simp only[SRs];exact⟨u,[],rfl,hs,rfl⟩)⟩
 |false =>
  rw[bJ] at h;simp only[zI] at h;split at h
  .simp only[SR] at hs;obtain⟨cs,rfl,hs⟩:=hs;exact .inr ⟨bJ,cs,rfl,QK h hs⟩
  .cases h
theorem Iu {B:Heap}{pl:Nat->Value}{tb:Nat->Option Bool}:∀ {ks:List Kind}{args:List SV}{x:AT ks}{vs:List Value},gap.deca ks args=some x->SRs P B pl tb args vs->I5 B ks x vs
 |[],[],x,vs,_,hs=>by simp only[SRs] at hs;exact hs
 |[],_::_,x,vs,h,_=>by cases h
 |[k],[],x,vs,h,_=>by cases h
 |[k],[v],x,vs,h,hs=>by obtain⟨u,rfl,h1⟩:=hs.one;exact⟨u,rfl,AJ h h1⟩
 |[k],_::_::_,x,vs,h,_=>by cases h
 |k::k'::ks,[],x,vs,h,_=>by cases h
 |k::k'::ks,v::args,x,vs,h,hs=>by
  simp only[gap.deca] at h;split at h
  .rename_i y z h1 h2;obtain rfl:=osj h;simp only[SRs] at hs;obtain⟨u,us,rfl,h3,h4⟩:=hs;exact⟨u,us,rfl,AJ h1 h3,Iu h2 h4⟩
  .cases h
theorem Ret.flat {U U':Heap}{v:SV}{u:Value}(h:Ret P U v [] u U') (hv:v.ret 0=true):U'=U/\SR P hNil X1 ZU v u:=by obtain⟨_,h2,pl,_,_,h5⟩:=h;exact⟨h2 rfl,h5.retd (λj hj=>by omega) _ _ hv⟩
theorem KV.vcall {B U:Heap}(hB:B.Le U) {k:Kind}{x:k.T}{v:Value}(h:KV B k x v):KV U k x v:=by
 rcases h with⟨h1,h2⟩|⟨h1,cs,h2,h3⟩
 .exact .inl ⟨h1,h2.mono hB⟩
 .exact .inr ⟨h1,cs,h2,h3.mono hB⟩
theorem RN:∀ {k:Kind}{x:k.T},k.flat=true->SVs.ret 0 (BN k x)=true
 |.i _,_,_|.bo,_,_|.st,_,_=>rfl
 |.list _,_,h=>by cases h
 |.pair a b,x,h=>by
  simp only[Kind.flat,z1] at h;have app:∀ l m:List SV,SVs.ret 0 l=true->SVs.ret 0 m=true->SVs.ret 0 (l++m)=true:=by
   intro l m hl hm;induction l with
   |nil=>exact hm
   |cons s l ih =>simp only[SVs.ret,z1,x7] at hl |-;exact⟨hl.1,ih hl.2⟩
  exact app _ _ (RN h.1) (RN h.2)
theorem Z1a {k:Kind}{x:k.T}(h:k.flat=true):(Z0f k x).ret 0=true:=by
 cases k with
 |pair a b=>exact RN (k:=.pair a b) h
 |list k=>cases h
 |_=>rfl
theorem Ir {cs:List (Nat×CSp)}(h:CsOk P cs):∀ n,Q7s P (gap cs n)
 |0=>λU f args c v fV vs _ _ h=>by cases h
 |n+1=>by
  intro U f args c v fV vs hf ha hg hc;cases f with
  |fn g a b =>
   simp only[gap] at hg;split at hg
   .rename_i sp cQ;split at hg
    .rename_i c' v' heq;cases hv:v'.ret 0 with
     |false=>rw[hv] at hg;cases hg
     |true =>rw[hv] at hg;simp only[zd,xg,Prod.mk.injEq] at hg;obtain⟨rfl,rfl⟩:=hg;simp only[SR] at hf;obtain⟨x,y,rfl,h1,h2⟩:=hf;refine⟨hv,g,x.toArray,y.toArray,rfl,?_⟩;have:=(h g sp cQ (gap cs n) (Ir h n) U (a++args++b) (x++vs++y) c' v' [] ((h1.append ha).append h2) heq hv rfl hc).1;simpa using this.mono λu U' hr=>hr.flat hv
    .cases hg
   .cases hg
  |pf ks r cE p =>
   simp only[gap] at hg;split at hg
   .rename_i x hx;cases hr:r.flat with
    |false=>rw[hr] at hg;cases hg
    |true =>rw[hr] at hg;obtain⟨rfl,rfl⟩:=Zy hg;simp only[SR] at hf;obtain⟨g,first,cap,rfl,aJ⟩:=hf;have h2:=aJ x hc U vs (Heap.Le.refl _) (Iu hx ha);have dp:=Z1a (x:=p x) hr;exact⟨dp,g,first,cap,rfl,h2.mono λu U' hu=>⟨hu.1,(W0 (P:=P) (pl:=X1) (tb:=ZU) hu.2).retd (λj hj=>by omega) _ _ dp⟩⟩
   .cases hg
  |_=>cases hg
end
end Go.V
namespace Go.V
open Go
theorem DropTo.rename2 {σ0 σf U':Heap}{v v':Value}(π:Nat->Nat) (h1:σ0.n<=U'.n)
  (h2:∀ i,i<σ0.n->π i=i/\U'.get i=σf.get i/\(σf.get i=σ0.get i\/∃ b,σf.get i=some b/\b.plain=true))
  (h3:∀ i,σ0.n<=i->i<U'.n->σ0.n<=π i/\((U'.get i=none/\σf.get (π i)=none)\/∃ b' b,U'.get i=some b'/\σf.get (π i)=some b/\BRen U'.n π b' b))
  (h4:∀ i j,σ0.n<=i->i<U'.n->σ0.n<=j->j<U'.n->π i=π j->i=j) (h5:Ren U'.n π v' v):DropTo σ0 v σf v' U':=by
 intro ρ0 w0 ρ w c gp hE hH hv;have hπ:∀ i,i<σ0.n->π i=i:=λi hi=>(h2 i hi).1;have aI:∀ i b',U'.get i=some b'->∃ b,σf.get (π i)=some b/\BRen U'.n π b' b:=λi b' hb=>by
  have hi:=U'.lt hb;rcases zu i σ0.n with aj|b8
  .obtain⟨k1,k2,k3⟩:=h2 i aj;rw[k1];rw[k2] at hb;refine⟨b',hb,?_⟩;rcases k3 with k3|⟨b,k3,k4⟩
   .rw[k3] at hb;obtain⟨p,_,hB⟩:=gp.live i b' hb;exact hB.ren h1 hπ
   grind [osj,BRen.plain]
  grind
 have eE:∀ i j,i<U'.n->j<U'.n->π i=π j->i=j:=(by grind);have hX:Ext ρ0 σ0 w0 (λi=>if i<U'.n then ρ (π i) else none) U' w:=by
  refine⟨hE.os,hE.tape,hE.output,hE.size,hE.keep,?_,h1,λi hi p hp=>?_⟩
  .rintro B hB ⟨i,p,b,hp,hb,hw,rfl⟩;change (if i<U'.n then ρ (π i) else none)=some p at hp;split at hp
   .obtain⟨b0,bF,bh⟩:=aI i b hb;exact hE.wr _ hB ⟨π i,p,b0,hp,bF,by rw[<-bh.wr];exact hw,rfl⟩
   .cases hp
  .change (if i<U'.n then ρ (π i) else none)=some p at hp;split at hp
   .rw[hπ i hi] at hp;exact hE.pl i hi p hp
   .cases hp
 refine⟨λi=>if i<U'.n then ρ (π i) else none,h5.rel hv,gp.ext ⟨λi b' hb=>?_,λi hi=>?_,λi p hp=>?_,λi j p q b cB hp hq hb hw hx=>?_⟩ hX,hX⟩
 .obtain⟨b,bF,bh⟩:=aI i b' hb;obtain⟨p,hp,hB⟩:=hH.live _ b bF;exact⟨p,by simp[U'.lt hb,hp],bh.rel hB⟩
 .show (if i<U'.n then ρ (π i) else none)=none;split
  .rename_i aj;rcases zu i σ0.n with dg|b8
   .obtain⟨k1,k2,_⟩:=h2 i dg;rw[k1];exact hH.dead i (by rw[<-k2];exact hi)
   .obtain⟨_,⟨_,k2⟩|⟨b1,b,k1,_⟩⟩:=h3 i b8 aj
    .exact hH.dead _ k2
    .rw[k1] at hi;cases hi
  .rfl
 .change (if i<U'.n then ρ (π i) else none)=some p at hp;split at hp
  .exact hH.lt _ p hp
  .cases hp
 .change (if i<U'.n then ρ (π i) else none)=some p at hp;change (if j<U'.n then ρ (π j) else none)=some q at hq;split at hp
  .rename_i hi;split at hq
   .rename_i hj;obtain⟨b0,bF,bh⟩:=aI i b hb;exact hH.sep (π i) (π j) p q b0 (λe=>cB (eE i j hi hj e)) hp hq bF (by rw[<-bh.wr];exact hw) hx
   .cases hq
  .cases hp
theorem KC.enc {h:Heap}:∀ {k:Kind}{x:k.T}{cs:List Value},k.flat=true->KC h k x cs->cs=Q0b k x
 |.i _,_,_,_,e|.bo,_,_,_,e|.st,_,_,_,e=>e
 |.list _,_,_,f,_=>by cases f
 |.pair a b,x,cs,f,e=>by simp only[Kind.flat,z1] at f;obtain⟨c1,c2,rfl,h1,h2⟩:=e;rw[KC.enc f.1 h1,KC.enc f.2 h2];rfl
theorem Rows.enc {h:Heap}{k:Kind}(hk:k.flat=true) {xs:List k.T}{cs:List Value}(hr:Rows (KC h k) xs cs):cs=(xs.map (Q0b k)).flatten:=by
 induction hr with
 |nil=>rfl
 |cons h _ ih=>rw[zx,List.flatten_cons,<-ih,KC.enc hk h]
theorem R0:∀ {k:Kind}{x:k.T},k.flat=true->(Q0b k x).all Jy=true
 |.i _,_,_|.bo,_,_|.st,_,_=>rfl
 |.list _,_,h=>by cases h
 |.pair a b,x,h=>by simp only[Kind.flat,z1] at h;simp only[Q0b,List.all_append,z1];exact⟨R0 h.1,R0 h.2⟩
section
variable {P:Program}
mutual
theorem Mz {B:Heap}{pl:Nat->Value}{tb:Nat->Option Bool}{n:Nat}:∀ (s:SV) (v:Value),s.ret n=true->NU s=true->SR P B pl tb s v->v=NM pl s
 |.val k x,v,h,_,hs=>by simp only[SR] at hs;have:=KC.enc h hs;simp only[NM,<-this,List.headD_cons]
 |.nilS,v,_,_,hs|.nilP,v,_,_,hs|.nilM,v,_,_,hs|.nilF,v,_,_,hs=>by simp only[SR] at hs;exact hs
 |.lst j,v,_,_,hs=>by simp only[SR] at hs;exact hs.1
 |.agg l,v,h,hb,hs=>by simp only[SR] at hs;obtain⟨cs,rfl,h2⟩:=hs;rw[Tf l cs h hb h2];rfl
 |.tup l,v,h,hb,hs=>by simp only[SR] at hs;obtain⟨cs,rfl,h2⟩:=hs;rw[Tf l cs h hb h2];rfl
 |.box _ _,_,_,hb,_|.map _,_,_,hb,_=>by cases hb
 |.any,_,h,_,_|.bid _ _,_,h,_,_|.grd _ _,_,h,_,_|.sub _ _ _ _,_,h,_,_|.elp _ _ _ _,_,h,_,_|.rop _ _ _ _,_,h,_,_|.cp _ _,_,h,_,_|.fn _ _ _,_,h,_,_|.pf _ _ _ _,_,h,_,_=>by cases h
theorem Tf {B:Heap}{pl:Nat->Value}{tb:Nat->Option Bool}{n:Nat}:∀ (s:List SV) (v:List Value),SVs.ret n s=true->BE s=true->SRs P B pl tb s v->v=VD pl s
 |[],v,_,_,hs=>by simp only[SRs] at hs;exact hs
 |s::ss,v,h,hb,hs=>by simp only[SVs.ret,z1] at h;simp only[BE,z1] at hb;simp only[SRs] at hs;obtain⟨x,y,rfl,h1,h2⟩:=hs;rw[Mz s x h.1 hb.1 h1,Tf ss y h.2 hb.2 h2];rfl
end
theorem Q8l {k:Kind}{x:k.T}(h:k.flat=true):Jy ((Q0b k x).headD poison)=true\/(Q0b k x).headD poison=poison:=by
 have:=R0 (x:=x) h;cases e:Q0b k x with
 |nil=>exact .inr rfl
 |cons a l=>rw[e] at this;simp only[zM,z1] at this;exact .inl this.1
mutual
theorem Q50 {n m:Nat}{π:Nat->Nat}{p q:Nat->Value}(h:∀ j,j<m->Ren n π (p j) (q j)):∀ (s:SV),s.ret m=true->NU s=true->Ren n π (NM p s) (NM q s)
 |.val k x,hr,_=>by
  simp only[NM];rcases Q8l (x:=x) hr with h|h
  .exact .plain _ h
  .rw[h];exact .poison _
 |.nilS,_,_|.nilP,_,_|.nilM,_,_|.nilF,_,_=>.plain _ rfl
 |.lst j,hr,_=>h j (by simpa [SV.ret,zy] using hr)
 |.agg l,hr,hb=>by have:=CE h l hr hb;simp only[NM];refine .agg _ _ (by simpa using this.1) λi h1 h2=>this.2 i _ _ (by simp) (by simp)
 |.tup l,hr,hb=>by have:=CE h l hr hb;simp only[NM];refine .tuple _ _ (by simpa using this.1) λi h1 h2=>this.2 i _ _ (by simp) (by simp)
 |.box _ _,_,hb|.map _,_,hb=>by cases hb
 |.any,h,_|.bid _ _,h,_|.grd _ _,h,_|.sub _ _ _ _,h,_|.elp _ _ _ _,h,_|.rop _ _ _ _,h,_|.cp _ _,h,_|.fn _ _ _,h,_|.pf _ _ _ _,h,_=>by cases h
theorem CE {n m:Nat}{π:Nat->Nat}{p q:Nat->Value}(h:∀ j,j<m->Ren n π (p j) (q j)):∀ (s:List SV),SVs.ret m s=true->BE s=true->LRen n π (VD p s) (VD q s)
 |[],_,_=>⟨rfl,λi v c hv=>by simp[VD] at hv⟩
 |s::ss,hr,hb=>by
  simp only[SVs.ret,z1] at hr;simp only[BE,z1] at hb;have h1:=Q50 h s hr.1 hb.1;have h2:=CE h ss hr.2 hb.2;refine⟨by simp[VD,h2.1],λi v c hv hc=>?_⟩;cases i with
  |zero=>simp[VD] at hv hc;subst hv;subst hc;exact h1
  |succ i=>simp[VD] at hv hc;exact h2.2 i v c hv hc
end
mutual
theorem Q1m {m:Nat}{S:Nat->Prop}{p q:Nat->Value}(h:∀ j,j<m->Weak S (p j) (q j)):∀ (s:SV),s.ret m=true->NU s=true->Weak S (NM p s) (NM q s)
 |.val k x,_,_=>.refl _
 |.nilS,_,_|.nilP,_,_|.nilM,_,_|.nilF,_,_=>.refl _
 |.lst j,hr,_=>h j (by simpa [SV.ret,zy] using hr)
 |.agg l,hr,hb=>by have:=RJ h l hr hb;simp only[NM];exact .agg _ _ this.1 this.2
 |.tup l,hr,hb=>by have:=RJ h l hr hb;simp only[NM];exact .tuple _ _ this.1 this.2
 |.box _ _,_,hb|.map _,_,hb=>by cases hb
 |.any,h,_|.bid _ _,h,_|.grd _ _,h,_|.sub _ _ _ _,h,_|.elp _ _ _ _,h,_|.rop _ _ _ _,h,_|.cp _ _,h,_|.fn _ _ _,h,_|.pf _ _ _ _,h,_=>by cases h
theorem RJ {m:Nat}{S:Nat->Prop}{p q:Nat->Value}(h:∀ j,j<m->Weak S (p j) (q j)):∀ (s:List SV),SVs.ret m s=true->BE s=true->(VD p s).length=(VD q s).length/\∀ (i:Nat) (a b:Value),(VD p s)[i]?=some a->(VD q s)[i]?=some b->Weak S a b
 |[],_,_=>⟨rfl,λi v c hv=>by simp[VD] at hv⟩
 |s::ss,hr,hb=>by
  simp only[SVs.ret,z1] at hr;simp only[BE,z1] at hb;have h1:=Q1m h s hr.1 hb.1;have h2:=RJ h ss hr.2 hb.2;refine⟨by simp[VD,h2.1],λi v c hv hc=>?_⟩;cases i with
  |zero=>simp[VD] at hv hc;subst hv;subst hc;exact h1
  |succ i=>simp[VD] at hv hc;exact h2.2 i v c hv hc
end
theorem KC.ofEnc {h:Heap}:∀ {k:Kind}{x:k.T},k.flat=true->KC h k x (Q0b k x)
 |.i _,_,_|.bo,_,_|.st,_,_=>by simp[KC,Q0b]
 |.list _,_,f=>by cases f
 |.pair a b,x,f=>by simp only[Kind.flat,z1] at f;exact⟨_,_,rfl,KC.ofEnc f.1,KC.ofEnc f.2⟩
theorem Rows.ofEnc {h:Heap}{k:Kind}(hk:k.flat=true):∀ xs:List k.T,Rows (KC h k) xs (xs.map (Q0b k)).flatten
 |[]=>.nil
 |x::xs=>by rw[zx,List.flatten_cons];exact .cons (KC.ofEnc hk) (Rows.ofEnc hk xs)
mutual
theorem OZ {pl:Nat->Value}{m:Nat}(h:∀ j,j<m->∃ a n c,pl j=.slice a n c):∀ (s:SV),s.ret m=true->NU s=true->SR P hNil pl ZU s (NM pl s)
 |.val k x,hr,hb=>by have h1:=KC.ofEnc (h:=hNil) (x:=x) hr;have h2:=KC.length h1;rw[Kind.q1k hb] at h2;obtain⟨c,e⟩:=zT.1 h2;simp only[NM,SR,e,List.headD_cons];rw[e] at h1;exact h1
 |.nilS,_,_|.nilP,_,_|.nilM,_,_|.nilF,_,_=>by simp[NM,SR]
 |.lst j,hr,_=>by simp only[NM,SR];exact⟨trivial,h j (by simpa [SV.ret,zy] using hr)⟩
 |.agg l,hr,hb=>by simp only[NM,SR];exact⟨_,rfl,I_ h l hr hb⟩
 |.tup l,hr,hb=>by simp only[NM,SR];exact⟨_,rfl,I_ h l hr hb⟩
 |.box _ _,_,hb|.map _,_,hb=>by cases hb
 |.any,h,_|.bid _ _,h,_|.grd _ _,h,_|.sub _ _ _ _,h,_|.elp _ _ _ _,h,_|.rop _ _ _ _,h,_|.cp _ _,h,_|.fn _ _ _,h,_|.pf _ _ _ _,h,_=>by cases h
theorem I_ {pl:Nat->Value}{m:Nat}(h:∀ j,j<m->∃ a n c,pl j=.slice a n c):∀ (s:List SV),SVs.ret m s=true->BE s=true->SRs P hNil pl ZU s (VD pl s)
 |[],_,_=>by simp[VD,SRs]
 |s::ss,hr,hb=>by simp only[SVs.ret,z1] at hr;simp only[BE,z1] at hb;simp only[VD,SRs];exact⟨_,_,rfl,OZ h s hr.1 hb.1,I_ h ss hr.2 hb.2⟩
end
theorem Z5a {U:Heap}{bs:List OB}(hl:bs.all OB.isL=true) {j:Nat}(hj:j<bs.length):∃ a n c,Iz U bs j=.slice a n c:=by
 have hb:=zg.1 hl _ (zh hj);simp only[Iz,z3 hj];cases e:bs[j] with
 |lst ty k xs nl=>cases nl<;>simp
 |_=>rw[e] at hb;cases hb
theorem Q6g {σ0 σf:Heap}(hA:Agree σ0 σf) (hn:σ0.n<=σf.n) {v:SV}{bs:List OB}(hv:v.ret bs.length=true) (c_:NU v=true) (hb:bs.all OB.ret=true) (hl:bs.all OB.isL=true) {pl:Nat->Value}{u:Value}
  (au:∀ j b,bs[j]?=some b->OR P hNil pl ZU σf (pl j) b/\∀ i,oid (pl j)=some i->σ0.n<=i)
  (ie:∀ j j' i,j<bs.length->j'<bs.length->j≠j'->oid (pl j)=some i->oid (pl j')=some i->False) (hu:SR P hNil pl ZU v u) :
  DropTo σ0 u σf (NM (Iz σ0 bs) v) (Eu σ0 bs):=by
 have dA:=Mz v u hv c_ hu;subst dA;have kind:∀ j,j<bs.length->∃ ty k xs nl,bs[j]?=some (.lst ty k xs nl)/\k.flat=true/\((nl=true/\xs=[]/\pl j=.slice none 0 0)\/(nl=false/\∃ i cap c t,pl j=.slice (some ⟨i,0,none⟩) xs.length cap/\xs.length<=cap/\σ0.n<=i/\σf.get i=some (.cells c ⟨k.size,ty⟩ true t)/\c.take (xs.length*k.size)=(xs.map (Q0b k)).flatten/\Rows (KC hNil k) xs (xs.map (Q0b k)).flatten)):=by
  intro j hj;have e:=z3 hj;have h1:=zg.1 hb _ (zh hj);have h2:=zg.1 hl _ (zh hj);obtain⟨ho,hi⟩:=au j _ e;cases bS:bs[j] with
  |lst ty k xs nl =>
   rw[bS] at e ho h1;refine⟨ty,k,xs,nl,e,h1,?_⟩;rcases ho with⟨k1,k2,k3⟩|⟨k0,i,cap,c,t,k1,k2,k3,k4,k5⟩
   .exact .inl ⟨k1,k2,k3⟩
   .have k6:=Rows.enc h1 k5;exact .inr ⟨k0,i,cap,c,t,k1,k2,hi i (by rw[k1];rfl),k3,k6,by rw[<-k6];exact k5⟩
  |_=>rw[bS] at h2;cases h2
 let S:Nat->Bool:=λi=>(List.range bs.length).any λj=>decide (oid (pl j)=some i);have hS:∀ i,S i=true<->∃ j,j<bs.length/\oid (pl j)=some i:=(by grind);let σw:Heap:=⟨λi=>if S i=true then ((List.range bs.length).find? λj=>decide (oid (pl j)=some i)).bind λj=>(bs[j]?).bind Z2z else σf.get i,σf.n,λi hi=>by
  by_cases h:S i=true
  .obtain⟨j,hj,bD⟩:=(hS i).1 h;obtain⟨ty,k,xs,nl,_,_,h3⟩:=kind j hj;rcases h3 with⟨_,_,k3⟩|⟨_,i',cap,c,t,k1,_,_,k3,_⟩
   .rw[k3] at bD;cases bD
   .rw[k1] at bD;obtain rfl:=osj bD;exact absurd (σf.lt k3) (Nat.not_lt.2 hi)
  .rw[z0 h];exact σf.wf i hi⟩
 have cJ:∀ j i,j<bs.length->oid (pl j)=some i->σw.get i=(bs[j]?).bind Z2z:=λj i hj bD=>by
  have h1:S i=true:=(hS i).2 ⟨j,hj,bD⟩;show (if S i=true then _ else _)=_;rw[z2 h1];cases hf:(List.range bs.length).find? λj=>decide (oid (pl j)=some i) with
  |none=>have:=List.find?_eq_none.1 hf j (zS.2 hj);simp[bD] at this
  |some j' =>have h2:=List.find?_some hf;have h3:=zS.1 (List.mem_of_find?_eq_some hf);have h4:j'=j:=(by grind);subst h4;rfl
 let q:Nat->Value:=λj=>match pl j with
  |.slice (some a) n _=>.slice (some a) n n
  |v=>v
 have hq:∀ j,j<bs.length->Weak (λi=>S i=true) (pl j) (q j):=λj hj=>by
  obtain⟨ty,k,xs,nl,_,_,h3⟩:=kind j hj;rcases h3 with⟨_,_,k3⟩|⟨_,i',cap,c,t,k1,k2,_,k3,_⟩
  .simp only[q,k3];exact .refl _
  .simp only[q,k1];exact .sl _ _ _ ((hS i').2 ⟨j,hj,by rw[k1];rfl⟩) k2
 have nh:DropTo σ0 (NM pl v) σf (NM q v) σw:=by
  refine DropTo.weaken S (λi hi=>?_) rfl hn (λi hi=>?_) (λi hi=>?_) (Q1m hq v hv c_)
  .grind
  .grind
  .obtain⟨j,hj,bD⟩:=(hS i).1 hi;obtain⟨ty,k,xs,nl,e,_,h3⟩:=kind j hj;rcases h3 with⟨_,_,k3⟩|⟨k0,i',cap,c,t,k1,k2,_,k3,k4,_⟩
   .rw[k3] at bD;cases bD
   .rw[k1] at bD;obtain rfl:=osj bD;refine⟨c,_,true,t,xs.length*k.size,k3,?_⟩;rw[cJ j _ hj (by rw[k1];rfl),e];simp only[x8,Z2z,k0];rw[k4];rfl
 have lZ:∀ j i,j<bs.length->oid (pl j)=some i->i<σf.n:=λj i hj bD=>by
  obtain⟨ty,k,xs,nl,_,_,h3⟩:=kind j hj;rcases h3 with⟨_,_,k3⟩|⟨_,i',cap,c,t,k1,_,_,k3,_⟩
  .rw[k3] at bD;cases bD
  .rw[k1] at bD;obtain rfl:=osj bD;exact σf.lt k3
 let π:Nat->Nat:=λi=>if i<σ0.n then i else match oid (pl (i-σ0.n)) with
  |some id=>id
  |none=>σf.n+i
 have tV:σw.n=σf.n:=rfl;have ni:DropTo σ0 (NM q v) σw (NM (Iz σ0 bs) v) (Eu σ0 bs):=by
  refine DropTo.rename2 π (by simp[Eu]) (λi hi=>⟨by simp[π,hi],?_,.inl ?_⟩) (λi h1 h2=>?_) (λi j h1 h2 h3 h4 he=>?_) (Q50 (λj hj=>?_) v hv c_)
  .have hs:S i=false:=by
    grind
   show (if i<σ0.n then _ else _)=(if S i=true then _ else _);rw[z2 hi,z0 (by simp[hs]),hA i hi]
  .have hs:S i=false:=by
    grind
   show (if S i=true then _ else _)=_;rw[z0 (by simp[hs]),hA i hi]
  .have hj:i-σ0.n<bs.length:=by simp[Eu] at h2;omega
   have b8:¬ i<σ0.n:=by omega
   obtain⟨ty,k,xs,nl,e,qd,h3⟩:=kind _ hj;have nj:(Eu σ0 bs).get i=(bs[i-σ0.n]?).bind Z2z:=by show (if i<σ0.n then _ else _)=_;rw[z0 b8]
   rcases h3 with⟨k0,_,k3⟩|⟨k0,i',cap,c,t,k1,k2,kJ,k3,k4,_⟩
   .have hp:π i=σf.n+i:=by simp only[π,z0 b8,k3,oid]
    refine⟨by omega,.inl ⟨?_,σw.wf _ (by rw[hp,tV];omega)⟩⟩;rw[nj,e];simp[Z2z,k0]
   .have hp:π i=i':=by simp only[π,z0 b8,k1,oid]
    rw[hp];have hw:=cJ _ i' hj (by rw[k1];rfl);rw[e] at hw;simp only[x8,Z2z,k0] at hw;refine⟨kJ,.inr ⟨_,_,?_,hw,BRen.plain ?_⟩⟩
    .rw[nj,e];simp[Z2z,k0]
    .simp only[Blk.plain,List.all_flatten,List.all_map];rw[zg];intro x _;exact R0 qd
  .have hi:i-σ0.n<bs.length:=by simp[Eu] at h2;omega
   have hj:j-σ0.n<bs.length:=by simp[Eu] at h4;omega
   grind
  .obtain⟨ty,k,xs,nl,e,_,h3⟩:=kind j hj;rcases h3 with⟨k0,kx,k3⟩|⟨k0,i',cap,c,t,k1,k2,_,k3,_⟩
   .simp only[Iz,e,k0,zn,q,k3];exact .plain _ rfl
   .simp only[Iz,e,k0,zk,if_false,q,k1];have hp:π (σ0.n+j)=i':=by
     have:¬ σ0.n+j<σ0.n:=by omega
     simp only[π,z0 this,Nat.add_sub_cancel_left,k1,oid]
    have:=Ren.sl (n:=(Eu σ0 bs).n) (π:=π) (σ0.n+j) 0 xs.length xs.length (by simp[Eu];omega)
    rwa [hp] at this
 exact nh.trans ni
def OB.wfL:OB->Prop
 |.lst _ _ xs nl=>nl=true->xs=[]
 |_=>True
theorem Q1g (σ0:Heap) {v:SV}{bs:List OB}(hv:v.ret bs.length=true) (c_:NU v=true) (hb:bs.all OB.ret=true) (hl:bs.all OB.isL=true) (hw:∀ b∈bs,b.wfL):Ret P σ0 v bs (NM (Iz σ0 bs) v) (Eu σ0 bs):=by
 have kind:∀ j,j<bs.length->∃ ty k xs nl,bs[j]?=some (.lst ty k xs nl)/\k.flat=true/\(nl=true->xs=[]):=λj hj=>by
  have e:=z3 hj;have h1:=zg.1 hb _ (zh hj);have h2:=zg.1 hl _ (zh hj);have h3:=hw _ (zh hj);cases bS:bs[j] with
  |lst ty k xs nl=>rw[bS] at e h1 h3;exact⟨ty,k,xs,nl,e,h1,h3⟩
  |_=>rw[bS] at h2;cases h2
 refine⟨⟨?_,?_⟩,?_,Iz σ0 bs,λj b hj=>?_,λj j' i hj di aK h1 h2=>?_,OZ (λj hj=>Z5a hl hj) v hv c_⟩
 .refine⟨by simp[Eu],λi b hg=>?_⟩;show (if i<σ0.n then _ else _)=_;rw[z2 (σ0.lt hg)];exact hg
 .refine⟨by simp[Eu],λi hi hg=>?_⟩;show (if i<σ0.n then _ else _)=_;rw[z2 hi];exact hg
 .rintro rfl;apply Heap.ext'
  .intro i;show (if i<σ0.n then _ else _)=_;by_cases hi:i<σ0.n
   .rw[z2 hi]
   .rw[z0 hi,σ0.wf i (by omega)];rfl
  .simp[Eu]
 .have cH:j<bs.length:=(zm.1 hj).1;obtain⟨ty,k,xs,nl,e,qd,h3⟩:=kind j cH;obtain rfl:=osj (e.symm.trans hj);cases nl with
  |true =>
   have hp:Iz σ0 bs j=.slice none 0 0:=by simp[Iz,e]
   rw[hp];exact⟨.inl ⟨rfl,h3 rfl,rfl⟩,λi hi=>by cases hi⟩
  |false =>
   have hp:Iz σ0 bs j=.slice (some ⟨σ0.n+j,0,none⟩) xs.length xs.length:=by simp[Iz,e]
   have k5:=Rows.ofEnc (h:=hNil) qd xs;have eR:=k5.length KC.q0h;rw[hp];refine⟨.inr ⟨rfl,σ0.n+j,xs.length,(xs.map (Q0b k)).flatten,false,rfl,z5 _,?_,by omega,?_⟩,λi hi=>?_⟩
   .show (if σ0.n+j<σ0.n then _ else _)=_;rw[z0 (by omega),Nat.add_sub_cancel_left,e];simp[Z2z]
   .rw[x9 (by omega)];exact k5
   .obtain rfl:=osj hi;exact⟨σ0.wf _ (by simp),by simp⟩
 .obtain⟨ty,k,xs,nl,e,_,h3⟩:=kind j hj;obtain⟨iL,k',b_,jL,e',_,iM⟩:=kind j' di;simp only[Iz,e] at h1;simp only[Iz,e'] at h2;cases nl with
  |true=>simp[Oid,oid] at h1
  |false =>
   cases jL with
   |true=>simp[Oid,oid] at h2
   |false=>simp[Oid,oid] at h1 h2;omega
end
end Go.V
namespace Go.V
open Go
section
variable {P:Program}{B F:Heap}{pl:Nat->Value}{tb:Nat->Option Bool}{own:Own}{U:Heap}
mutual
theorem Q63 {bx:List SV->Nat->SV}(hle:B.Le U) (aF:∀ d,OR P B pl tb U (pl d) (Qe own d))
  (kK:∀ l off b c e t,U.get b=some (.cells c e true t)->SRs P B pl tb l c->SR P U X1 ZU (bx l off) (.pointer (some ⟨b,off,none⟩))) :
  ∀ (s:SV) (v:Value),SR P B pl tb s v->SR P U X1 ZU (Et own bx s) v
 |.any,v,h=>by simp[Et,SR]
 |.val k x,v,h=>by simp only[Et,SR] at h |-;exact h.mono hle
 |.bid n c,v,h=>by simp only[Et,SR] at h |-;obtain⟨rfl,_⟩:=h;rfl
 |.grd gs s,v,h=>by simp[Et,SR]
 |.nilS,v,h=>by simp only[Et,SR] at h |-;exact h
 |.nilP,v,h=>by simp only[Et,SR] at h |-;exact h
 |.nilM,v,h=>by simp only[Et,SR] at h |-;exact h
 |.nilF,v,h=>by simp only[Et,SR] at h |-;exact h
 |.lst o,v,h=>by
  simp only[Et];split
  .rename_i ty k xs nl ho;have:view own k (.lst o)=some xs:=by simp[view,ho,Bh]
   simp only[SR,KC];exact⟨v,rfl,(Ma hle aF this h).mono (Heap.Le.refl _) λ_ _ e=>e.mono hle⟩
  .simp[SR]
 |.sub o lo n sz,v,h=>by
  simp only[Et];split
  .rename_i ty k xs nl ho;split
   .rename_i aP;have:view own k (.sub o lo n sz)=some ((xs.drop lo).take n):=by simp[view,ho,Bh,aP]
    simp only[SR,KC];exact⟨v,rfl,(Ma hle aF this h).mono (Heap.Le.refl _) λ_ _ e=>e.mono hle⟩
   .simp[SR]
  .simp[SR]
 |.elp o i off sz,v,h=>by simp[Et,SR]
 |.dd o w,v,h=>by
  simp only[Et];simp only[SR] at h;split
  .rename_i ty q k xs nl hole ho;have au:=aF o;rw[ho] at au;have cW:=DP.le au;split
   .split
    .obtain⟨h1,_⟩:=h;simp only[SR,KC];refine⟨v,rfl,?_⟩;rw[h1];exact(DP.sl au).mono cW λ_ _ e=>e.mono cW
    .simp[SR]
   .simp only[SR];exact KC.mono cW h
   .simp only[SR];exact KC.mono cW h.1
   .simp[SR]
  .simp[SR]
 |.map o,v,h=>by simp[Et,SR]
 |.tup l,v,h=>by simp[Et,SR]
 |.box o off,v,h=>by
  simp only[Et];split
  .rename_i l _ ho;have au:=aF o;rw[ho] at au;obtain⟨i,c,e,t,h1,h2,h3,_⟩:=au;simp only[SR] at h
   grind
  .simp[SR]
 |.rop k l i off,v,h=>by simp only[Et];exact SR.mono (tb:=tb) hle (λn c hn=>hn) (.rop k l i off) v h |> λh=>by simp only[SR] at h |-;exact h
 |.cp l off,v,h=>by simp only[Et,SR] at h |-;obtain⟨b,c,e,wr,t,h1,h2,h3⟩:=h;exact⟨b,c,e,wr,t,hle.2 _ _ h1,h2,XR hle aF kK l c h3⟩
 |.agg l,v,h=>by simp only[Et,SR] at h |-;obtain⟨cs,h1,h2⟩:=h;exact⟨cs,h1,XR hle aF kK l cs h2⟩
 |.fn f a b,v,h=>by simp only[Et,SR] at h |-;obtain⟨x,y,h1,h2,h3⟩:=h;exact⟨x,y,h1,XR hle aF kK a x h2,XR hle aF kK b y h3⟩
 |.pf ks r cE p,v,h=>by simp only[Et,SR] at h |-;exact h.mono hle
theorem XR {bx:List SV->Nat->SV}(hle:B.Le U) (aF:∀ d,OR P B pl tb U (pl d) (Qe own d))
  (kK:∀ l off b c e t,U.get b=some (.cells c e true t)->SRs P B pl tb l c->SR P U X1 ZU (bx l off) (.pointer (some ⟨b,off,none⟩))) :
  ∀ (s:List SV) (v:List Value),SRs P B pl tb s v->SRs P U X1 ZU (E7 own bx s) v
 |[],v,h=>by simp only[E7,SRs] at h |-;exact h
 |s::ss,v,h=>by simp only[E7,SRs] at h |-;obtain⟨x,y,h1,h2,h3⟩:=h;exact⟨x,y,h1,Q63 hle aF kK s x h2,XR hle aF kK ss y h3⟩
end
theorem W6 (hle:B.Le U) (aF:∀ d,OR P B pl tb U (pl d) (Qe own d)) {l:List SV}{v:List Value}(h:SRs P B pl tb l v):SRs P U X1 ZU (RF own l) v:=by
 have h0:∀ {l v},SRs P B pl tb l v->SRs P U X1 ZU (J16 own l) v:=λh=>XR hle aF (λ_ _ _ _ _ _ _ _=>by simp[SR]) _ _ h;have h1:∀ {l v},SRs P B pl tb l v->SRs P U X1 ZU (J13 own l) v:=λh=>XR hle aF (λl off b c e t hg hs=>by
  simp only[SR];grind) _ _ h
 exact XR hle aF (λl off b c e t hg hs=>by
  simp only[SR];grind) _ _ h
mutual
theorem Q8e {p q:Nat->Value}{n:Nat}(h:∀ j,j<n->p j=q j):∀ (s:SV),s.ret n=true->NM p s=NM q s
 |.val _ _,_|.nilS,_|.nilP,_|.nilM,_|.nilF,_=>by simp[NM]
 |.lst j,hr=>by simp only[NM];exact h j (by simpa [SV.ret,zy] using hr)
 |.agg l,hr=>by simp only[NM];rw[OD h l hr]
 |.tup l,hr=>by simp only[NM];rw[OD h l hr]
 |.box _ _,_|.map _,_=>by simp[NM]
 |.dd _ _,_=>by simp[NM]
 |.any,h|.bid _ _,h|.grd _ _,h|.sub _ _ _ _,h|.elp _ _ _ _,h|.rop _ _ _ _,h|.cp _ _,h|.fn _ _ _,h|.pf _ _ _ _,h=>by cases h
theorem OD {p q:Nat->Value}{n:Nat}(h:∀ j,j<n->p j=q j):∀ (s:List SV),SVs.ret n s=true->VD p s=VD q s
 |[],_=>rfl
 |s::ss,hr=>by simp only[SVs.ret,z1] at hr;simp only[VD];rw[Q8e h s hr.1,OD h ss hr.2]
end
theorem Jl {cs:List (Nat×CSp)}(aE:CsOk P cs) {f:SV}{args:List SV}{c:Prop}{v:SV}{bs:List OB}{fV:Value}{vs:List Value}(hf:SR P U X1 ZU f fV) (ha:SRs P U X1 ZU args vs)
  (h:NR cs f args=some (c,v,bs)) (hv:v.ret bs.length=true) (hb:bs.all OB.ret=true) (hc:c):∃ g a b,fV=.func (.func g) a b/\(VCalled P g (a.toList++vs++b.toList) U λu U'=>Ret P U v bs u U') /\
  (bs.all OB.isL=true->NU v=true->VCalled P g (a.toList++vs++b.toList) U λu U'=>u=NM (Iz U bs) v/\U'=Eu U bs):=by
 have gen:(gap cs 3 f args).map (λx=>(x.1,x.2,([]:List OB)))=some (c,v,bs)->∃ g a b,fV=.func (.func g) a b/\(VCalled P g (a.toList++vs++b.toList) U λu U'=>Ret P U v bs u U') /\
   (bs.all OB.isL=true->NU v=true->VCalled P g (a.toList++vs++b.toList) U λu U'=>u=NM (Iz U bs) v/\U'=Eu U bs):=λh=>by
  simp only[zi] at h;obtain⟨⟨c',v'⟩,h1,h2⟩:=h;simp only[Prod.mk.injEq] at h2;obtain⟨rfl,rfl,rfl⟩:=h2;obtain⟨h3,g,a,b,rfl,h4⟩:=Ir aE 3 U f args c' v' fV vs hf ha h1 hc;refine⟨g,a,b,rfl,h4.mono λu U' hu=>?_,λ_ c_=>h4.mono λu U' hu=>?_⟩
  .obtain⟨rfl,hu⟩:=hu;exact⟨⟨Heap.Le.refl _,Dead.refl _⟩,λ_=>rfl,X1,(λj b hj=>by simp at hj),(λj j' i hj=>by simp at hj),hu⟩
  .obtain⟨rfl,hu⟩:=hu;have hz:Eu U' []=U':=(Q1g (P:=P) U' (v:=v') (bs:=[]) h3 c_ rfl rfl (λb hb=>by cases hb)).2.1 rfl;refine⟨?_,hz.symm⟩;rw[Mz v' u h3 c_ hu]
   grind [Q8e]
 cases f with
 |fn g a b =>
  simp only[NR] at h;split at h
  .rename_i sp cQ;simp only[SR] at hf;obtain⟨x,y,rfl,h1,h2⟩:=hf;refine⟨g,x.toArray,y.toArray,rfl,?_⟩;simpa using aE g sp cQ (gap cs 3) (Ir aE 3) U (a++args++b) (x++vs++y) c v bs ((h1.append ha).append h2) h hv hb hc
  .cases h
 |_=>exact gen h
theorem Gam.q1r {s:St}{env:Env}{U':Heap}(h:Gam P B F pl tb s env U) (hl:U.Le U') {d:Nat}(aq:(Qe s.own d).live=true) {i:Nat}(hi:Oid (pl d) i):U'.get i=U.get i:=by
  have aj:=(h.obj d).q0v aq hi;cases hb:U.get i with
  |none =>
   have au:=h.obj d;cases ho:Qe s.own d with
   |dead=>rw[ho] at aq;cases aq
   |lst ty k xs nl =>
    rw[ho] at au;rcases au with⟨_,_,h2⟩|⟨_,i',cap,c,t,h2,_,h3,_⟩
    .rw[h2] at hi;cases hi
    .rw[h2] at hi;obtain rfl:=osj hi;rw[h3] at hb;cases hb
   |cells l u=>rw[ho] at au;obtain⟨i',c,e,t,h2,h3,_⟩:=au;rw[h2] at hi;obtain rfl:=osj hi;rw[h3] at hb;cases hb
   |mapE kk vk m key n=>rw[ho] at au;obtain⟨i',es,cl,r,e,h2,h3,_⟩:=au;rw[h2] at hi;obtain rfl:=osj hi;rw[h3] at hb;cases hb
   |map kk vk m=>rw[ho] at au;obtain⟨i',es,cl,h2,h3,_⟩:=au;rw[h2] at hi;obtain rfl:=osj hi;rw[h3] at hb;cases hb
   |stk l vals=>rw[ho] at aq;cases aq
   |lpf l q s=>rw[ho] at au aq;obtain⟨h2,_,h3⟩:=au;rw[h2] at hi;obtain rfl:=osj hi;have h3:=h3 aq;rw[hb] at h3;cases h3
   |iter kk vk m dn=>rw[ho] at au;obtain⟨j',i',es,cl,wr,seen,h2,h3,_⟩:=au;rw[h2] at hi;obtain rfl:=osj hi;rw[h3] at hb;cases hb
   |deep ty q k xs nl hh =>rw[ho] at au;obtain⟨is,_,d2,d3,_⟩:=DP.open au;obtain⟨c,e,t,h⟩:=d2.cells i ((d3 i).1 hi);rw[h] at hb;cases hb
  |some b=>rw[hl.2 i b hb]
theorem Gam.heap {s:St}{env:Env}{U':Heap}(h:Gam P B F pl tb s env U) (hl:U.Le U'):Gam P B F pl tb s env U' :=
 ⟨h.bf,h.le.trans hl,h.env,λd=>(h.obj d).mono (Heap.Le.refl _) (λ_ _ h=>h) λaq _i hi=>h.q1r hl aq hi,h.fresh,h.sep,h.free⟩
theorem Ef {env:Env}{σ0:Heap}{d nt:Nat}(fv:0<nt) (fL:Nat->Value) (bs:List OB) (hB:F.Le σ0)
  (au:∀ j b,bs[j]?=some b->b.ret=true/\OR P hNil fL ZU U (fL j) b/\∀ i,Oid (fL j) i->σ0.n<=i)
  (ie:∀ j j' i,j<bs.length->j'<bs.length->j≠j'->Oid (fL j) i->Oid (fL j') i->False) :
  ∀ (r:List OB) (j:Nat) (pl:Nat->Value) (s:St),bs.drop j=r->Gam P B F pl tb s env U->(∀ k i,(Qe s.own k).live=true->Oid (pl k) i->i<σ0.n\/∃ j'<j,j'<bs.length/\Oid (fL j') i/\k=d+j'*nt)->(∀ j'<j,j'<bs.length->pl (d+j'*nt)=fL j') ->
   ∃ pl',Gam P B F pl' tb (s.makes d nt j r) env U/\(∀ j'<bs.length,pl' (d+j'*nt)=fL j')/\∀ q,(∀ j'<bs.length,q≠d+j'*nt)->pl' q=pl q/\(Qe (s.makes d nt j r).own q).live=(Qe s.own q).live
 |[],j,pl,s,hr,hG,_,hp=>⟨pl,hG,λj' di=>hp j' (by
   have:=congrArg List.length hr;simp at this;omega) di,λq _=>⟨rfl,rfl⟩⟩
 |b::r,j,pl,s,hr,hG,hinv,hp=>by
  have cH:j<bs.length:=by
   grind [Nat.lt_or_ge,List.drop_eq_nil_of_le]
  have bS:bs[j]?=some b:=by
   have:(bs.drop j)[0]?=some b:=by rw[hr];rfl
   simpa using this
  have ke:bs.drop (j+1)=r:=by
   have:(bs.drop j).drop 1=r:=by rw[hr];rfl
   simpa [List.drop_drop,xV] using this
  obtain⟨h1,h2,h3⟩:=au j b bS;have aS:∀ j' ,j'≠j->d+j'*nt≠d+j*nt:=(by grind [Nat.eq_of_mul_eq_mul_right]);obtain⟨pl',k1,k2,k3⟩:∃ pl',Gam P B F pl' tb ((s.make (d+j*nt) b).makes d nt (j+1) r) env U/\(∀ j'<bs.length,pl' (d+j'*nt)=fL j')/\∀ q,(∀ j'<bs.length,q≠d+j'*nt)->pl' q=Xd pl (d+j*nt) (fL j) q/\(Qe ((s.make (d+j*nt) b).makes d nt (j+1) r).own q).live=(Qe (s.make (d+j*nt) b).own q).live:=by
   refine Ef fv fL bs hB au ie r (j+1) (Xd pl (d+j*nt) (fL j)) _ ke (hG.make (d+j*nt) b (fL j) hG.le (λ_ _ _ _ _=>rfl) (h2.retd h1 λ_ _=>rfl) λi _ hi=>⟨F.wf _ (by have:=h3 i hi;have:=hB.1;omega),λk hk hl e=>?_⟩) (λk i hl hi=>?_) λj' di qe=>?_
   .grind
   .by_cases hk:k=d+j*nt
    .subst hk;simp only[Xd,zn] at hi
     grind
    .have cF:(Qe s.own k).live=true:=by
      simp only[St.make,St.kill,Qn,Mt,z0 hk] at hl
      rwa [OB.q0t] at hl
     simp only[Xd,z0 hk] at hi
     grind
   .by_cases e:j'=j
    .subst e;simp[Xd]
    .simp only[Xd,z0 (aS j' e)];exact hp j' (by omega) qe
  refine⟨pl',k1,k2,λq hq=>?_⟩;obtain⟨e1,e2⟩:=k3 q hq;refine⟨by rw[e1];simp[Xd,hq j cH],?_⟩;show (Qe ((s.make (d+j*nt) b).makes d nt (j+1) r).own q).live=_;rw[e2];simp only[St.make,St.kill,Qn,Mt,z0 (hq j cH),OB.q0t]
theorem Ret.gamF {s:St}{env:Env}{d nt:Nat}(fv:0<nt) (hG:Gam P B F pl tb s env U) {v:SV}{bs:List OB}{u:Value}{U':Heap}(hv:v.ret bs.length=true) (hb:bs.all OB.ret=true) (h:Ret P U v bs u U') :
  ∃ pl',Gam P B F pl' tb (s.makes d nt 0 bs) env U'/\SR P B pl' tb (v.ren d nt) u/\∀ q,(∀ j'<bs.length,q≠d+j'*nt)->(Qe (s.makes d nt 0 bs).own q).live=(Qe s.own q).live/\pl' q=pl q/\((Qe s.own q).live=true->∀ i,Oid (pl q) i->U'.get i=U.get i):=by
 obtain⟨⟨h1,_⟩,_,fL,h2,h3,h4⟩:=h
 obtain⟨pl',h5,h6,h7⟩:=Ef (tb:=tb) (d:=d) fv fL bs hG.le (by grind) h3 bs 0 pl s rfl (hG.heap h1)
  (λk i hl hi=>.inl ((hG.obj k).q0v hl hi)) (λj' di=>by omega)
 exact⟨pl',h5,SR.ren (tb:=ZU) (λj hj=>h6 j hj) _ _ hv (SR.mono (tb:=ZU) (tb':=ZU) (Q5k B) (λ_ _ h=>h) _ _ h4),λq hq=>⟨(h7 q hq).2,(h7 q hq).1,λhl i hi=>hG.q1r h1 hl hi⟩⟩
theorem Ret.gam {s:St}{env:Env}{d nt:Nat}(fv:0<nt) (hG:Gam P B F pl tb s env U) {v:SV}{bs:List OB}{u:Value}{U':Heap}(hv:v.ret bs.length=true) (hb:bs.all OB.ret=true) (h:Ret P U v bs u U') :
  ∃ pl',Gam P B F pl' tb (s.makes d nt 0 bs) env U'/\SR P B pl' tb (v.ren d nt) u:=by
 obtain⟨pl',h1,h2,_⟩:=h.gamF fv hG hv hb;exact⟨pl',h1,h2⟩
end
end Go.V
namespace Go.V
open Go
section
variable {P:Program}
structure GBase (B0 F0 D0 B F U:Heap):Prop where
 b:B0.Le B
 f:F0.Le F
 x:∀ i b,F0.get i=some b->B0.get i=none->B.get i=none
 d:Dead D0 U
theorem GBase.of {B F U:Heap}{U':Heap}(_hB:B.Le F) (h:Dead U U'):GBase B F U B F U':=⟨.refl _,.refl _,λ_ _ _ h=>h,h⟩
theorem GBase.trans {B0 F0 D0 B F U B' F' U':Heap}(h:GBase B0 F0 D0 B F U) (h':GBase B F U B' F' U'):GBase B0 F0 D0 B' F' U' :=
 ⟨h.b.trans h'.b,h.f.trans h'.f,λi b h1 h2=>h'.x i b (h.f.2 _ _ h1) (h.x i b h1 h2),h.d.trans h'.d⟩
def GRel (P:Program) (B0 F0 D0:Heap) (s:St) (env:Env) (U:Heap):Prop:=∃ B F pl tb,GBase B0 F0 D0 B F U/\Gam P B F pl tb s env U
theorem P8 {B0 F0 D0 B F:Heap}{U U':Heap}(hB:GBase B0 F0 D0 B F U) (h:Dead U U'):GBase B0 F0 D0 B F U':=⟨hB.b,hB.f,hB.x,hB.d.trans h⟩
theorem Gam.evs {B F:Heap}{pl:Nat->Value}{tb:Nat->Option Bool}{s:St}{env:Env}{U:Heap}(h:Gam P B F pl tb s env U) {gs:List Gd}(hg:Gds tb gs) (x:Operand):SR P B pl tb (gev gs s.env x) (Q5 env x):=Q83 hg h.env x
theorem Gds.nil {tb:Nat->Option Bool}:Gds tb []:=λ_ h=>by cases h
theorem Q7n {gs:List Gd}{c:Prop}(h:Z64 gs c) (hg:∀ g∈gs,g.c=g.want):c:=by
 induction gs with
 |nil=>exact h
 |cons g gs ih=>exact ih (h (hg g (by simp))) λg' gy=>hg g' (by simp[gy])
theorem ZT {gs:List Gd}{cs:List Prop}{q:Prop}(h:Q2l gs cs q):q/\((∀ g∈gs,g.c=g.want)->∀ c∈cs,c):=by
 induction cs with
 |nil=>exact⟨h,λ_ c hc=>by cases hc⟩
 |cons c cs ih =>obtain⟨h1,h2⟩:=h;obtain⟨h3,h4⟩:=ih h2;exact⟨h3,(by grind [Q7n])⟩
theorem Dead.push (U:Heap) (b:Blk):Dead U (U.push b):=⟨by simp,(by grind [Heap.q0l])⟩
theorem Dead.upd (U:Heap) (j:Nat) (b:Blk) (hj:(U.get j).isSome=true):Dead U (U.upd j b):=⟨by simp,(by grind [Heap.q0b])⟩
theorem Dead.kill (U:Heap) (j:Nat):Dead U (U.kill j):=⟨by simp,(by grind [Heap.q0f,Heap.q0c])⟩
theorem Q0l {e:El}{bytes m:Nat}{U U':Heap}{s u:Value}{xs:List Value}(h:N_ e bytes U s m xs=some (u,U')):Dead U U':=by
 unfold N_ at h;split at h
 .grind [Zy,Dead.refl,Dead.push]
 .split at h
  .rename_i hg;split at h
   .split at h
    .grind [Zy,Dead.refl]
    .split at h
     .grind [Zy,Dead.upd]
     .split at h
      .split at h
       .grind [Zy,Dead.push]
       .split at h
        .obtain⟨rfl,rfl⟩:=Zy h;exact(Dead.kill _ _).trans (Dead.push _ _)
        .cases h
      .cases h
   .cases h
  .cases h
 .grind [Zy,Dead.push]
 .cases h
theorem Uj {o:VOp}{ev:Operand->Value}{U U':Heap}{u:Value}(h:Qc o ev U=some (u,U')):Dead U U':=by
 by_cases hk:o.kind=2
 .cases o<;>first|(cases hk;done)|skip
  case alloc t z=>obtain⟨rfl,rfl⟩:=Zy h;exact Dead.push _ _
  case box t x =>
   simp only[Qc] at h
   grind [Zy,Dead.push]
  case buildSlice e z n ps =>
   simp only[Qc] at h
   grind [Zy,Dead.push]
  case makeSlice e b z l c =>
   simp only[Qc] at h
   grind [Zy,Dead.push]
  case store size a x =>
   simp only[Qc] at h
   grind [Zy,Dead.upd]
  case append e b x y =>
   simp only[Qc] at h
   grind [Q0l]
  case slice size x lo hi mx =>
   simp only[Qc] at h;split at h
   .have sl:∀ {l hh:Nat}{m:Option Nat}{v:Value},Vz size U v l hh m=some (u,U')->Dead U U':=λ{l hh m v} h=>by
     unfold Vz at h
     grind [Zy,Dead.refl,Dead.push]
    grind
   .cases h
  case callF f a=>cases h
  case callV f a=>cases h
  case ext x =>
   cases x<;>first|(cases hk;done)|skip
   case makeMap=>obtain⟨rfl,rfl⟩:=Zy h;exact Dead.push _ _
   case mapUpdate mk m k v =>
    simp only[Qc,JY] at h;split at h
    .split at h
     .rename_i hm;split at h
      .obtain⟨rfl,rfl⟩:=Zy h;refine Dead.upd _ _ _ ?_;unfold Heap.mapAt at hm
       grind
      .cases h
     .cases h
    .cases h
   case mapEntry mk z m k =>
    simp only[Qc,JY] at h;split at h
    .split at h
     .rename_i hm;split at h
      .split at h
       all_goals
        obtain⟨rfl,rfl⟩:=Zy h;refine Dead.upd _ _ _ ?_;unfold Heap.mapAt at hm;split at hm
        .rename_i hg;rw[hg];rfl
        .cases hm
      .cases h
     .cases h
    .cases h
   case entryStore m s v =>
    simp only[Qc,JY] at h;split at h
    .split at h
     .rename_i hm;split at h
      .split at h
       .obtain⟨rfl,rfl⟩:=Zy h;refine Dead.upd _ _ _ ?_;unfold Heap.mapAt at hm
        grind
       .cases h
      .cases h
     .cases h
    .cases h
   case delete mk m k =>
    simp only[Qc,JY] at h;split at h
    .split at h
     .rename_i hm;split at h
      .obtain⟨rfl,rfl⟩:=Zy h;refine Dead.upd _ _ _ ?_;unfold Heap.mapAt at hm
       grind
      .cases h
     .cases h
    .cases h
   case rangeMap x =>
    simp only[Qc,JY] at h
    grind [Zy,Dead.push]
   case nextMap x=>cases h
   case copy size a b =>
    simp only[Qc,JY] at h
    grind [Zy,Dead.refl,Dead.upd]
   case clear z x =>
    simp only[Qc,JY] at h
    grind [Zy,Dead.refl,Dead.upd]
   case strBytes e x =>
    simp only[Qc,JY] at h
    grind [Zy,Dead.push]
   case unsafeStr e x n =>
    simp only[Qc,JY] at h;split at h
    .grind [Zy,Dead.refl,Dead.upd]
    .cases h
 grind [Tq,Dead.refl]
theorem BH {B F:Heap}{pl:Nat->Value}{tb:Nat->Option Bool}{s:St}{env:Env}{U:Heap}(hG:Gam P B F pl tb s env U) {x:Operand}{b:Bool}(h:Q1o s.env x=some b):Q5 env x=.bool b:=by
 unfold Q1o at h;split at h
 .rename_i j;split at h
  .rename_i gs v he;split at h
   .split at h
    .rename_i k y;split at h
     .obtain rfl:=osj h;have:=hG.env.getD j undef;rw[he] at this;simp only[SR] at this;have h2:=this.2.1 (λg hg=>by cases hg);have h3:[env.getD j undef]=[Value.bool _]:=h2;exact(zF h3).1
     .cases h
    .cases h
   .cases h
  .cases h
 .cases h
theorem UM {B F:Heap}{pl:Nat->Value}{tb:Nat->Option Bool}{s:St}{env:Env}{U:Heap}(hG:Gam P B F pl tb s env U) {g:Option (Nat×Bool)}{t:Bool}(h:Z0y s.env g=some t):JV env g=some t:=by
 unfold Z0y at h;split at h
 .cases h
 .rename_i j want;split at h
  .rename_i b hb;obtain rfl:=osj h;have:=BH hG hb;simp only[Q5] at this;simp only[JV,this]
  .cases h
theorem Ga {B F:Heap}{pl:Nat->Value}{tb:Nat->Option Bool}{s:St}{env:Env}{U:Heap}(hG:Gam P B F pl tb s env U) {gs:List Gd}(hg:Gds tb gs) {c a b:Operand}{v:SV}(h:Q6d gs s.env c a b=some v) :
  ∃ u,Qc (.pick c a b) (Q5 env) U=some (u,U)/\SR P B pl tb v u:=by
 unfold Q6d at h;split at h
 .rename_i t ht;have e:=BH hG ht;obtain rfl:=osj h;cases t with
  |true=>exact⟨Q5 env a,by simp only[Qc,e];rfl,hG.evs hg a⟩
  |false=>exact⟨Q5 env b,by simp only[Qc,e];rfl,hG.evs hg b⟩
 have hc:=hG.evs hg c;unfold Z3i at h;split at h
 .rename_i n t heq;rw[heq] at hc;simp only[SR] at hc;obtain⟨e,cR⟩:=hc;have ht:∀ w,t=w->Gds tb (gs++[⟨n,w,t⟩]):=λw hw g gy=>by
   rcases xk.1 gy with h1|h1
   .exact hg g h1
   simp_all
  have hv:∀ u,(if t then Q5 env a else Q5 env b)=u->Qc (.pick c a b) (Q5 env) U=some (u,U):=λu hu=>by simp only[Qc,e];rw[<-hu]
  split at h
  .rename_i b';simp only[zi] at h;obtain⟨y,h1,rfl⟩:=h;refine⟨.bool (t||y),hv _ ?_,Js _⟩;cases t with
   |true=>rfl
   |false=>simpa using WM h1 (hG.evs (ht false rfl) _)
  .rename_i a' aK;simp only[zi] at h;obtain⟨x,h1,rfl⟩:=h;refine⟨.bool (t&&x),hv _ ?_,Js _⟩;cases t with
   |true=>simpa using WM h1 (hG.evs (ht true rfl) _)
   |false=>rfl
  .split at h
   .rename_i k x k' y h1 h2;split at h
    .rename_i hk;subst hk;obtain rfl:=osj h;refine⟨.int k (if t then x else y),hv _ ?_,WT _ _⟩;cases t with
     |true=>have:=hG.evs (ht true rfl) a;rw[h1] at this;exact JK rfl this
     |false=>have:=hG.evs (ht false rfl) b;rw[h2] at this;exact JK rfl this
    .cases h
   .rename_i x y h1 h2;obtain rfl:=osj h;refine⟨.bool (if t then x else y),hv _ ?_,Js _⟩;cases t with
    |true=>have:=hG.evs (ht true rfl) a;rw[h1] at this;exact WM rfl this
    |false=>have:=hG.evs (ht false rfl) b;rw[h2] at this;exact WM rfl this
   .cases h
 .cases h
theorem Gam.bid {B F:Heap}{pl:Nat->Value}{tb:Nat->Option Bool}{s:St}{env:Env}{U:Heap}(hG:Gam P B F pl tb s env U) {j:Nat}{v:SV}{c:Bool}(hv:∀ tb',(∀ n c,tb n=some c->tb' n=some c)->tb' s.nx=some c->SR P B pl tb' v (env.getD j undef)) :
  ∃ tb',(∀ n c,tb n=some c->tb' n=some c)/\tb' s.nx=some c/\Gam P B F pl tb' ⟨s.env.set j v,s.own,s.nx+1⟩ env U:=by
 refine⟨λn=>if n=s.nx then some c else tb n,?_,by simp,?_⟩
 .intro n c' hn;by_cases e:n=s.nx
  .rw[e,hG.free _ (z5 _)] at hn;cases hn
  .simp only[z0 e];exact hn
 .have hm:∀ n c',tb n=some c'->(λn=>if n=s.nx then some c else tb n) n=some c':=λn c' hn=>by
   by_cases e:n=s.nx
   .rw[e,hG.free _ (z5 _)] at hn;cases hn
   .simp only[z0 e];exact hn
  refine⟨hG.bf,hG.le,?_,λd=>(hG.obj d).mono (Heap.Le.refl _) hm λ_ _ _=>rfl,hG.fresh,hG.sep,λn hn=>?_⟩
  .have h1:=SRs.mono (Heap.Le.refl B) hm _ _ hG.env;by_cases hj:j<env.length
   .have:=h1.set j (hv _ hm (by simp));simp_all
   .have:s.env.set j v=s.env:=List.set_eq_of_length_le (by rw[hG.env.length];omega);rw[this];exact h1
  .have:n≠s.nx:=by simp only at hn;omega
   simp only[z0 this];exact hG.free n (by simp only at hn;omega)
theorem Q01 {gs:List Gd}(h:¬ ∀ g∈gs,g.c=g.want):∃ g∈gs,g.c≠g.want:=by simp_all
theorem Y5 {B F:Heap}{pl:Nat->Value}{tb:Nat->Option Bool}{s:St}{env:Env}{U:Heap}(hG:Gam P B F pl tb s env U) {j:Nat}{want:Bool}{gs:List Gd}{s':St}(h:Ss s j want=some (gs,s')) :
  ∃ tb',Gam P B F pl tb' s' env U/\(∀ g∈gs,tb' g.id=some g.c)/\∃ b,JV env (some (j,want))=some b/\(b=true->∀ g∈gs,g.c=g.want)/\(b=false->∃ g∈gs,g.c≠g.want):=by
 have hj:=hG.env.getD j undef;unfold Ss at h;split at h
 .rename_i c heq;obtain⟨rfl,rfl⟩:=Zy h;rw[heq] at hj;have hb:env.getD j undef=.bool c:=WM (s:=.val .bo c) rfl hj;obtain⟨tb',h1,h2,h3⟩:=hG.bid (j:=j) (v:=.bid s.nx c) (c:=c) λtb' _ h=>by simp only[SR];exact⟨hb,h⟩
  refine⟨tb',h3,(by simp_all),c==want,by simp only[JV,hb],λe g hg=>?_,λe=>⟨_,zO.2 rfl,?_⟩⟩
  .simp_all
  .simpa using e
 .rename_i n c heq;obtain⟨rfl,rfl⟩:=Zy h;rw[heq] at hj;simp only[SR] at hj;refine⟨tb,hG,(by simp_all),c==want,by simp only[JV,hj.1],λe g hg=>?_,λe=>⟨_,zO.2 rfl,?_⟩⟩
  .simp_all
  .simpa using e
 .rename_i oI c heq;obtain⟨rfl,rfl⟩:=Zy h;rw[heq] at hj;simp only[SR] at hj;obtain⟨⟨k1,k0⟩,k2,k3⟩:=hj;obtain⟨tb',h1,h2,h3⟩:=hG.bid (j:=j) (v:=.grd oI (.bid s.nx c)) (c:=c) λtb' hm h=>by
   simp only[SR];exact⟨⟨λg hg=>hm _ _ (k1 g hg),h⟩,λhall=>⟨WM (s:=.val .bo c) (P:=P) (B:=B) (pl:=pl) (tb:=tb) rfl (by simpa only [SR] using k2 hall),h⟩,k3⟩
  refine⟨tb',h3,λg hg=>?_,?_⟩
  .grind
  .by_cases hall:∀ g∈oI,g.c=g.want
   .have hb:env.getD j undef=.bool c:=WM (s:=.val .bo c) (P:=P) (B:=B) (pl:=pl) (tb:=tb) rfl (by simpa only [SR] using k2 hall);refine⟨c==want,by simp only[JV,hb],λe g hg=>?_,(by simp_all)⟩
    grind
   .have hex:=Q01 hall;refine⟨false,by simp only[JV,k3 hex];rfl,(λe=>by cases e),λ_=>?_⟩;simp_all
 .rename_i oI n c heq;obtain⟨rfl,rfl⟩:=Zy h;rw[heq] at hj;simp only[SR] at hj;obtain⟨⟨k1,k0⟩,k2,k3⟩:=hj;refine⟨tb,hG,λg hg=>?_,?_⟩
  .rcases xk.1 hg with h4|h4
   .exact k1 g h4
   .obtain rfl:=zO.1 h4;exact k0
  .by_cases hall:∀ g∈oI,g.c=g.want
   .obtain⟨hb,cR⟩:=k2 hall;refine⟨c==want,by simp only[JV,hb],λe g hg=>?_,(by simp_all)⟩
    grind
   .have hex:=Q01 hall;refine⟨false,by simp only[JV,k3 hex];rfl,(λe=>by cases e),λ_=>?_⟩;simp_all
 .cases h
theorem Gam.gcall {B F:Heap}{pl:Nat->Value}{tb:Nat->Option Bool}{s:St}{env:Env}{U:Heap}(hG:Gam P B F pl tb s env U) {gs:List Gd}(hg:Gds tb gs) (args:List Operand):SRs P U X1 ZU (RF s.own (args.map (gev gs s.env))) (args.map (Q5 env)) :=
 W6 hG.leB hG.obj (SRs.map λx _=>hG.evs hg x)
theorem Gam.gfun {B F:Heap}{pl:Nat->Value}{tb:Nat->Option Bool}{s:St}{env:Env}{U:Heap}(hG:Gam P B F pl tb s env U) {gs:List Gd}(hg:Gds tb gs) (f:Operand):SR P U X1 ZU ((RF s.own [gev gs s.env f]).getD 0 .any) (Q5 env f):=by have:=(W6 hG.leB hG.obj (show SRs P B pl tb [gev gs s.env f] [Q5 env f] by simp only[SRs];exact⟨_,[],rfl,hG.evs hg f,rfl⟩)).getD 0 poison;simpa using this
theorem Hg {env:Env}{f:Operand}{args:List Operand}{U:Heap}{K:Value->Heap->Prop}{g:FuncId}{a b:Array Value}(e:Q5 env f=.func (.func g) a b) (h:VCalled P g (a.toList++args.map (Q5 env)++b.toList) U K) :
  vop (Q8 P) (.callV f args) env U K:=by
 simp only[vop,e];exact h
def XOk (P:Program) (f:Nat) (x:XSp):Prop :=
 ∀ (B F:Heap) (pl:Nat->Value) (tb:Nat->Option Bool) (s:St) (env:Env) (U:Heap) (d:Nat) (args:List SV) (vs:List Value) (K:SV->St->Prop) (R:Value->Heap->Prop),
  Gam P B F pl tb s env U->SRs P B pl tb args vs->x d args s K ->
  (∀ v s' B' F' pl' tb' u U',K v s'->GBase B F U B' F' U'->Gam P B' F' pl' tb' s' env U'->SR P B' pl' tb' v u->R u U')->VCalled P f vs U R
def Z1s (P:Program) (f:Nat) (x:XSp) (j:Nat):Prop :=
 ∀ (B F:Heap) (pl:Nat->Value) (tb:Nat->Option Bool) (s:St) (env:Env) (U:Heap) (d:Nat) (args:List SV) (vs:List Value) (K:SV->St->Prop) (R:Value->Heap->Prop) (t:Nat),
  Gam P B F pl tb s env U->SRs P B pl tb args vs->Q11 s.own j args=some t->x d args s K ->
  (∀ v s' u U',K v s'->Dead U U'->Gam P B F pl tb s' env U'->SR P B pl tb v u->FrL [t] s s' pl pl U U'->R u U')->VCalled P f vs U R
def Z69 (P:Program) (f:Nat) (it:ISp):Prop:=Yq P f /\
 ∀ (B:Heap) (args:List SV) (vs:List Value) (c:Prop) (m ar:Nat) (xs:Nat->List SV),SRs P B X1 ZU args vs->it args=some (c,m,ar,xs)->c ->
  (∀ k,(xs k).length=ar/\SVs.pure (xs k)=true)/\∀ (i:Nat) (Y:FT) (J:Nat->Heap->Prop) (E:Heap->Prop) (τ0:Heap),Hj P i Y->(∀ k Z,J k Z->B.Le Z) ->
   (∀ k us Z,k<m->J k Z->SRs P B X1 ZU (xs k) us->Y us Z λv Z'=>(v=.bool true/\J (k+1) Z')\/(v=.bool false/\E Z')) ->
   J 0 τ0->VCallsTo P f (.func (.yield i) #[] #[]::vs) τ0 λ_ Z=>J m Z\/E Z
def Z2m (P:Program) (o:Nat) (y:YSp):Prop :=
 ∀ (B F:Heap) (pl:Nat->Value) (tb:Nat->Option Bool) (s:St) (env:Env) (U:Heap) (args:List SV) (us:List Value) (K:SV->St->Prop) (R:Value->Heap->Prop) (i:Nat),
  Gam P B F pl tb s env U->SRs P B pl tb args us->y args s K->pl o=.pointer (some ⟨i,0,none⟩) ->
  (∀ v s' B' F' pl' tb' u U',K v s'->GBase B F U B' F' U'->Gam P B' F' pl' tb' s' env U'->SR P B' pl' tb' v u->R u U')->IL P i us U R
def Z5x (P:Program) (f:Nat) (x:Z5y):Prop:=Yq P f /\
 ∀ (B F:Heap) (pl:Nat->Value) (tb:Nat->Option Bool) (s:St) (env:Env) (U:Heap) (o:Nat) (args:List SV) (vs:List Value) (y:YSp) (K:St->Prop) (R:Heap->Prop),
  Gam P B F pl tb s env U->SRs P B pl tb args vs->Z2m P o y->x o args (o,y) s K ->
  (∀ s' B' F' pl' tb' al U',K s'->GBase B F U B' F' U'->Gam P B' F' pl' tb' s' al U'->R U')->VCallsTo P f vs U λ_=>R
structure COk (P:Program) (C:Cx):Prop where
 cs:CsOk P C.cs
 xs:∀ f x,Qw C.xs f=some x->XOk P f x
 it:∀ f x,Qw C.it f=some x->Z69 P f x
 yl:∀ o y,Qw C.yl o=some y->Z2m P o y
 iy:∀ f x,Qw C.iy f=some x->Z5x P f x
 xf:∀ f j,Qw C.xf f=some j->∀ x,Qw C.xs f=some x->Z1s P f x j
theorem Ae {C:Cx}(aE:CsOk P C.cs) {B F:Heap}{pl:Nat->Value}{tb:Nat->Option Bool}{s:St}{env:Env}{U:Heap}(hG:Gam P B F pl tb s env U) {gs:List Gd}(hg:Gds tb gs) {raw:Bool}{o:VOp}{cs:List Prop}{v:SV}
  (h:gqc C raw o (gev gs s.env) s.own=some (cs,v)) (hc:∀ c∈cs,c) {K:Value->Heap->Prop}(hK:∀ u,SR P B pl tb v u->K u U):vop (Q8 P) o env U K:=by
 have flat:∀ {c:Prop}{v':SV},(bif v'.ret 0 then some ([c],v') else none)=some (cs,v)->v'.ret 0=true/\c/\v'=v:=λ{c v'} h=>by
  cases hv:v'.ret 0 with
  |false=>rw[hv] at h;cases h
  |true =>rw[hv] at h;obtain⟨rfl,rfl⟩:=Zy h;exact⟨rfl,hc _ (by simp),rfl⟩
 have quiet:∀ o,gq C.kt raw o (gev gs s.env) s.own=some (cs,v)->(∀ K,Zc (Qc o (Q5 env) U) (λp=>K p.1 p.2)->vop (Q8 P) o env U K)->vop (Q8 P) o env U K:=λo h hv=>by obtain⟨u,h1,h2⟩:=OG (hG.evs hg) (λ_=>rfl) hG.leB hG.obj h hc;exact hv K (by rw[h1];exact hK u h2)
 cases o
 case callF f args =>
  simp only[gqc] at h;split at h
  .rename_i c v' heq;obtain⟨h1,h2,rfl⟩:=flat h;obtain⟨g,a,b,h3,h4,_⟩:=Jl aE (show SR P U X1 ZU (.fn f [] []) (.func (.func f) #[] #[]) by simp only[SR,SRs];exact⟨[],[],rfl,rfl,rfl⟩) (hG.gcall hg args) heq h1 rfl h2;obtain⟨rfl,rfl,rfl⟩:=(by simpa using h3:f=g/\#[]=a/\#[]=b);have:=h4.mono (R':=K) λu U' hr=>by
    obtain⟨rfl,hu⟩:=hr.flat h1;exact hK u (hu.retd (λj hj=>by omega) _ _ h1)
   show VCalled P f (args.map (Q5 env)) U K;simpa using this
  .cases h
 case callV f args =>
  simp only[gqc] at h;split at h
  .rename_i c v' heq;obtain⟨h1,h2,rfl⟩:=flat h;obtain⟨g,a,b,h3,h4,_⟩:=Jl aE (hG.gfun hg f) (hG.gcall hg args) heq h1 rfl h2;exact Hg h3 (h4.mono λu U' hr=>by
    obtain⟨rfl,hu⟩:=hr.flat h1;exact hK u (hu.retd (λj hj=>by omega) _ _ h1))
  .cases h
 case ext x =>
  cases x
  case nextMap x=>cases h
  all_goals exact quiet _ h λ_ h=>h
 all_goals exact quiet _ h λ_ h=>h
end
end Go.V