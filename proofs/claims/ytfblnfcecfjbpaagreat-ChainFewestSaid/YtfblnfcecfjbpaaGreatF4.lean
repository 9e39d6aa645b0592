/- A framework for walks, contracts of functions, and their proofs: part 4. -/
import Derived.Laws.Closers25b
import Derived.Test.YtfblnfcecfjbpaaGreatF3
namespace Go.V
open Go
theorem InK.wrap {k:IntKind}{x:Int}(h:InK k x):k.wrap x=x:=by obtain⟨h1,h2⟩:=h;cases k<;>simp[IntKind.wrap,IntKind.bits,IntKind.signed,IntKind.min,IntKind.max] at h1 h2 |-<;>(try split)<;>omega
section
variable {P:Program}{B:Heap}{pl:Nat->Value}{tb:Nat->Option Bool}{own:Own}{M:Heap}
def QOk (P:Program) (B:Heap) (pl:Nat->Value) (tb:Nat->Option Bool) (M:Heap) (o:VOp) (evV:Operand->Value) (v:SV):Prop:=∃ u,Q6 o evV M=some (u,M)/\SR P B pl tb v u
theorem JT (k:IntKind) (x:Int):SR P B pl tb (.val (.i k) x) (.int k x):=by simp[SR,KC]
theorem ZX (x:Bool):SR P B pl tb (.val .bo x) (.bool x):=by simp[SR,KC]
theorem Av (x:List UInt8):SR P B pl tb (.val .st x) (.string ⟨x.toArray⟩):=by simp[SR,KC]
theorem QO {α β:Type _}{a c:α}{b d:β}(h:some (a,b)=some (c,d)):a=c/\b=d:=by cases h;exact⟨rfl,rfl⟩
section
variable {kt:List (Nat×Kind)}{raw:Bool}{ev:Operand->SV}{evV:Operand->Value}{cs:List Prop}{v:SV}
theorem Gw (aj:∀ x,SR P B pl tb (ev x) (evV x)) {x y:Operand}{k k':IntKind}{a b:Int}(h1:asI (ev x)=some (k,a)) (h2:asI (ev y)=some (k',b)):evV x=.int k a/\evV y=.int k' b:=⟨J7 h1 (aj x),J7 h2 (aj y)⟩
theorem Q56 (aj:∀ x,SR P B pl tb (ev x) (evV x)) {op:BinOp}{x y:Operand}(h:gq kt raw (.arith op x y) ev own=some (cs,v)) (hc:∀ c∈cs,c):QOk P B pl tb M (.arith op x y) evV v:=by
 simp only[gq] at h;split at h
 .rename_i k a k' b h1 h2;obtain⟨e1,e2⟩:=Gw aj h1 h2;split at h
  .rename_i hk;subst hk;cases raw with
   |true =>
    obtain⟨rfl,rfl⟩:=QO h;refine⟨_,by simp only[Q6,e1,e2,zx]<;>rfl,?_⟩;have:R4 op k a b=k.wrap (HB op a b):=by cases op<;>rfl
    rw[this];exact JT _ _
   |false =>
    obtain⟨rfl,rfl⟩:=QO h;refine⟨_,by simp only[Q6,e1,e2,zx]<;>rfl,?_⟩;have:R4 op k a b=HB op a b:=by
     have hw:InK k (HB op a b):=hc _ (by simp);have e:R4 op k a b=k.wrap (HB op a b):=by cases op<;>rfl
     rw[e,hw.wrap]
    rw[this];exact JT _ _
  .cases h
 .cases h
theorem Z2w (aj:∀ x,SR P B pl tb (ev x) (evV x)) {op:BinOp}{x y:Operand}(h:gq kt raw (.div op x y) ev own=some (cs,v)) (hc:∀ c∈cs,c):QOk P B pl tb M (.div op x y) evV v:=by
 simp only[gq] at h;split at h
 .rename_i k a k' b h1 h2;obtain⟨e1,e2⟩:=Gw aj h1 h2;split at h
  .rename_i hk;subst hk;split at h
   .obtain⟨rfl,rfl⟩:=QO h;have hb:b≠0:=hc _ (by simp);have hw:InK k (a.tdiv b):=hc _ (by simp);refine⟨_,by simp only[Q6,e1,e2,hb,ne_eq,not_false_iff,and_self,zx]<;>rfl,?_⟩;simp only[Q6r,hw.wrap];exact JT _ _
   .obtain⟨rfl,rfl⟩:=QO h;have hb:b≠0:=hc _ (by simp);refine⟨_,by simp only[Q6,e1,e2,hb,ne_eq,not_false_iff,and_self,zx]<;>rfl,?_⟩;rename_i bG;have:Q6r op k a b=a.tmod b:=by unfold Q6r;split<;>simp_all
    rw[this];exact JT _ _
  .cases h
 .cases h
theorem Z02 (aj:∀ x,SR P B pl tb (ev x) (evV x)) {op:BinOp}{x y:Operand}(h:gq kt raw (.bits op x y) ev own=some (cs,v)):QOk P B pl tb M (.bits op x y) evV v:=by
 simp only[gq] at h;split at h
 .rename_i k a k' b h1 h2;obtain⟨e1,e2⟩:=Gw aj h1 h2;split at h
  .rename_i hk;subst hk;obtain⟨rfl,rfl⟩:=QO h;exact⟨_,by simp only[Q6,e1,e2,zx]<;>rfl,JT _ _⟩
  .cases h
 .cases h
theorem Q5h (aj:∀ x,SR P B pl tb (ev x) (evV x)) {op:BinOp}{x y:Operand}(h:gq kt raw (.shift op x y) ev own=some (cs,v)) (hc:∀ c∈cs,c):QOk P B pl tb M (.shift op x y) evV v:=by
 simp only[gq] at h;split at h
 .rename_i k a k' b h1 h2;obtain⟨e1,e2⟩:=Gw aj h1 h2;split at h
  .cases raw with
   |true =>obtain⟨rfl,rfl⟩:=QO h;have hb:0<=b:=hc _ (by simp);exact⟨_,by simp only[Q6,e1,e2,hb,zx]<;>rfl,JT _ _⟩
   |false =>obtain⟨rfl,rfl⟩:=QO h;have hb:0<=b:=hc _ (by simp);have hw:InK k (Xg k a b):=hc _ (by simp);refine⟨_,by simp only[Q6,e1,e2,hb,zx]<;>rfl,?_⟩;have:R9 .shl k a b=k.wrap (Xg k a b):=rfl;rw[this,hw.wrap];exact JT _ _
  .obtain⟨rfl,rfl⟩:=QO h;have hb:0<=b:=hc _ (by simp);refine⟨_,by simp only[Q6,e1,e2,hb,zx]<;>rfl,?_⟩;have:R9 op k a b=Z9 k a b:=by unfold R9;split<;>simp_all [Z9]
   rw[this];exact JT _ _
 .cases h
theorem Z3k (aj:∀ x,SR P B pl tb (ev x) (evV x)) {op:BinOp}{x y:Operand}(h:gq kt raw (.cmp op x y) ev own=some (cs,v)):QOk P B pl tb M (.cmp op x y) evV v:=by
 simp only[gq] at h;split at h
 .rename_i k a k' b h1 h2;obtain⟨e1,e2⟩:=Gw aj h1 h2;split at h
  .rename_i hk;subst hk;obtain⟨rfl,rfl⟩:=QO h;exact⟨_,by simp only[Q6,e1,e2,zx]<;>rfl,ZX _⟩
  .cases h
 .cases h
theorem Z3a (aj:∀ x,SR P B pl tb (ev x) (evV x)) {op:BinOp}{x y:Operand}(h:gq kt raw (.str op x y) ev own=some (cs,v)) (hc:∀ c∈cs,c):QOk P B pl tb M (.str op x y) evV v:=by
 simp only[gq] at h;split at h
 .rename_i a b h1 h2;have e1:=V_ h1 (aj x);have e2:=V_ h2 (aj y);split at h
  .obtain⟨rfl,rfl⟩:=QO h;have hw:a.length+b.length<=4611686018427387904:=hc _ (by simp);refine⟨.string (⟨a.toArray⟩++⟨b.toArray⟩),by simp only[Q6,e1,e2];rw[z0 (by simpa [ByteArray.size] using hw)],?_⟩;have:(⟨a.toArray⟩:ByteArray)++⟨b.toArray⟩=⟨(a++b).toArray⟩:=by
    apply ByteArray.ext;simp
   rw[this];exact Av _
  .obtain⟨rfl,rfl⟩:=QO h;exact⟨_,by simp only[Q6,e1,e2]<;>rfl,ZX _⟩
  .obtain⟨rfl,rfl⟩:=QO h;exact⟨_,by simp only[Q6,e1,e2]<;>rfl,ZX _⟩
  .obtain⟨rfl,rfl⟩:=QO h;exact⟨_,by simp only[Q6,e1,e2]<;>rfl,ZX _⟩
  .cases h
 .cases h
theorem Z2h (aj:∀ x,SR P B pl tb (ev x) (evV x)) {neg:Bool}{x y:Operand}(h:gq kt raw (.eqB neg x y) ev own=some (cs,v)):QOk P B pl tb M (.eqB neg x y) evV v:=by
 simp only[gq] at h;split at h
 .rename_i a b h1 h2;have e1:=XF h1 (aj x);have e2:=XF h2 (aj y);obtain⟨rfl,rfl⟩:=QO h;exact⟨_,by simp only[Q6,e1,e2]<;>rfl,ZX _⟩
 .cases h
theorem P7 {k:MK}{a b:SV}{r:Bool}{u w:Value}(h:Eh k a b=some r) (ha:SR P B pl tb a u) (hb:SR P B pl tb b w):E5 k u=true/\E5 k w=true/\Kg u w=r:=by
 cases k with
 |agg s=>cases h
 |int q =>
  simp only[Eh] at h;split at h
  .rename_i q1 x q2 y h1 h2;split at h
   .rename_i hq;obtain⟨rfl,rfl⟩:=hq;obtain rfl:=osj h;rw[J7 h1 ha,J7 h2 hb];exact⟨by simp[E5],by simp[E5],rfl⟩
   .cases h
  .cases h
 |bool =>
  simp only[Eh] at h;split at h
  .rename_i x y h1 h2;obtain rfl:=osj h;rw[XF h1 ha,XF h2 hb];exact⟨rfl,rfl,rfl⟩
  .cases h
 |string =>
  simp only[Eh] at h;split at h
  .rename_i x y h1 h2;obtain rfl:=osj h;rw[V_ h1 ha,V_ h2 hb];exact⟨rfl,rfl,rfl⟩
  .cases h
theorem Bt:∀ {s:List MK}{l m:List SV}{r:Bool}{us ws:List Value},Ht s l m=some r->SRs P B pl tb l us->SRs P B pl tb m ws->fits s us=true/\fits s ws=true/\Ql us ws=r
 |[],_,_,_,_,_,h,_,_=>by cases h
 |k::ks,[],_,_,_,_,h,_,_=>by simp[Ht] at h
 |k::ks,_::_,[],_,_,_,h,_,_=>by simp[Ht] at h
 |[k],a::l,b::m,r,us,ws,h,ha,hb=>by
  simp only[Ht] at h;split at h
  .simp only[SRs] at ha hb;obtain⟨u,je,rfl,h1,rfl⟩:=ha;obtain⟨w,tZ,rfl,h2,rfl⟩:=hb;obtain⟨f1,f2,f3⟩:=P7 h h1 h2;simp[fits,Ql,f1,f2,f3]
  .cases h
 |k::k'::ks,a::l,b::m,r,us,ws,h,ha,hb=>by
  simp only[Ht] at h;split at h
  .rename_i x y hx hy;obtain rfl:=osj h;simp only[SRs] at ha hb;obtain⟨u,je,rfl,h1,jd⟩:=ha;obtain⟨w,tZ,rfl,h2,mS⟩:=hb;obtain⟨f1,f2,f3⟩:=P7 hx h1 h2;obtain⟨g1,g2,g3⟩:=Bt (s:=k'::ks) hy jd mS;rw[fits,fits,f1,f2,g1,g2,Ql,f3,g3];exact⟨rfl,rfl,rfl⟩
  .cases h
theorem Q4t (aj:∀ x,SR P B pl tb (ev x) (evV x)) {neg:Bool}{s:List MK}{x y:Operand}(h:gq kt raw (.ext (.eqAgg neg s x y)) ev own=some (cs,v)):QOk P B pl tb M (.ext (.eqAgg neg s x y)) evV v:=by
 simp only[gq] at h;split at h
 .rename_i l m h1 h2;obtain⟨b,hb,he⟩:=zo.1 h;obtain⟨rfl,rfl⟩:=(by cases he;exact⟨rfl,rfl⟩:[]=cs/\SV.val .bo (bif neg then !b else b)=v);have e1:=aj x;have e2:=aj y;rw[h1] at e1;rw[h2] at e2;simp only[SR] at e1 e2;obtain⟨us,e1,k1⟩:=e1;obtain⟨ws,e2,k2⟩:=e2;obtain⟨f1,f2,f3⟩:=Bt hb k1 k2;refine⟨.bool (if neg then !b else b),?_,by cases neg<;>exact ZX _⟩;simp only[Q6,Zc,e1,e2];rw[z0 ⟨by simpa using f1,by simpa using f2⟩];simp only[f3]
 .cases h
theorem Z5k (aj:∀ x,SR P B pl tb (ev x) (evV x)) {op:UnOp}{x:Operand}(h:gq kt raw (.un op x) ev own=some (cs,v)) (hc:∀ c∈cs,c):QOk P B pl tb M (.un op x) evV v:=by
 simp only[gq] at h;split at h
 .split at h
  .rename_i b h1;obtain⟨rfl,rfl⟩:=QO h;exact⟨_,by simp only[Q6,XF h1 (aj x)]<;>rfl,ZX _⟩
  .cases h
 .split at h
  .rename_i k n h1;obtain⟨rfl,rfl⟩:=QO h;have hw:InK k (0-n):=hc _ (by simp);refine⟨_,by simp only[Q6,J7 h1 (aj x)]<;>rfl,?_⟩;rw[hw.wrap];exact JT _ _
  .cases h
 .split at h
  .rename_i k n h1;obtain⟨rfl,rfl⟩:=QO h;exact⟨_,by simp only[Q6,J7 h1 (aj x)]<;>rfl,JT _ _⟩
  .cases h
 .cases h
theorem Q5c (aj:∀ x,SR P B pl tb (ev x) (evV x)) {k:IntKind}{x:Operand}(h:gq kt raw (.convI k x) ev own=some (cs,v)) (hc:∀ c∈cs,c):QOk P B pl tb M (.convI k x) evV v:=by
 simp only[gq] at h;split at h
 .rename_i k' n h1;cases raw with
  |true =>obtain⟨rfl,rfl⟩:=QO h;exact⟨_,by simp only[Q6,J7 h1 (aj x)]<;>rfl,JT _ _⟩
  |false =>obtain⟨rfl,rfl⟩:=QO h;have hw:InK k n:=hc _ (by simp);refine⟨_,by simp only[Q6,J7 h1 (aj x)]<;>rfl,?_⟩;rw[hw.wrap];exact JT _ _
 .cases h
theorem Q6c (aj:∀ x,SR P B pl tb (ev x) (evV x)) {x:Operand}(h:gq kt raw (.convS x) ev own=some (cs,v)):QOk P B pl tb M (.convS x) evV v:=by
 simp only[gq] at h;split at h
 .rename_i s h1;obtain⟨rfl,rfl⟩:=QO h;exact⟨_,by simp only[Q6,V_ h1 (aj x)]<;>rfl,Av _⟩
 .cases h
theorem Q5m (aj:∀ x,SR P B pl tb (ev x) (evV x)) {z:List Value}{ps:List (Nat×Nat×Operand)}(h:gq kt raw (.build z ps) ev own=some (cs,v)):QOk P B pl tb M (.build z ps) evV v:=by
 simp only[gq] at h;split at h
 .rename_i l h1;obtain⟨rfl,rfl⟩:=QO h;have hz:SRs P B pl tb (z.map cvp) (z.map id):=SRs.map λx _=>GJ x;rw[List.map_id] at hz;obtain⟨lV,h2,h3⟩:=HX aj hz h1;refine⟨.agg lV.toArray,by simp only[Q6,h2],?_⟩;simp only[SR];exact⟨lV,rfl,h3⟩
 .cases h
theorem Q9o (aj:∀ x,SR P B pl tb (ev x) (evV x)) (hle:B.Le M) (aw:∀ d,OR P B pl tb M (pl d) (Q8 own d)) {agg:Bool}{size:Nat}{a:Operand}(h:gq kt raw (.load agg size a) ev own=some (cs,v)):QOk P B pl tb M (.load agg size a) evV v:=by
 simp only[gq] at h;cases hb:Nat.blt 0 size with
 |false=>rw[hb] at h;cases h
 |true =>
  rw[hb] at h;simp only[zg,zo] at h;obtain⟨v',h1,h2⟩:=h;obtain⟨rfl,rfl⟩:=(by simpa only [Prod.mk.injEq] using h2:_=cs/\_=v);have hs:0<size:=by simpa [zI] using hb
  obtain⟨i,o,c,e,wr,t,u,h3,h4,h5,h6⟩:=Ph hle aw hs h1 (aj a);exact⟨u,by simp only[Q6,h3,h4,h5],h6⟩
theorem LZ (aj:∀ x,SR P B pl tb (ev x) (evV x)) {off:Nat}{a:Operand}(h:gq kt raw (.fieldAddr off a) ev own=some (cs,v)):QOk P B pl tb M (.fieldAddr off a) evV v:=by
 have ha:=aj a;simp only[gq] at h;split at h
 .rename_i o f heq;obtain⟨rfl,rfl⟩:=QO h;rw[heq] at ha;simp only[SR] at ha;obtain⟨b,h1,h2⟩:=ha;refine⟨_,by simp only[Q6,h2]<;>rfl,?_⟩;simp only[SR];exact⟨b,h1,rfl⟩
 .rename_i l f heq;obtain⟨rfl,rfl⟩:=QO h;rw[heq] at ha;simp only[SR] at ha;obtain⟨b,c,e,wr,t,h1,h2,h3⟩:=ha;refine⟨_,by simp only[Q6,h2]<;>rfl,?_⟩;simp only[SR];exact⟨b,c,e,wr,t,h1,rfl,h3⟩
 .rename_i o i f sz heq;obtain⟨rfl,rfl⟩:=QO h;rw[heq] at ha;simp only[SR] at ha;obtain⟨b,len,cap,h1,h2,h3,h4⟩:=ha;refine⟨_,by simp only[Q6,h4]<;>rfl,?_⟩;simp only[SR];exact⟨b,len,cap,h1,h2,h3,by rw[zk]⟩
 .rename_i o w heq;rw[heq] at ha;simp only[SR] at ha;split at h
  .obtain⟨rfl,rfl⟩:=QO h;obtain⟨b,len,cap,h1,h2,h3,h4⟩:=ha;refine⟨_,by simp only[Q6,h4]<;>rfl,?_⟩;simp only[SR,DR];exact⟨b,len,cap,h1,h2,h3,by rw[zk]⟩
  .obtain⟨rfl,rfl⟩:=QO h;obtain⟨b,len,cap,c,e,t,r,rl,rc,bI,re,rt,h1,h2,h3,h4,h5,h6,h7,h8,h9,bT,fT,oc⟩:=ha;refine⟨_,by simp only[Q6,oc]<;>rfl,?_⟩;simp only[SR,DR];exact⟨b,len,cap,c,e,t,r,rl,rc,bI,re,rt,h1,h2,h3,h4,h5,h6,h7,h8,h9,bT,fT,by rw[zk]⟩
  .obtain⟨rfl,rfl⟩:=QO h;obtain⟨b,o',c,e,wr,t,h1,h2,h3,h4,h5,h6⟩:=ha;refine⟨_,by simp only[Q6,h4]<;>rfl,?_⟩;simp only[SR,DR];exact⟨b,o',c,e,wr,t,h1,h2,h3,by rw[zk],h5,h6⟩
  .cases h
 .rename_i k l i f heq;obtain⟨rfl,rfl⟩:=QO h;rw[heq] at ha;simp only[SR] at ha;obtain⟨b,o,c,e,wr,t,h1,h2,h3,h4,h5,h6⟩:=ha;refine⟨_,by simp only[Q6,h4]<;>rfl,?_⟩;simp only[SR];exact⟨b,o,c,e,wr,t,h1,h2,h3,by rw[zk],h5,h6⟩
 .cases h
theorem Q5z (aj:∀ x,SR P B pl tb (ev x) (evV x)) {agg:Bool}{off size:Nat}{x:Operand}(h:gq kt raw (.field agg off size x) ev own=some (cs,v)):QOk P B pl tb M (.field agg off size x) evV v:=by
 have ha:=aj x;simp only[gq] at h;split at h
 .rename_i l heq;rw[heq] at ha;simp only[SR] at ha;obtain⟨c,h1,h2⟩:=ha;simp only[zo] at h;obtain⟨v',h3,h4⟩:=h;obtain⟨rfl,rfl⟩:=(by simpa only [Prod.mk.injEq] using h4:_=cs/\_=v);obtain⟨u,h5,h6⟩:=Jj h2 h3;exact⟨u,by simp only[Q6,h1,h5],h6⟩
 .cases h
theorem O8 (aj:∀ x,SR P B pl tb (ev x) (evV x)) {x:Operand}{i:Nat}(h:gq kt raw (.extract x i) ev own=some (cs,v)):QOk P B pl tb M (.extract x i) evV v:=by
 have ha:=aj x;simp only[gq] at h;split at h
 .rename_i l heq;rw[heq] at ha;simp only[SR] at ha;obtain⟨c,h1,h2⟩:=ha;simp only[zo] at h;obtain⟨v',h3,h4⟩:=h;obtain⟨rfl,rfl⟩:=(by simpa only [Prod.mk.injEq] using h4:_=cs/\_=v);obtain⟨u,h5,h6⟩:=h2.get h3;exact⟨u,by simp only[Q6,h1,h5],h6⟩
 .cases h
theorem AY (aj:∀ x,SR P B pl tb (ev x) (evV x)) {x:Operand}(h:gq kt raw (.nilCheck x) ev own=some (cs,v)):QOk P B pl tb M (.nilCheck x) evV v:=by
 have ha:=aj x;simp only[gq] at h;split at h
 .rename_i o f heq;obtain⟨rfl,rfl⟩:=QO h;rw[heq] at ha;have hb:=ha;simp only[SR] at ha;obtain⟨b,h1,h2⟩:=ha;exact⟨_,by simp only[Q6,h2]<;>rfl,by rw[<-h2];exact hb⟩
 .rename_i l f heq;obtain⟨rfl,rfl⟩:=QO h;rw[heq] at ha;have hb:=ha;simp only[SR] at ha;obtain⟨b,c,e,wr,t,h1,h2,h3⟩:=ha;exact⟨_,by simp only[Q6,h2]<;>rfl,by rw[<-h2];exact hb⟩
 .rename_i f a b heq;obtain⟨rfl,rfl⟩:=QO h;rw[heq] at ha;have hb:=ha;simp only[SR] at ha;obtain⟨x1,y1,h1,h2,h3⟩:=ha;exact⟨_,by simp only[Q6,h1]<;>rfl,by rw[<-h1];exact hb⟩
 .cases h
theorem AZ (aj:∀ x,SR P B pl tb (ev x) (evV x)) {x i:Operand}(h:gq kt raw (.indexStr x i) ev own=some (cs,v)) (hc:∀ c∈cs,c):QOk P B pl tb M (.indexStr x i) evV v:=by
 simp only[gq] at h;split at h
 .rename_i s k j h1 h2;have e1:=V_ h1 (aj x);have e2:=J7 h2 (aj i);obtain⟨rfl,rfl⟩:=QO h;have k1:0<=j:=hc _ (by simp);have k2:j<s.length:=hc _ (by simp);have k3:j.toNat<s.length:=by omega
  refine⟨.int .u8 (s[j.toNat].toNat:Int),by simp only[Q6,e1,e2,k1,zx];simp[k3],?_⟩;have:s.getD j.toNat 0=s[j.toNat]:=by simp[z4,k3]
  rw[this];exact JT _ _
 .cases h
theorem E0 (aj:∀ x,SR P B pl tb (ev x) (evV x)) (gv:∀ c,evV (.const c)=c) {len size:Nat}{agg:Bool}{x i:Operand}(h:gq kt raw (.indexArr len agg size x i) ev own=some (cs,v)):QOk P B pl tb M (.indexArr len agg size x i) evV v:=by
 have ha:=aj x;simp only[gq] at h;split at h
 .rename_i l k j heq;split at h
  .rename_i hj;rw[heq] at ha;simp only[SR] at ha;obtain⟨c,h1,h2⟩:=ha;simp only[zo] at h;obtain⟨v',h3,h4⟩:=h;obtain⟨rfl,rfl⟩:=(by simpa only [Prod.mk.injEq] using h4:_=cs/\_=v);obtain⟨u,h5,h6⟩:=Jj h2 h3;refine⟨u,?_,h6⟩;simp only[Q6,h1,gv];rw[z0 ⟨by simp,by simpa using hj⟩];simp[h5]
  .cases h
 .cases h
theorem Tw (aj:∀ x,SR P B pl tb (ev x) (evV x)) (gv:∀ c,evV (.const c)=c) {len size:Nat}{x i:Operand}(h:gq kt raw (.indexAddrArr len size x i) ev own=some (cs,v)):QOk P B pl tb M (.indexAddrArr len size x i) evV v:=by
 have ha:=aj x;simp only[gq] at h;split at h
 .rename_i o f k j heq;split at h
  .rename_i hj;obtain⟨rfl,rfl⟩:=QO h;rw[heq] at ha;simp only[SR] at ha;obtain⟨b,h1,h2⟩:=ha;refine⟨.pointer (some ⟨b,f+j*size,none⟩),?_,?_⟩
   .simp only[Q6,h2,gv];rw[z0 ⟨by simp,by simpa using hj⟩];simp
   .simp only[SR];exact⟨b,h1,rfl⟩
  .cases h
 .rename_i l f k j heq;split at h
  .rename_i hj;obtain⟨rfl,rfl⟩:=QO h;rw[heq] at ha;simp only[SR] at ha;obtain⟨b,c,e,wr,t,h1,h2,h3⟩:=ha;refine⟨.pointer (some ⟨b,f+j*size,none⟩),?_,?_⟩
   .simp only[Q6,h2,gv];rw[z0 ⟨by simp,by simpa using hj⟩];simp
   .simp only[SR];exact⟨b,c,e,wr,t,h1,rfl,h3⟩
  .cases h
 .cases h
theorem Ct (aj:∀ x,SR P B pl tb (ev x) (evV x)) (_hle:B.Le M) (aw:∀ d,OR P B pl tb M (pl d) (Q8 own d)) {size:Nat}{x i:Operand}(h:gq kt raw (.indexAddr size x i) ev own=some (cs,v)) (hc:∀ c∈cs,c):QOk P B pl tb M (.indexAddr size x i) evV v:=by
 have ha:=aj x;simp only[gq] at h;split at h
 .rename_i o k' j heq hj;have ej:=J7 hj (aj i);split at h
  .rename_i ty k xs nl ho;split at h
   .rename_i aD;obtain⟨rfl,rfl⟩:=QO h;have h0:0<=j:=hc _ (by simp);have h1:j<xs.length:=hc _ (by simp);rw[heq] at ha;simp only[SR] at ha;have ao:=aw o;rw[ho] at ao;rcases ao with⟨_,rfl,_⟩|⟨_,b,cap,c,t,h2,h3,h4,h5,h6⟩
    .simp at h1;omega
    .refine⟨.pointer (some ⟨b,0+j.toNat*size,none⟩),?_,?_⟩
     .simp only[Q6,ha.1,h2,ej];rw[z0 ⟨h0,h1⟩]
     .simp only[SR];exact⟨b,_,cap,h2,h0,h1,by simp⟩
   .cases h
  .cases h
 .rename_i o w k' j heq hj;have ej:=J7 hj (aj i);rw[heq] at ha;simp only[SR] at ha;have ao:=aw o;split at h
  .rename_i ty q k xs nl hole ho;rw[ho] at ao;split at h
   .have key:(if k.size=size then some ([0<=j,j<xs.length],SV.dd o (.el j 0 size)) else none)=some (cs,v)->QOk P B pl tb M (.indexAddr size x i) evV v:=by
     intro h;split at h
     .rename_i aD;obtain⟨rfl,rfl⟩:=QO h;have h0:0<=j:=hc _ (by simp);have h1:j<xs.length:=hc _ (by simp);obtain⟨is,_,_,h2,_⟩:=ao;rcases h2 with⟨rfl,_⟩|⟨b,cap,c,t,js,h2,_⟩
      .simp at h1;omega
      .refine⟨.pointer (some ⟨b,0+j.toNat*size,none⟩),?_,?_⟩
       .simp only[Q6,ha.1,h2,ej];rw[z0 ⟨h0,h1⟩]
       .simp only[SR,DR];exact⟨b,_,cap,h2,h0,h1,by simp⟩
     .cases h
    split at h
    .exact key h
    .exact key h
   .rename_i kr l ir;split at h
    .rename_i aD;obtain⟨rfl,rfl⟩:=QO h;have h0:0<=j:=hc _ (by simp);have h1:j<l.length:=hc _ (by simp);obtain⟨t_,aX,b,len,cap,c,e,t,g1,g2,g3,g4,g5⟩:=ha;obtain⟨r,o',rc,bI,re,rX,rt,k1,k2,k3,k4⟩:=CW t_ (j:=j.toNat) (by omega);obtain rfl:o'=0:=aX _ _ _ k1;obtain rfl:=Q0n k2;refine⟨.pointer (some ⟨r,0+j.toNat*size,none⟩),?_,?_⟩
     .simp only[Q6,k1,ej];rw[z0 ⟨h0,h1⟩]
     .simp only[SR,DR];exact⟨b,len,cap,c,e,t,r,l.length,rc,bI,re,rt,g1,g2,g3,g4,by rw[g5,k1],h0,h1,rfl,k2,by omega,by rw[zX] at k4;exact k4,by simp[aD]⟩
    .cases h
   .rename_i kr l;split at h
    .rename_i aD;obtain⟨rfl,rfl⟩:=QO h;have h0:0<=j:=hc _ (by simp);have h1:j<l.length:=hc _ (by simp);obtain⟨r,o',rc,bI,re,rX,rt,k1,k2,k3,k4⟩:=CW (show KC (Xl (pl o)) (.list kr) l [evV x] from ha) (j:=j.toNat) (by omega);refine⟨.pointer (some ⟨r,o'+j.toNat*size,none⟩),?_,?_⟩
     .simp only[Q6,k1,ej];rw[z0 ⟨h0,h1⟩]
     .simp only[SR,DR];exact⟨r,o',bI,re,rX,rt,h0,h1,k2,by simp[aD],k3,k4⟩
    .cases h
   .cases h
  .cases h
 .rename_i o lo n sz k' j heq hj;have ej:=J7 hj (aj i);split at h
  .rename_i ty k xs nl ho;split at h
   .rename_i aD;obtain⟨aD,rfl⟩:=aD;obtain⟨rfl,rfl⟩:=QO h;have h0:0<=j:=hc _ (by simp);have h1:j<n:=hc _ (by simp);rw[heq] at ha;simp only[SR] at ha;rcases ha with⟨rfl,rfl,_,_⟩|⟨b,len,cap,aq,h2,h3,h4,h5⟩
    .simp at h1;omega
    .refine⟨.pointer (some ⟨b,lo*sz+j.toNat*sz,none⟩),?_,?_⟩
     .simp only[Q6,h5,ej];rw[z0 ⟨h0,h1⟩]
     .simp only[SR];refine⟨b,len,cap,h2,by omega,by omega,?_⟩;have:((lo:Int)+j).toNat=lo+j.toNat:=by omega
      rw[this,zG,zM]
   .cases h
  .cases h
 .rename_i k l k' j heq hj;have ej:=J7 hj (aj i);split at h
  .rename_i aD;obtain⟨rfl,rfl⟩:=QO h;have h0:0<=j:=hc _ (by simp);have h1:j<l.length:=hc _ (by simp);rw[heq] at ha;simp only[SR,KC] at ha;obtain⟨v',e,hs⟩:=ha;obtain e:=(zN e).1;rcases hs with⟨rfl,_⟩|⟨b,o,cap,c,e',wr,t,h2,h3,h4,h5,h6,h7⟩
   .simp at h1;omega
   .refine⟨.pointer (some ⟨b,o+j.toNat*size,none⟩),?_,?_⟩
    .simp only[Q6,e,h2,ej];rw[z0 ⟨h0,h1⟩]
    .simp only[SR];exact⟨b,o,c,e',wr,t,h0,h1,h4,by rw[aD,zM],h6,h7⟩
  .cases h
 .cases h
theorem QV (aj:∀ x,SR P B pl tb (ev x) (evV x)) {x:Option Operand}{d:Nat}{a:Int}(h:WL ev x d=some a) (ha:0<=a):J1 evV x d=some a.toNat:=by
 cases x with
 |none=>obtain rfl:=osj h;simp[J1]
 |some x =>simp only[WL,zo] at h;obtain⟨⟨k,a'⟩,h1,h2⟩:=h;simp only at h2;subst h2;simp only[J1,J7 h1 (aj x),ha,zx]
theorem Ew (aj:∀ x,SR P B pl tb (ev x) (evV x)) {x:Operand}{lo hi:Option Operand}(h:gq kt raw (.sliceStr x lo hi) ev own=some (cs,v)) (hc:∀ c∈cs,c):QOk P B pl tb M (.sliceStr x lo hi) evV v:=by
 simp only[gq] at h;split at h
 .rename_i s hs;have es:=V_ hs (aj x);split at h
  .rename_i a b h1 h2;obtain⟨rfl,rfl⟩:=QO h;have k0:0<=a:=hc _ (by simp);have k1:a<=b:=hc _ (by simp);have k2:b<=s.length:=hc _ (by simp);have e1:=QV (evV:=evV) aj h1 k0;have e2:=QV (evV:=evV) aj h2 (by omega);have iI:(ByteArray.mk s.toArray).size=s.length:=by simp[ByteArray.size]
   refine⟨.string ((ByteArray.mk s.toArray).extract a.toNat b.toNat),?_,?_⟩
   .simp only[Q6,es,iI,e1,e2];rw[z0 (by omega)]
   .have:(ByteArray.mk s.toArray).extract a.toNat b.toNat=⟨((s.drop a.toNat).take (b-a).toNat).toArray⟩:=by
     apply ByteArray.ext;simp[ByteArray.data_extract];rw[show (b-a).toNat=b.toNat-a.toNat by omega]
    rw[this];exact Av _
  .cases h
 .cases h
theorem Z3m (aj:∀ x,SR P B pl tb (ev x) (evV x)) (aw:∀ d,OR P B pl tb M (pl d) (Q8 own d)) {x:Operand}(h:gq kt raw (.len x) ev own=some (cs,v)):QOk P B pl tb M (.len x) evV v:=by
 simp only[gq] at h;split at h
 .rename_i n h1;obtain⟨rfl,rfl⟩:=QO h;obtain⟨a,cap,e⟩:=AX aw h1 (aj x);exact⟨.int .i64 n,by simp only[Q6,e],JT _ _⟩
 .cases h
theorem OS (aj:∀ x,SR P B pl tb (ev x) (evV x)) {x:Operand}(h:gq kt raw (.lenStr x) ev own=some (cs,v)):QOk P B pl tb M (.lenStr x) evV v:=by
 simp only[gq] at h;split at h
 .rename_i s h1;obtain⟨rfl,rfl⟩:=QO h;exact⟨.int .i64 s.length,by simp only[Q6,V_ h1 (aj x)];simp[ByteArray.size],JT _ _⟩
 .cases h
theorem Z2o (aj:∀ x,SR P B pl tb (ev x) (evV x)) {x y:Operand}(h:gq kt raw (.max x y) ev own=some (cs,v)):QOk P B pl tb M (.max x y) evV v:=by
 simp only[gq] at h;split at h
 .rename_i k a k' b h1 h2;obtain⟨e1,e2⟩:=Gw aj h1 h2;split at h
  .rename_i hk;subst hk;obtain⟨rfl,rfl⟩:=QO h;exact⟨.int k (Hm a b),by simp only[Q6,e1,e2,zx];rfl,JT _ _⟩
  .cases h
 .cases h
theorem Z09 (aj:∀ x,SR P B pl tb (ev x) (evV x)) {x y z w:Operand}(h:gq kt raw (.max4 x y z w) ev own=some (cs,v)):QOk P B pl tb M (.max4 x y z w) evV v:=by
 simp only[gq] at h;split at h
 .rename_i k a k2 b k3 c k4 d h1 h2 h3 h4;obtain⟨e1,e2⟩:=Gw aj h1 h2;obtain⟨e3,e4⟩:=Gw aj h3 h4;split at h
  .rename_i hk;obtain⟨rfl,rfl,rfl⟩:=hk;obtain⟨rfl,rfl⟩:=QO h;exact⟨.int k (Hm (Hm (Hm a b) c) d),by simp only[Q6,e1,e2,e3,e4,and_self,zx];rfl,JT _ _⟩
  .cases h
 .cases h
theorem Z40 (aj:∀ x,SR P B pl tb (ev x) (evV x)) {x y:Operand}(h:gq kt raw (.min x y) ev own=some (cs,v)):QOk P B pl tb M (.min x y) evV v:=by
 simp only[gq] at h;split at h
 .rename_i k a k' b h1 h2;obtain⟨e1,e2⟩:=Gw aj h1 h2;split at h
  .rename_i hk;subst hk;obtain⟨rfl,rfl⟩:=QO h;exact⟨.int k (Z59 a b),by simp only[Q6,e1,e2,zx];rfl,JT _ _⟩
  .cases h
 .cases h
theorem AU (aj:∀ x,SR P B pl tb (ev x) (evV x)) {fn:Fn}{a b:List Operand}(h:gq kt raw (.makeFunc fn a b) ev own=some (cs,v)):QOk P B pl tb M (.makeFunc fn a b) evV v:=by
 cases fn with
 |func f =>obtain⟨rfl,rfl⟩:=QO h;refine⟨.func (.func f) (a.map evV).toArray (b.map evV).toArray,by simp only[Q6],?_⟩;simp only[SR];exact⟨_,_,rfl,SRs.map λx _=>aj x,SRs.map λx _=>aj x⟩
 |_=>cases h
theorem SlRel.sl {h:Heap}{sz:Nat}{α:Type}{R:α->List Value->Prop}{l:List α}{v:Value}(hs:SlRel h sz R l v):∃ cs a cap,h.sl sz v=some cs/\Rows R l cs/\v=.slice a l.length cap:=by
 rcases hs with⟨rfl,rfl⟩|⟨i,o,cap,c,e,wr,t,rfl,h2,h3,h4,h5,h6⟩
 .exact⟨[],_,_,rfl,.nil,rfl⟩
 .refine⟨_,_,cap,?_,h6,rfl⟩;simp only[Heap.sl,h3];rw[z0 ⟨h4,h5⟩]
theorem I5 {h:Heap}:∀ {xs:List Int}{cs:List Value},Rows (KC h (.i .u8)) xs cs->B9 cs=some ⟨(xs.map λx=>x.toNat.toUInt8).toArray⟩:=by
 have key:∀ {xs:List Int}{cs:List Value},Rows (KC h (.i .u8)) xs cs->cs.mapM Cw=some (xs.map λx=>x.toNat.toUInt8):=λ{xs cs} hr=>by
  induction hr with
  |nil=>rfl
  |@cons x xs c cs hx _ ih =>simp only[KC] at hx;subst hx;simp only[List.singleton_append,xk,Cw,ih,zF];rfl
 intro xs cs hr;simp only[B9,key hr,xj]
theorem E6 (aj:∀ x,SR P B pl tb (ev x) (evV x)) (hle:B.Le M) (aw:∀ d,OR P B pl tb M (pl d) (Q8 own d)) {x:Operand}(h:gq kt raw (.ext (.bytesStr x)) ev own=some (cs,v)):QOk P B pl tb M (.ext (.bytesStr x)) evV v:=by
 simp only[gq] at h;split at h
 .rename_i xs h1;obtain⟨rfl,rfl⟩:=QO h;obtain⟨cs,a,cap,h2,h3,h4⟩:=(Y7 hle aw h1 (aj x)).sl;refine⟨.string ⟨(Q40 xs).toArray⟩,?_,Av _⟩;have aD:Kind.size (.i .u8)=1:=rfl;rw[h4,aD] at h2;simp only[Q6,Zc,h4,h2,I5 h3];rfl
 .cases h
theorem Q1k (aj:∀ x,SR P B pl tb (ev x) (evV x)) (aw:∀ d,OR P B pl tb M (pl d) (Q8 own d)) {neg:Bool}{x y:Operand}(h:gq kt raw (.ext (.eqNil 0 neg x y)) ev own=some (cs,v)) (hc:∀ c∈cs,c):QOk P B pl tb M (.ext (.eqNil 0 neg x y)) evV v:=by
 have hx:=aj x;have hy:=aj y;simp only[gq] at h;split at h
 .rename_i h1 h2;obtain⟨rfl,rfl⟩:=QO h;rw[h1] at hx;rw[h2] at hy;simp only[SR] at hx hy;exact⟨.bool (!neg),by simp only[Q6,Zc,hx,hy,J6];cases neg<;>rfl,ZX _⟩
 .rename_i o f h1 h2;obtain⟨rfl,rfl⟩:=QO h;rw[h1] at hx;rw[h2] at hy;simp only[SR] at hx hy;obtain⟨b,_,hb⟩:=hx;exact⟨.bool neg,by simp only[Q6,Zc,hb,hy,J6];cases neg<;>rfl,ZX _⟩
 .rename_i l f h1 h2;obtain⟨rfl,rfl⟩:=QO h;rw[h1] at hx;rw[h2] at hy;simp only[SR] at hx hy;obtain⟨b,c,e,wr,t,_,hb,_⟩:=hx;exact⟨.bool neg,by simp only[Q6,Zc,hb,hy,J6];cases neg<;>rfl,ZX _⟩
 .rename_i o c h1 h2;obtain⟨rfl,rfl⟩:=QO h;rw[h1] at hx;rw[h2] at hy;simp only[SR,DR] at hx hy;rcases hx with⟨rfl,hb⟩|⟨rfl,b,_,hb⟩
  .exact⟨.bool (bif neg then false else true),by simp only[Q6,Zc,hb,hy,J6];cases neg<;>rfl,ZX _⟩
  .exact⟨.bool (bif neg then true else false),by simp only[Q6,Zc,hb,hy,J6];cases neg<;>rfl,ZX _⟩
 .rename_i o c o' f h1 h2;split at h
  .rename_i l u ho;split at h
   .rename_i he;obtain⟨rfl,rfl⟩:=he;obtain⟨rfl,rfl⟩:=QO h;have ua:c=true:=hc _ (by simp);rw[h1] at hx;rw[h2] at hy;simp only[SR,DR] at hx hy;have ao:=aw o;rw[ho] at ao;obtain⟨i,cc,e,t,hp,hg,_⟩:=ao;obtain⟨b',bk,hy⟩:=hy;rcases hx with⟨kf,_⟩|⟨_,b,dk,hb⟩
    .rw[ua] at kf;cases kf
    .rw[hp] at bk dk;simp only[phd,Value.pointer.injEq,xd] at bk dk;have e1:i=b':=by injection bk
     have e2:i=b:=by injection dk
     subst e1;subst e2;exact⟨.bool (!neg),by simp only[Q6,Zc,hb,hy,J6,hg,Option.isSome_some,and_self,zx];cases neg<;>rfl,ZX _⟩
   .cases h
  .cases h
 .cases h
theorem Er (aj:∀ x,SR P B pl tb (ev x) (evV x)) (aw:∀ d,OR P B pl tb M (pl d) (Q8 own d)) {x:Operand}(h:gq kt raw (.ext (.toUnsafe x)) ev own=some (cs,v)):QOk P B pl tb M (.ext (.toUnsafe x)) evV v:=by
 have hx:=aj x;simp only[gq] at h;split at h
 .rename_i o f h1;split at h
  .rename_i l u ho;split at h
   .rename_i hf;obtain⟨rfl,rfl⟩:=QO h;rw[h1] at hx;have qM:=hx;simp only[SR] at hx;obtain⟨b,hp,hv⟩:=hx;have ao:=aw o;rw[ho] at ao;obtain⟨i,c,e,t,dk,hg,hl,_⟩:=ao;rw[hp] at dk;have e1:b=i:=by simpa using dk
    subst e1;refine⟨.pointer (some ⟨b,f,none⟩),?_,by rw[<-hv];exact qM⟩;simp only[Q6,Zc,hv,hg];rw[z0 (by rw[<-hl.length];exact hf)]
   .cases h
  .cases h
 .cases h
theorem SK (aj:∀ x,SR P B pl tb (ev x) (evV x)) (aw:∀ d,OR P B pl tb M (pl d) (Q8 own d)) {u size:Nat}{x:Operand}(h:gq kt raw (.ext (.fromUnsafe u size x)) ev own=some (cs,v)):QOk P B pl tb M (.ext (.fromUnsafe u size x)) evV v:=by
 have hx:=aj x;simp only[gq] at h;split at h
 .rename_i o f h1;split at h
  .rename_i l t0 ho;split at h
   .rename_i hf;obtain⟨rfl,rfl,aD⟩:=hf;obtain⟨rfl,rfl⟩:=QO h;rw[h1] at hx;have qM:=hx;simp only[SR] at hx;obtain⟨b,hp,hv⟩:=hx;have ao:=aw o;rw[ho] at ao;obtain⟨i,c,e,t,dk,hg,hl,hu⟩:=ao;obtain⟨he,ht⟩:=hu _ rfl;subst ht;rw[hp] at dk;have e1:b=i:=by simpa using dk
    subst e1;refine⟨.pointer (some ⟨b,0,none⟩),?_,by rw[<-hv];exact qM⟩;simp only[Q6,Zc,hv,hg];rw[z0 ⟨trivial,he,by rw[<-hl.length];exact aD⟩]
   .cases h
  .cases h
 .cases h
theorem Ca (aj:∀ x,SR P B pl tb (ev x) (evV x)) (aw:∀ d,OR P B pl tb M (pl d) (Q8 own d)) {x:Operand}(h:gq kt raw (.ext (.sliceData x)) ev own=some (cs,v)) (hc:∀ c∈cs,c):QOk P B pl tb M (.ext (.sliceData x)) evV v:=by
 have hx:=aj x;simp only[gq] at h;split at h
 .rename_i h1;obtain⟨rfl,rfl⟩:=QO h;rw[h1] at hx;simp only[SR] at hx;exact⟨.pointer none,by simp only[Q6,Zc,hx],by simp[SR]⟩
 .rename_i o h1;split at h
  .rename_i ty k xs nl ho;obtain⟨rfl,rfl⟩:=QO h;have dI:nl=false->xs≠[]:=hc _ (by simp);rw[h1] at hx;simp only[SR] at hx;have ao:=aw o;rw[ho] at ao;rcases ao with⟨_,_,hp⟩|⟨ke,i,cap,c,t,hp,cM,hg,_⟩
   .refine⟨.pointer none,by simp only[Q6,Zc,hx.1,hp],?_⟩;simp only[SR,DR];exact .inl ⟨by rw[hp];rfl,trivial⟩
   .have av:=xJ.2 (dI ke);refine⟨.pointer (some ⟨i,0,none⟩),?_,?_⟩
    .simp only[Q6,Zc,hx.1,hp,hg,Option.isSome_some,and_true];rw[z0 (by omega)]
    .simp only[SR,DR];exact .inr ⟨i,xs.length,cap,by rw[hp];rfl,av,rfl⟩
  .cases h
 .cases h
theorem HO {size:Nat}{i o len cap l h:Nat}{c:List Value}{e:El}{wr t:Bool}(hg:M.get i=some (.cells c e wr t)) (he:e.sz=size) (h1:l<=h) (h2:h<=cap) :
  WD size M (.slice (some ⟨i,o,none⟩) len cap) l h none=some (.slice (some ⟨i,o+l*size,none⟩) (h-l) (cap-l),M):=by
 simp only[WD,hg];rw[z0 ⟨he,h1,h2⟩]
theorem Q9s {H:Heap}{k:Kind}{l:List k.T}{v:Value}(h:KC H (.list k) l [v]):∃ a c,v=.slice a l.length c:=by
 obtain⟨v',e,hs⟩:=h;obtain rfl:=(zN e).1;rcases hs with⟨rfl,rfl⟩|⟨i,o,cap,c,e',wr,t,rfl,_⟩
 .exact⟨_,_,rfl⟩
 .exact⟨_,_,rfl⟩
theorem CY {H:Heap}(hle:H.Le M) {k:Kind}{l:List k.T}{v:Value}{a b:Nat}(h:KC H (.list k) l [v]) (k1:a<=b) (k2:b<=l.length) :
  ∃ u,WD k.size M v a b none=some (u,M)/\KC H (.list k) ((l.drop a).take (b-a)) [u]:=by
 obtain⟨v',e,hs⟩:=h;obtain rfl:=(zN e).1;rcases hs with⟨rfl,rfl⟩|⟨i,o,cap,c,e',wr,t,rfl,h4,h5,h6,h7,h8⟩
 .simp only[List.length_nil] at k2;have za:a=0:=by omega
  have zb:b=0:=by omega
  subst za;subst zb;exact⟨.slice none 0 0,by simp only[WD];rfl,_,rfl,.inl ⟨by simp,rfl⟩⟩
 .have hlen:((l.drop a).take (b-a)).length=b-a:=by simp;omega
  refine⟨.slice (some ⟨i,o+a*k.size,none⟩) (b-a) (cap-a),HO (hle.2 _ _ h5) h6 (by omega) (by omega),_,rfl,.inr ⟨i,o+a*k.size,cap-a,c,e',wr,t,by rw[hlen],by rw[hlen];omega,h5,h6,?_,?_⟩⟩
  .rw[hlen];have:(a+(b-a))*k.size<=l.length*k.size:=zm _ (by omega);rw[zG] at this;omega
  .rw[hlen];have:=(h8.drop KC.q0f a).take KC.q0f (b-a);have e3:(((c.drop o).take (l.length*k.size)).drop (a*k.size)).take ((b-a)*k.size)=(c.drop (o+a*k.size)).take ((b-a)*k.size):=by
    apply zT;intro j;simp only[zL,zw];split
    .have:(a+(b-a))*k.size<=l.length*k.size:=zm _ (by omega);rw[zG] at this;rw[z0 (by omega),zk]
    .rfl
   rw[e3] at this;exact this
theorem Q6h (aj:∀ x,SR P B pl tb (ev x) (evV x)) (hle:B.Le M) (aw:∀ d,OR P B pl tb M (pl d) (Q8 own d)) {size:Nat}{x:Operand}{lo hi mx:Option Operand}(h:gq kt raw (.slice size x lo hi mx) ev own=some (cs,v)) (hc:∀ c∈cs,c):QOk P B pl tb M (.slice size x lo hi mx) evV v:=by
 have ha:=aj x;cases mx with
 |some m=>cases h
 |none =>
 simp only[gq] at h;split at h
 .rename_i o heq;rw[heq] at ha;simp only[SR] at ha;have ao:=aw o;split at h
  .rename_i ty k xs nl ho;rw[ho] at ao;split at h
   .rename_i aD;split at h
    .rename_i a b h1 h2;obtain⟨rfl,rfl⟩:=QO h;have k0:0<=a:=hc _ (by simp);have k1:a<=b:=hc _ (by simp);have k2:b<=xs.length:=hc _ (by simp);have e1:=QV (evV:=evV) (d:=0) aj h1 k0;have e2:=QV (evV:=evV) aj h2 (by omega);rcases ao with⟨_,rfl,h3⟩|⟨_,i,cap,c,t,h3,h4,h5,h6,h7⟩
     .simp only[List.length_nil] at k2 e2;have za:a.toNat=0:=by omega
      have zb:b.toNat=0:=by omega
      have zc:(b-a).toNat=0:=by omega
      refine⟨.slice none 0 0,?_,?_⟩
      .simp only[Q6,ha.1,h3,e1,e2,za,zb,WD];rfl
      .rw[za,zc];simp only[SR];exact .inl ⟨trivial,trivial,trivial,h3⟩
     .refine⟨.slice (some ⟨i,0+a.toNat*size,none⟩) (b.toNat-a.toNat) (cap-a.toNat),?_,?_⟩
      .simp only[Q6,ha.1,h3,e1,e2];exact HO h5 aD (by omega) (by omega)
      .simp only[SR];refine .inr ⟨i,_,cap,cap-a.toNat,h3,by omega,by omega,?_⟩;rw[zV,show (b-a).toNat=b.toNat-a.toNat by omega]
    .cases h
   .cases h
  .cases h
 .rename_i o l0 n sz heq;rw[heq] at ha;simp only[SR] at ha;have ao:=aw o;split at h
  .rename_i ty k xs nl ho;rw[ho] at ao;split at h
   .rename_i aD;obtain⟨aD,rfl⟩:=aD;split at h
    .rename_i a b h1 h2;obtain⟨rfl,rfl⟩:=QO h;have k0:0<=a:=hc _ (by simp);have k1:a<=b:=hc _ (by simp);have k2:b<=n:=hc _ (by simp);have e1:=QV (evV:=evV) (d:=0) aj h1 k0;have e2:=QV (evV:=evV) aj h2 (by omega);rcases ha with⟨rfl,rfl,hv,hp⟩|⟨i,len,cap,aq,h3,h4,h5,hv⟩
     .have za:a.toNat=0:=by omega
      have zb:b.toNat=0:=by omega
      have zc:(b-a).toNat=0:=by omega
      refine⟨.slice none 0 0,?_,?_⟩
      .simp only[Q6,hv,e1,e2,za,zb,WD];rfl
      .rw[za,zc];simp only[SR];exact .inl ⟨trivial,trivial,trivial,hp⟩
     .rcases ao with⟨_,_,h6⟩|⟨_,i',e_,c,t,h6,h7,h8,h9,bT⟩
      .rw[h3] at h6;cases h6
      .rw[h3] at h6;obtain⟨rfl,rfl,rfl⟩:=(by simpa using h6:i=i'/\len=xs.length/\cap=e_);refine⟨.slice (some ⟨i,l0*sz+a.toNat*sz,none⟩) (b.toNat-a.toNat) (aq-a.toNat),?_,?_⟩
       .simp only[Q6,hv,e1,e2];exact HO h8 aD (by omega) (by omega)
       .simp only[SR];refine .inr ⟨i,_,cap,aq-a.toNat,h3,by omega,by omega,?_⟩;rw[zG,show (b-a).toNat=b.toNat-a.toNat by omega]
    .cases h
   .cases h
  .cases h
 .rename_i k l heq;rw[heq] at ha;simp only[SR] at ha;split at h
  .rename_i aD;split at h
   .rename_i a b h1 h2;obtain⟨rfl,rfl⟩:=QO h;have k0:0<=a:=hc _ (by simp);have k1:a<=b:=hc _ (by simp);have k2:b<=l.length:=hc _ (by simp);have e1:=QV (evV:=evV) (d:=0) aj h1 k0;have e2:=QV (evV:=evV) aj h2 (by omega);obtain⟨v',e⟩:=z_.1 (KC.length ha);obtain⟨u,g1,g2⟩:=CY hle (a:=a.toNat) (b:=b.toNat) ha (by omega) (by omega);obtain⟨n,cap,e3⟩:=Q9s ha;refine⟨u,?_,?_⟩
    .simp only[Q6,e3,e1,e2];rw[<-aD,<-e3];exact g1
    .simp only[SR];rw[show (b-a).toNat=b.toNat-a.toNat by omega];exact g2
   .cases h
  .cases h
 .rename_i o w heq;rw[heq] at ha;simp only[SR] at ha;have ao:=aw o;split at h
  .rename_i ty q k xs nl hole ho;rw[ho] at ao
   have key:∀ (k:Kind) (l:List k.T),KC (Xl (pl o)) (.list k) l [evV x]->(if k.size=size then (match WL ev lo 0,WL ev hi l.length with
     |some a,some b=>some ([0<=a,a<=b,b<=(l.length:Int)],SV.dd o (.inn k ((l.drop a.toNat).take (b-a).toNat)))
     |_,_=>none) else none)=some (cs,v)->QOk P B pl tb M (.slice size x lo hi none) evV v:=by
    intro k l ha h;split at h
    .rename_i aD;split at h
     .rename_i a b h1 h2;obtain⟨rfl,rfl⟩:=QO h;have k0:0<=a:=hc _ (by simp);have k1:a<=b:=hc _ (by simp);have k2:b<=l.length:=hc _ (by simp);have e1:=QV (evV:=evV) (d:=0) aj h1 k0;have e2:=QV (evV:=evV) aj h2 (by omega);obtain⟨u,g1,g2⟩:=CY (DP.le ao) (a:=a.toNat) (b:=b.toNat) ha (by omega) (by omega);obtain⟨n,cap,e3⟩:=(P2 ha).len;refine⟨u,?_,?_⟩
      .simp only[Q6,e3,e1,e2];rw[<-aD,<-e3];exact g1
      .simp only[SR,DR];rw[show (b-a).toNat=b.toNat-a.toNat by omega];exact g2
     .cases h
    .cases h
   split at h
   .exact key _ _ ha h
   .exact key _ _ ha.1 h
   .cases h
  .cases h
 .rename_i heq;rw[heq] at ha;simp only[SR] at ha;split at h
  .rename_i a b h1 h2;obtain⟨rfl,rfl⟩:=QO h;have k0:a=0:=hc _ (by simp);have k1:b=0:=hc _ (by simp);subst k0;subst k1;have e1:=QV (evV:=evV) (d:=0) aj h1 (Int.le_refl _);have e2:=QV (evV:=evV) (d:=0) aj h2 (Int.le_refl _);refine⟨.slice none 0 0,?_,?_⟩
   .simp only[Q6,ha,e1,e2,WD];rfl
   .simp only[SR]
  .cases h
 .cases h
theorem Q51 (aj:∀ x,SR P B pl tb (ev x) (evV x)) {neg:Bool}{x y:Operand}(aw:∀ d,OR P B pl tb M (pl d) (Q8 own d)) (h:gq kt raw (.ext (.eqNil 1 neg x y)) ev own=some (cs,v)) (hc:∀ c∈cs,c):QOk P B pl tb M (.ext (.eqNil 1 neg x y)) evV v:=by
 have ha:=aj x;have hb:=aj y;simp only[gq] at h;split at h
 .rename_i h1 h2;rw[h1] at ha;rw[h2] at hb;simp only[SR] at ha hb;obtain⟨rfl,rfl⟩:=QO h;refine⟨.bool (!neg),?_,ZX _⟩;simp only[Q6,Zc,ha,hb,J6];cases neg<;>rfl
 .rename_i o h1 h2;rw[h1] at ha;rw[h2] at hb;simp only[SR] at ha hb;have ao:=aw o;split at h
  .rename_i ty k xs nl ho;rw[ho] at ao;obtain⟨rfl,rfl⟩:=QO h;refine⟨.bool (bif neg then !nl else nl),?_,ZX _⟩;rcases ao with⟨rfl,_,h3⟩|⟨rfl,i,cap,c,t,h3,_⟩
   .simp only[Q6,Zc,ha.1,h3,hb,J6];cases neg<;>rfl
   .simp only[Q6,Zc,ha.1,h3,hb,J6];cases neg<;>rfl
  .cases h
 .rename_i o h1 h2;rw[h1] at ha;rw[h2] at hb;simp only[SR] at ha hb;have ao:=aw o;split at h
  .rename_i ty q k xs nl hole ho;rw[ho] at ao;obtain⟨rfl,rfl⟩:=QO h;refine⟨.bool (bif neg then !nl else nl),?_,ZX _⟩;obtain⟨is,_,_,g2,_,_,g5⟩:=ao;obtain⟨e1,_⟩:=ha;rcases g2 with⟨_,h3,_⟩|⟨i,cap,c,t,js,h3,_⟩
   .obtain rfl:=g5.2 h3;simp only[Q6,Zc,e1,h3,hb,J6];cases neg<;>rfl
   .have hn:nl=false:=by
     cases nl with
     |false=>rfl
     |true=>rw[g5.1 rfl] at h3;cases h3
    subst hn;simp only[Q6,Zc,e1,h3,hb,J6];cases neg<;>rfl
  .cases h
 .rename_i k l h1 h2;rw[h1] at ha;rw[h2] at hb;simp only[SR] at ha hb;obtain⟨rfl,rfl⟩:=QO h;have hl:=hc (l≠[]) (by simp);refine⟨.bool neg,?_,ZX _⟩;obtain⟨u,hu,hs⟩:=ha;obtain rfl:=(zN hu).1;rcases hs with⟨e,_⟩|⟨i,o,cap,c,e,wr,t,h3,_⟩
  .exact absurd e hl
  .simp only[Q6,Zc,h3,hb,J6];cases neg<;>rfl
 .cases h
theorem Q0y (aj:∀ x,SR P B pl tb (ev x) (evV x)) {mk:MK}{z:Value}{ok:Bool}{x i:Operand}(_hle:B.Le M) (aw:∀ d,OR P B pl tb M (pl d) (Q8 own d)) (h:gq kt raw (.ext (.lookup mk z ok x i)) ev own=some (cs,v)):QOk P B pl tb M (.ext (.lookup mk z ok x i)) evV v:=by
 have ha:=aj x;simp only[gq] at h;split at h
 .rename_i o h1;rw[h1] at ha;simp only[SR] at ha;have ao:=aw o;split at h
  .rename_i kk vk m ho;rw[ho] at ao;obtain⟨id,es,clock,h2,h3,h4⟩:=ao;split at h
   .rename_i b9;obtain⟨b9,hz⟩:=b9;split at h
    .rename_i key aP;have hk:=VJ aP (aj i) Qw;have bO:=Uh b9 hk;have ae:=MR.keys b9 h4.1;have qN:KV B vk vk.dflt z:=Bf hz;have aF:M.mapAt id=some (es,clock,true):=by simp[Heap.mapAt,h3]
     have aK:=MR.find b9 hk qN h4.1
     have base:∀ u,(match Qf (evV i) es with
      |some e=>some (if ok then Value.tuple #[e.2.1,.bool true] else e.2.1,M)
      |none=>some (if ok then .tuple #[z,.bool false] else z,M))=some (u,M)->Q6 (.ext (.lookup mk z ok x i)) evV M=some (u,M):=λu hu=>by
      simp only[Q6,Zc,bO,zx,ha.1,h2,aF,ae];exact hu
     cases ok with
     |true =>
      simp only[zx] at h;obtain⟨rfl,rfl⟩:=QO h;rcases aK with⟨e,k1,k2,k3⟩|⟨k1,k2,k3⟩
      .refine⟨.tuple #[e.2.1,.bool true],base _ (by rw[k1];rfl),?_⟩;simp only[SR];refine⟨[e.2.1,.bool true],rfl,?_⟩;simp only[SRs,SR];exact⟨_,_,rfl,X4 k3,_,_,rfl,by simp[KC,k2],rfl⟩
      .refine⟨.tuple #[z,.bool false],base _ (by rw[k1];rfl),?_⟩;simp only[SR];refine⟨[z,.bool false],rfl,?_⟩;simp only[SRs,SR];exact⟨_,_,rfl,by rw[k3];exact X4 qN,_,_,rfl,by simp[KC,k2],rfl⟩
     |false =>
      simp only[zA,if_false] at h;obtain⟨rfl,rfl⟩:=QO h;rcases aK with⟨e,k1,k2,k3⟩|⟨k1,k2,k3⟩
      .exact⟨e.2.1,base _ (by rw[k1];rfl),X4 k3⟩
      .exact⟨z,base _ (by rw[k1];rfl),by rw[k3];exact X4 qN⟩
    .cases h
   .cases h
  .cases h
 .cases h
theorem Q00 (aj:∀ x,SR P B pl tb (ev x) (evV x)) {x:Operand}(aw:∀ d,OR P B pl tb M (pl d) (Q8 own d)) (h:gq kt raw (.ext (.lenMap x)) ev own=some (cs,v)):QOk P B pl tb M (.ext (.lenMap x)) evV v:=by
 have ha:=aj x;simp only[gq] at h;split at h
 .rename_i o h1;rw[h1] at ha;simp only[SR] at ha;have ao:=aw o;split at h
  .rename_i kk vk m ho;rw[ho] at ao;obtain⟨id,es,clock,h2,h3,h4⟩:=ao;obtain⟨rfl,rfl⟩:=QO h;have aF:M.mapAt id=some (es,clock,true):=by simp[Heap.mapAt,h3]
   refine⟨.int .i64 es.length,by simp only[Q6,Zc,ha.1,h2,aF],?_⟩;rw[h4.1.length];exact JT _ _
  .cases h
 .cases h
theorem MR.at {kk vk:Kind}:∀ {m:List (kk.T×vk.T)}{es:List Jo}{r:Nat}{e:Jo},MR B kk vk m es->es[r]?=some e->∃ h:r<m.length,KV B kk m[r].1 e.1/\KV B vk m[r].2 e.2.1
 |[],es,r,e,h,he=>by simp only[MR] at h;subst h;simp at he
 |x::m,es,r,e,h,he=>by
  obtain⟨e',bS,rfl,h1,h2,h3⟩:=h;cases r with
  |zero=>simp only[List.getElem?_cons_zero,xd] at he;subst he;exact⟨by simp,h1,h2⟩
  |succ r =>obtain⟨k1,k2,k3⟩:=MR.at h3 (by simpa using he);exact⟨by simpa using k1,k2,k3⟩
theorem Dt:∀ {k:Kind},k.keyk=true->∀ {x:k.T}{cs:List Value},KC B k x cs->cs.all QN=true
 |.pair a b,hk,x,cs,h=>by simp only[Kind.keyk,z2] at hk;obtain⟨c1,c2,rfl,h1,h2⟩:=h;rw[List.all_append,Dt hk.1 h1,Dt hk.2 h2];rfl
 |.i _,_,x,cs,h=>by simp only[KC] at h;subst h;rfl
 |.bo,_,x,cs,h=>by simp only[KC] at h;subst h;rfl
 |.st,_,x,cs,h=>by simp only[KC] at h;subst h;rfl
 |.list _,hk,_,_,_=>by cases hk
theorem Ln {k:Kind}(hk:k.keyk=true) {x:k.T}{v:Value}(h:KV B k x v):V5 v=true:=by
 rcases h with⟨ho,h⟩|⟨ho,cs,rfl,h⟩
 .have:=Dt hk h;rw[zR,z2] at this;have hp:=this.1;cases v<;>first|exact hp|cases hp
 .show cs.toArray.toList.all QN=true;exact Dt hk h
theorem GD {es:List Jo}{clock:Nat}(h:SOk es clock) {r r':Nat}{e e':Jo}(h1:es[r]?=some e) (h2:es[r']?=some e') (he:e.2.2=e'.2.2):r=r':=by
 obtain⟨k1,rfl⟩:=z7.1 h1;obtain⟨k2,rfl⟩:=z7.1 h2;have:=h.1;rw[List.nodup_iff_pairwise_ne,List.pairwise_iff_getElem] at this;rcases Nat.lt_trichotomy r r' with ah|ah|ah
 .exact absurd (by rw[xF,xF];exact he) (this r r' (by simpa using k1) (by simpa using k2) ah)
 .exact ah
 .exact absurd (by rw[xF,xF];exact he.symm) (this r' r (by simpa using k2) (by simpa using k1) ah)
theorem Ee {es:List Jo}{clock:Nat}(h:SOk es clock) {r:Nat}{e:Jo}(h1:es[r]?=some e):es.find? (λe'=>e'.2.2==e.2.2)=some e:=by
 obtain⟨k1,rfl⟩:=z7.1 h1;rw[List.find?_eq_some_iff_getElem];refine⟨by simp,r,k1,rfl,λj hj=>?_⟩;have bU:j<es.length:=by omega
 simp only[Bool.not_eq_true',wj];intro he;have:=GD h (z3 bU) h1 he;omega
theorem Q5d (aj:∀ x,SR P B pl tb (ev x) (evV x)) (hle:B.Le M) (aw:∀ d,OR P B pl tb M (pl d) (Q8 own d)) {x:Operand}(h:gq kt raw (.ext (.entry x)) ev own=some (cs,v)) (hc:∀ c∈cs,c):QOk P B pl tb M (.ext (.entry x)) evV v:=by
 simp only[gq] at h;split at h
 .rename_i o f h1;split at h
  .rename_i kk vk m dn ho;split at h
   .rename_i ak;obtain⟨rfl,hk,hv⟩:=ak;obtain⟨rfl,rfl⟩:=QO h;have od:dn≠[]:=hc _ (by simp);have e1:=aj x;rw[h1] at e1;simp only[SR] at e1;obtain⟨b,e2,e3⟩:=e1;have ao:=aw o;rw[ho] at ao;obtain⟨j,i,es,clock,wr,seen,h2,h3,h4,h5,h6⟩:=ao;rw[h2] at e2;obtain rfl:j=b:=by simpa using e2
    have br:0<dn.length:=xJ.2 od;have cJ:dn[dn.length-1]?=some (dn.getLastD 0):=by rw[xn,List.getLast?_eq_getElem?];rw[z3 (show dn.length-1<dn.length by omega)];rfl
    obtain⟨e,j9,gP⟩:=h6.2 _ _ cJ;have gG:seen.getLast?=some e.2.2:=by rw[List.getLast?_eq_getElem?,h6.1];exact gP
    obtain⟨hr,k1,k2⟩:=MR.at h5.1 j9;have k2:=k2.kc hv;have aF:M.mapAt i=some (es,clock,wr):=by simp[Heap.mapAt,hle.2 _ _ h4]
    have cZ:=Ee h5.2 j9;refine⟨.tuple #[e.1,e.2.1],?_,?_⟩
    .simp only[Q6,Zc,e3,h3,aF,gG,cZ,zx];rw[z0 (Ln hk k1)]
    .simp only[SR,SRs];refine⟨[e.1,e.2.1],rfl,e.1,[e.2.1],rfl,?_,e.2.1,[],rfl,?_,rfl⟩
     .have:m.getD (dn.getLastD 0) (kk.dflt,vk.dflt)=m[dn.getLastD 0]:=by rw[z4,z3 hr];rfl
      rw[this];exact X4 k1
     .have:m.getD (dn.getLastD 0) (kk.dflt,vk.dflt)=m[dn.getLastD 0]:=by rw[z4,z3 hr];rfl
      rw[this];exact k2
   .cases h
  .cases h
 .cases h
theorem Rv (aj:∀ x,SR P B pl tb (ev x) (evV x)) (gv:∀ c,evV (.const c)=c) (hle:B.Le M) (aw:∀ d,OR P B pl tb M (pl d) (Q8 own d)) {o:VOp}(h:gq kt raw o ev own=some (cs,v)) (hc:∀ c∈cs,c):QOk P B pl tb M o evV v:=by
 cases o with
 |move x=>obtain⟨rfl,rfl⟩:=QO h;exact⟨evV x,rfl,aj x⟩
 |arith=>exact Q56 aj h hc
 |div=>exact Z2w aj h hc
 |bits=>exact Z02 aj h
 |shift=>exact Q5h aj h hc
 |cmp=>exact Z3k aj h
 |str=>exact Z3a aj h hc
 |eqB=>exact Z2h aj h
 |un=>exact Z5k aj h hc
 |convI=>exact Q5c aj h hc
 |convS=>exact Q6c aj h
 |build=>exact Q5m aj h
 |load=>exact Q9o aj hle aw h
 |fieldAddr=>exact LZ aj h
 |field=>exact Q5z aj h
 |indexAddr=>exact Ct aj hle aw h hc
 |indexAddrArr=>exact Tw aj gv h
 |indexStr=>exact AZ aj h hc
 |indexArr=>exact E0 aj gv h
 |slice=>exact Q6h aj hle aw h hc
 |sliceStr=>exact Ew aj h hc
 |len=>exact Z3m aj aw h
 |lenStr=>exact OS aj h
 |max=>exact Z2o aj h
 |max4=>exact Z09 aj h
 |min=>exact Z40 aj h
 |makeFunc=>exact AU aj h
 |extract=>exact O8 aj h
 |nilCheck=>exact AY aj h
 |ext x =>
  cases x with
  |eqNil k neg a b =>
   match k with
   |1=>exact Q51 aj aw h hc
   |0=>exact Q1k aj aw h hc
   |(n+2)=>cases h
  |eqAgg n s a b=>exact Q4t aj h
  |toUnsafe a=>exact Er aj aw h
  |fromUnsafe u size a=>exact SK aj aw h
  |sliceData a=>exact Ca aj aw h hc
  |bytesStr a=>exact E6 aj hle aw h
  |lookup=>exact Q0y aj hle aw h
  |lenMap=>exact Q00 aj aw h
  |entry a=>exact Q5d aj hle aw h hc
  |_=>cases h
 |_=>cases h
end
end
end Go.V
namespace Go.V
open Go
theorem Z5n {α:Type}{l:List α}(h:¬ l=[]) (b:Bool):(l.isEmpty&&b)=false:=by cases l with|nil=>exact absurd rfl h|cons _ _=>rfl
theorem Z2k {α:Type}{l:List α}(h:¬ l=[]):l.isEmpty=false:=by cases l with|nil=>exact absurd rfl h|cons _ _=>rfl
theorem Mi {c vs:List Value}{o:Nat}(h:o+vs.length<=c.length):Yx c o vs=c.take o++vs++c.drop (o+vs.length):=by
 apply zT;intro k;rcases zh k o with hk|hk
 .rw[Ya vs c o k (.inl hk),x7,x6 (by simp;omega),zL,z0 hk]
 .rcases zh k (o+vs.length) with au|au
  .have:=RX vs c o (k-o) h (by omega);rw[show o+(k-o)=k by omega] at this;rw[this,x7,xc (by simp;omega),x6 (by simp;omega)];congr 1;simp;omega
  .rw[Ya vs c o k (.inr au),xc (by simp;omega),zw];congr 1;simp;omega
theorem At (us c:List Value) {m p n off:Nat}(h1:off+us.length<=n) (h2:p+n<=m) (h3:m<=c.length) :
  (Yx c (p+off) us).take m=(c.take m).take p++Yx (((c.take m).drop p).take n) off us++(c.take m).drop (p+n):=by
 have l1:(((c.take m).drop p).take n).length=n:=by simp;omega
 have cm:∀ q,q<n->(((c.take m).drop p).take n)[q]?=c[p+q]?:=λq hq=>by rw[zL,z0 hq,zw,zL,z0 (by omega)]
 generalize ((c.take m).drop p).take n=row at l1 cm;have l2:((c.take m).take p).length=p:=by simp;omega
 have l3:(Yx row off us).length=n:=by rw[XE,l1]
 have g2:∀ q,q<p->((c.take m).take p)[q]?=c[q]?:=λq hq=>by rw[zL,z0 hq,zL,z0 (by omega)]
 generalize (c.take m).take p=pre at l2 g2;apply zT;intro j;rw[zL,x7];by_cases hj:j<m
 .rw[z0 hj];rcases zh j p with a1|a1
  .rw[Ya us c _ j (.inl (by omega)),x6 (by omega),g2 j a1]
  .rw[xc (by omega),l2];rcases zh j (p+n) with a2|a2
   .rw[x6 (by omega)];rcases zh (j-p) off with a3|a3
    .rw[Ya us c _ j (.inl (by omega)),Ya us _ _ _ (.inl a3),cm _ (by omega)];congr 1;omega
    .rcases zh (j-p) (off+us.length) with a4|a4
     .have b1:=RX us c (p+off) (j-(p+off)) (by omega) (by omega);have b2:=RX us row off (j-(p+off)) (by omega) (by omega);rw[show p+off+(j-(p+off))=j by omega] at b1;rw[show off+(j-(p+off))=j-p by omega] at b2;rw[b1,b2]
     .rw[Ya us c _ j (.inr (by omega)),Ya us _ _ _ (.inr a4),cm _ (by omega)];congr 1;omega
   .rw[Ya us c _ j (.inr (by omega)),xc (by omega),zw,zL,l3,z0 (by omega)];congr 1;omega
 .rw[z1 hj,xc (by omega),xc (by omega),zw,zL,z1 (by omega)]
theorem Heap.Le.push {B M:Heap}(h:B.Le M) (b:Blk):B.Le (M.push b) :=
 ⟨by have:=h.1;simp;omega,λi b' hb=>by rw[Heap.q0i _ _ (M.lt (h.2 i b' hb))];exact h.2 i b' hb⟩
theorem Heap.Le.upd {B M:Heap}(h:B.Le M) {i:Nat}(hi:B.get i=none) (b:Blk):B.Le (M.upd i b) :=
 ⟨by simpa using h.1,λj b' hb=>by
  have:j≠i:=λe=>by subst e;rw[hi] at hb;cases hb
  rw[Heap.q0b _ _ this];exact h.2 j b' hb⟩
theorem Heap.Le.kill {B M:Heap}(h:B.Le M) {i:Nat}(hi:B.get i=none):B.Le (M.kill i) :=
 ⟨by simpa using h.1,λj b' hb=>by
  have:j≠i:=λe=>by subst e;rw[hi] at hb;cases hb
  rw[Heap.q0d _ this];exact h.2 j b' hb⟩
theorem Heap.Le.fresh {B M:Heap}(h:B.Le M):B.get M.n=none:=B.wf _ h.1
section
variable {P:Program}{B F:Heap}{pl:Nat->Value}{tb:Nat->Option Bool}{s:St}{env:Env}{M:Heap}
theorem OR.q1a {p:Value}{b:OB}(h:OR P B pl tb M p b) (hl:b.live=true) {i:Nat}(hi:Oid p i):i<M.n:=by
 cases b with
 |dead=>cases hl
 |lst ty k xs nl =>
  rcases h with⟨_,_,rfl⟩|⟨_,i',cap,c,t,rfl,_,h3,_⟩
  .cases hi
  .obtain rfl:=osj hi;exact M.lt h3
 |cells l u=>obtain⟨i',c,e,t,rfl,h2,_⟩:=h;obtain rfl:=osj hi;exact M.lt h2
 |map kk vk m=>obtain⟨i',es,clock,rfl,h2,_⟩:=h;obtain rfl:=osj hi;exact M.lt h2
 |mapE kk vk m key n=>obtain⟨i',es,clock,r,e,rfl,h2,_⟩:=h;obtain rfl:=osj hi;exact M.lt h2
 |iter kk vk m dn=>obtain⟨j,i',es,clock,wr,seen,rfl,h2,_⟩:=h;obtain rfl:=osj hi;exact M.lt h2
 |lpf l q s=>obtain⟨rfl,_,h2⟩:=h;obtain rfl:=osj hi;exact M.lt (h2 hl)
 |deep ty q k xs nl hh =>obtain⟨is,hO,_,_,_,h4,_⟩:=h;obtain⟨b',cu⟩:=(hO i).1 hi;exact M.lt (h4 i b' cu)
 |stk l vals=>cases hl
theorem Gam.push (h:Gam P B F pl tb s env M) (d:Nat) (b:OB) (p:Value) (blk:Blk) (hp:oid p=some M.n) (hb:OR P B (Jv pl d p) tb (M.push blk) p b):Gam P B F (Jv pl d p) tb (s.make d b) env (M.push blk):=by
 refine h.make d b p (h.le.push blk) (λj i hj hl hi=>?_) hb (λi _ hi=>?_)
 .exact Heap.q0i _ _ ((h.obj j).q1a hl hi)
 .obtain rfl:=FD hp hi;exact⟨h.le.fresh,λj _ hl e=>by have:=(h.obj j).q1a hl e;omega⟩
theorem Rows.cellOk {k:Kind}{xs:List k.T}{cs:List Value}(h:Rows (KC B k) xs cs):cs.all Go.V.cellOk=true:=by
 induction h with
 |nil=>rfl
 |cons h _ ih=>rw[List.all_append,KC.cellOk h,ih];rfl
theorem DX {pl:Nat->Value}:∀ {k:Kind}{off:Nat}{v:SV}{u:Value}{x y:k.T}{row:List Value},Q70 k off v x=some y->KC B k x row->SR P B pl tb v u->off<k.size->KC B k y (Yx row off [u])
 |.pair a b,off,v,u,x,y,row,h,hr,hv,ho=>by
  obtain⟨c1,c2,rfl,h1,h2⟩:=hr;have l1:=KC.length h1;have l2:=KC.length h2;simp only[Q70] at h;simp only[Yx];cases hb:Nat.blt off a.size with
  |true =>
   rw[hb] at h;simp only[zg,zo] at h;obtain⟨z,h3,rfl⟩:=h;have aX:off<a.size:=by simpa [zI] using hb
   have:=DX h3 h1 hv aX;exact⟨c1.set off u,c2,by rw[List.set_append_left _ _ (by omega)],this,h2⟩
  |false =>
   rw[hb] at h;simp only[zO,zo] at h;obtain⟨z,h3,rfl⟩:=h;have aX:¬ off<a.size:=by intro ah;rw[show Nat.blt off a.size=true by rw[zI];exact ah] at hb;cases hb
   simp only[Kind.size] at ho;have:=DX h3 h2 hv (by omega);refine⟨c1,c2.set (off-a.size) u,?_,h1,this⟩;rw[List.set_append_right _ _ (by omega),l1]
 |.i ik,off,v,u,x,y,row,h,hr,hv,ho=>by
  have:=Qw (k:=.i ik) h (show SRs P B pl tb [v] [u] by simp only[SRs];exact⟨_,[],rfl,hv,rfl⟩);have hl:=KC.length hr;simp only[Kind.size] at hl ho;obtain⟨c,rfl⟩:=z_.1 hl;obtain rfl:off=0:=by omega
  exact this
 |.bo,off,v,u,x,y,row,h,hr,hv,ho=>by
  have:=Qw (k:=.bo) h (show SRs P B pl tb [v] [u] by simp only[SRs];exact⟨_,[],rfl,hv,rfl⟩);have hl:=KC.length hr;simp only[Kind.size] at hl ho;obtain⟨c,rfl⟩:=z_.1 hl;obtain rfl:off=0:=by omega
  exact this
 |.st,off,v,u,x,y,row,h,hr,hv,ho=>by
  have:=Qw (k:=.st) h (show SRs P B pl tb [v] [u] by simp only[SRs];exact⟨_,[],rfl,hv,rfl⟩);have hl:=KC.length hr;simp only[Kind.size] at hl ho;obtain⟨c,rfl⟩:=z_.1 hl;obtain rfl:off=0:=by omega
  exact this
 |.list k,off,v,u,x,y,row,h,hr,hv,ho=>by
  have:=Qw (k:=.list k) h (show SRs P B pl tb [v] [u] by simp only[SRs];exact⟨_,[],rfl,hv,rfl⟩);have hl:=KC.length hr;simp only[Kind.size] at hl ho;obtain⟨c,rfl⟩:=z_.1 hl;obtain rfl:off=0:=by omega
  exact this
theorem M6 {mk:MK}{kk vk:Kind}(hk:gq.mkOk mk kk=true) {key:kk.T}{x:vk.T}{kv xv:Value}{clock:Nat}(aP:KV B kk key kv) (hx:KV B vk x xv):∀ {m:List (kk.T×vk.T)}{es:List Jo},MR B kk vk m es->MR B kk vk (UI kk m key x) (Qq kv xv clock es).1
 |[],es,h=>by simp only[MR] at h;subst h;exact⟨_,[],rfl,aP,hx,rfl⟩
 |m::ms,es,h=>by
  obtain⟨e,bS,rfl,h2,h3,h4⟩:=h;have hq:=Gy hk aP h2;simp only[Qq,UI,hq];cases gq.keq kk key m.1 with
  |true=>exact⟨_,bS,rfl,aP,hx,h4⟩
  |false=>exact⟨e,_,rfl,h2,h3,M6 hk aP hx h4⟩
theorem Gp (k v:Value) (clock:Nat):∀ es:List Jo,((Qq k v clock es).2=clock/\(Qq k v clock es).1.map (λe=>e.2.2)=es.map λe=>e.2.2)\/((Qq k v clock es).2=clock+1/\(Qq k v clock es).1.map (λe=>e.2.2)=(es.map λe=>e.2.2)++[clock])
 |[]=>.inr ⟨rfl,rfl⟩
 |e::es=>by
  simp only[Qq];split
  .exact .inl ⟨rfl,rfl⟩
  .rcases Gp k v clock es with⟨h1,h2⟩|⟨h1,h2⟩
   .exact .inl ⟨h1,by simp[h2]⟩
   .exact .inr ⟨h1,by simp[h2]⟩
theorem SOk.put {es:List Jo}{clock:Nat}(h:SOk es clock) {k v:Value}:SOk (Qq k v clock es).1 (Qq k v clock es).2:=by
 obtain⟨h1,h2⟩:=h;have mem:∀ (l:List Jo) (x:Nat),x∈l.map (λe=>e.2.2)<->∃ e∈l,e.2.2=x:=λl x=>by simp
 rcases Gp k v clock es with⟨e1,e2⟩|⟨e1,e2⟩
 .refine⟨by rw[e2];exact h1,λe he=>?_⟩;have:e.2.2∈es.map λe=>e.2.2:=by rw[<-e2];exact(mem _ _).2 ⟨e,he,rfl⟩
  obtain⟨e',k1,k2⟩:=(mem _ _).1 this;rw[e1,<-k2];exact h2 e' k1
 .refine⟨?_,λe he=>?_⟩
  .rw[e2,List.nodup_append];refine⟨h1,by simp,λa ha b hb=>?_⟩;obtain rfl:=z8.1 hb;obtain⟨e',k1,k2⟩:=(mem _ _).1 ha;have:=h2 e' k1;omega
  .have:e.2.2∈(es.map λe=>e.2.2)++[clock]:=by rw[<-e2];exact(mem _ _).2 ⟨e,he,rfl⟩
   rw[e1];rcases zu.1 this with h3|h3
   .obtain⟨e',k1,k2⟩:=(mem _ _).1 h3;have:=h2 e' k1;omega
   .have:=z8.1 h3;omega
theorem TC {mk:MK}{kk vk:Kind}(hk:gq.mkOk mk kk=true) {key:kk.T}{kv:Value}(aP:KV B kk key kv):∀ {m:List (kk.T×vk.T)}{es:List Jo},MR B kk vk m es->MR B kk vk (Q1g kk m key) (V2 kv es)
 |[],es,h=>by simp only[MR] at h;subst h;rfl
 |m::ms,es,h=>by
  obtain⟨e,bS,rfl,h2,h3,h4⟩:=h;have hq:=Gy hk aP h2;simp only[V2,Q1g,hq];cases gq.keq kk key m.1 with
  |true=>exact h4
  |false=>exact⟨e,_,rfl,h2,h3,TC hk aP h4⟩
theorem B5 (k:Value):∀ es:List Jo,(V2 k es).Sublist es
 |[]=>.slnil
 |e::es=>by
  simp only[V2];split
  .exact List.sublist_cons_self _ _
  .exact(B5 k es).cons_cons _
theorem SOk.del {es:List Jo}{clock:Nat}(h:SOk es clock) {k:Value}:SOk (V2 k es) clock :=
 ⟨h.1.sublist ((B5 k es).map _),λe he=>h.2 e ((B5 k es).subset he)⟩
def Fr (T:Nat) (s s':St) (pl pl':Nat->Value) (M M':Heap):Prop :=
 ∀ q,q≠T->(Q8 s'.own q).live=(Q8 s.own q).live/\pl' q=pl q/\((Q8 s.own q).live=true->∀ i,Oid (pl q) i->M'.get i=M.get i)
theorem Vv (s:St) (d:Nat) (b:OB) {q:Nat}(hq:q≠d):(Q8 (s.make d b).own q).live=(Q8 s.own q).live:=by simp only[St.make,St.kill,Qi,Vs,z1 hq,OB.q0s]
theorem Gam.makeF {s:St}{env:Env}{M M':Heap}{pl:Nat->Value}(h:Gam P B F pl tb s env M) (d:Nat) (b:OB) (p:Value) (hle:F.Le M') (ho:∀ j i,j≠d->(Q8 s.own j).live=true->Oid (pl j) i->M'.get i=M.get i)
  (hb:OR P B (Jv pl d p) tb M' p b) (hf:∀ i,b.live=true->Oid p i->F.get i=none/\∀ j,j≠d->(Q8 s.own j).live=true->¬ Oid (pl j) i):Gam P B F (Jv pl d p) tb (s.make d b) env M'/\Fr d s (s.make d b) pl (Jv pl d p) M M' :=
 ⟨h.make d b p hle ho hb hf,λq hq=>⟨Vv s d b hq,by simp[Jv,hq],λhl i hi=>ho q i hq hl hi⟩⟩
theorem Gam.writeF {s:St}{env:Env}{M M':Heap}{pl:Nat->Value}(h:Gam P B F pl tb s env M) (d:Nat) (b:OB) (hle:F.Le M') (al:(Q8 s.own d).live=true)
  (cQ:∀ j i,j≠d->(Q8 s.own j).live=true->Oid (pl j) i->M'.get i=M.get i) (hb:OR P B pl tb M' (pl d) b):Gam P B F pl tb ⟨s.env,oset s.own d b,s.nx⟩ env M'/\Fr d s ⟨s.env,oset s.own d b,s.nx⟩ pl pl M M' :=
 ⟨h.write d b hle al cQ hb,λq hq=>⟨by simp only[Qi,z1 hq],rfl,λhl i hi=>cQ q i hq hl hi⟩⟩
theorem Gam.pushF {s:St}{env:Env}{M:Heap}{pl:Nat->Value}(h:Gam P B F pl tb s env M) (d:Nat) (b:OB) (p:Value) (blk:Blk) (hp:oid p=some M.n) (hb:OR P B (Jv pl d p) tb (M.push blk) p b):Gam P B F (Jv pl d p) tb (s.make d b) env (M.push blk)/\Fr d s (s.make d b) pl (Jv pl d p) M (M.push blk) :=
 ⟨h.push d b p blk hp hb,λq hq=>⟨Vv s d b hq,by simp[Jv,hq],λhl i hi=>Heap.q0i _ _ ((h.obj q).q1a hl hi)⟩⟩
def NOk (P:Program) (B F:Heap) (tb:Nat->Option Bool) (o:VOp) (evV:Operand->Value) (env:Env) (M:Heap) (K:SV->St->Prop) (T:Nat) (s:St) (pl:Nat->Value):Prop :=
 ∃ u M' pl' v s',Q6 o evV M=some (u,M')/\K v s'/\(Gam P B F pl' tb s' env M'/\Fr T s s' pl pl' M M')/\SR P B pl' tb v u
theorem W4 (pl:Nat->Value) (d:Nat) (p:Value):Jv pl d p d=p:=by simp[Jv]
section
variable {C:Cx}{d:Nat}{ev:Operand->SV}{evV:Operand->Value}{K:SV->St->Prop}
theorem Ov (aj:∀ x,SR P B pl tb (ev x) (evV x)) (hG:Gam P B F pl tb s env M) {t:Nat}{z:List Value}(h:gn C d (.alloc t z) ev s K):NOk P B F tb (.alloc t z) evV env M K (Qx d (.alloc t z) ev) s pl:=by
 have _hev:=aj;simp only[gn] at h;refine⟨.pointer (some ⟨M.n,0,none⟩),_,Jv pl d (.pointer (some ⟨M.n,0,none⟩)),_,_,rfl,h,hG.pushF d _ _ _ rfl ?_,?_⟩
 .refine⟨M.n,z,_,_,rfl,Heap.q0a _ _,?_,λy hy=>⟨osj hy,rfl⟩⟩;have hz:SRs P B (Jv pl d (.pointer (some ⟨M.n,0,none⟩))) tb (z.map cvp) (z.map id):=SRs.map λx _=>GJ x
  rwa [List.map_id] at hz
 .simp only[SR,W4];exact⟨_,rfl,rfl⟩
theorem Q8x (aj:∀ x,SR P B pl tb (ev x) (evV x)) (hG:Gam P B F pl tb s env M) {t:Nat}{x:Operand}(h:gn C d (.box t x) ev s K):NOk P B F tb (.box t x) evV env M K (Qx d (.box t x) ev) s pl:=by
 simp only[gn] at h;split at h
 .rename_i l hl;obtain⟨c,h1,h2,_⟩:=Yp hl (aj x);refine⟨.pointer (some ⟨M.n,0,none⟩),M.push (.cells c ⟨c.length,t⟩ true true),Jv pl d (.pointer (some ⟨M.n,0,none⟩)),_,_,by simp only[Q6,h1],h,hG.pushF d _ _ _ rfl ?_,?_⟩
  .exact⟨M.n,c,_,_,rfl,Heap.q0a _ _,SRs.upd (Heap.Le.refl B) (λ_ _ h=>h) (λj hj=>by simp[Jv,hj]) _ _ h2,λy hy=>⟨osj hy,rfl⟩⟩
  .simp only[SR,W4];exact⟨_,rfl,rfl⟩
 .cases h
theorem Bp (aj:∀ x,SR P B pl tb (ev x) (evV x)) {k:Kind}:∀ {ps:List (Nat×Operand)}{xs ys:List k.T}{c:List Value},L9 k ev ps xs=some ys->Rows (KC B k) xs c ->
  ys.length=xs.length/\∃ c',M0 c (ps.map λp=>(p.1*k.size,k.size,evV p.2))=some c'/\Rows (KC B k) ys c'
 |[],xs,ys,c,h,hr=>by obtain rfl:=osj h;exact⟨rfl,c,rfl,hr⟩
 |(j,x)::r,xs,ys,c,h,hr=>by
  simp only[L9] at h;split at h
  .rename_i l hl;split at h
   .rename_i y hy;split at h
    .rename_i hj;obtain⟨vs,h1,h2,_⟩:=Yp hl (aj x);have hk:=Qw hy h2;have hlen:=KC.length hk;have cg:=hr.length KC.q0f;have bU:(j+1)*k.size<=xs.length*k.size:=zm _ hj;rw[zG,xD] at bU;have aW:=hr.set KC.q0f hj hk;have e:Yx c (j*k.size) vs=c.take (j*k.size)++vs++c.drop (j*k.size+k.size):=by
      rw[Mi (by omega),hlen]
     rw[<-e] at aW;obtain⟨h3,c',h4,h5⟩:=Bp aj h aW;refine⟨by rw[h3,xx],c',?_,h5⟩;simp only[zF,M0,h1];rw[z0 ⟨hlen,by omega⟩];exact h4
    .cases h
   .cases h
  .cases h
theorem NN (aj:∀ x,SR P B pl tb (ev x) (evV x)) (hG:Gam P B F pl tb s env M) {e:El}{z:List Value}{n:Nat}{ps:List (Nat×Operand)}(h:gn C d (.buildSlice e z n ps) ev s K):NOk P B F tb (.buildSlice e z n ps) evV env M K (Qx d (.buildSlice e z n ps) ev) s pl:=by
 simp only[gn] at h;split at h
 .rename_i k _;split at h
  .rename_i hc;obtain⟨aD,hz⟩:=hc;split at h
   .rename_i xs hx;have qO:KC B k k.dflt z:=Yr hz;have cm:Rows (KC B k) (List.replicate n k.dflt) (H7 n z):=by rw[VE];exact Rows.replicate qO n
    obtain⟨h3,c',h4,h5⟩:=Bp (B:=B) aj hx cm;rw[xL] at h3;have cg:=h5.length KC.q0f;refine⟨.slice (some ⟨M.n,0,none⟩) n n,M.push (.cells c' e true true),Jv pl d (.slice (some ⟨M.n,0,none⟩) n n),_,_,?_,h,hG.pushF d _ _ _ rfl ?_,?_⟩
    .simp only[Q6];rw[<-aD,h4]
    .refine .inr ⟨rfl,M.n,n,c',true,by rw[h3],by omega,?_,by rw[cg,h3];exact z5 _,?_⟩
     .rw[Heap.q0a,aD]
     .rw[zD (by omega)];exact h5
    .simp only[SR,W4];exact⟨trivial,_,_,_,rfl⟩
   .cases h
  .cases h
 .cases h
theorem P9 (aj:∀ x,SR P B pl tb (ev x) (evV x)) (hG:Gam P B F pl tb s env M) {e:El}{bytes:Nat}{z:List Value}{l c:Operand}(h:gn C d (.makeSlice e bytes z l c) ev s K):NOk P B F tb (.makeSlice e bytes z l c) evV env M K (Qx d (.makeSlice e bytes z l c) ev) s pl:=by
 simp only[gn] at h;split at h
 .rename_i k k1 a k2 b _ h1 h2;have e1:=J7 h1 (aj l);have e2:=J7 h2 (aj c);split at h
  .rename_i hc;obtain⟨aD,hz⟩:=hc;simp only[LM,Q6n] at h;obtain⟨k3,k4,k5,k6,h⟩:=h;have qO:KC B k k.dflt z:=Yr hz;have cm:Rows (KC B k) (List.replicate b.toNat k.dflt) (H7 b.toNat z):=by rw[VE];exact Rows.replicate qO _
   have cg:=cm.length KC.q0f;rw[xL] at cg;have ht:=cm.take KC.q0f a.toNat;rw[List.take_replicate,xS (by omega)] at ht;refine⟨.slice (some ⟨M.n,0,none⟩) a.toNat b.toNat,M.push (.cells (H7 b.toNat z) e true true),Jv pl d (.slice (some ⟨M.n,0,none⟩) a.toNat b.toNat),_,_,?_,h,hG.pushF d _ _ _ rfl ?_,?_⟩
   .simp only[Q6,e1,e2];rw[z0 ⟨k3,k4,by simpa using k5,by simpa using k6⟩]
   .refine .inr ⟨rfl,M.n,b.toNat,_,true,by rw[xL],by simp;omega,?_,by rw[cg];exact z5 _,?_⟩
    .rw[Heap.q0a,aD]
    .rw[xL];exact ht
   .simp only[SR,W4];exact⟨trivial,_,_,_,rfl⟩
  .cases h
 .cases h
theorem Az (aj:∀ x,SR P B pl tb (ev x) (evV x)) (hG:Gam P B F pl tb s env M) {e:El}{bytes:Nat}{x y:Operand}(h:gn C d (.append e bytes x y) ev s K):NOk P B F tb (.append e bytes x y) evV env M K (Qx d (.append e bytes x y) ev) s pl:=by
 have ha:=aj x;simp only[gn] at h;split at h
 .rename_i k _;split at h
  .rename_i ys hy;obtain⟨cs,ay,ub,aA,df,rY⟩:=(Y7 hG.leB hG.obj hy (aj y)).sl;have ai:cs.all cellOk=true:=df.cellOk;have cg:=df.length KC.q0f;split at h
   .rename_i hx;have hT:Qx d (.append e bytes x y) ev=d:=by simp only[Qx,hx]
    rw[hT];rw[hx] at ha;simp only[SR] at ha;split at h
    .rename_i aD;simp only[LM,Q6n] at h;obtain⟨h1,h⟩:=h;rw[aD] at aA;have base:Q6 (.append e bytes x y) evV M=Yv e bytes M (.slice none 0 0) ys.length cs:=by
      simp only[Q6,rY] at aA |-;simp only[aA,ai,zx,ha]
     by_cases hm:ys=[]
     .subst hm;refine⟨.slice none 0 0,M,Jv pl d (.slice none 0 0),_,_,by rw[base];rfl,h,?_,?_⟩
      .refine hG.makeF d _ _ hG.le (λj i _ _ _=>rfl) (.inl ⟨rfl,rfl,rfl⟩) λi _ hi=>by cases hi
      .simp only[SR,W4];exact⟨trivial,_,_,_,rfl⟩
     .have eH:ys.length≠0:=λe=>hm (zW.1 e);refine⟨.slice (some ⟨M.n,0,none⟩) ys.length ys.length,M.push (.cells cs e true false),Jv pl d (.slice (some ⟨M.n,0,none⟩) ys.length ys.length),_,_,?_,h,hG.pushF d _ _ _ rfl ?_,?_⟩
      .rw[base];simp only[Yv];rw[z1 eH,z0 (by simpa using h1)]
      .refine .inr ⟨Z2k hm,M.n,ys.length,cs,false,rfl,z5 _,?_,by omega,?_⟩
       .rw[Heap.q0a,aD]
       .rw[zD (by omega)];exact df
      .simp only[SR,W4];exact⟨trivial,_,_,_,rfl⟩
    .cases h
   .rename_i o hx;have hT:Qx d (.append e bytes x y) ev=o:=by simp only[Qx,hx]
    rw[hT];rw[hx] at ha;simp only[SR] at ha;have ao:=hG.obj o;split at h
    .rename_i ty k' xs nl ho;rw[ho] at ao;have al:(Q8 s.own o).live=true:=by rw[ho];rfl
     split at h
     .rename_i aD;obtain⟨j6,aD⟩:=aD;split at h
      .rename_i cI kK;obtain rfl:=XL kK;obtain rfl:=XH kK;simp only[LM,Q6n] at h;obtain⟨h1,h⟩:=h;rw[aD] at aA;have base:Q6 (.append e bytes x y) evV M=Yv e bytes M (pl o) ys.length cs:=by
        simp only[Q6,rY] at aA |-;simp only[aA,ai,zx,ha.1]
       have he:e=⟨k'.size,ty⟩:=by cases e;simp only at j6 aD;rw[j6,aD]
       rcases ao with⟨rfl,rfl,h3⟩|⟨rfl,i,cap,c,t,h3,h4,h5,h6,h7⟩
       .
        rw[h3] at base;by_cases hm:ys=[]
        .subst hm;refine⟨.slice none 0 0,M,Jv pl o (.slice none 0 0),_,_,by rw[base];rfl,h,?_,?_⟩
         .refine hG.makeF o _ _ hG.le (λj i _ _ _=>rfl) (.inl ⟨rfl,rfl,rfl⟩) λi _ hi=>by cases hi
         .simp only[SR,W4];exact⟨trivial,_,_,_,rfl⟩
        .have eH:ys.length≠0:=λe=>hm (zW.1 e);refine⟨.slice (some ⟨M.n,0,none⟩) ys.length ys.length,M.push (.cells cs e true false),Jv pl o (.slice (some ⟨M.n,0,none⟩) ys.length ys.length),_,_,?_,h,hG.pushF o _ _ _ rfl ?_,?_⟩
         .rw[base];simp only[Yv];rw[z1 eH,z0 (by simpa using h1)]
         .rw[xe];refine .inr ⟨Z5n hm _,M.n,ys.length,cs,false,rfl,z5 _,?_,by omega,?_⟩
          .rw[Heap.q0a,he]
          .rw[zD (by omega)];exact df
         .simp only[SR,W4];exact⟨trivial,_,_,_,rfl⟩
       .rw[h3] at base;have k1:cI.length*k'.size<=cap*k'.size:=zm _ h4;have bc:F.get i=none:=hG.fresh o i al (by rw[h3];rfl);have a_:∀ j i',j≠o->(Q8 s.own j).live=true->Oid (pl j) i'->i'≠i:=λj i' hj hl hi e=>by
         subst e;exact hG.sep j o i' hj hl al hi (by rw[h3];rfl)
        have ak:e=e/\cI.length<=cap/\0+cI.length*e.sz<=c.length:=⟨rfl,h4,by rw[<-aD];omega⟩;simp only[Yv,h5] at base;rw[<-he,z0 ak] at base;by_cases hm:ys=[]
        .subst hm;simp only[List.length_nil,zx] at base;refine⟨_,M,Jv pl o (pl o),_,_,base,h,?_,?_⟩
         .refine hG.makeF o _ _ hG.le (λj i _ _ _=>rfl) (.inr ⟨rfl,i,cap,c,t,?_,?_,h5,h6,?_⟩) λi' _ hi=>?_
          .rw[h3];simp
          .simpa using h4
          .simpa using h7
          .rw[h3] at hi;obtain rfl:=osj hi;exact⟨bc,λj hj hl e=>a_ j _ hj hl e rfl⟩
         .simp only[SR,W4,h3];exact⟨trivial,_,_,_,rfl⟩
        .have eH:ys.length≠0:=λe=>hm (zW.1 e);have ke:(ys.isEmpty&&false)=false:=by simp
         have pI:Rows (KC B k') (cI++ys) (c.take (cI.length*k'.size)++cs):=h7.append df;have dm:=pI.length KC.q0f;rw[z1 eH] at base;by_cases a7:cI.length+ys.length<=cap
         .have fO:(cI.length+ys.length)*k'.size<=cap*k'.size:=zm _ a7;have dT:cI.length*k'.size+ys.length*k'.size<=cap*k'.size:=by rw[<-zG];exact fO
          rw[z0 a7,z0 ⟨trivial,by rw[<-aD];omega⟩] at base;refine⟨_,_,Jv pl o (.slice (some ⟨i,0,none⟩) (cI.length+ys.length) cap),_,_,base,h,?_,?_⟩
          .refine hG.makeF o _ _ (hG.le.upd bc _) (λj i' hj hl hi=>Heap.q0b _ _ (a_ j i' hj hl hi)) (.inr ⟨ke,i,cap,Yx c (0+cI.length*e.sz) cs,t,by rw[zB],by rw[zB];exact a7,?_,?_,?_⟩) λi' _ hi=>?_
           .rw[Heap.q0c _ _ (M.lt h5),he]
           .rw[XE];exact h6
           .have eR:0+cI.length*e.sz+cs.length<=c.length:=by rw[<-aD];omega
            rw[Mi eR,<-aD,zV,List.take_left' (by rw[dm])];exact pI
           .obtain rfl:=osj hi;exact⟨bc,λj hj hl e=>a_ j _ hj hl e rfl⟩
          .simp only[SR,W4];exact⟨trivial,_,_,_,rfl⟩
         .rw[z1 a7,z0 (by simpa using h1)] at base;have jJ:((c.drop 0).take (cI.length*e.sz)++cs)=c.take (cI.length*k'.size)++cs:=by rw[zX,aD]
          cases t with
          |true =>
           simp only[zx] at base;rw[jJ] at base;refine⟨_,_,Jv pl o (.slice (some ⟨M.n,0,none⟩) (cI.length+ys.length) (cI.length+ys.length)),_,_,base,h,hG.pushF o _ _ _ rfl (.inr ⟨ke,M.n,cI.length+ys.length,c.take (cI.length*k'.size)++cs,false,by rw[zB],by rw[zB];exact z5 _,?_,?_,?_⟩),?_⟩
           .rw[Heap.q0a,he]
           .rw[dm,zB];exact z5 _
           .rw[zD (by rw[dm];exact z5 _)];exact pI
           .simp only[SR,W4];exact⟨trivial,_,_,_,rfl⟩
          |false =>
           simp only[zA,if_false,zx] at base;rw[jJ] at base;have hn:(M.kill i).n=M.n:=rfl;refine⟨_,_,Jv pl o (.slice (some ⟨M.n,0,none⟩) (cI.length+ys.length) (cI.length+ys.length)),_,_,base,h,?_,?_⟩
           .refine hG.makeF o _ _ ((hG.le.kill bc).push _) (λj i' hj hl hi=>?_) (.inr ⟨ke,M.n,cI.length+ys.length,c.take (cI.length*k'.size)++cs,false,by rw[zB],by rw[zB];exact z5 _,?_,?_,?_⟩) λi' _ hi=>?_
            .rw[Heap.q0i _ _ (by rw[hn];exact(hG.obj j).q1a hl hi)];exact Heap.q0d _ (a_ j i' hj hl hi)
            .rw[<-hn,Heap.q0a,he]
            .rw[dm,zB];exact z5 _
            .rw[zD (by rw[dm];exact z5 _)];exact pI
            .obtain rfl:=osj hi;exact⟨hG.le.fresh,λj _ hl e=>wm M.n ((hG.obj j).q1a hl e)⟩
           .simp only[SR,W4];exact⟨trivial,_,_,_,rfl⟩
      .cases h
     .cases h
    .cases h
   .cases h
  .cases h
 .cases h
theorem I4 (aj:∀ x,SR P B pl tb (ev x) (evV x)) (hG:Gam P B F pl tb s env M) {size:Nat}{a x:Operand}(h:gn C d (.store size a x) ev s K):NOk P B F tb (.store size a x) evV env M K (Qx d (.store size a x) ev) s pl:=by
 have ha:=aj a;simp only[gn] at h;split at h
 .rename_i o off vs h1 h2;have hT:Qx d (.store size a x) ev=o:=by simp only[Qx,h1]
  rw[hT];obtain⟨us,h3,h4,h5⟩:=Yp h2 (aj x);rw[h1] at ha;simp only[SR] at ha;obtain⟨b,h6,h7⟩:=ha;have ao:=hG.obj o;split at h
  .rename_i l u ho;rw[ho] at ao;have al:(Q8 s.own o).live=true:=by rw[ho];rfl
   obtain⟨i,c,e,t,h8,h9,bT,fT⟩:=ao;rw[h6] at h8;obtain rfl:=(by simpa using h8:b=i);split at h
   .rename_i hc;have bc:F.get b=none:=hG.fresh o b al (by rw[h6];rfl);have a_:∀ j i',j≠o->(Q8 s.own j).live=true->Oid (pl j) i'->i'≠b:=λj i' hj hl hi e=>by
     subst e;exact hG.sep j o i' hj hl al hi (by rw[h6];rfl)
    refine⟨undef,M.upd b (.cells (Yx c off us) e true t),pl,_,_,?_,h,hG.writeF o _ (hG.le.upd bc _) al (λj i' hj hl hi=>Heap.q0b _ _ (a_ j i' hj hl hi)) ?_,by simp[SR]⟩
    .simp only[Q6,h7,h3,h9];rw[z0 ⟨trivial,by rw[<-h4.length];exact hc.1,by rw[<-bT.length];exact hc.2,h5⟩]
    .exact⟨b,_,e,t,h6,Heap.q0c _ _ (M.lt h9),B3 bT h4,fT⟩
   .cases h
  .cases h
 .rename_i o i off sz vs h1 h2;have hT:Qx d (.store size a x) ev=o:=by simp only[Qx,h1]
  rw[hT];obtain⟨us,h3,h4,h5⟩:=Yp h2 (aj x);rw[h1] at ha;simp only[SR] at ha;obtain⟨b,len,cap,h6,h7,h8,h9⟩:=ha;have ao:=hG.obj o;split at h
  .rename_i ty k xs nl ho;rw[ho] at ao;have al:(Q8 s.own o).live=true:=by rw[ho];rfl
   rcases ao with⟨_,_,k3⟩|⟨rfl,i',aq,c,t,k3,k4,k5,k6,k7⟩
   .rw[h6] at k3;cases k3
   .rw[h6] at k3;obtain⟨rfl,rfl,rfl⟩:=(by simpa using k3:b=i'/\len=xs.length/\cap=aq);have bc:F.get b=none:=hG.fresh o b al (by rw[h6];rfl);have a_:∀ j i',j≠o->(Q8 s.own j).live=true->Oid (pl j) i'->i'≠b:=λj i' hj hl hi e=>by
     subst e;exact hG.sep j o i' hj hl al hi (by rw[h6];rfl)
    have hi:i.toNat<xs.length:=by omega
    have aD:(i.toNat+1)*k.size<=xs.length*k.size:=zm _ hi;rw[zG,xD] at aD;have k8:=zm k.size k4
    have fin:∀ (y:k.T) (us:List Value) (dE:Nat),dE+us.length<=k.size->KC B k y (Yx (((c.take (xs.length*k.size)).drop (i.toNat*k.size)).take k.size) dE us) ->
      Gam P B F pl tb ⟨s.env,oset s.own o (.lst ty k (xs.set i.toNat y) false),s.nx⟩ env (M.upd b (.cells (Yx c (i.toNat*k.size+dE) us) ⟨k.size,ty⟩ true t))/\Fr o s ⟨s.env,oset s.own o (.lst ty k (xs.set i.toNat y) false),s.nx⟩ pl pl M (M.upd b (.cells (Yx c (i.toNat*k.size+dE) us) ⟨k.size,ty⟩ true t)):=by
     intro y us dE oe hk;refine hG.writeF o _ (hG.le.upd bc _) al (λj i' hj hl hi=>Heap.q0b _ _ (a_ j i' hj hl hi)) (.inr ⟨rfl,b,cap,Yx c (i.toNat*k.size+dE) us,t,by rw[h6];simp,by simpa using k4,Heap.q0c _ _ (M.lt k5),by rw[XE];exact k6,?_⟩);have aW:=k7.set KC.q0f hi hk;rw[xx];rw[At us c (m:=xs.length*k.size) (p:=i.toNat*k.size) (n:=k.size) (off:=dE) oe aD (by omega)];exact aW
    have cm:=k7.at KC.q0f hi;have dm:=KC.length cm;split at h
    .rename_i hc;obtain⟨rfl,rfl,rfl⟩:=hc;split at h
     .rename_i y hy;have hk:=Qw hy h4;have hl:=KC.length hk;refine⟨undef,M.upd b (.cells (Yx c (i.toNat*k.size+0) us) ⟨k.size,ty⟩ true t),pl,_,_,?_,h,fin y us 0 (by omega) ?_,by simp[SR]⟩
      .simp only[Q6,h9,h3,k5];rw[z0 ⟨trivial,hl,by omega,h5⟩]
      .rw[Mi (by omega),zV,we,xe,List.drop_of_length_le (by omega),xC];exact hk
     .cases h
    .split at h
     .rename_i hc;obtain⟨rfl,rZ,rfl,aX⟩:=hc;split at h
      .rename_i y hy;obtain⟨v0,rfl⟩:∃ v0,vs=[v0]:=by
        cases vs with
        |nil=>cases rZ
        |cons a r=>cases r with
         |nil=>exact⟨a,rfl⟩
         |cons _ _=>simp at rZ
       obtain⟨u0,rfl,uc⟩:=h4.one;have hx:xs.getD i.toNat k.dflt=xs[i.toNat]:=by simp[z4,z3 hi]
       rw[hx] at hy;refine⟨undef,M.upd b (.cells (Yx c (i.toNat*k.size+off) [u0]) ⟨k.size,ty⟩ true t),pl,_,_,?_,h,fin y [u0] off (by simp;omega) (DX hy cm uc aX),by simp[SR]⟩;simp only[Q6,h9,h3,k5];rw[z0 ⟨trivial,rfl,by omega,h5⟩]
      .cases h
     .cases h
  .cases h
 .cases h
theorem Hr (aj:∀ x,SR P B pl tb (ev x) (evV x)) (hG:Gam P B F pl tb s env M) {mk:MK}{m kx vx:Operand}(h:gn C d (.ext (.mapUpdate mk m kx vx)) ev s K):NOk P B F tb (.ext (.mapUpdate mk m kx vx)) evV env M K (Qx d (.ext (.mapUpdate mk m kx vx)) ev) s pl:=by
 have ha:=aj m;simp only[gn] at h;split at h
 .rename_i o h1;have hT:Qx d (.ext (.mapUpdate mk m kx vx)) ev=o:=by simp only[Qx,h1]
  rw[hT];rw[h1] at ha;simp only[SR] at ha;have ao:=hG.obj o;split at h
  .rename_i kk vk l ho;rw[ho] at ao;have al:(Q8 s.own o).live=true:=by rw[ho];rfl
   obtain⟨id,es,clock,h2,h3,h4⟩:=ao;split at h
   .rename_i hc;have b9:=hc;split at h
    .rename_i key x aP hx;have hk:=VJ aP (aj kx) Qw;have hv:=VJ hx (aj vx) Qw;have bc:F.get id=none:=hG.fresh o id al (by rw[h2];rfl);have a_:∀ j i',j≠o->(Q8 s.own j).live=true->Oid (pl j) i'->i'≠id:=λj i' hj hl hi e=>by
      subst e;exact hG.sep j o i' hj hl al hi (by rw[h2];rfl)
     have aF:M.mapAt id=some (es,clock,true):=by simp[Heap.mapAt,h3]
     refine⟨undef,M.upd id (.obj (.map (Qq (evV kx) (evV vx) clock es).1 (Qq (evV kx) (evV vx) clock es).2) true),pl,_,_,?_,h,hG.writeF o _ (hG.le.upd bc _) al (λj i' hj hl hi=>Heap.q0b _ _ (a_ j i' hj hl hi)) ?_,by simp[SR]⟩
     .simp only[Q6,Zc,ha.1,h2,aF];rw[z0 (by rw[Uh b9 hk,h4.1.keys b9];rfl)]
     .exact⟨id,_,_,h2,Heap.q0c _ _ (M.lt h3),M6 b9 hk hv h4.1,h4.2.put⟩
    .cases h
   .cases h
  .cases h
 .cases h
theorem CP (aj:∀ x,SR P B pl tb (ev x) (evV x)) (hG:Gam P B F pl tb s env M) {mk:MK}{m kx:Operand}(h:gn C d (.ext (.delete mk m kx)) ev s K):NOk P B F tb (.ext (.delete mk m kx)) evV env M K (Qx d (.ext (.delete mk m kx)) ev) s pl:=by
 have ha:=aj m;simp only[gn] at h;split at h
 .rename_i o h1;have hT:Qx d (.ext (.delete mk m kx)) ev=o:=by simp only[Qx,h1]
  rw[hT];rw[h1] at ha;simp only[SR] at ha;have ao:=hG.obj o;split at h
  .rename_i kk vk l ho;rw[ho] at ao;have al:(Q8 s.own o).live=true:=by rw[ho];rfl
   obtain⟨id,es,clock,h2,h3,h4⟩:=ao;split at h
   .rename_i b9;split at h
    .rename_i key aP;have hk:=VJ aP (aj kx) Qw;have bc:F.get id=none:=hG.fresh o id al (by rw[h2];rfl);have a_:∀ j i',j≠o->(Q8 s.own j).live=true->Oid (pl j) i'->i'≠id:=λj i' hj hl hi e=>by
      subst e;exact hG.sep j o i' hj hl al hi (by rw[h2];rfl)
     have aF:M.mapAt id=some (es,clock,true):=by simp[Heap.mapAt,h3]
     refine⟨.tuple #[],M.upd id (.obj (.map (V2 (evV kx) es) clock) true),pl,_,_,?_,h,hG.writeF o _ (hG.le.upd bc _) al (λj i' hj hl hi=>Heap.q0b _ _ (a_ j i' hj hl hi)) ?_,by simp[SR]⟩
     .simp only[Q6,Zc,ha.1,h2,aF];rw[z0 (by rw[Uh b9 hk,h4.1.keys b9];rfl)]
     .exact⟨id,_,_,h2,Heap.q0c _ _ (M.lt h3),TC b9 hk h4.1,h4.2.del⟩
    .cases h
   .cases h
  .cases h
 .cases h
theorem Cy {mk:MK}{kk:Kind}(hk:gq.mkP mk kk=true) (x:kk.T):gq.keq kk x x=true:=by
 unfold gq.mkP at hk;split at hk
 .simp[gq.keq]
 .simp[gq.keq]
 .simp[gq.keq]
 .cases hk
theorem Pc:∀ {k:Kind}{l r:List MK},gq.mkAt k l=some r->∀ x:k.T,gq.keq k x x=true
 |.pair a b,l,r,hk,x=>by
  simp only[gq.mkAt] at hk;split at hk
  .rename_i q hq;simp only[gq.keq,Pc hq,Pc hk,Bool.and_self]
  .cases hk
 |.i _,m::l,r,hk,x|.bo,m::l,r,hk,x|.st,m::l,r,hk,x|.list _,m::l,r,hk,x=>by
  simp only[gq.mkAt] at hk;cases hp:gq.mkP m _ with
  |false=>rw[hp] at hk;cases hk
  |true=>exact Cy hp x
 |.i _,[],r,hk,x|.bo,[],r,hk,x|.st,[],r,hk,x|.list _,[],r,hk,x=>by cases hk
theorem Fi {mk:MK}{kk:Kind}(hk:gq.mkOk mk kk=true) (x:kk.T):gq.keq kk x x=true:=by
 unfold gq.mkOk at hk;cases ho:kk.one with
 |true=>rw[ho] at hk;exact Cy hk x
 |false =>
  rw[ho] at hk;simp only[zO] at hk;split at hk
  .split at hk
   .rename_i hr;exact Pc hr x
   .cases hk
  .cases hk
theorem Rw {k v:Value}(hk:XB k k=true) (clock:Nat):∀ es:List Jo,Qf k (Qq k v clock es).1=some (k,v,match Qf k es with|some e=>e.2.2|none=>clock)
 |[]=>by simp[Qq,Qf,hk]
 |e::es=>by
  simp only[Qq,Qf];cases he:XB k e.1 with
  |true=>simp[Qf,hk]
  |false =>simp only[zA,if_false,Qf,he];exact Rw hk clock es
theorem Sg {k v:Value}{clock:Nat}:∀ {es:List Jo}{e:Jo},Qf k es=some e->∃ j:Nat,es[j]?=some e/\Qq k v clock es=(es.set j (k,v,e.2.2),clock)
 |[],e,h=>by cases h
 |a::es,e,h=>by
  simp only[Qf] at h;split at h
  .rename_i he;obtain rfl:=osj h;exact⟨0,rfl,by simp[Qq,he]⟩
  .rename_i he;obtain⟨j,h1,h2⟩:=Sg (v:=v) (clock:=clock) h;exact⟨j+1,by simpa using h1,by simp[Qq,he,h2]⟩
theorem P8 (aj:∀ x,SR P B pl tb (ev x) (evV x)) (hG:Gam P B F pl tb s env M) {mk:MK}{z:Value}{m kx:Operand}(h:gn C d (.ext (.mapEntry mk z m kx)) ev s K):∃ u M' v s' T kv aZ i es c,T=Qx d (.ext (.mapEntry mk z m kx)) ev/\Q6 (.ext (.mapEntry mk z m kx)) evV M=some (u,M')/\K v s'/\(Gam P B F pl tb s' env M'/\Fr T s s' pl pl M M')/\SR P B pl tb v u /\
  (Q8 s'.own T).live=true/\pl T=.map (some i)/\M.get i=some (.obj (.map es c) true)/\M'.get i=some (.obj (.map (Qq kv aZ c es).1 (Qq kv aZ c es).2) true)/\Zk mk kv=true/\es.all (λe=>Zk mk e.1)=true/\aZ=(match Qf kv es with|some e=>e.2.1|none=>z):=by
 have ha:=aj m;simp only[gn] at h;split at h
 .rename_i o h1;have hT:Qx d (.ext (.mapEntry mk z m kx)) ev=o:=by simp only[Qx,h1]
  rw[h1] at ha;simp only[SR] at ha;have ao:=hG.obj o;split at h
  .rename_i kk vk l ho;rw[ho] at ao;have al:(Q8 s.own o).live=true:=by rw[ho];rfl
   obtain⟨id,es,clock,h2,h3,h4⟩:=ao;split at h
   .rename_i hc;obtain⟨b9,ud⟩:=hc;split at h
    .rename_i key aP;have hk:=VJ aP (aj kx) Qw;have hz:KV B vk vk.dflt z:=Bf ud;have bc:F.get id=none:=hG.fresh o id al (by rw[h2];rfl);have a_:∀ j i',j≠o->(Q8 s.own j).live=true->Oid (pl j) i'->i'≠id:=λj i' hj hl hi e=>by
      subst e;exact hG.sep j o i' hj hl al hi (by rw[h2];rfl)
     have aF:M.mapAt id=some (es,clock,true):=by simp[Heap.mapAt,h3]
     have r4:XB (evV kx) (evV kx)=true:=by rw[Gy b9 hk hk];exact Fi b9 key
     obtain⟨aZ,n,hold,gh⟩:∃ (aZ:Value) (n:Nat),KV B vk (gq.aget kk l key vk.dflt) aZ/\Q6 (.ext (.mapEntry mk z m kx)) evV M=some (.tuple #[aZ,.int .i64 n],M.upd id (.obj (.map (Qq (evV kx) aZ clock es).1 (Qq (evV kx) aZ clock es).2) true))/\Qf (evV kx) (Qq (evV kx) aZ clock es).1=some (evV kx,aZ,n)/\aZ=(match Qf (evV kx) es with|some e=>e.2.1|none=>z):=by
      rcases MR.find b9 hk hz h4.1 with⟨e,k1,_,k3⟩|⟨k1,_,k3⟩
      .refine⟨e.2.1,e.2.2,k3,?_,?_,by rw[k1]⟩
       .simp only[Q6,Zc,ha.1,h2,aF];rw[z0 (by rw[Uh b9 hk,h4.1.keys b9];rfl),k1]
       .rw[Rw r4,k1]
      .refine⟨z,clock,by rw[k3];exact hz,?_,?_,by rw[k1]⟩
       .simp only[Q6,Zc,ha.1,h2,aF];rw[z0 (by rw[Uh b9 hk,h4.1.keys b9];rfl),k1]
       .rw[Rw r4,k1]
     obtain⟨gh,cZ,og⟩:=gh;obtain⟨r,hr,_⟩:=Sg (v:=aZ) (clock:=clock) cZ;refine⟨_,_,_,_,o,evV kx,aZ,id,es,clock,hT.symm,gh,h n,hG.writeF o _ (hG.le.upd bc _) al (λj i' hj hl hi=>Heap.q0b _ _ (a_ j i' hj hl hi)) ?_,?_,by simp[Qi,OB.live],h2,h3,Heap.q0c _ _ (M.lt h3),Uh b9 hk,h4.1.keys b9,og⟩
     .exact⟨id,_,_,r,_,h2,Heap.q0c _ _ (M.lt h3),⟨M6 b9 hk hold h4.1,h4.2.put⟩,hr,hk,cZ,rfl,mk,b9⟩
     .simp only[SR,SRs];exact⟨_,rfl,_,_,rfl,X4 hold,_,_,rfl,by simp[KC],rfl⟩
    .cases h
   .cases h
  .cases h
 .cases h
theorem Rc (aj:∀ x,SR P B pl tb (ev x) (evV x)) (hG:Gam P B F pl tb s env M) {mk:MK}{z:Value}{m kx:Operand}(h:gn C d (.ext (.mapEntry mk z m kx)) ev s K):NOk P B F tb (.ext (.mapEntry mk z m kx)) evV env M K (Qx d (.ext (.mapEntry mk z m kx)) ev) s pl:=by obtain⟨u,M',v,s',T,kv,aZ,i,es,c,rfl,h1,h2,h3,h4,_⟩:=P8 aj hG h;exact⟨u,M',pl,v,s',h1,h2,h3,h4⟩
theorem Bj (aj:∀ x,SR P B pl tb (ev x) (evV x)) (hG:Gam P B F pl tb s env M) {m st vx:Operand}(h:gn C d (.ext (.entryStore m st vx)) ev s K):NOk P B F tb (.ext (.entryStore m st vx)) evV env M K (Qx d (.ext (.entryStore m st vx)) ev) s pl:=by
 have ha:=aj m;simp only[gn] at h;split at h
 .rename_i o h1;have hT:Qx d (.ext (.entryStore m st vx)) ev=o:=by simp only[Qx,h1]
  rw[hT];rw[h1] at ha;simp only[SR] at ha;have ao:=hG.obj o;split at h
  .rename_i kk vk l key n ho;rw[ho] at ao;have al:(Q8 s.own o).live=true:=by rw[ho];rfl
   obtain⟨id,es,clock,r,e,h2,h3,h4,h5,h6,h7,h8,mk,b9⟩:=ao;split at h
   .rename_i n' x aS hx;obtain⟨rfl,h⟩:=h;have uf:=J7 aS (aj st);have hv:=VJ hx (aj vx) Qw;have bc:F.get id=none:=hG.fresh o id al (by rw[h2];rfl);have a_:∀ j i',j≠o->(Q8 s.own j).live=true->Oid (pl j) i'->i'≠id:=λj i' hj hl hi e=>by
     subst e;exact hG.sep j o i' hj hl al hi (by rw[h2];rfl)
    have aF:M.mapAt id=some (es,clock,true):=by simp[Heap.mapAt,h3]
    obtain⟨q,hq,bj⟩:=Sg (v:=evV vx) (clock:=clock) h7;obtain rfl:q=r:=GD h4.2 hq h5 rfl;have jm:es.findIdx? (λa=>(a.2.2:Int)==n')=some q:=by
     obtain⟨mR,heq⟩:=z7.1 hq;rw[List.findIdx?_eq_some_iff_getElem];refine⟨mR,by rw[heq,h8];simp,λj hj=>?_⟩;have bU:j<es.length:=by omega
     cases hb:((es[j].2.2:Int)==n') with
     |false=>simp
     |true =>
      have:es[j].2.2=e.2.2:=by have:=eq_of_beq hb;omega
      have:=GD h4.2 (z3 bU) hq this;omega
    refine⟨undef,M.upd id (.obj (.map (es.set q (e.1,evV vx,e.2.2)) clock) true),pl,_,_,?_,h,hG.writeF o _ (hG.le.upd bc _) al (λj i' hj hl hi=>Heap.q0b _ _ (a_ j i' hj hl hi)) ?_,by simp[SR]⟩
    .simp only[Q6,Zc,ha.1,h2,uf,aF,jm,hq]
    .refine⟨id,_,_,h2,Heap.q0c _ _ (M.lt h3),?_⟩;have e1:=congrArg (λx:List Jo×Nat=>x.1) bj;have e2:=congrArg (λx:List Jo×Nat=>x.2) bj;simp only at e1 e2;have k1:=M6 (clock:=clock) b9 h6 hv h4.1;have k2:=h4.2.put (k:=e.1) (v:=evV vx);rw[e1] at k1 k2;rw[e2] at k2;exact⟨k1,k2⟩
   .cases h
  .cases h
 .cases h
theorem Pr (hG:Gam P B F pl tb s env M) {o ty:Nat}{k:Kind}{xs ys:List k.T}{nl:Bool}(ho:Q8 s.own o=.lst ty k xs nl) {size lo n:Nat}(aD:k.size=size) (po:lo+n<=xs.length) {dv sv:Value}{a b:Operand}(ka:evV a=dv) (r6:evV b=sv)
  (hs:SlRel M k.size (KC B k) ys sv) (hd:(n=0/\∃ c,dv=.slice none 0 c\/∃ x,dv=.slice x 0 c)\/∃ i len cap aq,pl o=.slice (some ⟨i,0,none⟩) len cap/\dv=.slice (some ⟨i,lo*size,none⟩) n aq)
  {s':St}(a8:s'=⟨s.env,oset s.own o (.lst ty k (xs.take lo++(ys.take n++xs.drop (lo+Nat.min ys.length n))) nl),s.nx⟩) (h:K (.val (.i .i64) (Nat.min ys.length n:Nat)) s'):NOk P B F tb (.ext (.copy size a b)) evV env M K o s pl:=by
 subst a8;have al:(Q8 s.own o).live=true:=by rw[ho];rfl
 have ao:=hG.obj o;rw[ho] at ao;by_cases hm:Nat.min ys.length n=0
 .have oh:xs.take lo++(ys.take n++xs.drop (lo+Nat.min ys.length n))=xs:=by
   rw[hm,zM];have:ys.take n=[]:=by
    have:min ys.length n=0:=hm;rcases Nat.le_total ys.length n with h|h
    .have:ys.length=0:=by omega
     rw[zW.1 this];simp
    .have:n=0:=by omega
     rw[this];rfl
   rw[this,xe,xK]
  refine⟨.int .i64 0,M,pl,_,_,?_,h,?_,?_⟩
  .obtain⟨aa,cc,e⟩:=hs.len;have od:∃ x c,dv=.slice x n c:=by
    rcases hd with⟨rfl,c,hd|⟨x,hd⟩⟩|⟨i,len,cap,aq,_,hd⟩
    .exact⟨_,_,hd⟩
    .exact⟨_,_,hd⟩
    .exact⟨_,_,hd⟩
   obtain⟨x,c,od⟩:=od;simp only[Q6,Zc,ka,r6,od,e];rw[z0 (show min ys.length n=0 from hm)]
  .rw[oh];exact hG.writeF o _ hG.le al (λ_ _ _ _ _=>rfl) ao
  .rw[hm];exact JT _ _
 .have kL:0<min ys.length n:=Nat.pos_of_ne_zero hm;have mQ:Nat.min ys.length n<=n:=Nat.min_le_right _ _;have vp:Nat.min ys.length n<=ys.length:=Nat.min_le_left _ _;rcases hd with⟨rfl,_⟩|⟨i,len,cap,aq,h1,h2⟩
  .simp at kL
  rcases hs with⟨rfl,_⟩|⟨si,so,jA,sc,se,vq,st,h3,h4,h5,h6,h7,h8⟩
  .simp at kL
  rcases ao with⟨_,_,h9⟩|⟨rfl,i',e_,c,t,h9,bT,fT,oc,pJ⟩
  .rw[h1] at h9;cases h9
  rw[h1] at h9;obtain⟨rfl,rfl,rfl⟩:=(by simpa using h9:i=i'/\len=xs.length/\cap=e_);have bc:F.get i=none:=hG.fresh o i al (by rw[h1];rfl);have a_:∀ j i',j≠o->(Q8 s.own j).live=true->Oid (pl j) i'->i'≠i:=λj i' hj hl hi e=>by subst e;exact hG.sep j o i' hj hl al hi (by rw[h1];rfl)
  have cm:=h8.take KC.q0f (Nat.min ys.length n);have oi:Nat.min ys.length n*k.size<=ys.length*k.size:=zm _ (Nat.min_le_left _ _);rw[List.take_take,xS oi] at cm;have ai:=cm.cellOk;have hlen:((sc.drop so).take (Nat.min ys.length n*k.size)).length=Nat.min ys.length n*k.size:=by rw[cm.length KC.q0f,show (ys.take (Nat.min ys.length n)).length=Nat.min ys.length n by rw[xV];exact xS (Nat.min_le_left _ _)]
  have gG:M.sl size (.slice (some ⟨si,so,none⟩) (min ys.length n) jA)=some ((sc.drop so).take (Nat.min ys.length n*k.size)):=by simp only[Heap.sl,h5];rw[z0 ⟨by rw[h6,aD],by rw[<-aD];have:min ys.length n*k.size<=ys.length*k.size:=oi;omega⟩,<-aD]
  have aO:lo*k.size+Nat.min ys.length n*k.size<=xs.length*k.size:=by rw[<-zG];exact zm _ (by omega)
  have dI:=zm k.size bT;refine⟨.int .i64 (Nat.min ys.length n:Nat),M.upd i (.cells (Yx c (lo*k.size) ((sc.drop so).take (Nat.min ys.length n*k.size))) ⟨k.size,ty⟩ true t),pl,_,_,?_,h,?_,JT _ _⟩
  .simp only[Q6,Zc,ka,r6,h2,h3];rw[z1 (show ¬ min ys.length n=0 from hm)];simp only[gG,fT];rw[z0 ⟨trivial,aD,by rw[hlen,<-aD];omega,ai⟩,<-aD]
  .have iJ:(xs.take lo++(ys.take n++xs.drop (lo+Nat.min ys.length n))).length=xs.length:=by
    have:Nat.min ys.length n=min n ys.length:=Nat.min_comm _ _;simp only[zB,xV,xM];omega
   refine hG.writeF o _ (hG.le.upd bc _) al (λj i' hj hl hi=>Heap.q0b _ _ (a_ j i' hj hl hi)) (.inr ⟨rfl,i,cap,_,t,by rw[iJ];exact h1,by rw[iJ];exact bT,Heap.q0c _ _ (M.lt fT),by rw[XE];exact oc,?_⟩);rw[iJ];have e1:=At ((sc.drop so).take (Nat.min ys.length n*k.size)) c (m:=xs.length*k.size) (p:=lo*k.size) (n:=Nat.min ys.length n*k.size) (off:=0) (by omega) aO (by omega);rw[zM] at e1;rw[e1];have e2:Yx (((c.take (xs.length*k.size)).drop (lo*k.size)).take (Nat.min ys.length n*k.size)) 0 ((sc.drop so).take (Nat.min ys.length n*k.size))=(sc.drop so).take (Nat.min ys.length n*k.size):=by
    have l1:(((c.take (xs.length*k.size)).drop (lo*k.size)).take (Nat.min ys.length n*k.size)).length=Nat.min ys.length n*k.size:=by simp;omega
    generalize ((c.take (xs.length*k.size)).drop (lo*k.size)).take (Nat.min ys.length n*k.size)=row at l1;generalize (sc.drop so).take (Nat.min ys.length n*k.size)=us at hlen;rw[Mi (by omega),zV,we,xe,List.drop_of_length_le (by omega),xC]
   rw[e2,x7];have e3:ys.take n=ys.take (Nat.min ys.length n):=by
    rcases Nat.le_total ys.length n with h|h
    .rw[show Nat.min ys.length n=ys.length from xS h,zD h,zD (z5 _)]
    .rw[show Nat.min ys.length n=n from Nat.min_eq_right h]
   rw[e3];have hd:=pJ.drop KC.q0f (lo+Nat.min ys.length n);rw[zG] at hd;exact(pJ.take KC.q0f lo).append (cm.append hd)
theorem Q3q (aj:∀ x,SR P B pl tb (ev x) (evV x)) (hG:Gam P B F pl tb s env M) {size:Nat}{a b:Operand}(h:gn C d (.ext (.copy size a b)) ev s K):NOk P B F tb (.ext (.copy size a b)) evV env M K (Qx d (.ext (.copy size a b)) ev) s pl:=by
 have ha:=aj a;simp only[gn] at h;split at h
 .rename_i o h1;have hT:Qx d (.ext (.copy size a b)) ev=o:=by simp only[Qx,h1]
  rw[hT];rw[h1] at ha;simp only[SR] at ha;split at h
  .rename_i ty k xs nl ho;split at h
   .rename_i aD;split at h
    .rename_i ys hy;have hs:=Y7 hG.leB hG.obj hy (aj b);have ao:=hG.obj o;rw[ho] at ao;refine Pr hG ho (lo:=0) (n:=xs.length) aD (by omega) ha.1 rfl hs ?_ ?_ h
     .rcases ao with⟨_,rfl,h3⟩|⟨_,i,cap,c,t,h3,_⟩
      .exact .inl ⟨rfl,0,.inl h3⟩
      .exact .inr ⟨i,_,cap,cap,h3,by rw[h3];simp⟩
     .have:xs.drop ys.length=xs.drop (0+Nat.min ys.length xs.length):=by
       rcases Nat.le_total ys.length xs.length with h|h
       .rw[show Nat.min ys.length xs.length=ys.length from xS h,zV]
       .rw[show Nat.min ys.length xs.length=xs.length from Nat.min_eq_right h,zV,List.drop_of_length_le h,List.drop_of_length_le (z5 _)]
      rw[this];rfl
    .cases h
   .cases h
  .cases h
 .rename_i o lo n sz h1;have hT:Qx d (.ext (.copy size a b)) ev=o:=by simp only[Qx,h1]
  rw[hT];rw[h1] at ha;simp only[SR] at ha;split at h
  .rename_i ty k xs nl ho;split at h
   .rename_i aD;split at h
    .rename_i ys hy;have hs:=Y7 hG.leB hG.obj hy (aj b);have ao:=hG.obj o;rw[ho] at ao;rcases ha with⟨rfl,rfl,h2,h3⟩|⟨i,len,cap,aq,h2,h3,h4,h5⟩
     .refine Pr hG ho (lo:=0) (n:=0) aD.1 (by omega) h2 rfl hs (.inl ⟨rfl,0,.inl rfl⟩) rfl h
     .rcases ao with⟨_,_,h6⟩|⟨_,i',e_,c,t,h6,_⟩
      .rw[h2] at h6;cases h6
      .rw[h2] at h6;obtain⟨rfl,rfl,rfl⟩:=(by simpa using h6:i=i'/\len=xs.length/\cap=e_);exact Pr hG ho (lo:=lo) (n:=n) aD.1 h3 h5 rfl hs (.inr ⟨i,_,cap,aq,h2,by rw[aD.2]⟩) rfl h
    .cases h
   .cases h
  .cases h
 .cases h
end
theorem IU (hG:Gam P B F pl tb s env M) (d:Nat) (kk vk:Kind):Gam P B F (Jv pl d (.map (some M.n))) tb (s.make d (.map kk vk [])) env (M.push (.obj (.map [] 0) true))/\SR P B (Jv pl d (.map (some M.n))) tb (.map d) (.map (some M.n)):=by refine⟨hG.push d _ _ _ rfl ⟨M.n,[],0,rfl,Heap.q0a _ _,rfl,List.nodup_nil,λ_ h=>by cases h⟩,?_⟩;simp only[SR,W4];exact⟨trivial,_,rfl⟩
end
end Go.V
namespace Go.V
open Go
def Q0i (ρ1 ρ2:Plc):Prop:=∀ i p2,ρ2 i=some p2->∃ p1,ρ1 i=some p1/\p2.blk=p1.blk/\p2.shift=p1.shift/\p2.ext=p1.ext/\p2.esz=p1.esz/\(p2.tight=true->p1.tight=true)
theorem VRel.loose {ρ1 ρ2:Plc}{n:Nat}(hl:Q0i ρ1 ρ2) {v c:Value}(h:VRel ρ1 n v c):VRel ρ2 n v c:=by
 induction h with
 |poison c=>exact .poison c
 |bool b=>exact .bool b
 |int k x=>exact .int k x
 |string s=>exact .string s
 |nilPtr=>exact .nilPtr
 |nilSl=>exact .nilSl
 |nilMap=>exact .nilMap
 |nilFunc=>exact .nilFunc
 |nilIface=>exact .nilIface
 |glob g o s=>exact .glob g o s
 |ptr i o a hi h =>refine .ptr i o a hi λp hp=>?_;obtain⟨p1,h1,h2,h3,_⟩:=hl i p hp;rw[h2,h3];exact h p1 h1
 |sl i o len cap a aq hi h =>refine .sl i o len cap a aq hi λp hp=>?_;obtain⟨p1,h1,h2,h3,h4,h5,h6⟩:=hl i p hp;obtain⟨k1,k2,k3⟩:=h p1 h1;rw[h2,h3,h4,h5];exact⟨k1,λht=>k2 (h6 ht),k3⟩
 |slx i o len cap a hi h =>refine .slx i o len cap a hi λp hp=>?_;obtain⟨p1,h1,h2,h3,h4,h5,h6⟩:=hl i p hp;rw[h2,h3,h4,h5];exact h p1 h1
 |map i r hi h =>refine .map i r hi λp hp=>?_;obtain⟨p1,h1,h2,_⟩:=hl i p hp;rw[h2];exact h p1 h1
 |yield i r hi h =>refine .yield i r hi λp hp=>?_;obtain⟨p1,h1,h2,_⟩:=hl i p hp;rw[h2];exact h p1 h1
 |iface t v c _ ih=>exact .iface t v c ih
 |func fn fs gs cs ds hf hc _ _ lg lh=>exact .func fn fs gs cs ds hf hc lg lh
 |agg cs ds hc _ ih=>exact .agg cs ds hc ih
 |tuple cs ds hc _ ih=>exact .tuple cs ds hc ih
theorem LRel.loose {ρ1 ρ2:Plc}{n:Nat}(hl:Q0i ρ1 ρ2) {v c:List Value}(h:LRel ρ1 n v c):LRel ρ2 n v c:=⟨h.1,λi a b h1 h2=>(h.2 i a b h1 h2).loose hl⟩
theorem ORel.loose {ρ1 ρ2:Plc}{n:Nat}(hl:Q0i ρ1 ρ2) {o:VObj}{O:Obj}(h:ORel ρ1 n o O):ORel ρ2 n o O:=by
 cases o with
 |map es clock =>obtain⟨entries,h1,h2,h3⟩:=h;exact⟨entries,h1,h2,λk kv hk=>let ⟨e,he,h4,h5,hv⟩:=h3 k kv hk;⟨e,he,h4,h5,hv.loose hl⟩⟩
 |iter m since seen last=>obtain⟨rm,h1,h2⟩:=h;exact⟨rm,h1,h2.loose hl⟩
 |lp env r st pend=>exact⟨h.1,h.2.loose hl⟩
inductive Weak (n0:Nat->Prop):Value->Value->Prop
 |refl (v:Value):Weak n0 v v
 |sl (i len cap:Nat) (hi:n0 i) (hc:len<=cap):Weak n0 (.slice (some ⟨i,0,none⟩) len cap) (.slice (some ⟨i,0,none⟩) len len)
 |agg (cs ds:List Value) (hc:cs.length=ds.length) (h:∀ (i:Nat) (a b:Value),cs[i]?=some a->ds[i]?=some b->Weak n0 a b):Weak n0 (.agg cs.toArray) (.agg ds.toArray)
 |tuple (cs ds:List Value) (hc:cs.length=ds.length) (h:∀ (i:Nat) (a b:Value),cs[i]?=some a->ds[i]?=some b->Weak n0 a b):Weak n0 (.tuple cs.toArray) (.tuple ds.toArray)
theorem Weak.rel {ρ:Plc}{n:Nat}{n0:Nat->Prop}(hρ:∀ i p,n0 i->ρ i=some p->p.tight=false) {v v':Value}(h:Weak n0 v v'):∀ {c:Value},VRel ρ n v c->VRel ρ n v' c:=by
 induction h with
 |refl v=>exactλh=>h
 |sl i len cap hi hc =>
  intro c h;cases h with
  |sl _ _ _ _ a aq cF h =>
   refine .sl _ _ _ _ _ _ cF λp hp=>?_;obtain⟨k1,k2,k6|⟨o',k3,k4,k5⟩⟩:=h p hp
   .exact⟨by omega,(λht=>by rw[hρ i p hi hp] at ht;cases ht),.inl k6⟩
   refine⟨by omega,(λht=>by rw[hρ i p hi hp] at ht;cases ht),.inr ⟨o',k3,k4,?_⟩⟩;rcases k5 with k5|k5
   .exact .inl k5
   .exact .inr ⟨k5.1,k5.1⟩
 |agg cs ds hc h ih =>
  intro c hr;cases hr with
  |agg _ es cO hr =>
   refine .agg _ _ (by simpa [hc] using cO) λi h1 h2=>?_;have l1:i<cs.length:=by simpa [hc] using h1
   have l2:i<ds.length:=by simpa using h1
   have:=ih i cs[i] ds[i] (z3 l1) (z3 l2) (hr i (by simpa using l1) h2);simpa using this
 |tuple cs ds hc h ih =>
  intro c hr;cases hr with
  |tuple _ es cO hr =>
   refine .tuple _ _ (by simpa [hc] using cO) λi h1 h2=>?_;have l1:i<cs.length:=by simpa [hc] using h1
   have l2:i<ds.length:=by simpa using h1
   have:=ih i cs[i] ds[i] (z3 l1) (z3 l2) (hr i (by simpa using l1) h2);simpa using this
theorem DropTo.trans {σ0 σ1 M2 σ3:Heap}{v1 v2 v3:Value}(h:DropTo σ0 v1 σ1 v2 M2) (k:DropTo σ0 v2 M2 v3 σ3):DropTo σ0 v1 σ1 v3 σ3:=by intro ρ0 w0 ρ w c gi hE hH hv;obtain⟨ρ',gB,gH,bZ⟩:=h ρ0 w0 ρ w c gi hE hH hv;exact k ρ0 w0 ρ' w c gi bZ gH gB
theorem DropTo.weaken {σ0 σ1 M2:Heap}{v v':Value}(S:Nat->Bool) (hS:∀ i,S i=true->σ0.n<=i) (hn:M2.n=σ1.n) (h0:σ0.n<=σ1.n) (h1:∀ i,S i=false->M2.get i=σ1.get i)
  (h2:∀ i,S i=true->∃ c e wr t m,σ1.get i=some (.cells c e wr t)/\M2.get i=some (.cells (c.take m) e wr false)) (hv:Weak (λi=>S i=true) v v'):DropTo σ0 v σ1 v' M2:=by
 intro ρ0 w0 ρ w c gi hE hH eF;let ρ':Plc:=λi=>if S i=false then ρ i else (ρ i).map λp=>{p with tight:=false}
 have hl:Q0i ρ ρ':=λi p2 hp=>by
  change (if S i=false then ρ i else (ρ i).map λp=>{p with tight:=false})=some p2 at hp;by_cases hi:S i=false
  .rw[z0 hi] at hp;exact⟨p2,hp,rfl,rfl,rfl,rfl,λh=>h⟩
  .rw[z1 hi,zo] at hp;obtain⟨p1,jC,rfl⟩:=hp;exact⟨p1,jC,rfl,rfl,rfl,rfl,λh=>by cases h⟩
 have eK:∀ i p2,ρ' i=some p2->∃ p1,ρ i=some p1/\p2.blk=p1.blk/\p2.ext=p1.ext:=λi p2 hp=>by obtain⟨p1,k1,k2,k3,k4,_⟩:=hl i p2 hp;exact⟨p1,k1,k2,k4⟩
 have fU:∀ i b,M2.get i=some b->∃ b1,σ1.get i=some b1/\b.wr=b1.wr:=λi b hb=>by
  by_cases hi:S i=false
  .rw[h1 i hi] at hb;exact⟨b,hb,rfl⟩
  .obtain⟨c,e,wr,t,m,k1,k2⟩:=h2 i (by simpa using hi);rw[k2] at hb;obtain rfl:=osj hb;exact⟨_,k1,rfl⟩
 have hX:Ext ρ0 σ0 w0 ρ' M2 w:=by
  refine⟨hE.os,hE.tape,hE.output,hE.size,hE.keep,?_,by omega,λi hi p hp=>?_⟩
  .rintro B hB ⟨i,p,b,hp,hb,hw,rfl⟩;obtain⟨p1,k1,k2,_⟩:=eK i p hp;obtain⟨b1,k7,k8⟩:=fU i b hb;exact hE.wr _ hB ⟨i,p1,b1,k1,k7,by rw[<-k8];exact hw,k2.symm⟩
  .have:S i=false:=by
    cases hs:S i with
    |false=>rfl
    |true=>have:=hS i hs;omega
   simp only[ρ',this,zx] at hp;exact hE.pl i hi p hp
 refine⟨ρ',?_,gi.ext ⟨λi b hb=>?_,λi hi=>?_,λi p hp=>?_,λi j p q b bY hp hq hb hw hx=>?_⟩ hX,hX⟩
 .rw[hn];refine hv.rel (λi p hi hp=>?_) (eF.loose hl);have:¬ S i=false:=by simp[hi]
  change (if S i=false then ρ i else (ρ i).map λp=>{p with tight:=false})=some p at hp;rw[z1 this,zo] at hp;obtain⟨p1,_,rfl⟩:=hp;rfl
 .by_cases hi:S i=false
  .rw[h1 i hi] at hb;obtain⟨p,hp,hB⟩:=hH.live i b hb;refine⟨p,by simp only[ρ',hi,zx];exact hp,?_⟩;rw[hn];cases b with
   |cells c e wr t =>obtain⟨k1,k2,k3,k4,k5,k6⟩:=hB;exact⟨k1,k2,k3,k4,λk v hk=>let ⟨u,a1,a2⟩:=k5 k v hk;⟨u,a1,a2.loose hl⟩,k6⟩
   |obj o wr =>obtain⟨k1,O,k2,k3⟩:=hB;exact⟨k1,O,k2,k3.loose hl⟩
  .obtain⟨c,e,wr,t,m,k1,k2⟩:=h2 i (by simpa using hi);rw[k2] at hb;obtain rfl:=osj hb;obtain⟨p,hp,hB⟩:=hH.live i _ k1;obtain⟨a1,a2,a3,a4,a5,a6⟩:=hB;refine⟨{p with tight:=false},by simp[ρ',hi,hp],a1,rfl,by simp;omega,a4,λk v hk=>?_,λfU=>⟨(λh=>by cases h),(a6 fU).2⟩⟩;rw[zL] at hk;split at hk
   .obtain⟨u,b1,b2⟩:=a5 k v hk;rw[hn];exact⟨u,b1,b2.loose hl⟩
   .cases hk
 .have hd:σ1.get i=none:=by
   by_cases cF:S i=false
   .rw[<-h1 i cF];exact hi
   .obtain⟨c,e,wr,t,m,k1,k2⟩:=h2 i (by simpa using cF);rw[k2] at hi;cases hi
  have:=hH.dead i hd;simp only[ρ',this];split<;>rfl
 .obtain⟨p1,k1,k2,_⟩:=eK i p hp;rw[k2];exact hH.lt i p1 k1
 .obtain⟨p1,k1,k2,k3⟩:=eK i p hp;obtain⟨q1,k4,k5,k6⟩:=eK j q hq;obtain⟨b1,k7,k8⟩:=fU i b hb;rw[k2,k5];exact hH.sep i j p1 q1 b1 bY k1 k4 k7 (by rw[<-k8];exact hw) (by rw[<-k6];exact hx)
def mkP (M:Heap) (v:Value) (is:List Nat):Value:=.tuple (v::is.map λi=>match M.get i with|some b=>Z5f i b|none=>.bool true).toArray
theorem KO.imp {H H':Heap}:∀ {k:Kind}{q:Option Nat}{x:k.T}{cs:List Value}{is:List Nat},KO H q k x cs is->(∀ i∈is,H'.get i=H.get i)->KO H' q k x cs is
 |.i _,_,_,_,_,h,_|.bo,_,_,_,_,h,_|.st,_,_,_,_,h,_=>by simp only[KO] at h |-;exact h
 |.list k,q,l,cs,is,h,g=>by
  simp only[KO] at h |-;rcases h with h|⟨i,cap,c,e,t,js,h1,rfl,h3,h4,h5,h6,h7,h8⟩
  .exact .inl h
  .refine .inr ⟨i,cap,c,e,t,js,h1,rfl,h3,by rw[g i ze];exact h4,h5,h6,h7,?_⟩;have key:∀ {xs:List k.T}{cs:List Value}{js:List Nat},RowsO (λx c is=>KO H none k x c is) xs cs js->(∀ i∈js,H'.get i=H.get i)->RowsO (λx c is=>KO H' none k x c is) xs cs js:=λh=>by
    induction h with
    |nil=>exactλ_=>.nil
    |cons h _ ih=>exactλg=>.cons (KO.imp (k:=k) h λi hi=>g i (xr _ hi)) (ih λi hi=>g i (xl _ hi))
   exact key h8 λi hi=>g i (z9 _ hi)
 |.pair a b,_,x,cs,is,h,g=>by simp only[KO] at h |-;obtain⟨c1,c2,i1,i2,h1,rfl,h3,h4⟩:=h;exact⟨c1,c2,i1,i2,h1,rfl,h3.imp λi hi=>g i (xr _ hi),h4.imp λi hi=>g i (xl _ hi)⟩
theorem KO.cells {H:Heap}:∀ {k:Kind}{q:Option Nat}{x:k.T}{cs:List Value}{is:List Nat},KO H q k x cs is->∀ i∈is,∃ c e t,H.get i=some (.cells c e true t)
 |.i _,_,_,_,_,h,i,hi|.bo,_,_,_,_,h,i,hi|.st,_,_,_,_,h,i,hi=>by simp only[KO] at h;rw[h.2] at hi;cases hi
 |.list k,q,l,cs,is,h,i,hi=>by
  simp only[KO] at h;rcases h with⟨_,_,rfl⟩|⟨i',cap,c,e,t,js,h1,rfl,h3,h4,h5,h6,h7,h8⟩
  .cases hi
  .rcases zf.1 hi with rfl|hi
   .exact⟨_,_,_,h4⟩
   .have key:∀ {xs:List k.T}{cs:List Value}{js:List Nat},RowsO (λx c is=>KO H none k x c is) xs cs js->∀ i∈js,∃ c e t,H.get i=some (.cells c e true t):=λh=>by
     induction h with
     |nil=>exactλi hi=>by cases hi
     |cons h _ ih=>exactλi hi=>(zu.1 hi).elim (KO.cells (k:=k) h i) (ih i)
    exact key h8 i hi
 |.pair a b,_,x,cs,is,h,i,hi=>by simp only[KO] at h;obtain⟨c1,c2,i1,i2,h1,rfl,h3,h4⟩:=h;exact(zu.1 hi).elim (h3.cells i) (h4.cells i)
theorem KO.weak {H:Heap}:∀ {k:Kind}{q:Option Nat}{x:k.T}{cs:List Value}{is:List Nat},KO H q k x cs is->KO H none k x cs is
 |.i _,_,_,_,_,h|.bo,_,_,_,_,h|.st,_,_,_,_,h=>by simp only[KO] at h |-;exact h
 |.list k,q,l,cs,is,h=>by
  simp only[KO] at h |-;rcases h with h|⟨i,cap,c,e,t,js,h1,h2,h3,h4,h5,h6,h7,h8⟩
  .exact .inl h
  .exact .inr ⟨i,cap,c,e,t,js,h1,h2,h3,h4,h5,(λ_ e=>by cases e),h7,h8⟩
 |.pair a b,_,x,cs,is,h=>by simp only[KO] at h |-;exact h
theorem KO.q0f {H:Heap}{q:Option Nat}{k:Kind}:∀ (x:k.T) (c:List Value) (is:List Nat),KO H q k x c is->c.length=k.size:=λ_ _ _ h=>KC.length h.kc
section
variable {α:Type}{R R':α->List Value->List Nat->Prop}{sz:Nat}
theorem RowsH.imp:∀ {xs:List α}{h:Option Nat}{j:Nat}{cs:List Value}{is:List Nat},RowsH R sz h j xs cs is->(∀ x c js,R x c js->(∀ i∈js,i∈is)->R' x c js)->RowsH R' sz h j xs cs is
 |[],_,_,_,_,h,_=>h
 |x::xs,hh,j,cs,is,h,g=>by
  obtain⟨c,cs',i1,i2,rfl,rfl,h1,h2⟩:=h;refine⟨c,cs',i1,i2,rfl,rfl,?_,h2.imp λx c js hr hj=>g x c js hr λi hi=>xl _ (hj i hi)⟩;by_cases e:hh=some j
  .rw[z0 e] at h1 |-;exact h1
  .rw[z1 e] at h1 |-;exact g _ _ _ h1 λi hi=>xr _ hi
theorem RowsH.hole:∀ {xs:List α}{h h':Option Nat}{j j':Nat}{cs:List Value}{is:List Nat},RowsH R sz h j xs cs is->(∀ m,h=some (j+m)<->h'=some (j'+m))->RowsH R sz h' j' xs cs is
 |[],_,_,_,_,_,_,h,_=>h
 |x::xs,h,h',j,j',cs,is,hr,g=>by
  obtain⟨c,cs',i1,i2,rfl,rfl,h1,h2⟩:=hr;refine⟨c,cs',i1,i2,rfl,rfl,?_,h2.hole λm=>?_⟩
  .have:=g 0;simp only[zM] at this;by_cases e:h=some j
   .rw[z0 e] at h1;rw[z0 (this.1 e)];exact h1
   .rw[z1 e] at h1;rw[z1 λe'=>e (this.2 e')];exact h1
  .have:=g (1+m);rw[<-zk,<-zk] at this;exact this
theorem RowsH.length (hR:∀ x c is,R x c is->c.length=sz):∀ {xs:List α}{h:Option Nat}{j:Nat}{cs:List Value}{is:List Nat},RowsH R sz h j xs cs is->cs.length=xs.length*sz
 |[],_,_,_,_,h=>by rw[h.1];simp
 |x::xs,_,j,cs,is,h=>by
  obtain⟨c,cs',i1,i2,rfl,rfl,h1,h2⟩:=h;have hc:c.length=sz:=by
   split at h1
   .exact h1.1
   .exact hR _ _ _ h1
  rw[zB,hc,h2.length hR,zP,zG,xD,xP]
theorem RowsH.append:∀ {xs ys:List α}{j j':Nat}{cs ds:List Value}{is js:List Nat},RowsH R sz none j xs cs is->RowsH R sz none j' ys ds js->RowsH R sz none j (xs++ys) (cs++ds) (is++js)
 |[],ys,j,j',cs,ds,is,js,h,h'=>by obtain⟨rfl,rfl⟩:=h;exact h'.hole λm=>by simp
 |x::xs,ys,j,j',cs,ds,is,js,h,h'=>by obtain⟨c,cs',i1,i2,rfl,rfl,h1,h2⟩:=h;exact⟨c,cs'++ds,i1,i2++js,by rw[x7],by rw[x7],h1,h2.append h'⟩
theorem RowsH.replicate {x:α}{c:List Value}(h:R x c []):∀ (n j:Nat),RowsH R sz none j (List.replicate n x) (List.replicate n c).flatten []
 |0,_=>⟨rfl,rfl⟩
 |n+1,j=>⟨c,_,[],[],rfl,rfl,by rw[z1 (by simp)];exact h,RowsH.replicate h n (j+1)⟩
theorem RowsH.take (hR:∀ x c is,R x c is->c.length=sz):∀ {xs:List α}{j:Nat}{cs:List Value},RowsH R sz none j xs cs []->∀ n,RowsH R sz none j (xs.take n) (cs.take (n*sz)) []
 |[],j,cs,h,n=>by obtain⟨rfl,_⟩:=h;simp[RowsH]
 |x::xs,j,cs,h,0=>by simp[RowsH]
 |x::xs,j,cs,h,n+1=>by
  obtain⟨c,cs',i1,i2,rfl,e,h1,h2⟩:=h;obtain⟨rfl,rfl⟩:=List.append_eq_nil_iff.1 e.symm;have hc:c.length=sz:=by rw[z1 (by simp)] at h1;exact hR _ _ _ h1
  refine⟨c,cs'.take (n*sz),[],[],?_,rfl,h1,h2.take hR n⟩;rw[zG,xD,xP,List.take_append,hc,zD (by omega),Nat.add_sub_cancel_left]
theorem RowsH.set (hR:∀ x c is,R x c is->c.length=sz):∀ {xs:List α}{h h':Option Nat}{j i:Nat}{cs:List Value}{is:List Nat}{x:α}{c':List Value}{inew:List Nat},
  RowsH R sz h j xs cs is->(hi:i<xs.length)->(∀ m,m≠i->(h=some (j+m)<->h'=some (j+m)))->c'.length=sz->(if h'=some (j+i) then inew=[] else R x c' inew) ->
  ∃ om ix oo,is=om++ix++oo/\RowsH R sz h' j (xs.set i x) (cs.take (i*sz)++c'++cs.drop (i*sz+sz)) (om++inew++oo)/\(if h=some (j+i) then ix=[] else R xs[i] ((cs.drop (i*sz)).take sz) ix)
 |[],_,_,_,_,_,_,_,_,_,_,hi,_,_,_=>by simp at hi
 |y::ys,h,h',j,0,cs,is,x,c',inew,hr,hi,g,hl,hn=>by
  obtain⟨c,cs',i1,i2,rfl,rfl,h1,h2⟩:=hr;have hc:c.length=sz:=by
   split at h1
   .exact h1.1
   .exact hR _ _ _ h1
  have ht:RowsH R sz h' (j+1) ys cs' i2:=h2.hole λm=>by have:=g (m+1) (by omega);rw[show j+1+m=j+(m+1) by omega];exact this
  refine⟨[],i1,i2,rfl,?_,?_⟩
  .rw[List.set_cons_zero];refine⟨c',cs',inew,i2,?_,rfl,?_,ht⟩
   .rw[Nat.zero_mul,we,xe,zV,List.drop_append,hc,wa,zX,List.drop_of_length_le (by omega),xe]
   .rw[zM] at hn;split
    .rename_i e;rw[z0 e] at hn;exact⟨hl,hn⟩
    .rename_i e;rw[z1 e] at hn;exact hn
  .rw[zM];split
   .rename_i e;rw[z0 e] at h1;exact h1.2
   .rename_i e;rw[z1 e] at h1;rw[Nat.zero_mul,zX,List.take_append,hc,wa,we,xC,zD (by omega)];exact h1
 |y::ys,h,h',j,i+1,cs,is,x,c',inew,hr,hi,g,hl,hn=>by
  obtain⟨c,cs',i1,i2,rfl,rfl,h1,h2⟩:=hr;have hc:c.length=sz:=by
   split at h1
   .exact h1.1
   .exact hR _ _ _ h1
  obtain⟨om,ix,oo,rfl,k1,k2⟩:=RowsH.set hR h2 (i:=i) (h':=h') (x:=x) (c':=c') (inew:=inew) (by simpa using hi) (λm hm=>by
   have:=g (m+1) (by omega);rw[show j+1+m=j+(m+1) by omega];exact this) hl (by rw[show j+1+i=j+(i+1) by omega];exact hn)
  have e0:(i+1)*sz=sz+i*sz:=by rw[zG,xD,xP]
  refine⟨i1++om,ix,oo,by simp[x7],?_,?_⟩
  .rw[List.set_cons_succ];refine⟨c,_,i1,om++inew++oo,?_,by simp[x7],?_,k1⟩
   .have e1:(c++cs').take ((i+1)*sz)=c++cs'.take (i*sz):=by
     rw[e0,List.take_append,hc,zD (by omega),Nat.add_sub_cancel_left]
    have e2:(c++cs').drop ((i+1)*sz+sz)=cs'.drop (i*sz+sz):=by rw[e0,List.drop_append,hc,List.drop_of_length_le (by omega),xe];congr 1;omega
    rw[e1,e2];simp[x7]
   .have:=g 0 (by omega);rw[zM] at this;by_cases e:h=some j
    .rw[z0 e] at h1;rw[z0 (this.1 e)];exact h1
    .rw[z1 e] at h1;rw[z1 λe'=>e (this.2 e')];exact h1
  .rw[show j+(i+1)=j+1+i by omega];have e3:(c++cs').drop ((i+1)*sz)=cs'.drop (i*sz):=by
    rw[e0,List.drop_append,hc,List.drop_of_length_le (by omega),xe];congr 1;omega
   rw[e3];exact k2
end
theorem DO.imp {H H':Heap}{ty:Nat}{q:Option Nat}{k:Kind}{xs:List k.T}{h:Option Nat}{v:Value}{is:List Nat}(hd:DO H ty q k xs h v is) (g:∀ i∈is,H'.get i=H.get i):DO H' ty q k xs h v is:=by
 rcases hd with hd|⟨i,cap,c,t,js,h1,rfl,h3,h4,h5,h6⟩
 .exact .inl hd
 .exact .inr ⟨i,cap,c,t,js,h1,rfl,h3,by rw[g i ze];exact h4,h5,h6.imp λx c vt hr hj=>KO.imp hr λi hi=>g i (z9 _ (hj i hi))⟩
theorem RowsH.cells {H:Heap}{q:Option Nat}{k:Kind}{sz:Nat}:∀ {xs:List k.T}{h:Option Nat}{j:Nat}{cs:List Value}{is:List Nat},RowsH (KO H q k) sz h j xs cs is->∀ i∈is,∃ c e t,H.get i=some (.cells c e true t)
 |[],_,_,_,_,h,i,hi=>by rw[h.2] at hi;cases hi
 |x::xs,_,j,cs,is,h,i,hi=>by
  obtain⟨c,cs',i1,i2,rfl,rfl,h1,h2⟩:=h;rcases zu.1 hi with hi|hi
  .split at h1
   .rw[h1.2] at hi;cases hi
   .exact KO.cells h1 i hi
  .exact h2.cells i hi
theorem DO.cells {H:Heap}{ty:Nat}{q:Option Nat}{k:Kind}{xs:List k.T}{h:Option Nat}{v:Value}{is:List Nat}(hd:DO H ty q k xs h v is):∀ i∈is,∃ c e t,H.get i=some (.cells c e true t):=by
 rcases hd with⟨_,_,rfl⟩|⟨i,cap,c,t,js,h1,rfl,h3,h4,h5,h6⟩
 .exact λi hi=>by cases hi
 .exact λj hj=>(zf.1 hj).elim (λe=>by subst e;exact⟨_,_,_,h4⟩) (h6.cells j)
theorem DP.open {M:Heap}{p:Value}{ty:Nat}{q:Option Nat}{k:Kind}{xs:List k.T}{nl:Bool}{h:Option Nat}(hd:DP M p ty q k xs nl h) :
  ∃ is,is.Nodup/\DO M ty q k xs h (phd p) is/\(∀ i,Oid p i<->i∈is)/\(nl=true<->phd p=.slice none 0 0):=by
 obtain⟨is,hO,h1,h2,h3,h4,h5⟩:=hd;refine⟨is,h1,h2.imp λi hi=>?_,λi=>(hO i).trans (h3 i),h5⟩;obtain⟨b,hb⟩:=(h3 i).2 hi;rw[hb,h4 i b hb]
end Go.V
namespace Go.V
open Go
section
variable {P:Program}{B F:Heap}{pl:Nat->Value}{tb:Nat->Option Bool}{s:St}{env:Env}{M M':Heap}
theorem KO.nil {H:Heap}{q:Option Nat}{k:Kind}:KO H q (.list k) [] [.slice none 0 0] []:=by unfold KO;exact .inl ⟨rfl,rfl,rfl⟩
def FrL (Ts:List Nat) (s s':St) (pl pl':Nat->Value) (M M':Heap):Prop :=
 ∀ q,q∉Ts->(Q8 s'.own q).live=(Q8 s.own q).live/\pl' q=pl q/\((Q8 s.own q).live=true->∀ i,Oid (pl q) i->M'.get i=M.get i)
theorem FrL.mono {Ts r7:List Nat}{s s':St}{pl pl':Nat->Value}{M M':Heap}(h:FrL Ts s s' pl pl' M M') (hs:∀ t∈Ts,t∈r7):FrL r7 s s' pl pl' M M':=λq hq=>h q λh=>hq (hs q h)
def Q9y (P:Program) (B F:Heap) (tb:Nat->Option Bool) (o:VOp) (evV:Operand->Value) (env:Env) (M:Heap) (K:SV->St->Prop) (Ts:List Nat) (s:St) (pl:Nat->Value):Prop :=
 ∃ u M' pl' v s',Q6 o evV M=some (u,M')/\K v s'/\(Gam P B F pl' tb s' env M'/\FrL Ts s s' pl pl' M M')/\SR P B pl' tb v u
section
variable {C:Cx}{d:Nat}{ev:Operand->SV}{evV:Operand->Value}{K:SV->St->Prop}
theorem DO.sl {ty:Nat}{q:Option Nat}{k:Kind}{xs:List k.T}{v:Value}{is:List Nat}(hd:DO M ty q k xs none v is) (hn:is.Nodup) :
  ∃ a cap cs js,v=.slice a xs.length cap/\M.sl k.size v=some cs/\RowsH (KO M q k) k.size none 0 xs cs js/\(∀ i∈js,i∈is)/\js.Nodup/\cs.all cellOk=true/\cs.length=xs.length*k.size:=by
 rcases hd with⟨rfl,rfl,rfl⟩|⟨i,cap,c,t,js,rfl,rfl,h1,h3,h4,h5⟩
 .exact⟨_,_,[],[],rfl,rfl,⟨rfl,rfl⟩,λi hi=>hi,List.nodup_nil,rfl,by simp⟩
 .have hl:=h5.length KO.q0f;refine⟨_,_,c.take (xs.length*k.size),js,rfl,?_,h5,λi hi=>z9 _ hi,(zU.1 hn).2,(h5.rows (R':=KC M k) λ_ _ _ h=>h.kc).cellOk,hl⟩;have:=zm k.size h1;simp only[Heap.sl,h3];rw[z0 ⟨trivial,by omega⟩];simp
theorem HV (aj:∀ x,SR P B pl tb (ev x) (evV x)) (hG:Gam P B F pl tb s env M) {o:VOp}(h:gnd C d o ev s K):Q9y P B F tb o evV env M K (SW d o ev) s pl:=h.elim
end
end
end Go.V
namespace Go.V
open Go
def Jz:Nat->Value:=λ_=>poison
def ZF:Nat->Option Bool:=λ_=>none
def hNil:Heap:=⟨λ_=>none,0,λ_ _=>rfl⟩
theorem Ac (B:Heap):hNil.Le B:=⟨Nat.zero_le _,λi b h=>by cases h⟩
section
variable {P:Program}
mutual
theorem SR.retd {B B':Heap}{pl pl':Nat->Value}{tb tb':Nat->Option Bool}{n:Nat}(hp:∀ j,j<n->pl' j=pl j) :
  ∀ (s:SV) (v:Value),s.ret n=true->SR P B pl tb s v->SR P B' pl' tb' s v
 |.any,_,h,_|.bid _ _,_,h,_|.grd _ _,_,h,_|.sub _ _ _ _,_,h,_|.elp _ _ _ _,_,h,_|.rop _ _ _ _,_,h,_|.cp _ _,_,h,_|.fn _ _ _,_,h,_|.pf _ _ _ _,_,h,_=>by cases h
 |.val k x,v,h,hs=>by simp only[SR] at hs |-;exact KC.flat h hs
 |.nilS,v,_,hs|.nilP,v,_,hs|.nilM,v,_,hs|.nilF,v,_,hs=>by simp only[SR] at hs |-;exact hs
 |.lst j,v,h,hs=>by
  have hj:j<n:=by simpa [SV.ret,zI] using h
  simp only[SR] at hs |-;rw[hp j hj];exact hs
 |.map j,v,h,hs=>by
  have hj:j<n:=by simpa [SV.ret,zI] using h
  simp only[SR] at hs |-;rw[hp j hj];exact hs
 |.dd j w,v,h,hs=>by
  cases w with
  |out =>
   have hj:j<n:=by simpa [SV.ret,zI] using h
   simp only[SR] at hs |-;rw[hp j hj];exact hs
  |_=>cases h
 |.box j off,v,h,hs=>by
  have hj:j<n:=by simpa [SV.ret,zI] using h
  simp only[SR] at hs |-;rw[hp j hj];exact hs
 |.agg l,v,h,hs=>by simp only[SR] at hs |-;obtain⟨cs,h1,h2⟩:=hs;exact⟨cs,h1,SRs.retd hp l cs h h2⟩
 |.tup l,v,h,hs=>by simp only[SR] at hs |-;obtain⟨cs,h1,h2⟩:=hs;exact⟨cs,h1,SRs.retd hp l cs h h2⟩
theorem SRs.retd {B B':Heap}{pl pl':Nat->Value}{tb tb':Nat->Option Bool}{n:Nat}(hp:∀ j,j<n->pl' j=pl j) :
  ∀ (s:List SV) (v:List Value),SVs.ret n s=true->SRs P B pl tb s v->SRs P B' pl' tb' s v
 |[],v,_,hs=>by simp only[SRs] at hs |-;exact hs
 |s::ss,v,h,hs=>by simp only[SVs.ret,z2] at h;simp only[SRs] at hs |-;obtain⟨x,y,h1,h2,h3⟩:=hs;exact⟨x,y,h1,SR.retd hp s x h.1 h2,SRs.retd hp ss y h.2 h3⟩
end
mutual
theorem SR.ren {B:Heap}{pl pl':Nat->Value}{tb tb':Nat->Option Bool}{n d nt:Nat}(hp:∀ j,j<n->pl' (d+j*nt)=pl j) :
  ∀ (s:SV) (v:Value),s.ret n=true->SR P B pl tb s v->SR P B pl' tb' (s.ren d nt) v
 |.any,_,h,_|.bid _ _,_,h,_|.grd _ _,_,h,_|.sub _ _ _ _,_,h,_|.elp _ _ _ _,_,h,_|.rop _ _ _ _,_,h,_|.cp _ _,_,h,_|.fn _ _ _,_,h,_|.pf _ _ _ _,_,h,_=>by cases h
 |.val k x,v,h,hs=>by simp only[SR,SV.ren] at hs |-;exact hs
 |.nilS,v,_,hs|.nilP,v,_,hs|.nilM,v,_,hs|.nilF,v,_,hs=>by simp only[SR,SV.ren] at hs |-;exact hs
 |.lst j,v,h,hs=>by
  have hj:j<n:=by simpa [SV.ret,zI] using h
  simp only[SR,SV.ren] at hs |-;rw[hp j hj];exact hs
 |.map j,v,h,hs=>by
  have hj:j<n:=by simpa [SV.ret,zI] using h
  simp only[SR,SV.ren] at hs |-;rw[hp j hj];exact hs
 |.dd j w,v,h,hs=>by
  cases w with
  |out =>
   have hj:j<n:=by simpa [SV.ret,zI] using h
   simp only[SR,SV.ren] at hs |-;rw[hp j hj];exact hs
  |_=>cases h
 |.box j off,v,h,hs=>by
  have hj:j<n:=by simpa [SV.ret,zI] using h
  simp only[SR,SV.ren] at hs |-;rw[hp j hj];exact hs
 |.agg l,v,h,hs=>by simp only[SR,SV.ren] at hs |-;obtain⟨cs,h1,h2⟩:=hs;exact⟨cs,h1,SRs.ren hp l cs h h2⟩
 |.tup l,v,h,hs=>by simp only[SR,SV.ren] at hs |-;obtain⟨cs,h1,h2⟩:=hs;exact⟨cs,h1,SRs.ren hp l cs h h2⟩
theorem SRs.ren {B:Heap}{pl pl':Nat->Value}{tb tb':Nat->Option Bool}{n d nt:Nat}(hp:∀ j,j<n->pl' (d+j*nt)=pl j) :
  ∀ (s:List SV) (v:List Value),SVs.ret n s=true->SRs P B pl tb s v->SRs P B pl' tb' (SVs.ren d nt s) v
 |[],v,_,hs=>by simp only[SRs,SVs.ren] at hs |-;exact hs
 |s::ss,v,h,hs=>by simp only[SVs.ret,z2] at h;simp only[SRs,SVs.ren] at hs |-;obtain⟨x,y,h1,h2,h3⟩:=hs;exact⟨x,y,h1,SR.ren hp s x h.1 h2,SRs.ren hp ss y h.2 h3⟩
end
theorem MR.flat {B B':Heap}{kk vk:Kind}(h1:kk.flat=true) (h2:vk.flat=true):∀ {m:List (kk.T×vk.T)}{es:List Jo},MR B kk vk m es->MR B' kk vk m es
 |[],es,h=>h
 |m::ms,es,h=>by obtain⟨e,bS,k1,k2,k3,k4⟩:=h;exact⟨e,bS,k1,k2.flat h1,k3.flat h2,MR.flat h1 h2 k4⟩
theorem OR.retd {B B':Heap}{pl pl':Nat->Value}{tb tb':Nat->Option Bool}{M M':Heap}{p:Value}{b:OB}(hb:b.ret=true) (h:OR P B pl tb M p b) (hg:∀ i,Oid p i->M'.get i=M.get i):OR P B' pl' tb' M' p b:=by
 cases b with
 |dead=>trivial
 |lst ty k xs nl =>
  rcases h with h|⟨h0,i,cap,c,t,h1,h2,h3,h4,h5⟩
  .exact .inl h
  .exact .inr ⟨h0,i,cap,c,t,h1,h2,by rw[hg i (by rw[h1];rfl)];exact h3,h4,h5.mono λ_ _ e=>KC.flat hb e⟩
 |cells l u =>obtain⟨i,c,e,t,h1,h2,h3,h4⟩:=h;exact⟨i,c,e,t,h1,by rw[hg i (by rw[h1];rfl)];exact h2,SRs.retd (n:=0) (λj hj=>by omega) l c hb h3,h4⟩
 |map kk vk m =>simp only[OB.ret,z2] at hb;obtain⟨i,es,clock,h1,h2,h3⟩:=h;exact⟨i,es,clock,h1,by rw[hg i (by rw[h1];rfl)];exact h2,h3.1.flat hb.1 hb.2,h3.2⟩
 |stk l vals=>cases hb
 |deep ty q k xs nl hh=>exact DP.mono h hg
 |mapE kk vk m key n=>cases hb
 |iter kk vk m dn=>cases hb
 |lpf l q s=>cases hb
def Si:(k:Kind)->k.T->List Value
 |.i ik,x=>[.int ik x]
 |.bo,x=>[.bool x]
 |.st,x=>[.string ⟨x.toArray⟩]
 |.list _,_=>[]
 |.pair a b,x=>Si a x.1++Si b x.2
def Ft:OB->Option Blk
 |.lst ty k xs nl=>if nl then none else some (.cells (xs.map (Si k)).flatten ⟨k.size,ty⟩ true false)
 |_=>none
def BV (M:Heap) (bs:List OB):Heap where
 get i:=if i<M.n then M.get i else (bs[i-M.n]?).bind Ft
 n:=M.n+bs.length
 wf i h:=by rw[z1 (by omega),zj (by omega)];rfl
def Rh (M:Heap) (bs:List OB) (j:Nat):Value:=match bs[j]? with
 |some (.lst _ _ xs nl)=>if nl then .slice none 0 0 else .slice (some ⟨M.n+j,0,none⟩) xs.length xs.length
 |_=>poison
mutual
def Vh (p:Nat->Value):SV->Value
 |.val k x=>(Si k x).headD poison
 |.nilS=>.slice none 0 0
 |.nilP=>.pointer none
 |.nilM=>.map none
 |.nilF=>.nilFunc
 |.lst j=>p j
 |.agg l=>.agg (YS p l).toArray
 |.tup l=>.tuple (YS p l).toArray
 |_=>poison
def YS (p:Nat->Value):List SV->List Value
 |[]=>[]
 |s::ss=>Vh p s::YS p ss
end
def Dead (M M':Heap):Prop:=M.n<=M'.n/\∀ i,i<M.n->M.get i=none->M'.get i=none
theorem Dead.refl (M:Heap):Dead M M:=⟨z5 _,λ_ _ h=>h⟩
theorem Dead.trans {σ0 M M':Heap}(h:Dead σ0 M) (h':Dead M M'):Dead σ0 M':=⟨zZ h.1 h'.1,λi hi hg=>h'.2 i (x8 hi h.1) (h.2 i hi hg)⟩
def Ret (P:Program) (M:Heap) (v:SV) (bs:List OB) (u:Value) (M':Heap):Prop :=
 (M.Le M'/\Dead M M')/\(bs=[]->M'=M)/\∃ pl:Nat->Value,(∀ j b,bs[j]?=some b->OR P hNil pl ZF M' (pl j) b/\∀ i,Oid (pl j) i->M.get i=none/\M.n<=i) /\
  (∀ j j' i,j<bs.length->j'<bs.length->j≠j'->Oid (pl j) i->Oid (pl j') i->False)/\SR P hNil pl ZF v u
def Ok (P:Program) (ap:SV->List SV->Option (Prop×SV)):Prop :=
 ∀ M f args c v fV vs,SR P M Jz ZF f fV->SRs P M Jz ZF args vs->ap f args=some (c,v)->c->v.ret 0=true/\∃ g a b,fV=.func (.func g) a b/\VCalled P g (a.toList++vs++b.toList) M λu M'=>M'=M/\SR P hNil Jz ZF v u
def OkC (P:Program) (f:Nat) (sp:CSp):Prop :=
 ∀ ap,Ok P ap->∀ M args vs c v bs,SRs P M Jz ZF args vs->sp ap args=some (c,v,bs)->v.ret bs.length=true->bs.all OB.ret=true->c->(VCalled P f vs M λu M'=>Ret P M v bs u M') /\
  (bs.all OB.isL=true->Vd v=true->VCalled P f vs M λu M'=>u=Vh (Rh M bs) v/\M'=BV M bs)
def CsOk (P:Program) (cs:List (Nat×CSp)):Prop:=∀ f sp,Qp cs f=some sp->OkC P f sp
theorem VCalled.mono {f:FuncId}{args:List Value}{M:Heap}{R R':Value->Heap->Prop}(h:VCalled P f args M R) (hr:∀ v M',R v M'->R' v M'):VCalled P f args M R':=by
 intro ρ w az hH hL;rcases h ρ w az hH hL with⟨h1,h2⟩|⟨c,h1,h2⟩
 .exact .inl ⟨h1,h2.mono λ_ _ ⟨c,he,hg⟩=>⟨c,he,hg.mono hr⟩⟩
 .exact .inr ⟨c,h1.mono hr,h2⟩
theorem PA {B:Heap}{pl:Nat->Value}{tb:Nat->Option Bool}{k:Kind}{v:SV}{u:Value}{x:k.T}(h:gap.asV k v=some x) (hs:SR P B pl tb v u):KV B k x u:=by
 unfold gap.asV at h;cases bQ:k.one with
 |true =>rw[bQ] at h;exact .inl ⟨bQ,Qw h (by simp only[SRs];exact⟨u,[],rfl,hs,rfl⟩)⟩
 |false =>
  rw[bQ] at h;simp only[zO] at h;split at h
  .simp only[SR] at hs;obtain⟨cs,rfl,hs⟩:=hs;exact .inr ⟨bQ,cs,rfl,Qw h hs⟩
  .cases h
theorem TH {B:Heap}{pl:Nat->Value}{tb:Nat->Option Bool}:∀ {ks:List Kind}{args:List SV}{x:AT ks}{vs:List Value},gap.deca ks args=some x->SRs P B pl tb args vs->TS B ks x vs
 |[],[],x,vs,_,hs=>by simp only[SRs] at hs;exact hs
 |[],_::_,x,vs,h,_=>by cases h
 |[k],[],x,vs,h,_=>by cases h
 |[k],[v],x,vs,h,hs=>by obtain⟨u,rfl,h1⟩:=hs.one;exact⟨u,rfl,PA h h1⟩
 |[k],_::_::_,x,vs,h,_=>by cases h
 |k::k'::ks,[],x,vs,h,_=>by cases h
 |k::k'::ks,v::args,x,vs,h,hs=>by
  simp only[gap.deca] at h;split at h
  .rename_i y z h1 h2;obtain rfl:=osj h;simp only[SRs] at hs;obtain⟨u,us,rfl,h3,h4⟩:=hs;exact⟨u,us,rfl,PA h1 h3,TH h2 h4⟩
  .cases h
theorem Ret.flat {M M':Heap}{v:SV}{u:Value}(h:Ret P M v [] u M') (hv:v.ret 0=true):M'=M/\SR P hNil Jz ZF v u:=by obtain⟨_,h2,pl,_,_,h5⟩:=h;exact⟨h2 rfl,h5.retd (λj hj=>by omega) _ _ hv⟩
theorem KV.vcall {B M:Heap}(hB:B.Le M) {k:Kind}{x:k.T}{v:Value}(h:KV B k x v):KV M k x v:=by
 rcases h with⟨h1,h2⟩|⟨h1,cs,h2,h3⟩
 .exact .inl ⟨h1,h2.mono hB⟩
 .exact .inr ⟨h1,cs,h2,h3.mono hB⟩
theorem DJ:∀ {k:Kind}{x:k.T},k.flat=true->SVs.ret 0 (Nq k x)=true
 |.i _,_,_|.bo,_,_|.st,_,_=>rfl
 |.list _,_,h=>by cases h
 |.pair a b,x,h=>by
  simp only[Kind.flat,z2] at h;have app:∀ l m:List SV,SVs.ret 0 l=true->SVs.ret 0 m=true->SVs.ret 0 (l++m)=true:=by
   intro l m hl hm;induction l with
   |nil=>exact hm
   |cons s l ih =>simp only[SVs.ret,z2,zY] at hl |-;exact⟨hl.1,ih hl.2⟩
  exact app _ _ (DJ h.1) (DJ h.2)
theorem Q0k {k:Kind}{x:k.T}(h:k.flat=true):(IF k x).ret 0=true:=by
 cases k with
 |pair a b=>exact DJ (k:=.pair a b) h
 |list k=>cases h
 |_=>rfl
theorem FR {cs:List (Nat×CSp)}(h:CsOk P cs):∀ n,Ok P (gap cs n)
 |0=>λM f args c v fV vs _ _ h=>by cases h
 |n+1=>by
  intro M f args c v fV vs hf ha hg hc;cases f with
  |fn g a b =>
   simp only[gap] at hg;split at hg
   .rename_i sp dh;split at hg
    .rename_i c' v' heq;cases hv:v'.ret 0 with
     |false=>rw[hv] at hg;cases hg
     |true =>rw[hv] at hg;simp only[zg,xd,Prod.mk.injEq] at hg;obtain⟨rfl,rfl⟩:=hg;simp only[SR] at hf;obtain⟨x,y,rfl,h1,h2⟩:=hf;refine⟨hv,g,x.toArray,y.toArray,rfl,?_⟩;have:=(h g sp dh (gap cs n) (FR h n) M (a++args++b) (x++vs++y) c' v' [] ((h1.append ha).append h2) heq hv rfl hc).1;simpa using this.mono λu M' hr=>hr.flat hv
    .cases hg
   .cases hg
  |pf ks r cS p =>
   simp only[gap] at hg;split at hg
   .rename_i x hx;cases hr:r.flat with
    |false=>rw[hr] at hg;cases hg
    |true =>rw[hr] at hg;obtain⟨rfl,rfl⟩:=QO hg;simp only[SR] at hf;obtain⟨g,first,cap,rfl,aC⟩:=hf;have h2:=aC x hc M vs (Heap.Le.refl _) (TH hx ha);have dF:=Q0k (x:=p x) hr;exact⟨dF,g,first,cap,rfl,h2.mono λu M' hu=>⟨hu.1,(X4 (P:=P) (pl:=Jz) (tb:=ZF) hu.2).retd (λj hj=>by omega) _ _ dF⟩⟩
   .cases hg
  |_=>cases hg
end
end Go.V
namespace Go.V
open Go
theorem DropTo.rename2 {σ0 σf M':Heap}{v v':Value}(π:Nat->Nat) (h1:σ0.n<=M'.n)
  (h2:∀ i,i<σ0.n->π i=i/\M'.get i=σf.get i/\(σf.get i=σ0.get i\/∃ b,σf.get i=some b/\b.plain=true))
  (h3:∀ i,σ0.n<=i->i<M'.n->σ0.n<=π i/\((M'.get i=none/\σf.get (π i)=none)\/∃ b' b,M'.get i=some b'/\σf.get (π i)=some b/\BRen M'.n π b' b))
  (h4:∀ i j,σ0.n<=i->i<M'.n->σ0.n<=j->j<M'.n->π i=π j->i=j) (h5:Ren M'.n π v' v):DropTo σ0 v σf v' M':=by
 intro ρ0 w0 ρ w c gi hE hH hv;have hπ:∀ i,i<σ0.n->π i=i:=λi hi=>(h2 i hi).1;have aB:∀ i b',M'.get i=some b'->∃ b,σf.get (π i)=some b/\BRen M'.n π b' b:=λi b' hb=>by
  have hi:=M'.lt hb;rcases zh i σ0.n with ah|bw
  .obtain⟨k1,k2,k3⟩:=h2 i ah;rw[k1];rw[k2] at hb;refine⟨b',hb,?_⟩;rcases k3 with k3|⟨b,k3,k4⟩
   .rw[k3] at hb;obtain⟨p,_,hB⟩:=gi.live i b' hb;exact hB.ren h1 hπ
   .rw[k3] at hb;obtain rfl:=osj hb;exact BRen.plain k4
  .obtain⟨_,⟨k1,_⟩|⟨b1,b,k1,k2,k3⟩⟩:=h3 i bw hi
   .rw[k1] at hb;cases hb
   .rw[k1] at hb;obtain rfl:=osj hb;exact⟨b,k2,k3⟩
 have eY:∀ i j,i<M'.n->j<M'.n->π i=π j->i=j:=λi j hi hj he=>by
  rcases zh i σ0.n with ah|bw<;>rcases zh j σ0.n with b6|iC
  .rw[hπ i ah,hπ j b6] at he;exact he
  .have:=(h3 j iC hj).1;rw[hπ i ah] at he;omega
  .have:=(h3 i bw hi).1;rw[hπ j b6] at he;omega
  .exact h4 i j bw hi iC hj he
 have hX:Ext ρ0 σ0 w0 (λi=>if i<M'.n then ρ (π i) else none) M' w:=by
  refine⟨hE.os,hE.tape,hE.output,hE.size,hE.keep,?_,h1,λi hi p hp=>?_⟩
  .rintro B hB ⟨i,p,b,hp,hb,hw,rfl⟩;change (if i<M'.n then ρ (π i) else none)=some p at hp;split at hp
   .obtain⟨b0,bm,bE⟩:=aB i b hb;exact hE.wr _ hB ⟨π i,p,b0,hp,bm,by rw[<-bE.wr];exact hw,rfl⟩
   .cases hp
  .change (if i<M'.n then ρ (π i) else none)=some p at hp;split at hp
   .rw[hπ i hi] at hp;exact hE.pl i hi p hp
   .cases hp
 refine⟨λi=>if i<M'.n then ρ (π i) else none,h5.rel hv,gi.ext ⟨λi b' hb=>?_,λi hi=>?_,λi p hp=>?_,λi j p q b bY hp hq hb hw hx=>?_⟩ hX,hX⟩
 .obtain⟨b,bm,bE⟩:=aB i b' hb;obtain⟨p,hp,hB⟩:=hH.live _ b bm;exact⟨p,by simp[M'.lt hb,hp],bE.rel hB⟩
 .show (if i<M'.n then ρ (π i) else none)=none;split
  .rename_i ah;rcases zh i σ0.n with b6|bw
   .obtain⟨k1,k2,_⟩:=h2 i b6;rw[k1];exact hH.dead i (by rw[<-k2];exact hi)
   .obtain⟨_,⟨_,k2⟩|⟨b1,b,k1,_⟩⟩:=h3 i bw ah
    .exact hH.dead _ k2
    .rw[k1] at hi;cases hi
  .rfl
 .change (if i<M'.n then ρ (π i) else none)=some p at hp;split at hp
  .exact hH.lt _ p hp
  .cases hp
 .change (if i<M'.n then ρ (π i) else none)=some p at hp;change (if j<M'.n then ρ (π j) else none)=some q at hq;split at hp
  .rename_i hi;split at hq
   .rename_i hj;obtain⟨b0,bm,bE⟩:=aB i b hb;exact hH.sep (π i) (π j) p q b0 (λe=>bY (eY i j hi hj e)) hp hq bm (by rw[<-bE.wr];exact hw) hx
   .cases hq
  .cases hp
theorem KC.enc {h:Heap}:∀ {k:Kind}{x:k.T}{cs:List Value},k.flat=true->KC h k x cs->cs=Si k x
 |.i _,_,_,_,e|.bo,_,_,_,e|.st,_,_,_,e=>e
 |.list _,_,_,f,_=>by cases f
 |.pair a b,x,cs,f,e=>by simp only[Kind.flat,z2] at f;obtain⟨c1,c2,rfl,h1,h2⟩:=e;rw[KC.enc f.1 h1,KC.enc f.2 h2];rfl
theorem Rows.enc {h:Heap}{k:Kind}(hk:k.flat=true) {xs:List k.T}{cs:List Value}(hr:Rows (KC h k) xs cs):cs=(xs.map (Si k)).flatten:=by
 induction hr with
 |nil=>rfl
 |cons h _ ih=>rw[zF,List.flatten_cons,<-ih,KC.enc hk h]
theorem Gz:∀ {k:Kind}{x:k.T},k.flat=true->(Si k x).all QN=true
 |.i _,_,_|.bo,_,_|.st,_,_=>rfl
 |.list _,_,h=>by cases h
 |.pair a b,x,h=>by simp only[Kind.flat,z2] at h;simp only[Si,List.all_append,z2];exact⟨Gz h.1,Gz h.2⟩
section
variable {P:Program}
mutual
theorem VM {B:Heap}{pl:Nat->Value}{tb:Nat->Option Bool}{n:Nat}:∀ (s:SV) (v:Value),s.ret n=true->Vd s=true->SR P B pl tb s v->v=Vh pl s
 |.val k x,v,h,_,hs=>by simp only[SR] at hs;have:=KC.enc h hs;simp only[Vh,<-this,List.headD_cons]
 |.nilS,v,_,_,hs|.nilP,v,_,_,hs|.nilM,v,_,_,hs|.nilF,v,_,_,hs=>by simp only[SR] at hs;exact hs
 |.lst j,v,_,_,hs=>by simp only[SR] at hs;exact hs.1
 |.agg l,v,h,hb,hs=>by simp only[SR] at hs;obtain⟨cs,rfl,h2⟩:=hs;rw[Gi l cs h hb h2];rfl
 |.tup l,v,h,hb,hs=>by simp only[SR] at hs;obtain⟨cs,rfl,h2⟩:=hs;rw[Gi l cs h hb h2];rfl
 |.box _ _,_,_,hb,_|.map _,_,_,hb,_=>by cases hb
 |.any,_,h,_,_|.bid _ _,_,h,_,_|.grd _ _,_,h,_,_|.sub _ _ _ _,_,h,_,_|.elp _ _ _ _,_,h,_,_|.rop _ _ _ _,_,h,_,_|.cp _ _,_,h,_,_|.fn _ _ _,_,h,_,_|.pf _ _ _ _,_,h,_,_=>by cases h
theorem Gi {B:Heap}{pl:Nat->Value}{tb:Nat->Option Bool}{n:Nat}:∀ (s:List SV) (v:List Value),SVs.ret n s=true->Nl s=true->SRs P B pl tb s v->v=YS pl s
 |[],v,_,_,hs=>by simp only[SRs] at hs;exact hs
 |s::ss,v,h,hb,hs=>by simp only[SVs.ret,z2] at h;simp only[Nl,z2] at hb;simp only[SRs] at hs;obtain⟨x,y,rfl,h1,h2⟩:=hs;rw[VM s x h.1 hb.1 h1,Gi ss y h.2 hb.2 h2];rfl
end
theorem O2 {k:Kind}{x:k.T}(h:k.flat=true):QN ((Si k x).headD poison)=true\/(Si k x).headD poison=poison:=by
 have:=Gz (x:=x) h;cases e:Si k x with
 |nil=>exact .inr rfl
 |cons a l=>rw[e] at this;simp only[zR,z2] at this;exact .inl this.1
mutual
theorem Au {n m:Nat}{π:Nat->Nat}{p q:Nat->Value}(h:∀ j,j<m->Ren n π (p j) (q j)):∀ (s:SV),s.ret m=true->Vd s=true->Ren n π (Vh p s) (Vh q s)
 |.val k x,hr,_=>by
  simp only[Vh];rcases O2 (x:=x) hr with h|h
  .exact .plain _ h
  .rw[h];exact .poison _
 |.nilS,_,_|.nilP,_,_|.nilM,_,_|.nilF,_,_=>.plain _ rfl
 |.lst j,hr,_=>h j (by simpa [SV.ret,zI] using hr)
 |.agg l,hr,hb=>by have:=Hw h l hr hb;simp only[Vh];refine .agg _ _ (by simpa using this.1) λi h1 h2=>this.2 i _ _ (by simp) (by simp)
 |.tup l,hr,hb=>by have:=Hw h l hr hb;simp only[Vh];refine .tuple _ _ (by simpa using this.1) λi h1 h2=>this.2 i _ _ (by simp) (by simp)
 |.box _ _,_,hb|.map _,_,hb=>by cases hb
 |.any,h,_|.bid _ _,h,_|.grd _ _,h,_|.sub _ _ _ _,h,_|.elp _ _ _ _,h,_|.rop _ _ _ _,h,_|.cp _ _,h,_|.fn _ _ _,h,_|.pf _ _ _ _,h,_=>by cases h
theorem Hw {n m:Nat}{π:Nat->Nat}{p q:Nat->Value}(h:∀ j,j<m->Ren n π (p j) (q j)):∀ (s:List SV),SVs.ret m s=true->Nl s=true->LRen n π (YS p s) (YS q s)
 |[],_,_=>⟨rfl,λi v c hv=>by simp[YS] at hv⟩
 |s::ss,hr,hb=>by
  simp only[SVs.ret,z2] at hr;simp only[Nl,z2] at hb;have h1:=Au h s hr.1 hb.1;have h2:=Hw h ss hr.2 hb.2;refine⟨by simp[YS,h2.1],λi v c hv hc=>?_⟩;cases i with
  |zero=>simp[YS] at hv hc;subst hv;subst hc;exact h1
  |succ i=>simp[YS] at hv hc;exact h2.2 i v c hv hc
end
mutual
theorem S_ {m:Nat}{S:Nat->Prop}{p q:Nat->Value}(h:∀ j,j<m->Weak S (p j) (q j)):∀ (s:SV),s.ret m=true->Vd s=true->Weak S (Vh p s) (Vh q s)
 |.val k x,_,_=>.refl _
 |.nilS,_,_|.nilP,_,_|.nilM,_,_|.nilF,_,_=>.refl _
 |.lst j,hr,_=>h j (by simpa [SV.ret,zI] using hr)
 |.agg l,hr,hb=>by have:=DG h l hr hb;simp only[Vh];exact .agg _ _ this.1 this.2
 |.tup l,hr,hb=>by have:=DG h l hr hb;simp only[Vh];exact .tuple _ _ this.1 this.2
 |.box _ _,_,hb|.map _,_,hb=>by cases hb
 |.any,h,_|.bid _ _,h,_|.grd _ _,h,_|.sub _ _ _ _,h,_|.elp _ _ _ _,h,_|.rop _ _ _ _,h,_|.cp _ _,h,_|.fn _ _ _,h,_|.pf _ _ _ _,h,_=>by cases h
theorem DG {m:Nat}{S:Nat->Prop}{p q:Nat->Value}(h:∀ j,j<m->Weak S (p j) (q j)):∀ (s:List SV),SVs.ret m s=true->Nl s=true->(YS p s).length=(YS q s).length/\∀ (i:Nat) (a b:Value),(YS p s)[i]?=some a->(YS q s)[i]?=some b->Weak S a b
 |[],_,_=>⟨rfl,λi v c hv=>by simp[YS] at hv⟩
 |s::ss,hr,hb=>by
  simp only[SVs.ret,z2] at hr;simp only[Nl,z2] at hb;have h1:=S_ h s hr.1 hb.1;have h2:=DG h ss hr.2 hb.2;refine⟨by simp[YS,h2.1],λi v c hv hc=>?_⟩;cases i with
  |zero=>simp[YS] at hv hc;subst hv;subst hc;exact h1
  |succ i=>simp[YS] at hv hc;exact h2.2 i v c hv hc
end
theorem KC.ofEnc {h:Heap}:∀ {k:Kind}{x:k.T},k.flat=true->KC h k x (Si k x)
 |.i _,_,_|.bo,_,_|.st,_,_=>by simp[KC,Si]
 |.list _,_,f=>by cases f
 |.pair a b,x,f=>by simp only[Kind.flat,z2] at f;exact⟨_,_,rfl,KC.ofEnc f.1,KC.ofEnc f.2⟩
theorem Rows.ofEnc {h:Heap}{k:Kind}(hk:k.flat=true):∀ xs:List k.T,Rows (KC h k) xs (xs.map (Si k)).flatten
 |[]=>.nil
 |x::xs=>by rw[zF,List.flatten_cons];exact .cons (KC.ofEnc hk) (Rows.ofEnc hk xs)
mutual
theorem R_ {pl:Nat->Value}{m:Nat}(h:∀ j,j<m->∃ a n c,pl j=.slice a n c):∀ (s:SV),s.ret m=true->Vd s=true->SR P hNil pl ZF s (Vh pl s)
 |.val k x,hr,hb=>by have h1:=KC.ofEnc (h:=hNil) (x:=x) hr;have h2:=KC.length h1;rw[Kind.q1p hb] at h2;obtain⟨c,e⟩:=z_.1 h2;simp only[Vh,SR,e,List.headD_cons];rw[e] at h1;exact h1
 |.nilS,_,_|.nilP,_,_|.nilM,_,_|.nilF,_,_=>by simp[Vh,SR]
 |.lst j,hr,_=>by simp only[Vh,SR];exact⟨trivial,h j (by simpa [SV.ret,zI] using hr)⟩
 |.agg l,hr,hb=>by simp only[Vh,SR];exact⟨_,rfl,Sc h l hr hb⟩
 |.tup l,hr,hb=>by simp only[Vh,SR];exact⟨_,rfl,Sc h l hr hb⟩
 |.box _ _,_,hb|.map _,_,hb=>by cases hb
 |.any,h,_|.bid _ _,h,_|.grd _ _,h,_|.sub _ _ _ _,h,_|.elp _ _ _ _,h,_|.rop _ _ _ _,h,_|.cp _ _,h,_|.fn _ _ _,h,_|.pf _ _ _ _,h,_=>by cases h
theorem Sc {pl:Nat->Value}{m:Nat}(h:∀ j,j<m->∃ a n c,pl j=.slice a n c):∀ (s:List SV),SVs.ret m s=true->Nl s=true->SRs P hNil pl ZF s (YS pl s)
 |[],_,_=>by simp[YS,SRs]
 |s::ss,hr,hb=>by simp only[SVs.ret,z2] at hr;simp only[Nl,z2] at hb;simp only[YS,SRs];exact⟨_,_,rfl,R_ h s hr.1 hb.1,Sc h ss hr.2 hb.2⟩
end
theorem Q6i {M:Heap}{bs:List OB}(hl:bs.all OB.isL=true) {j:Nat}(hj:j<bs.length):∃ a n c,Rh M bs j=.slice a n c:=by
 have hb:=z6.1 hl _ (zn hj);simp only[Rh,z3 hj];cases e:bs[j] with
 |lst ty k xs nl=>cases nl<;>simp
 |_=>rw[e] at hb;cases hb
theorem E1 {σ0 σf:Heap}(hA:Agree σ0 σf) (hn:σ0.n<=σf.n) {v:SV}{bs:List OB}(hv:v.ret bs.length=true) (cG:Vd v=true) (hb:bs.all OB.ret=true) (hl:bs.all OB.isL=true) {pl:Nat->Value}{u:Value}
  (ao:∀ j b,bs[j]?=some b->OR P hNil pl ZF σf (pl j) b/\∀ i,oid (pl j)=some i->σ0.n<=i)
  (fE:∀ j j' i,j<bs.length->j'<bs.length->j≠j'->oid (pl j)=some i->oid (pl j')=some i->False) (hu:SR P hNil pl ZF v u) :
  DropTo σ0 u σf (Vh (Rh σ0 bs) v) (BV σ0 bs):=by
 have cw:=VM v u hv cG hu;subst cw;have kind:∀ j,j<bs.length->∃ ty k xs nl,bs[j]?=some (.lst ty k xs nl)/\k.flat=true/\((nl=true/\xs=[]/\pl j=.slice none 0 0)\/(nl=false/\∃ i cap c t,pl j=.slice (some ⟨i,0,none⟩) xs.length cap/\xs.length<=cap/\σ0.n<=i/\σf.get i=some (.cells c ⟨k.size,ty⟩ true t)/\c.take (xs.length*k.size)=(xs.map (Si k)).flatten/\Rows (KC hNil k) xs (xs.map (Si k)).flatten)):=by
  intro j hj;have e:=z3 hj;have h1:=z6.1 hb _ (zn hj);have h2:=z6.1 hl _ (zn hj);obtain⟨ho,hi⟩:=ao j _ e;cases cf:bs[j] with
  |lst ty k xs nl =>
   rw[cf] at e ho h1;refine⟨ty,k,xs,nl,e,h1,?_⟩;rcases ho with⟨k1,k2,k3⟩|⟨k0,i,cap,c,t,k1,k2,k3,k4,k5⟩
   .exact .inl ⟨k1,k2,k3⟩
   .have k6:=Rows.enc h1 k5;exact .inr ⟨k0,i,cap,c,t,k1,k2,hi i (by rw[k1];rfl),k3,k6,by rw[<-k6];exact k5⟩
  |_=>rw[cf] at h2;cases h2
 let S:Nat->Bool:=λi=>(List.range bs.length).any λj=>decide (oid (pl j)=some i);have hS:∀ i,S i=true<->∃ j,j<bs.length/\oid (pl j)=some i:=λi=>by simp only[S,xi,zr,zi]
 let σw:Heap:=⟨λi=>if S i=true then ((List.range bs.length).find? λj=>decide (oid (pl j)=some i)).bind λj=>(bs[j]?).bind Ft else σf.get i,σf.n,λi hi=>by
  by_cases h:S i=true
  .obtain⟨j,hj,bc⟩:=(hS i).1 h;obtain⟨ty,k,xs,nl,_,_,h3⟩:=kind j hj;rcases h3 with⟨_,_,k3⟩|⟨_,i',cap,c,t,k1,_,_,k3,_⟩
   .rw[k3] at bc;cases bc
   .rw[k1] at bc;obtain rfl:=osj bc;exact absurd (σf.lt k3) (wi.2 hi)
  .rw[z1 h];exact σf.wf i hi⟩
 have cZ:∀ j i,j<bs.length->oid (pl j)=some i->σw.get i=(bs[j]?).bind Ft:=λj i hj bc=>by
  have h1:S i=true:=(hS i).2 ⟨j,hj,bc⟩;show (if S i=true then _ else _)=_;rw[z0 h1];cases hf:(List.range bs.length).find? λj=>decide (oid (pl j)=some i) with
  |none=>have:=List.find?_eq_none.1 hf j (zr.2 hj);simp[bc] at this
  |some j' =>have h2:=List.find?_some hf;have h3:=zr.1 (List.mem_of_find?_eq_some hf);have h4:j'=j:=Classical.byContradiction λav=>fE j' j i h3 hj av (by simpa using h2) bc;subst h4;rfl
 let q:Nat->Value:=λj=>match pl j with
  |.slice (some a) n _=>.slice (some a) n n
  |v=>v
 have hq:∀ j,j<bs.length->Weak (λi=>S i=true) (pl j) (q j):=λj hj=>by
  obtain⟨ty,k,xs,nl,_,_,h3⟩:=kind j hj;rcases h3 with⟨_,_,k3⟩|⟨_,i',cap,c,t,k1,k2,_,k3,_⟩
  .simp only[q,k3];exact .refl _
  .simp only[q,k1];exact .sl _ _ _ ((hS i').2 ⟨j,hj,by rw[k1];rfl⟩) k2
 have oq:DropTo σ0 (Vh pl v) σf (Vh q v) σw:=by
  refine DropTo.weaken S (λi hi=>?_) rfl hn (λi hi=>?_) (λi hi=>?_) (S_ hq v hv cG)
  .obtain⟨j,hj,bc⟩:=(hS i).1 hi;exact(ao j _ (z3 hj)).2 i bc
  .show (if S i=true then _ else _)=_;rw[z1 (by simp[hi])]
  .obtain⟨j,hj,bc⟩:=(hS i).1 hi;obtain⟨ty,k,xs,nl,e,_,h3⟩:=kind j hj;rcases h3 with⟨_,_,k3⟩|⟨k0,i',cap,c,t,k1,k2,_,k3,k4,_⟩
   .rw[k3] at bc;cases bc
   .rw[k1] at bc;obtain rfl:=osj bc;refine⟨c,_,true,t,xs.length*k.size,k3,?_⟩;rw[cZ j _ hj (by rw[k1];rfl),e];simp only[xp,Ft,k0];rw[k4];rfl
 have jc:∀ j i,j<bs.length->oid (pl j)=some i->i<σf.n:=λj i hj bc=>by
  obtain⟨ty,k,xs,nl,_,_,h3⟩:=kind j hj;rcases h3 with⟨_,_,k3⟩|⟨_,i',cap,c,t,k1,_,_,k3,_⟩
  .rw[k3] at bc;cases bc
  .rw[k1] at bc;obtain rfl:=osj bc;exact σf.lt k3
 let π:Nat->Nat:=λi=>if i<σ0.n then i else match oid (pl (i-σ0.n)) with
  |some id=>id
  |none=>σf.n+i
 have ug:σw.n=σf.n:=rfl;have ot:DropTo σ0 (Vh q v) σw (Vh (Rh σ0 bs) v) (BV σ0 bs):=by
  refine DropTo.rename2 π (by simp[BV]) (λi hi=>⟨by simp[π,hi],?_,.inl ?_⟩) (λi h1 h2=>?_) (λi j h1 h2 h3 h4 he=>?_) (Au (λj hj=>?_) v hv cG)
  .have hs:S i=false:=by
    cases hs:S i with
    |false=>rfl
    |true=>obtain⟨j,hj,bc⟩:=(hS i).1 hs;have:=(ao j _ (z3 hj)).2 i bc;omega
   show (if i<σ0.n then _ else _)=(if S i=true then _ else _);rw[z0 hi,z1 (by simp[hs]),hA i hi]
  .have hs:S i=false:=by
    cases hs:S i with
    |false=>rfl
    |true=>obtain⟨j,hj,bc⟩:=(hS i).1 hs;have:=(ao j _ (z3 hj)).2 i bc;omega
   show (if S i=true then _ else _)=_;rw[z1 (by simp[hs]),hA i hi]
  .have hj:i-σ0.n<bs.length:=by simp[BV] at h2;omega
   have bw:¬ i<σ0.n:=by omega
   obtain⟨ty,k,xs,nl,e,qP,h3⟩:=kind _ hj;have ou:(BV σ0 bs).get i=(bs[i-σ0.n]?).bind Ft:=by show (if i<σ0.n then _ else _)=_;rw[z1 bw]
   rcases h3 with⟨k0,_,k3⟩|⟨k0,i',cap,c,t,k1,k2,lW,k3,k4,_⟩
   .have hp:π i=σf.n+i:=by simp only[π,z1 bw,k3,oid]
    refine⟨by omega,.inl ⟨?_,σw.wf _ (by rw[hp,ug];omega)⟩⟩;rw[ou,e];simp[Ft,k0]
   .have hp:π i=i':=by simp only[π,z1 bw,k1,oid]
    rw[hp];have hw:=cZ _ i' hj (by rw[k1];rfl);rw[e] at hw;simp only[xp,Ft,k0] at hw;refine⟨lW,.inr ⟨_,_,?_,hw,BRen.plain ?_⟩⟩
    .rw[ou,e];simp[Ft,k0]
    .simp only[Blk.plain,List.all_flatten,List.all_map];rw[z6];intro x _;exact Gz qP
  .have hi:i-σ0.n<bs.length:=by simp[BV] at h2;omega
   have hj:j-σ0.n<bs.length:=by simp[BV] at h4;omega
   have gK:¬ i<σ0.n:=by omega
   have uh:¬ j<σ0.n:=by omega
   simp only[π,z1 gK,z1 uh] at he;cases e1:oid (pl (i-σ0.n)) with
   |none =>
    cases e2:oid (pl (j-σ0.n)) with
    |none=>rw[e1,e2] at he;simp only at he;omega
    |some b=>rw[e1,e2] at he;have:=jc _ b hj e2;simp only at he;omega
   |some a =>
    cases e2:oid (pl (j-σ0.n)) with
    |none=>rw[e1,e2] at he;have:=jc _ a hi e1;simp only at he;omega
    |some b =>rw[e1,e2] at he;simp only at he;subst he;have:i-σ0.n=j-σ0.n:=Classical.byContradiction λav=>fE _ _ a hi hj av e1 e2;omega
  .obtain⟨ty,k,xs,nl,e,_,h3⟩:=kind j hj;rcases h3 with⟨k0,kx,k3⟩|⟨k0,i',cap,c,t,k1,k2,_,k3,_⟩
   .simp only[Rh,e,k0,zx,q,k3];exact .plain _ rfl
   .simp only[Rh,e,k0,zA,if_false,q,k1];have hp:π (σ0.n+j)=i':=by
     have:¬ σ0.n+j<σ0.n:=by omega
     simp only[π,z1 this,Nat.add_sub_cancel_left,k1,oid]
    have:=Ren.sl (n:=(BV σ0 bs).n) (π:=π) (σ0.n+j) 0 xs.length xs.length (by simp[BV];omega)
    rwa [hp] at this
 exact oq.trans ot
def OB.wfL:OB->Prop
 |.lst _ _ xs nl=>nl=true->xs=[]
 |_=>True
theorem SQ (σ0:Heap) {v:SV}{bs:List OB}(hv:v.ret bs.length=true) (cG:Vd v=true) (hb:bs.all OB.ret=true) (hl:bs.all OB.isL=true) (hw:∀ b∈bs,b.wfL):Ret P σ0 v bs (Vh (Rh σ0 bs) v) (BV σ0 bs):=by
 have kind:∀ j,j<bs.length->∃ ty k xs nl,bs[j]?=some (.lst ty k xs nl)/\k.flat=true/\(nl=true->xs=[]):=λj hj=>by
  have e:=z3 hj;have h1:=z6.1 hb _ (zn hj);have h2:=z6.1 hl _ (zn hj);have h3:=hw _ (zn hj);cases cf:bs[j] with
  |lst ty k xs nl=>rw[cf] at e h1 h3;exact⟨ty,k,xs,nl,e,h1,h3⟩
  |_=>rw[cf] at h2;cases h2
 refine⟨⟨?_,?_⟩,?_,Rh σ0 bs,λj b hj=>?_,λj j' i hj dw av h1 h2=>?_,R_ (λj hj=>Q6i hl hj) v hv cG⟩
 .refine⟨by simp[BV],λi b hg=>?_⟩;show (if i<σ0.n then _ else _)=_;rw[z0 (σ0.lt hg)];exact hg
 .refine⟨by simp[BV],λi hi hg=>?_⟩;show (if i<σ0.n then _ else _)=_;rw[z0 hi];exact hg
 .rintro rfl;apply Heap.ext'
  .intro i;show (if i<σ0.n then _ else _)=_;by_cases hi:i<σ0.n
   .rw[z0 hi]
   .rw[z1 hi,σ0.wf i (by omega)];rfl
  .simp[BV]
 .have bU:j<bs.length:=(z7.1 hj).1;obtain⟨ty,k,xs,nl,e,qP,h3⟩:=kind j bU;obtain rfl:=osj (e.symm.trans hj);cases nl with
  |true =>
   have hp:Rh σ0 bs j=.slice none 0 0:=by simp[Rh,e]
   rw[hp];exact⟨.inl ⟨rfl,h3 rfl,rfl⟩,λi hi=>by cases hi⟩
  |false =>
   have hp:Rh σ0 bs j=.slice (some ⟨σ0.n+j,0,none⟩) xs.length xs.length:=by simp[Rh,e]
   have k5:=Rows.ofEnc (h:=hNil) qP xs;have dm:=k5.length KC.q0f;rw[hp];refine⟨.inr ⟨rfl,σ0.n+j,xs.length,(xs.map (Si k)).flatten,false,rfl,z5 _,?_,by omega,?_⟩,λi hi=>?_⟩
   .show (if σ0.n+j<σ0.n then _ else _)=_;rw[z1 (by omega),Nat.add_sub_cancel_left,e];simp[Ft]
   .rw[zD (by omega)];exact k5
   .obtain rfl:=osj hi;exact⟨σ0.wf _ (by simp),by simp⟩
 .obtain⟨ty,k,xs,nl,e,_,h3⟩:=kind j hj;obtain⟨jg,k',cI,kH,e',_,kM⟩:=kind j' dw;simp only[Rh,e] at h1;simp only[Rh,e'] at h2;cases nl with
  |true=>simp[Oid,oid] at h1
  |false =>
   cases kH with
   |true=>simp[Oid,oid] at h2
   |false=>simp[Oid,oid] at h1 h2;omega
end
end Go.V
namespace Go.V
open Go
section
variable {P:Program}{B F:Heap}{pl:Nat->Value}{tb:Nat->Option Bool}{own:Own}{M:Heap}
mutual
theorem EE {bx:List SV->Nat->SV}(hle:B.Le M) (aw:∀ d,OR P B pl tb M (pl d) (Q8 own d))
  (kN:∀ l off b c e t,M.get b=some (.cells c e true t)->SRs P B pl tb l c->SR P M Jz ZF (bx l off) (.pointer (some ⟨b,off,none⟩))) :
  ∀ (s:SV) (v:Value),SR P B pl tb s v->SR P M Jz ZF (PU own bx s) v
 |.any,v,h=>by simp[PU,SR]
 |.val k x,v,h=>by simp only[PU,SR] at h |-;exact h.mono hle
 |.bid n c,v,h=>by simp only[PU,SR] at h |-;obtain⟨rfl,_⟩:=h;rfl
 |.grd gs s,v,h=>by simp[PU,SR]
 |.nilS,v,h=>by simp only[PU,SR] at h |-;exact h
 |.nilP,v,h=>by simp only[PU,SR] at h |-;exact h
 |.nilM,v,h=>by simp only[PU,SR] at h |-;exact h
 |.nilF,v,h=>by simp only[PU,SR] at h |-;exact h
 |.lst o,v,h=>by
  simp only[PU];split
  .rename_i ty k xs nl ho;have:view own k (.lst o)=some xs:=by simp[view,ho,NS]
   simp only[SR,KC];exact⟨v,rfl,(Y7 hle aw this h).mono (Heap.Le.refl _) λ_ _ e=>e.mono hle⟩
  .simp[SR]
 |.sub o lo n sz,v,h=>by
  simp only[PU];split
  .rename_i ty k xs nl ho;split
   .rename_i aD;have:view own k (.sub o lo n sz)=some ((xs.drop lo).take n):=by simp[view,ho,NS,aD]
    simp only[SR,KC];exact⟨v,rfl,(Y7 hle aw this h).mono (Heap.Le.refl _) λ_ _ e=>e.mono hle⟩
   .simp[SR]
  .simp[SR]
 |.elp o i off sz,v,h=>by simp[PU,SR]
 |.dd o w,v,h=>by
  simp only[PU];simp only[SR] at h;split
  .rename_i ty q k xs nl hole ho;have ao:=aw o;rw[ho] at ao;have du:=DP.le ao;split
   .split
    .obtain⟨h1,_⟩:=h;simp only[SR,KC];refine⟨v,rfl,?_⟩;rw[h1];exact(DP.sl ao).mono du λ_ _ e=>e.mono du
    .simp[SR]
   .simp only[SR];exact KC.mono du h
   .simp only[SR];exact KC.mono du h.1
   .simp[SR]
  .simp[SR]
 |.map o,v,h=>by simp[PU,SR]
 |.tup l,v,h=>by simp[PU,SR]
 |.box o off,v,h=>by
  simp only[PU];split
  .rename_i l _ ho;have ao:=aw o;rw[ho] at ao;obtain⟨i,c,e,t,h1,h2,h3,_⟩:=ao;simp only[SR] at h;obtain⟨b,h4,rfl⟩:=h;rw[h4] at h1;obtain rfl:=(by simpa using h1:b=i);exact kN l off b c e t h2 h3
  .simp[SR]
 |.rop k l i off,v,h=>by simp only[PU];exact SR.mono (tb:=tb) hle (λn c hn=>hn) (.rop k l i off) v h |> λh=>by simp only[SR] at h |-;exact h
 |.cp l off,v,h=>by simp only[PU,SR] at h |-;obtain⟨b,c,e,wr,t,h1,h2,h3⟩:=h;exact⟨b,c,e,wr,t,hle.2 _ _ h1,h2,JZ hle aw kN l c h3⟩
 |.agg l,v,h=>by simp only[PU,SR] at h |-;obtain⟨cs,h1,h2⟩:=h;exact⟨cs,h1,JZ hle aw kN l cs h2⟩
 |.fn f a b,v,h=>by simp only[PU,SR] at h |-;obtain⟨x,y,h1,h2,h3⟩:=h;exact⟨x,y,h1,JZ hle aw kN a x h2,JZ hle aw kN b y h3⟩
 |.pf ks r cS p,v,h=>by simp only[PU,SR] at h |-;exact h.mono hle
theorem JZ {bx:List SV->Nat->SV}(hle:B.Le M) (aw:∀ d,OR P B pl tb M (pl d) (Q8 own d))
  (kN:∀ l off b c e t,M.get b=some (.cells c e true t)->SRs P B pl tb l c->SR P M Jz ZF (bx l off) (.pointer (some ⟨b,off,none⟩))) :
  ∀ (s:List SV) (v:List Value),SRs P B pl tb s v->SRs P M Jz ZF (HR own bx s) v
 |[],v,h=>by simp only[HR,SRs] at h |-;exact h
 |s::ss,v,h=>by simp only[HR,SRs] at h |-;obtain⟨x,y,h1,h2,h3⟩:=h;exact⟨x,y,h1,EE hle aw kN s x h2,JZ hle aw kN ss y h3⟩
end
theorem XU (hle:B.Le M) (aw:∀ d,OR P B pl tb M (pl d) (Q8 own d)) {l:List SV}{v:List Value}(h:SRs P B pl tb l v):SRs P M Jz ZF (BK own l) v:=by
 have h0:∀ {l v},SRs P B pl tb l v->SRs P M Jz ZF (Z4y own l) v:=λh=>JZ hle aw (λ_ _ _ _ _ _ _ _=>by simp[SR]) _ _ h;have h1:∀ {l v},SRs P B pl tb l v->SRs P M Jz ZF (Z4p own l) v:=λh=>JZ hle aw (λl off b c e t hg hs=>by
  simp only[SR];exact⟨b,c,e,true,t,hg,rfl,h0 hs⟩) _ _ h
 exact JZ hle aw (λl off b c e t hg hs=>by
  simp only[SR];exact⟨b,c,e,true,t,hg,rfl,h1 hs⟩) _ _ h
mutual
theorem IB {p q:Nat->Value}{n:Nat}(h:∀ j,j<n->p j=q j):∀ (s:SV),s.ret n=true->Vh p s=Vh q s
 |.val _ _,_|.nilS,_|.nilP,_|.nilM,_|.nilF,_=>by simp[Vh]
 |.lst j,hr=>by simp only[Vh];exact h j (by simpa [SV.ret,zI] using hr)
 |.agg l,hr=>by simp only[Vh];rw[RB h l hr]
 |.tup l,hr=>by simp only[Vh];rw[RB h l hr]
 |.box _ _,_|.map _,_=>by simp[Vh]
 |.dd _ _,_=>by simp[Vh]
 |.any,h|.bid _ _,h|.grd _ _,h|.sub _ _ _ _,h|.elp _ _ _ _,h|.rop _ _ _ _,h|.cp _ _,h|.fn _ _ _,h|.pf _ _ _ _,h=>by cases h
theorem RB {p q:Nat->Value}{n:Nat}(h:∀ j,j<n->p j=q j):∀ (s:List SV),SVs.ret n s=true->YS p s=YS q s
 |[],_=>rfl
 |s::ss,hr=>by simp only[SVs.ret,z2] at hr;simp only[YS];rw[IB h s hr.1,RB h ss hr.2]
end
theorem ZO {cs:List (Nat×CSp)}(aA:CsOk P cs) {f:SV}{args:List SV}{c:Prop}{v:SV}{bs:List OB}{fV:Value}{vs:List Value}(hf:SR P M Jz ZF f fV) (ha:SRs P M Jz ZF args vs)
  (h:Vc cs f args=some (c,v,bs)) (hv:v.ret bs.length=true) (hb:bs.all OB.ret=true) (hc:c):∃ g a b,fV=.func (.func g) a b/\(VCalled P g (a.toList++vs++b.toList) M λu M'=>Ret P M v bs u M') /\
  (bs.all OB.isL=true->Vd v=true->VCalled P g (a.toList++vs++b.toList) M λu M'=>u=Vh (Rh M bs) v/\M'=BV M bs):=by
 have gen:(gap cs 3 f args).map (λx=>(x.1,x.2,([]:List OB)))=some (c,v,bs)->∃ g a b,fV=.func (.func g) a b/\(VCalled P g (a.toList++vs++b.toList) M λu M'=>Ret P M v bs u M') /\
   (bs.all OB.isL=true->Vd v=true->VCalled P g (a.toList++vs++b.toList) M λu M'=>u=Vh (Rh M bs) v/\M'=BV M bs):=λh=>by
  simp only[zo] at h;obtain⟨⟨c',v'⟩,h1,h2⟩:=h;simp only[Prod.mk.injEq] at h2;obtain⟨rfl,rfl,rfl⟩:=h2;obtain⟨h3,g,a,b,rfl,h4⟩:=FR aA 3 M f args c' v' fV vs hf ha h1 hc;refine⟨g,a,b,rfl,h4.mono λu M' hu=>?_,λ_ cG=>h4.mono λu M' hu=>?_⟩
  .obtain⟨rfl,hu⟩:=hu;exact⟨⟨Heap.Le.refl _,Dead.refl _⟩,λ_=>rfl,Jz,(λj b hj=>by simp at hj),(λj j' i hj=>by simp at hj),hu⟩
  .obtain⟨rfl,hu⟩:=hu;have hz:BV M' []=M':=(SQ (P:=P) M' (v:=v') (bs:=[]) h3 cG rfl rfl (λb hb=>by cases hb)).2.1 rfl;refine⟨?_,hz.symm⟩;rw[VM v' u h3 cG hu];exact IB (λj hj=>by omega) v' h3
 cases f with
 |fn g a b =>
  simp only[Vc] at h;split at h
  .rename_i sp dh;simp only[SR] at hf;obtain⟨x,y,rfl,h1,h2⟩:=hf;refine⟨g,x.toArray,y.toArray,rfl,?_⟩;simpa using aA g sp dh (gap cs 3) (FR aA 3) M (a++args++b) (x++vs++y) c v bs ((h1.append ha).append h2) h hv hb hc
  .cases h
 |_=>exact gen h
theorem Gam.q1u {s:St}{env:Env}{M':Heap}(h:Gam P B F pl tb s env M) (hl:M.Le M') {d:Nat}(al:(Q8 s.own d).live=true) {i:Nat}(hi:Oid (pl d) i):M'.get i=M.get i:=by
  have ah:=(h.obj d).q1a al hi;cases hb:M.get i with
  |none =>
   have ao:=h.obj d;cases ho:Q8 s.own d with
   |dead=>rw[ho] at al;cases al
   |lst ty k xs nl =>
    rw[ho] at ao;rcases ao with⟨_,_,h2⟩|⟨_,i',cap,c,t,h2,_,h3,_⟩
    .rw[h2] at hi;cases hi
    .rw[h2] at hi;obtain rfl:=osj hi;rw[h3] at hb;cases hb
   |cells l u=>rw[ho] at ao;obtain⟨i',c,e,t,h2,h3,_⟩:=ao;rw[h2] at hi;obtain rfl:=osj hi;rw[h3] at hb;cases hb
   |mapE kk vk m key n=>rw[ho] at ao;obtain⟨i',es,cl,r,e,h2,h3,_⟩:=ao;rw[h2] at hi;obtain rfl:=osj hi;rw[h3] at hb;cases hb
   |map kk vk m=>rw[ho] at ao;obtain⟨i',es,cl,h2,h3,_⟩:=ao;rw[h2] at hi;obtain rfl:=osj hi;rw[h3] at hb;cases hb
   |stk l vals=>rw[ho] at al;cases al
   |lpf l q s=>rw[ho] at ao al;obtain⟨h2,_,h3⟩:=ao;rw[h2] at hi;obtain rfl:=osj hi;have h3:=h3 al;rw[hb] at h3;cases h3
   |iter kk vk m dn=>rw[ho] at ao;obtain⟨j',i',es,cl,wr,seen,h2,h3,_⟩:=ao;rw[h2] at hi;obtain rfl:=osj hi;rw[h3] at hb;cases hb
   |deep ty q k xs nl hh =>rw[ho] at ao;obtain⟨is,_,d2,d3,_⟩:=DP.open ao;obtain⟨c,e,t,h⟩:=d2.cells i ((d3 i).1 hi);rw[h] at hb;cases hb
  |some b=>rw[hl.2 i b hb]
theorem Gam.heap {s:St}{env:Env}{M':Heap}(h:Gam P B F pl tb s env M) (hl:M.Le M'):Gam P B F pl tb s env M' :=
 ⟨h.bf,h.le.trans hl,h.env,λd=>(h.obj d).mono (Heap.Le.refl _) (λ_ _ h=>h) λal _i hi=>h.q1u hl al hi,h.fresh,h.sep,h.free⟩
theorem Ps {env:Env}{σ0:Heap}{d nt:Nat}(dM:0<nt) (gw:Nat->Value) (bs:List OB) (hB:F.Le σ0)
  (ao:∀ j b,bs[j]?=some b->b.ret=true/\OR P hNil gw ZF M (gw j) b/\∀ i,Oid (gw j) i->σ0.n<=i)
  (fE:∀ j j' i,j<bs.length->j'<bs.length->j≠j'->Oid (gw j) i->Oid (gw j') i->False) :
  ∀ (r:List OB) (j:Nat) (pl:Nat->Value) (s:St),bs.drop j=r->Gam P B F pl tb s env M->(∀ k i,(Q8 s.own k).live=true->Oid (pl k) i->i<σ0.n\/∃ j'<j,j'<bs.length/\Oid (gw j') i/\k=d+j'*nt)->(∀ j'<j,j'<bs.length->pl (d+j'*nt)=gw j') ->
   ∃ pl',Gam P B F pl' tb (s.makes d nt j r) env M/\(∀ j'<bs.length,pl' (d+j'*nt)=gw j')/\∀ q,(∀ j'<bs.length,q≠d+j'*nt)->pl' q=pl q/\(Q8 (s.makes d nt j r).own q).live=(Q8 s.own q).live
 |[],j,pl,s,hr,hG,_,hp=>⟨pl,hG,λj' dw=>hp j' (by
   have:=congrArg List.length hr;simp at this;omega) dw,λq _=>⟨rfl,rfl⟩⟩
 |b::r,j,pl,s,hr,hG,hinv,hp=>by
  have bU:j<bs.length:=by
   rcases zh j bs.length with h|h
   .exact h
   .rw[List.drop_eq_nil_of_le h] at hr;cases hr
  have cf:bs[j]?=some b:=by
   have:(bs.drop j)[0]?=some b:=by rw[hr];rfl
   simpa using this
  have lx:bs.drop (j+1)=r:=by
   have:(bs.drop j).drop 1=r:=by rw[hr];rfl
   simpa [List.drop_drop,xP] using this
  obtain⟨h1,h2,h3⟩:=ao j b cf;have aP:∀ j' ,j'≠j->d+j'*nt≠d+j*nt:=λj' av e=>av (Nat.eq_of_mul_eq_mul_right dM (by omega));obtain⟨pl',k1,k2,k3⟩:∃ pl',Gam P B F pl' tb ((s.make (d+j*nt) b).makes d nt (j+1) r) env M/\(∀ j'<bs.length,pl' (d+j'*nt)=gw j')/\∀ q,(∀ j'<bs.length,q≠d+j'*nt)->pl' q=Jv pl (d+j*nt) (gw j) q/\(Q8 ((s.make (d+j*nt) b).makes d nt (j+1) r).own q).live=(Q8 (s.make (d+j*nt) b).own q).live:=by
   refine Ps dM gw bs hB ao fE r (j+1) (Jv pl (d+j*nt) (gw j)) _ lx (hG.make (d+j*nt) b (gw j) hG.le (λ_ _ _ _ _=>rfl) (h2.retd h1 λ_ _=>rfl) λi _ hi=>⟨F.wf _ (by have:=h3 i hi;have:=hB.1;omega),λk hk hl e=>?_⟩) (λk i hl hi=>?_) λj' dw qQ=>?_
   .rcases hinv k i hl e with h|⟨j',dw,eE,he,_⟩
    .have:=h3 i hi;omega
    .exact fE j j' i bU eE (by omega) hi he
   .by_cases hk:k=d+j*nt
    .subst hk;simp only[Jv,zx] at hi;exact .inr ⟨j,by omega,bU,hi,rfl⟩
    .have ck:(Q8 s.own k).live=true:=by
      simp only[St.make,St.kill,Qi,Vs,z1 hk] at hl
      rwa [OB.q0s] at hl
     simp only[Jv,z1 hk] at hi;rcases hinv k i ck hi with h|⟨j',dw,h5⟩
     .exact .inl h
     .exact .inr ⟨j',by omega,h5⟩
   .by_cases e:j'=j
    .subst e;simp[Jv]
    .simp only[Jv,z1 (aP j' e)];exact hp j' (by omega) qQ
  refine⟨pl',k1,k2,λq hq=>?_⟩;obtain⟨e1,e2⟩:=k3 q hq;refine⟨by rw[e1];simp[Jv,hq j bU],?_⟩;show (Q8 ((s.make (d+j*nt) b).makes d nt (j+1) r).own q).live=_;rw[e2];simp only[St.make,St.kill,Qi,Vs,z1 (hq j bU),OB.q0s]
theorem Ret.gamF {s:St}{env:Env}{d nt:Nat}(dM:0<nt) (hG:Gam P B F pl tb s env M) {v:SV}{bs:List OB}{u:Value}{M':Heap}(hv:v.ret bs.length=true) (hb:bs.all OB.ret=true) (h:Ret P M v bs u M') :
  ∃ pl',Gam P B F pl' tb (s.makes d nt 0 bs) env M'/\SR P B pl' tb (v.ren d nt) u/\∀ q,(∀ j'<bs.length,q≠d+j'*nt)->(Q8 (s.makes d nt 0 bs).own q).live=(Q8 s.own q).live/\pl' q=pl q/\((Q8 s.own q).live=true->∀ i,Oid (pl q) i->M'.get i=M.get i):=by
 obtain⟨⟨h1,_⟩,_,gw,h2,h3,h4⟩:=h
 obtain⟨pl',h5,h6,h7⟩:=Ps (tb:=tb) (d:=d) dM gw bs hG.le (λj b hj=>⟨z6.1 hb b (zE hj),(h2 j b hj).1,λi hi=>((h2 j b hj).2 i hi).2⟩) h3 bs 0 pl s rfl (hG.heap h1)
  (λk i hl hi=>.inl ((hG.obj k).q1a hl hi)) (λj' dw=>by omega)
 exact⟨pl',h5,SR.ren (tb:=ZF) (λj hj=>h6 j hj) _ _ hv (SR.mono (tb:=ZF) (tb':=ZF) (Ac B) (λ_ _ h=>h) _ _ h4),λq hq=>⟨(h7 q hq).2,(h7 q hq).1,λhl i hi=>hG.q1u h1 hl hi⟩⟩
theorem Ret.gam {s:St}{env:Env}{d nt:Nat}(dM:0<nt) (hG:Gam P B F pl tb s env M) {v:SV}{bs:List OB}{u:Value}{M':Heap}(hv:v.ret bs.length=true) (hb:bs.all OB.ret=true) (h:Ret P M v bs u M') :
  ∃ pl',Gam P B F pl' tb (s.makes d nt 0 bs) env M'/\SR P B pl' tb (v.ren d nt) u:=by
 obtain⟨pl',h1,h2,_⟩:=h.gamF dM hG hv hb;exact⟨pl',h1,h2⟩
end
end Go.V
namespace Go.V
open Go
section
variable {P:Program}
structure GBase (B0 F0 D0 B F M:Heap):Prop where
 b:B0.Le B
 f:F0.Le F
 x:∀ i b,F0.get i=some b->B0.get i=none->B.get i=none
 d:Dead D0 M
theorem GBase.of {B F M:Heap}{M':Heap}(_hB:B.Le F) (h:Dead M M'):GBase B F M B F M':=⟨.refl _,.refl _,λ_ _ _ h=>h,h⟩
theorem GBase.trans {B0 F0 D0 B F M B' F' M':Heap}(h:GBase B0 F0 D0 B F M) (h':GBase B F M B' F' M'):GBase B0 F0 D0 B' F' M' :=
 ⟨h.b.trans h'.b,h.f.trans h'.f,λi b h1 h2=>h'.x i b (h.f.2 _ _ h1) (h.x i b h1 h2),h.d.trans h'.d⟩
def GRel (P:Program) (B0 F0 D0:Heap) (s:St) (env:Env) (M:Heap):Prop:=∃ B F pl tb,GBase B0 F0 D0 B F M/\Gam P B F pl tb s env M
theorem ML {B0 F0 D0 B F:Heap}{M M':Heap}(hB:GBase B0 F0 D0 B F M) (h:Dead M M'):GBase B0 F0 D0 B F M':=⟨hB.b,hB.f,hB.x,hB.d.trans h⟩
theorem Gam.evs {B F:Heap}{pl:Nat->Value}{tb:Nat->Option Bool}{s:St}{env:Env}{M:Heap}(h:Gam P B F pl tb s env M) {gs:List Gd}(hg:Gds tb gs) (x:Operand):SR P B pl tb (gev gs s.env x) (Q3 env x):=EZ hg h.env x
theorem Gds.nil {tb:Nat->Option Bool}:Gds tb []:=λ_ h=>by cases h
theorem Ex {gs:List Gd}{c:Prop}(h:Q6n gs c) (hg:∀ g∈gs,g.c=g.want):c:=by
 induction gs with
 |nil=>exact h
 |cons g gs ih=>exact ih (h (hg g (by simp))) λg' dL=>hg g' (by simp[dL])
theorem Zj {gs:List Gd}{cs:List Prop}{q:Prop}(h:LM gs cs q):q/\((∀ g∈gs,g.c=g.want)->∀ c∈cs,c):=by
 induction cs with
 |nil=>exact⟨h,λ_ c hc=>by cases hc⟩
 |cons c cs ih =>
  obtain⟨h1,h2⟩:=h;obtain⟨h3,h4⟩:=ih h2;exact⟨h3,λhg c' cO=>by
   rcases zf.1 cO with rfl|cO
   .exact Ex h1 hg
   .exact h4 hg c' cO⟩
theorem Dead.push (M:Heap) (b:Blk):Dead M (M.push b):=⟨by simp,λi hi h=>by rw[Heap.q0i _ _ hi];exact h⟩
theorem Dead.upd (M:Heap) (j:Nat) (b:Blk) (hj:(M.get j).isSome=true):Dead M (M.upd j b):=⟨by simp,λi hi h=>by
 have:i≠j:=λe=>by subst e;rw[h] at hj;cases hj
 rw[Heap.q0b _ _ this];exact h⟩
theorem Dead.kill (M:Heap) (j:Nat):Dead M (M.kill j):=⟨by simp,λi hi h=>by
 by_cases e:i=j
 .subst e;exact Heap.q0g _ _
 .rw[Heap.q0d _ e];exact h⟩
theorem Lj {e:El}{bytes m:Nat}{M M':Heap}{s u:Value}{xs:List Value}(h:Yv e bytes M s m xs=some (u,M')):Dead M M':=by
 unfold Yv at h;split at h
 .split at h
  .obtain⟨rfl,rfl⟩:=QO h;exact Dead.refl _
  .split at h
   .obtain⟨rfl,rfl⟩:=QO h;exact Dead.push _ _
   .cases h
 .split at h
  .rename_i hg;split at h
   .split at h
    .obtain⟨rfl,rfl⟩:=QO h;exact Dead.refl _
    .split at h
     .split at h
      .obtain⟨rfl,rfl⟩:=QO h;exact Dead.upd _ _ _ (by rw[hg];rfl)
      .cases h
     .split at h
      .split at h
       .obtain⟨rfl,rfl⟩:=QO h;exact Dead.push _ _
       .split at h
        .obtain⟨rfl,rfl⟩:=QO h;exact(Dead.kill _ _).trans (Dead.push _ _)
        .cases h
      .cases h
   .cases h
  .cases h
 .split at h
  .split at h
   .obtain⟨rfl,rfl⟩:=QO h;exact Dead.push _ _
   .cases h
  .cases h
 .cases h
theorem Ka {o:VOp}{ev:Operand->Value}{M M':Heap}{u:Value}(h:Q6 o ev M=some (u,M')):Dead M M':=by
 by_cases hk:o.kind=2
 .cases o<;>first|(cases hk;done)|skip
  case alloc t z=>obtain⟨rfl,rfl⟩:=QO h;exact Dead.push _ _
  case box t x =>
   simp only[Q6] at h;split at h
   .obtain⟨rfl,rfl⟩:=QO h;exact Dead.push _ _
   .cases h
  case buildSlice e z n ps =>
   simp only[Q6] at h;split at h
   .obtain⟨rfl,rfl⟩:=QO h;exact Dead.push _ _
   .cases h
  case makeSlice e b z l c =>
   simp only[Q6] at h;split at h
   .split at h
    .obtain⟨rfl,rfl⟩:=QO h;exact Dead.push _ _
    .cases h
   .cases h
  case store size a x =>
   simp only[Q6] at h;split at h
   .split at h
    .rename_i hg;split at h
     .obtain⟨rfl,rfl⟩:=QO h;exact Dead.upd _ _ _ (by rw[hg];rfl)
     .cases h
    .cases h
   .cases h
  case append e b x y =>
   simp only[Q6] at h;split at h
   .split at h
    .exact Lj h
    .cases h
   .cases h
  case slice size x lo hi mx =>
   simp only[Q6] at h;split at h
   .have sl:∀ {l hh:Nat}{m:Option Nat}{v:Value},WD size M v l hh m=some (u,M')->Dead M M':=λ{l hh m v} h=>by
     unfold WD at h;split at h
     .split at h
      .obtain⟨rfl,rfl⟩:=QO h;exact Dead.refl _
      .cases h
     .split at h
      .split at h
       .split at h
        .obtain⟨rfl,rfl⟩:=QO h;exact Dead.refl _
        .cases h
       .split at h
        .split at h
         .obtain⟨rfl,rfl⟩:=QO h;exact Dead.push _ _
         .split at h<;>(obtain⟨rfl,rfl⟩:=QO h;exact Dead.refl _)
        .cases h
      .cases h
     .cases h
    split at h
    .exact sl h
    .split at h
     .exact sl h
     .cases h
    .cases h
   .cases h
  case callF f a=>cases h
  case callV f a=>cases h
  case ext x =>
   cases x<;>first|(cases hk;done)|skip
   case makeMap=>obtain⟨rfl,rfl⟩:=QO h;exact Dead.push _ _
   case mapUpdate mk m k v =>
    simp only[Q6,Zc] at h;split at h
    .split at h
     .rename_i hm;split at h
      .obtain⟨rfl,rfl⟩:=QO h;refine Dead.upd _ _ _ ?_;unfold Heap.mapAt at hm;split at hm
       .rename_i hg;rw[hg];rfl
       .cases hm
      .cases h
     .cases h
    .cases h
   case mapEntry mk z m k =>
    simp only[Q6,Zc] at h;split at h
    .split at h
     .rename_i hm;split at h
      .split at h
       all_goals
        obtain⟨rfl,rfl⟩:=QO h;refine Dead.upd _ _ _ ?_;unfold Heap.mapAt at hm;split at hm
        .rename_i hg;rw[hg];rfl
        .cases hm
      .cases h
     .cases h
    .cases h
   case entryStore m s v =>
    simp only[Q6,Zc] at h;split at h
    .split at h
     .rename_i hm;split at h
      .split at h
       .obtain⟨rfl,rfl⟩:=QO h;refine Dead.upd _ _ _ ?_;unfold Heap.mapAt at hm;split at hm
        .rename_i hg;rw[hg];rfl
        .cases hm
       .cases h
      .cases h
     .cases h
    .cases h
   case delete mk m k =>
    simp only[Q6,Zc] at h;split at h
    .split at h
     .rename_i hm;split at h
      .obtain⟨rfl,rfl⟩:=QO h;refine Dead.upd _ _ _ ?_;unfold Heap.mapAt at hm;split at hm
       .rename_i hg;rw[hg];rfl
       .cases hm
      .cases h
     .cases h
    .cases h
   case rangeMap x =>
    simp only[Q6,Zc] at h;split at h
    .split at h
     .obtain⟨rfl,rfl⟩:=QO h;exact Dead.push _ _
     .cases h
    .cases h
   case nextMap x=>cases h
   case copy size a b =>
    simp only[Q6,Zc] at h;split at h
    .split at h
     .obtain⟨rfl,rfl⟩:=QO h;exact Dead.refl _
     .split at h
      .split at h
       .rename_i hg;split at h
        .obtain⟨rfl,rfl⟩:=QO h;exact Dead.upd _ _ _ (by rw[hg];rfl)
        .cases h
       .cases h
      .cases h
    .cases h
   case clear z x =>
    simp only[Q6,Zc] at h;split at h
    .split at h
     .obtain⟨rfl,rfl⟩:=QO h;exact Dead.refl _
     .split at h
      .split at h
       .rename_i hg;split at h
        .obtain⟨rfl,rfl⟩:=QO h;exact Dead.upd _ _ _ (by rw[hg];rfl)
        .cases h
       .cases h
      .cases h
    .cases h
   case strBytes e x =>
    simp only[Q6,Zc] at h;split at h
    .split at h
     .obtain⟨rfl,rfl⟩:=QO h;exact Dead.push _ _
     .cases h
    .cases h
   case unsafeStr e x n =>
    simp only[Q6,Zc] at h;split at h
    .split at h
     .obtain⟨rfl,rfl⟩:=QO h;exact Dead.refl _
     .split at h
      .split at h
       .rename_i hg;split at h
        .split at h
         .obtain⟨rfl,rfl⟩:=QO h;exact Dead.upd _ _ _ (by rw[hg];rfl)
         .cases h
        .cases h
       .cases h
      .cases h
    .cases h
 .obtain rfl:=Dr hk h;exact Dead.refl _
theorem NU {B F:Heap}{pl:Nat->Value}{tb:Nat->Option Bool}{s:St}{env:Env}{M:Heap}(hG:Gam P B F pl tb s env M) {x:Operand}{b:Bool}(h:L8 s.env x=some b):Q3 env x=.bool b:=by
 unfold L8 at h;split at h
 .rename_i j;split at h
  .rename_i gs v he;split at h
   .split at h
    .rename_i k y;split at h
     .obtain rfl:=osj h;have:=hG.env.getD j undef;rw[he] at this;simp only[SR] at this;have h2:=this.2.1 (λg hg=>by cases hg);have h3:[env.getD j undef]=[Value.bool _]:=h2;exact(zN h3).1
     .cases h
    .cases h
   .cases h
  .cases h
 .cases h
theorem K9 {B F:Heap}{pl:Nat->Value}{tb:Nat->Option Bool}{s:St}{env:Env}{M:Heap}(hG:Gam P B F pl tb s env M) {g:Option (Nat×Bool)}{t:Bool}(h:O1 s.env g=some t):J3 env g=some t:=by
 unfold O1 at h;split at h
 .cases h
 .rename_i j want;split at h
  .rename_i b hb;obtain rfl:=osj h;have:=NU hG hb;simp only[Q3] at this;simp only[J3,this]
  .cases h
theorem Uo {B F:Heap}{pl:Nat->Value}{tb:Nat->Option Bool}{s:St}{env:Env}{M:Heap}(hG:Gam P B F pl tb s env M) {gs:List Gd}(hg:Gds tb gs) {c a b:Operand}{v:SV}(h:EN gs s.env c a b=some v) :
  ∃ u,Q6 (.pick c a b) (Q3 env) M=some (u,M)/\SR P B pl tb v u:=by
 unfold EN at h;split at h
 .rename_i t ht;have e:=NU hG ht;obtain rfl:=osj h;cases t with
  |true=>exact⟨Q3 env a,by simp only[Q6,e];rfl,hG.evs hg a⟩
  |false=>exact⟨Q3 env b,by simp only[Q6,e];rfl,hG.evs hg b⟩
 have hc:=hG.evs hg c;unfold Q3i at h;split at h
 .rename_i n t heq;rw[heq] at hc;simp only[SR] at hc;obtain⟨e,cT⟩:=hc;have ht:∀ w,t=w->Gds tb (gs++[⟨n,w,t⟩]):=λw hw g dL=>by
   rcases zu.1 dL with h1|h1
   .exact hg g h1
   .obtain rfl:=z8.1 h1;exact⟨hw,cT⟩
  have hv:∀ u,(if t then Q3 env a else Q3 env b)=u->Q6 (.pick c a b) (Q3 env) M=some (u,M):=λu hu=>by simp only[Q6,e];rw[<-hu]
  split at h
  .rename_i b';simp only[zo] at h;obtain⟨y,h1,rfl⟩:=h;refine⟨.bool (t||y),hv _ ?_,ZX _⟩;cases t with
   |true=>rfl
   |false=>simpa using XF h1 (hG.evs (ht false rfl) _)
  .rename_i a' av;simp only[zo] at h;obtain⟨x,h1,rfl⟩:=h;refine⟨.bool (t&&x),hv _ ?_,ZX _⟩;cases t with
   |true=>simpa using XF h1 (hG.evs (ht true rfl) _)
   |false=>rfl
  .split at h
   .rename_i k x k' y h1 h2;split at h
    .rename_i hk;subst hk;obtain rfl:=osj h;refine⟨.int k (if t then x else y),hv _ ?_,JT _ _⟩;cases t with
     |true=>have:=hG.evs (ht true rfl) a;rw[h1] at this;exact J7 rfl this
     |false=>have:=hG.evs (ht false rfl) b;rw[h2] at this;exact J7 rfl this
    .cases h
   .rename_i x y h1 h2;obtain rfl:=osj h;refine⟨.bool (if t then x else y),hv _ ?_,ZX _⟩;cases t with
    |true=>have:=hG.evs (ht true rfl) a;rw[h1] at this;exact XF rfl this
    |false=>have:=hG.evs (ht false rfl) b;rw[h2] at this;exact XF rfl this
   .cases h
 .cases h
theorem Gam.bid {B F:Heap}{pl:Nat->Value}{tb:Nat->Option Bool}{s:St}{env:Env}{M:Heap}(hG:Gam P B F pl tb s env M) {j:Nat}{v:SV}{c:Bool}(hv:∀ tb',(∀ n c,tb n=some c->tb' n=some c)->tb' s.nx=some c->SR P B pl tb' v (env.getD j undef)) :
  ∃ tb',(∀ n c,tb n=some c->tb' n=some c)/\tb' s.nx=some c/\Gam P B F pl tb' ⟨s.env.set j v,s.own,s.nx+1⟩ env M:=by
 refine⟨λn=>if n=s.nx then some c else tb n,?_,by simp,?_⟩
 .intro n c' hn;by_cases e:n=s.nx
  .rw[e,hG.free _ (z5 _)] at hn;cases hn
  .simp only[z1 e];exact hn
 .have hm:∀ n c',tb n=some c'->(λn=>if n=s.nx then some c else tb n) n=some c':=λn c' hn=>by
   by_cases e:n=s.nx
   .rw[e,hG.free _ (z5 _)] at hn;cases hn
   .simp only[z1 e];exact hn
  refine⟨hG.bf,hG.le,?_,λd=>(hG.obj d).mono (Heap.Le.refl _) hm λ_ _ _=>rfl,hG.fresh,hG.sep,λn hn=>?_⟩
  .have h1:=SRs.mono (Heap.Le.refl B) hm _ _ hG.env;by_cases hj:j<env.length
   .have:=h1.set j (hv _ hm (by simp))
    rwa [z4,z3 hj,Option.getD_some,List.set_getElem_self] at this
   .have:s.env.set j v=s.env:=List.set_eq_of_length_le (by rw[hG.env.length];omega);rw[this];exact h1
  .have:n≠s.nx:=by simp only at hn;omega
   simp only[z1 this];exact hG.free n (by simp only at hn;omega)
theorem Ie {gs:List Gd}(h:¬ ∀ g∈gs,g.c=g.want):∃ g∈gs,g.c≠g.want:=by
 rcases Classical.em (∃ g∈gs,g.c≠g.want) with h'|h'
 .exact h'
 .exact absurd (λg hg=>Classical.byContradiction λav=>h' ⟨g,hg,av⟩) h
theorem XJ {B F:Heap}{pl:Nat->Value}{tb:Nat->Option Bool}{s:St}{env:Env}{M:Heap}(hG:Gam P B F pl tb s env M) {j:Nat}{want:Bool}{gs:List Gd}{s':St}(h:Bn s j want=some (gs,s')) :
  ∃ tb',Gam P B F pl tb' s' env M/\(∀ g∈gs,tb' g.id=some g.c)/\∃ b,J3 env (some (j,want))=some b/\(b=true->∀ g∈gs,g.c=g.want)/\(b=false->∃ g∈gs,g.c≠g.want):=by
 have hj:=hG.env.getD j undef;unfold Bn at h;split at h
 .rename_i c heq;obtain⟨rfl,rfl⟩:=QO h;rw[heq] at hj;have hb:env.getD j undef=.bool c:=XF (s:=.val .bo c) rfl hj;obtain⟨tb',h1,h2,h3⟩:=hG.bid (j:=j) (v:=.bid s.nx c) (c:=c) λtb' _ h=>by simp only[SR];exact⟨hb,h⟩
  refine⟨tb',h3,λg hg=>by obtain rfl:=z8.1 hg;exact h2,c==want,by simp only[J3,hb],λe g hg=>?_,λe=>⟨_,z8.2 rfl,?_⟩⟩
  .obtain rfl:=z8.1 hg;simpa using e
  .simpa using e
 .rename_i n c heq;obtain⟨rfl,rfl⟩:=QO h;rw[heq] at hj;simp only[SR] at hj;refine⟨tb,hG,λg hg=>by obtain rfl:=z8.1 hg;exact hj.2,c==want,by simp only[J3,hj.1],λe g hg=>?_,λe=>⟨_,z8.2 rfl,?_⟩⟩
  .obtain rfl:=z8.1 hg;simpa using e
  .simpa using e
 .rename_i pK c heq;obtain⟨rfl,rfl⟩:=QO h;rw[heq] at hj;simp only[SR] at hj;obtain⟨⟨k1,k0⟩,k2,k3⟩:=hj;obtain⟨tb',h1,h2,h3⟩:=hG.bid (j:=j) (v:=.grd pK (.bid s.nx c)) (c:=c) λtb' hm h=>by
   simp only[SR];exact⟨⟨λg hg=>hm _ _ (k1 g hg),h⟩,λae=>⟨XF (s:=.val .bo c) (P:=P) (B:=B) (pl:=pl) (tb:=tb) rfl (by simpa only [SR] using k2 ae),h⟩,k3⟩
  refine⟨tb',h3,λg hg=>?_,?_⟩
  .rcases zu.1 hg with h4|h4
   .exact h1 _ _ (k1 g h4)
   .obtain rfl:=z8.1 h4;exact h2
  .by_cases ae:∀ g∈pK,g.c=g.want
   .have hb:env.getD j undef=.bool c:=XF (s:=.val .bo c) (P:=P) (B:=B) (pl:=pl) (tb:=tb) rfl (by simpa only [SR] using k2 ae);refine⟨c==want,by simp only[J3,hb],λe g hg=>?_,λe=>⟨_,zu.2 (.inr (z8.2 rfl)),by simpa using e⟩⟩;rcases zu.1 hg with h4|h4
    .exact ae g h4
    .obtain rfl:=z8.1 h4;simpa using e
   .have hex:=Ie ae;refine⟨false,by simp only[J3,k3 hex];rfl,(λe=>by cases e),λ_=>?_⟩;obtain⟨g,hg,av⟩:=hex;exact⟨g,zu.2 (.inl hg),av⟩
 .rename_i pK n c heq;obtain⟨rfl,rfl⟩:=QO h;rw[heq] at hj;simp only[SR] at hj;obtain⟨⟨k1,k0⟩,k2,k3⟩:=hj;refine⟨tb,hG,λg hg=>?_,?_⟩
  .rcases zu.1 hg with h4|h4
   .exact k1 g h4
   .obtain rfl:=z8.1 h4;exact k0
  .by_cases ae:∀ g∈pK,g.c=g.want
   .obtain⟨hb,cT⟩:=k2 ae;refine⟨c==want,by simp only[J3,hb],λe g hg=>?_,λe=>⟨_,zu.2 (.inr (z8.2 rfl)),by simpa using e⟩⟩;rcases zu.1 hg with h4|h4
    .exact ae g h4
    .obtain rfl:=z8.1 h4;simpa using e
   .have hex:=Ie ae;refine⟨false,by simp only[J3,k3 hex];rfl,(λe=>by cases e),λ_=>?_⟩;obtain⟨g,hg,av⟩:=hex;exact⟨g,zu.2 (.inl hg),av⟩
 .cases h
theorem Gam.gcall {B F:Heap}{pl:Nat->Value}{tb:Nat->Option Bool}{s:St}{env:Env}{M:Heap}(hG:Gam P B F pl tb s env M) {gs:List Gd}(hg:Gds tb gs) (args:List Operand):SRs P M Jz ZF (BK s.own (args.map (gev gs s.env))) (args.map (Q3 env)) :=
 XU hG.leB hG.obj (SRs.map λx _=>hG.evs hg x)
theorem Gam.gfun {B F:Heap}{pl:Nat->Value}{tb:Nat->Option Bool}{s:St}{env:Env}{M:Heap}(hG:Gam P B F pl tb s env M) {gs:List Gd}(hg:Gds tb gs) (f:Operand):SR P M Jz ZF ((BK s.own [gev gs s.env f]).getD 0 .any) (Q3 env f):=by have:=(XU hG.leB hG.obj (show SRs P B pl tb [gev gs s.env f] [Q3 env f] by simp only[SRs];exact⟨_,[],rfl,hG.evs hg f,rfl⟩)).getD 0 poison;simpa using this
theorem Nn {env:Env}{f:Operand}{args:List Operand}{M:Heap}{K:Value->Heap->Prop}{g:FuncId}{a b:Array Value}(e:Q3 env f=.func (.func g) a b) (h:VCalled P g (a.toList++args.map (Q3 env)++b.toList) M K) :
  vop (Q2 P) (.callV f args) env M K:=by
 simp only[vop,e];exact h
def XOk (P:Program) (f:Nat) (x:XSp):Prop :=
 ∀ (B F:Heap) (pl:Nat->Value) (tb:Nat->Option Bool) (s:St) (env:Env) (M:Heap) (d:Nat) (args:List SV) (vs:List Value) (K:SV->St->Prop) (R:Value->Heap->Prop),
  Gam P B F pl tb s env M->SRs P B pl tb args vs->x d args s K ->
  (∀ v s' B' F' pl' tb' u M',K v s'->GBase B F M B' F' M'->Gam P B' F' pl' tb' s' env M'->SR P B' pl' tb' v u->R u M')->VCalled P f vs M R
def Q9p (P:Program) (f:Nat) (x:XSp) (j:Nat):Prop :=
 ∀ (B F:Heap) (pl:Nat->Value) (tb:Nat->Option Bool) (s:St) (env:Env) (M:Heap) (d:Nat) (args:List SV) (vs:List Value) (K:SV->St->Prop) (R:Value->Heap->Prop) (t:Nat),
  Gam P B F pl tb s env M->SRs P B pl tb args vs->Q4b s.own j args=some t->x d args s K ->
  (∀ v s' u M',K v s'->Dead M M'->Gam P B F pl tb s' env M'->SR P B pl tb v u->FrL [t] s s' pl pl M M'->R u M')->VCalled P f vs M R
def Q7e (P:Program) (f:Nat) (it:ISp):Prop:=Xf P f /\
 ∀ (B:Heap) (args:List SV) (vs:List Value) (c:Prop) (m ar:Nat) (xs:Nat->List SV),SRs P B Jz ZF args vs->it args=some (c,m,ar,xs)->c ->
  (∀ k,(xs k).length=ar/\SVs.pure (xs k)=true)/\∀ (i:Nat) (Y:Tb) (J:Nat->Heap->Prop) (E:Heap->Prop) (τ0:Heap),Vg P i Y->(∀ k U,J k U->B.Le U) ->
   (∀ k us U,k<m->J k U->SRs P B Jz ZF (xs k) us->Y us U λv U'=>(v=.bool true/\J (k+1) U')\/(v=.bool false/\E U')) ->
   J 0 τ0->VCallsTo P f (.func (.yield i) #[] #[]::vs) τ0 λ_ U=>J m U\/E U
def Q0w (P:Program) (o:Nat) (y:YSp):Prop :=
 ∀ (B F:Heap) (pl:Nat->Value) (tb:Nat->Option Bool) (s:St) (env:Env) (M:Heap) (args:List SV) (us:List Value) (K:SV->St->Prop) (R:Value->Heap->Prop) (i:Nat),
  Gam P B F pl tb s env M->SRs P B pl tb args us->y args s K->pl o=.pointer (some ⟨i,0,none⟩) ->
  (∀ v s' B' F' pl' tb' u M',K v s'->GBase B F M B' F' M'->Gam P B' F' pl' tb' s' env M'->SR P B' pl' tb' v u->R u M')->Pb P i us M R
def Q6o (P:Program) (f:Nat) (x:Q6y):Prop:=Xf P f /\
 ∀ (B F:Heap) (pl:Nat->Value) (tb:Nat->Option Bool) (s:St) (env:Env) (M:Heap) (o:Nat) (args:List SV) (vs:List Value) (y:YSp) (K:St->Prop) (R:Heap->Prop),
  Gam P B F pl tb s env M->SRs P B pl tb args vs->Q0w P o y->x o args (o,y) s K ->
  (∀ s' B' F' pl' tb' af M',K s'->GBase B F M B' F' M'->Gam P B' F' pl' tb' s' af M'->R M')->VCallsTo P f vs M λ_=>R
structure COk (P:Program) (C:Cx):Prop where
 cs:CsOk P C.cs
 xs:∀ f x,Qp C.xs f=some x->XOk P f x
 it:∀ f x,Qp C.it f=some x->Q7e P f x
 yl:∀ o y,Qp C.yl o=some y->Q0w P o y
 iy:∀ f x,Qp C.iy f=some x->Q6o P f x
 xf:∀ f j,Qp C.xf f=some j->∀ x,Qp C.xs f=some x->Q9p P f x j
theorem HK {C:Cx}(aA:CsOk P C.cs) {B F:Heap}{pl:Nat->Value}{tb:Nat->Option Bool}{s:St}{env:Env}{M:Heap}(hG:Gam P B F pl tb s env M) {gs:List Gd}(hg:Gds tb gs) {raw:Bool}{o:VOp}{cs:List Prop}{v:SV}
  (h:gqc C raw o (gev gs s.env) s.own=some (cs,v)) (hc:∀ c∈cs,c) {K:Value->Heap->Prop}(hK:∀ u,SR P B pl tb v u->K u M):vop (Q2 P) o env M K:=by
 have flat:∀ {c:Prop}{v':SV},(bif v'.ret 0 then some ([c],v') else none)=some (cs,v)->v'.ret 0=true/\c/\v'=v:=λ{c v'} h=>by
  cases hv:v'.ret 0 with
  |false=>rw[hv] at h;cases h
  |true =>rw[hv] at h;obtain⟨rfl,rfl⟩:=QO h;exact⟨rfl,hc _ (by simp),rfl⟩
 have quiet:∀ o,gq C.kt raw o (gev gs s.env) s.own=some (cs,v)->(∀ K,QW (Q6 o (Q3 env) M) (λp=>K p.1 p.2)->vop (Q2 P) o env M K)->vop (Q2 P) o env M K:=λo h hv=>by obtain⟨u,h1,h2⟩:=Rv (hG.evs hg) (λ_=>rfl) hG.leB hG.obj h hc;exact hv K (by rw[h1];exact hK u h2)
 cases o
 case callF f args =>
  simp only[gqc] at h;split at h
  .rename_i c v' heq;obtain⟨h1,h2,rfl⟩:=flat h;obtain⟨g,a,b,h3,h4,_⟩:=ZO aA (show SR P M Jz ZF (.fn f [] []) (.func (.func f) #[] #[]) by simp only[SR,SRs];exact⟨[],[],rfl,rfl,rfl⟩) (hG.gcall hg args) heq h1 rfl h2;obtain⟨rfl,rfl,rfl⟩:=(by simpa using h3:f=g/\#[]=a/\#[]=b);have:=h4.mono (R':=K) λu M' hr=>by
    obtain⟨rfl,hu⟩:=hr.flat h1;exact hK u (hu.retd (λj hj=>by omega) _ _ h1)
   show VCalled P f (args.map (Q3 env)) M K;simpa using this
  .cases h
 case callV f args =>
  simp only[gqc] at h;split at h
  .rename_i c v' heq;obtain⟨h1,h2,rfl⟩:=flat h;obtain⟨g,a,b,h3,h4,_⟩:=ZO aA (hG.gfun hg f) (hG.gcall hg args) heq h1 rfl h2;exact Nn h3 (h4.mono λu M' hr=>by
    obtain⟨rfl,hu⟩:=hr.flat h1;exact hK u (hu.retd (λj hj=>by omega) _ _ h1))
  .cases h
 case ext x =>
  cases x
  case nextMap x=>cases h
  all_goals exact quiet _ h λ_ h=>h
 all_goals exact quiet _ h λ_ h=>h
end
end Go.V