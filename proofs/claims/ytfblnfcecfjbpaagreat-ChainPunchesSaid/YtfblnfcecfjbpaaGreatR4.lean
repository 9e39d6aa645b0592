/- A framework for walks, contracts of functions, and their proofs: part 4. -/
import Derived.Laws.Closers25b
import Derived.Test.YtfblnfcecfjbpaaGreatR3
namespace Go.V
open Go
theorem InK.wrap {k:IntKind}{x:Int}(h:InK k x):k.wrap x=x:=by obtain⟨h1,h2⟩:=h;cases k<;>simp[IntKind.wrap,IntKind.bits,IntKind.signed,IntKind.min,IntKind.max] at h1 h2 ⊢<;>(try split)<;>omega
section
variable {P:Program}{B:Heap}{pl:Nat→Value}{tb:Nat→Option Bool}{own:Own}{σ:Heap}
def QOk (P:Program) (B:Heap) (pl:Nat→Value) (tb:Nat→Option Bool) (σ:Heap) (o:VOp) (evV:Operand→Value) (v:SV):Prop:=∃ u,Q6 o evV σ=some (u,σ)∧SR P B pl tb v u
theorem Xb (k:IntKind) (x:Int):SR P B pl tb (.val (.i k) x) (.int k x):=by simp[SR,KC]
theorem ZT (x:Bool):SR P B pl tb (.val .bo x) (.bool x):=by simp[SR,KC]
theorem Aq (x:List UInt8):SR P B pl tb (.val .st x) (.string ⟨x.toArray⟩):=by simp[SR,KC]
theorem QS {α β:Type _}{a c:α}{b d:β}(h:some (a,b)=some (c,d)):a=c∧b=d:=by cases h;exact⟨rfl,rfl⟩
section
variable {kt:List (Nat×Kind)}{raw:Bool}{ev:Operand→SV}{evV:Operand→Value}{cs:List Prop}{v:SV}
theorem Gc (aj:∀ x,SR P B pl tb (ev x) (evV x)) {x y:Operand}{k k':IntKind}{a b:Int}(h1:asI (ev x)=some (k,a)) (h2:asI (ev y)=some (k',b)):evV x=.int k a∧evV y=.int k' b:=⟨J7 h1 (aj x),J7 h2 (aj y)⟩
theorem Q50 (aj:∀ x,SR P B pl tb (ev x) (evV x)) {op:BinOp}{x y:Operand}(h:gq kt raw (.arith op x y) ev own=some (cs,v)) (hc:∀ c∈cs,c):QOk P B pl tb σ (.arith op x y) evV v:=by
 simp only[gq] at h;split at h
 ·rename_i k a k' b h1 h2;obtain⟨e1,e2⟩:=Gc aj h1 h2;split at h
  ·rename_i hk;subst hk;cases raw with
   |true =>
    obtain⟨rfl,rfl⟩:=QS h;refine⟨_,by simp only[Q6,e1,e2,if_true]<;>rfl,?_⟩;have:R5 op k a b=k.wrap (BU op a b):=by cases op<;>rfl
    rw[this];exact Xb _ _
   |false =>
    obtain⟨rfl,rfl⟩:=QS h;refine⟨_,by simp only[Q6,e1,e2,if_true]<;>rfl,?_⟩;have:R5 op k a b=BU op a b:=by
     have hw:InK k (BU op a b):=hc _ (by simp);have e:R5 op k a b=k.wrap (BU op a b):=by cases op<;>rfl
     rw[e,hw.wrap]
    rw[this];exact Xb _ _
  ·cases h
 ·cases h
theorem Z38 (aj:∀ x,SR P B pl tb (ev x) (evV x)) {op:BinOp}{x y:Operand}(h:gq kt raw (.div op x y) ev own=some (cs,v)) (hc:∀ c∈cs,c):QOk P B pl tb σ (.div op x y) evV v:=by
 simp only[gq] at h;split at h
 ·rename_i k a k' b h1 h2;obtain⟨e1,e2⟩:=Gc aj h1 h2;split at h
  ·rename_i hk;subst hk;split at h
   ·obtain⟨rfl,rfl⟩:=QS h;have hb:b≠0:=hc _ (by simp);have hw:InK k (a.tdiv b):=hc _ (by simp);refine⟨_,by simp only[Q6,e1,e2,hb,ne_eq,not_false_iff,and_self,if_true]<;>rfl,?_⟩;simp only[Q67,hw.wrap];exact Xb _ _
   ·obtain⟨rfl,rfl⟩:=QS h;have hb:b≠0:=hc _ (by simp);refine⟨_,by simp only[Q6,e1,e2,hb,ne_eq,not_false_iff,and_self,if_true]<;>rfl,?_⟩;rename_i bD;have:Q67 op k a b=a.tmod b:=by unfold Q67;split<;>simp_all
    rw[this];exact Xb _ _
  ·cases h
 ·cases h
theorem Q8o (aj:∀ x,SR P B pl tb (ev x) (evV x)) {op:BinOp}{x y:Operand}(h:gq kt raw (.bits op x y) ev own=some (cs,v)):QOk P B pl tb σ (.bits op x y) evV v:=by
 simp only[gq] at h;split at h
 ·rename_i k a k' b h1 h2;obtain⟨e1,e2⟩:=Gc aj h1 h2;split at h
  ·rename_i hk;subst hk;obtain⟨rfl,rfl⟩:=QS h;exact⟨_,by simp only[Q6,e1,e2,if_true]<;>rfl,Xb _ _⟩
  ·cases h
 ·cases h
theorem Q4e (aj:∀ x,SR P B pl tb (ev x) (evV x)) {op:BinOp}{x y:Operand}(h:gq kt raw (.shift op x y) ev own=some (cs,v)) (hc:∀ c∈cs,c):QOk P B pl tb σ (.shift op x y) evV v:=by
 simp only[gq] at h;split at h
 ·rename_i k a k' b h1 h2;obtain⟨e1,e2⟩:=Gc aj h1 h2;split at h
  ·cases raw with
   |true =>obtain⟨rfl,rfl⟩:=QS h;have hb:0≤b:=hc _ (by simp);exact⟨_,by simp only[Q6,e1,e2,hb,if_true]<;>rfl,Xb _ _⟩
   |false =>obtain⟨rfl,rfl⟩:=QS h;have hb:0≤b:=hc _ (by simp);have hw:InK k (JF k a b):=hc _ (by simp);refine⟨_,by simp only[Q6,e1,e2,hb,if_true]<;>rfl,?_⟩;have:TC .shl k a b=k.wrap (JF k a b):=rfl;rw[this,hw.wrap];exact Xb _ _
  ·obtain⟨rfl,rfl⟩:=QS h;have hb:0≤b:=hc _ (by simp);refine⟨_,by simp only[Q6,e1,e2,hb,if_true]<;>rfl,?_⟩;have:TC op k a b=Qp k a b:=by unfold TC;split<;>simp_all [Qp]
   rw[this];exact Xb _ _
 ·cases h
theorem Z1a (aj:∀ x,SR P B pl tb (ev x) (evV x)) {op:BinOp}{x y:Operand}(h:gq kt raw (.cmp op x y) ev own=some (cs,v)):QOk P B pl tb σ (.cmp op x y) evV v:=by
 simp only[gq] at h;split at h
 ·rename_i k a k' b h1 h2;obtain⟨e1,e2⟩:=Gc aj h1 h2;split at h
  ·rename_i hk;subst hk;obtain⟨rfl,rfl⟩:=QS h;exact⟨_,by simp only[Q6,e1,e2,if_true]<;>rfl,ZT _⟩
  ·cases h
 ·cases h
theorem Z2k (aj:∀ x,SR P B pl tb (ev x) (evV x)) {op:BinOp}{x y:Operand}(h:gq kt raw (.str op x y) ev own=some (cs,v)) (hc:∀ c∈cs,c):QOk P B pl tb σ (.str op x y) evV v:=by
 simp only[gq] at h;split at h
 ·rename_i a b h1 h2;have e1:=VS h1 (aj x);have e2:=VS h2 (aj y);split at h
  ·obtain⟨rfl,rfl⟩:=QS h;have hw:a.length+b.length≤4611686018427387904:=hc _ (by simp);refine⟨.string (⟨a.toArray⟩++⟨b.toArray⟩),by simp only[Q6,e1,e2];rw[if_pos (by simpa [ByteArray.size] using hw)],?_⟩;have:(⟨a.toArray⟩:ByteArray)++⟨b.toArray⟩=⟨(a++b).toArray⟩:=by
    apply ByteArray.ext;simp
   rw[this];exact Aq _
  ·obtain⟨rfl,rfl⟩:=QS h;exact⟨_,by simp only[Q6,e1,e2]<;>rfl,ZT _⟩
  ·obtain⟨rfl,rfl⟩:=QS h;exact⟨_,by simp only[Q6,e1,e2]<;>rfl,ZT _⟩
  ·obtain⟨rfl,rfl⟩:=QS h;exact⟨_,by simp only[Q6,e1,e2]<;>rfl,ZT _⟩
  ·cases h
 ·cases h
theorem Z3l (aj:∀ x,SR P B pl tb (ev x) (evV x)) {neg:Bool}{x y:Operand}(h:gq kt raw (.eqB neg x y) ev own=some (cs,v)):QOk P B pl tb σ (.eqB neg x y) evV v:=by
 simp only[gq] at h;split at h
 ·rename_i a b h1 h2;have e1:=Xk h1 (aj x);have e2:=Xk h2 (aj y);obtain⟨rfl,rfl⟩:=QS h;exact⟨_,by simp only[Q6,e1,e2]<;>rfl,ZT _⟩
 ·cases h
theorem P5 {k:MK}{a b:SV}{r:Bool}{u w:Value}(h:Ee k a b=some r) (ha:SR P B pl tb a u) (hb:SR P B pl tb b w):E4 k u=true∧E4 k w=true∧K1 u w=r:=by
 cases k with
 |agg s=>cases h
 |int q =>
  simp only[Ee] at h;split at h
  ·rename_i q1 x q2 y h1 h2;split at h
   ·rename_i hq;obtain⟨rfl,rfl⟩:=hq;obtain rfl:=osj h;rw[J7 h1 ha,J7 h2 hb];exact⟨by simp[E4],by simp[E4],rfl⟩
   ·cases h
  ·cases h
 |bool =>
  simp only[Ee] at h;split at h
  ·rename_i x y h1 h2;obtain rfl:=osj h;rw[Xk h1 ha,Xk h2 hb];exact⟨rfl,rfl,rfl⟩
  ·cases h
 |string =>
  simp only[Ee] at h;split at h
  ·rename_i x y h1 h2;obtain rfl:=osj h;rw[VS h1 ha,VS h2 hb];exact⟨rfl,rfl,rfl⟩
  ·cases h
theorem DZ:∀ {s:List MK}{l m:List SV}{r:Bool}{us ws:List Value},Hy s l m=some r→SRs P B pl tb l us→SRs P B pl tb m ws→fits s us=true∧fits s ws=true∧Ql us ws=r
 |[],_,_,_,_,_,h,_,_=>by cases h
 |k::ks,[],_,_,_,_,h,_,_=>by simp[Hy] at h
 |k::ks,_::_,[],_,_,_,h,_,_=>by simp[Hy] at h
 |[k],a::l,b::m,r,us,ws,h,ha,hb=>by
  simp only[Hy] at h;split at h
  ·simp only[SRs] at ha hb;obtain⟨u,iz,rfl,h1,rfl⟩:=ha;obtain⟨w,sM,rfl,h2,rfl⟩:=hb;obtain⟨f1,f2,f3⟩:=P5 h h1 h2;simp[fits,Ql,f1,f2,f3]
  ·cases h
 |k::k'::ks,a::l,b::m,r,us,ws,h,ha,hb=>by
  simp only[Hy] at h;split at h
  ·rename_i x y hx hy;obtain rfl:=osj h;simp only[SRs] at ha hb;obtain⟨u,iz,rfl,h1,iw⟩:=ha;obtain⟨w,sM,rfl,h2,lS⟩:=hb;obtain⟨f1,f2,f3⟩:=P5 hx h1 h2;obtain⟨g1,g2,g3⟩:=DZ (s:=k'::ks) hy iw lS;rw[fits,fits,f1,f2,g1,g2,Ql,f3,g3];exact⟨rfl,rfl,rfl⟩
  ·cases h
theorem Q4w (aj:∀ x,SR P B pl tb (ev x) (evV x)) {neg:Bool}{s:List MK}{x y:Operand}(h:gq kt raw (.ext (.eqAgg neg s x y)) ev own=some (cs,v)):QOk P B pl tb σ (.ext (.eqAgg neg s x y)) evV v:=by
 simp only[gq] at h;split at h
 ·rename_i l m h1 h2;obtain⟨b,hb,he⟩:=Option.map_eq_some_iff.1 h;obtain⟨rfl,rfl⟩:=(by cases he;exact⟨rfl,rfl⟩:[]=cs∧SV.val .bo (bif neg then !b else b)=v);have e1:=aj x;have e2:=aj y;rw[h1] at e1;rw[h2] at e2;simp only[SR] at e1 e2;obtain⟨us,e1,k1⟩:=e1;obtain⟨ws,e2,k2⟩:=e2;obtain⟨f1,f2,f3⟩:=DZ hb k1 k2;refine⟨.bool (if neg then !b else b),?_,by cases neg<;>exact ZT _⟩;simp only[Q6,Zj,e1,e2];rw[if_pos ⟨by simpa using f1,by simpa using f2⟩];simp only[f3]
 ·cases h
theorem Z4q (aj:∀ x,SR P B pl tb (ev x) (evV x)) {op:UnOp}{x:Operand}(h:gq kt raw (.un op x) ev own=some (cs,v)) (hc:∀ c∈cs,c):QOk P B pl tb σ (.un op x) evV v:=by
 simp only[gq] at h;split at h
 ·split at h
  ·rename_i b h1;obtain⟨rfl,rfl⟩:=QS h;exact⟨_,by simp only[Q6,Xk h1 (aj x)]<;>rfl,ZT _⟩
  ·cases h
 ·split at h
  ·rename_i k n h1;obtain⟨rfl,rfl⟩:=QS h;have hw:InK k (0-n):=hc _ (by simp);refine⟨_,by simp only[Q6,J7 h1 (aj x)]<;>rfl,?_⟩;rw[hw.wrap];exact Xb _ _
  ·cases h
 ·split at h
  ·rename_i k n h1;obtain⟨rfl,rfl⟩:=QS h;exact⟨_,by simp only[Q6,J7 h1 (aj x)]<;>rfl,Xb _ _⟩
  ·cases h
 ·cases h
theorem Q4v (aj:∀ x,SR P B pl tb (ev x) (evV x)) {k:IntKind}{x:Operand}(h:gq kt raw (.convI k x) ev own=some (cs,v)) (hc:∀ c∈cs,c):QOk P B pl tb σ (.convI k x) evV v:=by
 simp only[gq] at h;split at h
 ·rename_i k' n h1;cases raw with
  |true =>obtain⟨rfl,rfl⟩:=QS h;exact⟨_,by simp only[Q6,J7 h1 (aj x)]<;>rfl,Xb _ _⟩
  |false =>obtain⟨rfl,rfl⟩:=QS h;have hw:InK k n:=hc _ (by simp);refine⟨_,by simp only[Q6,J7 h1 (aj x)]<;>rfl,?_⟩;rw[hw.wrap];exact Xb _ _
 ·cases h
theorem Q40 (aj:∀ x,SR P B pl tb (ev x) (evV x)) {x:Operand}(h:gq kt raw (.convS x) ev own=some (cs,v)):QOk P B pl tb σ (.convS x) evV v:=by
 simp only[gq] at h;split at h
 ·rename_i s h1;obtain⟨rfl,rfl⟩:=QS h;exact⟨_,by simp only[Q6,VS h1 (aj x)]<;>rfl,Aq _⟩
 ·cases h
theorem Q5t (aj:∀ x,SR P B pl tb (ev x) (evV x)) {z:List Value}{ps:List (Nat×Nat×Operand)}(h:gq kt raw (.build z ps) ev own=some (cs,v)):QOk P B pl tb σ (.build z ps) evV v:=by
 simp only[gq] at h;split at h
 ·rename_i l h1;obtain⟨rfl,rfl⟩:=QS h;have hz:SRs P B pl tb (z.map cvp) (z.map id):=SRs.map fun x _=>GD x;rw[List.map_id] at hz;obtain⟨lV,h2,h3⟩:=P9 aj hz h1;refine⟨.agg lV.toArray,by simp only[Q6,h2],?_⟩;simp only[SR];exact⟨lV,rfl,h3⟩
 ·cases h
theorem Q7s (aj:∀ x,SR P B pl tb (ev x) (evV x)) (hle:B.Le σ) (av:∀ d,OR P B pl tb σ (pl d) (Q9 own d)) {agg:Bool}{size:Nat}{a:Operand}(h:gq kt raw (.load agg size a) ev own=some (cs,v)):QOk P B pl tb σ (.load agg size a) evV v:=by
 simp only[gq] at h;cases hb:Nat.blt 0 size with
 |false=>rw[hb] at h;cases h
 |true =>
  rw[hb] at h;simp only[_root_.cond_true,Option.map_eq_some_iff] at h;obtain⟨v',h1,h2⟩:=h;obtain⟨rfl,rfl⟩:=(by simpa only [Prod.mk.injEq] using h2:_=cs∧_=v);have hs:0<size:=by simpa [Nat.blt_eq] using hb
  obtain⟨i,o,c,e,wr,t,u,h3,h4,h5,h6⟩:=H0 hle av hs h1 (aj a);exact⟨u,by simp only[Q6,h3,h4,h5],h6⟩
theorem Cf (aj:∀ x,SR P B pl tb (ev x) (evV x)) {off:Nat}{a:Operand}(h:gq kt raw (.fieldAddr off a) ev own=some (cs,v)):QOk P B pl tb σ (.fieldAddr off a) evV v:=by
 have ha:=aj a;simp only[gq] at h;split at h
 ·rename_i o f heq;obtain⟨rfl,rfl⟩:=QS h;rw[heq] at ha;simp only[SR] at ha;obtain⟨b,h1,h2⟩:=ha;refine⟨_,by simp only[Q6,h2]<;>rfl,?_⟩;simp only[SR];exact⟨b,h1,rfl⟩
 ·rename_i l f heq;obtain⟨rfl,rfl⟩:=QS h;rw[heq] at ha;simp only[SR] at ha;obtain⟨b,c,e,wr,t,h1,h2,h3⟩:=ha;refine⟨_,by simp only[Q6,h2]<;>rfl,?_⟩;simp only[SR];exact⟨b,c,e,wr,t,h1,rfl,h3⟩
 ·rename_i o i f sz heq;obtain⟨rfl,rfl⟩:=QS h;rw[heq] at ha;simp only[SR] at ha;obtain⟨b,len,cap,h1,h2,h3,h4⟩:=ha;refine⟨_,by simp only[Q6,h4]<;>rfl,?_⟩;simp only[SR];exact⟨b,len,cap,h1,h2,h3,by rw[Nat.add_assoc]⟩
 ·rename_i o w heq;rw[heq] at ha;simp only[SR] at ha;split at h
  ·obtain⟨rfl,rfl⟩:=QS h;obtain⟨b,len,cap,h1,h2,h3,h4⟩:=ha;refine⟨_,by simp only[Q6,h4]<;>rfl,?_⟩;simp only[SR,DR];exact⟨b,len,cap,h1,h2,h3,by rw[Nat.add_assoc]⟩
  ·obtain⟨rfl,rfl⟩:=QS h;obtain⟨b,len,cap,c,e,t,r,rl,rc,bF,re,rt,h1,h2,h3,h4,h5,h6,h7,h8,h9,bY,gk,pI⟩:=ha;refine⟨_,by simp only[Q6,pI]<;>rfl,?_⟩;simp only[SR,DR];exact⟨b,len,cap,c,e,t,r,rl,rc,bF,re,rt,h1,h2,h3,h4,h5,h6,h7,h8,h9,bY,gk,by rw[Nat.add_assoc]⟩
  ·obtain⟨rfl,rfl⟩:=QS h;obtain⟨b,o',c,e,wr,t,h1,h2,h3,h4,h5,h6⟩:=ha;refine⟨_,by simp only[Q6,h4]<;>rfl,?_⟩;simp only[SR,DR];exact⟨b,o',c,e,wr,t,h1,h2,h3,by rw[Nat.add_assoc],h5,h6⟩
  ·cases h
 ·rename_i k l i f heq;obtain⟨rfl,rfl⟩:=QS h;rw[heq] at ha;simp only[SR] at ha;obtain⟨b,o,c,e,wr,t,h1,h2,h3,h4,h5,h6⟩:=ha;refine⟨_,by simp only[Q6,h4]<;>rfl,?_⟩;simp only[SR];exact⟨b,o,c,e,wr,t,h1,h2,h3,by rw[Nat.add_assoc],h5,h6⟩
 ·cases h
theorem Q4j (aj:∀ x,SR P B pl tb (ev x) (evV x)) {agg:Bool}{off size:Nat}{x:Operand}(h:gq kt raw (.field agg off size x) ev own=some (cs,v)):QOk P B pl tb σ (.field agg off size x) evV v:=by
 have ha:=aj x;simp only[gq] at h;split at h
 ·rename_i l heq;rw[heq] at ha;simp only[SR] at ha;obtain⟨c,h1,h2⟩:=ha;simp only[Option.map_eq_some_iff] at h;obtain⟨v',h3,h4⟩:=h;obtain⟨rfl,rfl⟩:=(by simpa only [Prod.mk.injEq] using h4:_=cs∧_=v);obtain⟨u,h5,h6⟩:=Jk h2 h3;exact⟨u,by simp only[Q6,h1,h5],h6⟩
 ·cases h
theorem Fc (aj:∀ x,SR P B pl tb (ev x) (evV x)) {x:Operand}{i:Nat}(h:gq kt raw (.extract x i) ev own=some (cs,v)):QOk P B pl tb σ (.extract x i) evV v:=by
 have ha:=aj x;simp only[gq] at h;split at h
 ·rename_i l heq;rw[heq] at ha;simp only[SR] at ha;obtain⟨c,h1,h2⟩:=ha;simp only[Option.map_eq_some_iff] at h;obtain⟨v',h3,h4⟩:=h;obtain⟨rfl,rfl⟩:=(by simpa only [Prod.mk.injEq] using h4:_=cs∧_=v);obtain⟨u,h5,h6⟩:=h2.get h3;exact⟨u,by simp only[Q6,h1,h5],h6⟩
 ·cases h
theorem E7 (aj:∀ x,SR P B pl tb (ev x) (evV x)) {x:Operand}(h:gq kt raw (.nilCheck x) ev own=some (cs,v)):QOk P B pl tb σ (.nilCheck x) evV v:=by
 have ha:=aj x;simp only[gq] at h;split at h
 ·rename_i o f heq;obtain⟨rfl,rfl⟩:=QS h;rw[heq] at ha;have hb:=ha;simp only[SR] at ha;obtain⟨b,h1,h2⟩:=ha;exact⟨_,by simp only[Q6,h2]<;>rfl,by rw[←h2];exact hb⟩
 ·rename_i l f heq;obtain⟨rfl,rfl⟩:=QS h;rw[heq] at ha;have hb:=ha;simp only[SR] at ha;obtain⟨b,c,e,wr,t,h1,h2,h3⟩:=ha;exact⟨_,by simp only[Q6,h2]<;>rfl,by rw[←h2];exact hb⟩
 ·rename_i f a b heq;obtain⟨rfl,rfl⟩:=QS h;rw[heq] at ha;have hb:=ha;simp only[SR] at ha;obtain⟨x1,y1,h1,h2,h3⟩:=ha;exact⟨_,by simp only[Q6,h1]<;>rfl,by rw[←h1];exact hb⟩
 ·cases h
theorem EY (aj:∀ x,SR P B pl tb (ev x) (evV x)) {x i:Operand}(h:gq kt raw (.indexStr x i) ev own=some (cs,v)) (hc:∀ c∈cs,c):QOk P B pl tb σ (.indexStr x i) evV v:=by
 simp only[gq] at h;split at h
 ·rename_i s k j h1 h2;have e1:=VS h1 (aj x);have e2:=J7 h2 (aj i);obtain⟨rfl,rfl⟩:=QS h;have k1:0≤j:=hc _ (by simp);have k2:j<s.length:=hc _ (by simp);have k3:j.toNat<s.length:=by omega
  refine⟨.int .u8 (s[j.toNat].toNat:Int),by simp only[Q6,e1,e2,k1,if_true];simp[k3],?_⟩;have:s.getD j.toNat 0=s[j.toNat]:=by simp[List.getD_eq_getElem?_getD,k3]
  rw[this];exact Xb _ _
 ·cases h
theorem Eu (aj:∀ x,SR P B pl tb (ev x) (evV x)) (fK:∀ c,evV (.const c)=c) {len size:Nat}{agg:Bool}{x i:Operand}(h:gq kt raw (.indexArr len agg size x i) ev own=some (cs,v)):QOk P B pl tb σ (.indexArr len agg size x i) evV v:=by
 have ha:=aj x;simp only[gq] at h;split at h
 ·rename_i l k j heq;split at h
  ·rename_i hj;rw[heq] at ha;simp only[SR] at ha;obtain⟨c,h1,h2⟩:=ha;simp only[Option.map_eq_some_iff] at h;obtain⟨v',h3,h4⟩:=h;obtain⟨rfl,rfl⟩:=(by simpa only [Prod.mk.injEq] using h4:_=cs∧_=v);obtain⟨u,h5,h6⟩:=Jk h2 h3;refine⟨u,?_,h6⟩;simp only[Q6,h1,fK];rw[if_pos ⟨by simp,by simpa using hj⟩];simp[h5]
  ·cases h
 ·cases h
theorem Th (aj:∀ x,SR P B pl tb (ev x) (evV x)) (fK:∀ c,evV (.const c)=c) {len size:Nat}{x i:Operand}(h:gq kt raw (.indexAddrArr len size x i) ev own=some (cs,v)):QOk P B pl tb σ (.indexAddrArr len size x i) evV v:=by
 have ha:=aj x;simp only[gq] at h;split at h
 ·rename_i o f k j heq;split at h
  ·rename_i hj;obtain⟨rfl,rfl⟩:=QS h;rw[heq] at ha;simp only[SR] at ha;obtain⟨b,h1,h2⟩:=ha;refine⟨.pointer (some ⟨b,f+j*size,none⟩),?_,?_⟩
   ·simp only[Q6,h2,fK];rw[if_pos ⟨by simp,by simpa using hj⟩];simp
   ·simp only[SR];exact⟨b,h1,rfl⟩
  ·cases h
 ·rename_i l f k j heq;split at h
  ·rename_i hj;obtain⟨rfl,rfl⟩:=QS h;rw[heq] at ha;simp only[SR] at ha;obtain⟨b,c,e,wr,t,h1,h2,h3⟩:=ha;refine⟨.pointer (some ⟨b,f+j*size,none⟩),?_,?_⟩
   ·simp only[Q6,h2,fK];rw[if_pos ⟨by simp,by simpa using hj⟩];simp
   ·simp only[SR];exact⟨b,c,e,wr,t,h1,rfl,h3⟩
  ·cases h
 ·cases h
theorem CI (aj:∀ x,SR P B pl tb (ev x) (evV x)) (_hle:B.Le σ) (av:∀ d,OR P B pl tb σ (pl d) (Q9 own d)) {size:Nat}{x i:Operand}(h:gq kt raw (.indexAddr size x i) ev own=some (cs,v)) (hc:∀ c∈cs,c):QOk P B pl tb σ (.indexAddr size x i) evV v:=by
 have ha:=aj x;simp only[gq] at h;split at h
 ·rename_i o k' j heq hj;have ej:=J7 hj (aj i);split at h
  ·rename_i ty k xs nl ho;split at h
   ·rename_i aI;obtain⟨rfl,rfl⟩:=QS h;have h0:0≤j:=hc _ (by simp);have h1:j<xs.length:=hc _ (by simp);rw[heq] at ha;simp only[SR] at ha;have al:=av o;rw[ho] at al;rcases al with⟨_,rfl,_⟩|⟨_,b,cap,c,t,h2,h3,h4,h5,h6⟩
    ·simp at h1;omega
    ·refine⟨.pointer (some ⟨b,0+j.toNat*size,none⟩),?_,?_⟩
     ·simp only[Q6,ha.1,h2,ej];rw[if_pos ⟨h0,h1⟩]
     ·simp only[SR];exact⟨b,_,cap,h2,h0,h1,by simp⟩
   ·cases h
  ·cases h
 ·rename_i o w k' j heq hj;have ej:=J7 hj (aj i);rw[heq] at ha;simp only[SR] at ha;have al:=av o;split at h
  ·rename_i ty q k xs nl hole ho;rw[ho] at al;split at h
   ·have key:(if k.size=size then some ([0≤j,j<xs.length],SV.dd o (.el j 0 size)) else none)=some (cs,v)→QOk P B pl tb σ (.indexAddr size x i) evV v:=by
     intro h;split at h
     ·rename_i aI;obtain⟨rfl,rfl⟩:=QS h;have h0:0≤j:=hc _ (by simp);have h1:j<xs.length:=hc _ (by simp);obtain⟨is,_,_,h2,_⟩:=al;rcases h2 with⟨rfl,_⟩|⟨b,cap,c,t,js,h2,_⟩
      ·simp at h1;omega
      ·refine⟨.pointer (some ⟨b,0+j.toNat*size,none⟩),?_,?_⟩
       ·simp only[Q6,ha.1,h2,ej];rw[if_pos ⟨h0,h1⟩]
       ·simp only[SR,DR];exact⟨b,_,cap,h2,h0,h1,by simp⟩
     ·cases h
    split at h
    ·exact key h
    ·exact key h
   ·rename_i kr l ir;split at h
    ·rename_i aI;obtain⟨rfl,rfl⟩:=QS h;have h0:0≤j:=hc _ (by simp);have h1:j<l.length:=hc _ (by simp);obtain⟨sN,bn,b,len,cap,c,e,t,g1,g2,g3,g4,g5⟩:=ha;obtain⟨r,o',rc,bF,re,qF,rt,k1,k2,k3,k4⟩:=CV sN (j:=j.toNat) (by omega);obtain rfl:o'=0:=bn _ _ _ k1;obtain rfl:=Oq k2;refine⟨.pointer (some ⟨r,0+j.toNat*size,none⟩),?_,?_⟩
     ·simp only[Q6,k1,ej];rw[if_pos ⟨h0,h1⟩]
     ·simp only[SR,DR];exact⟨b,len,cap,c,e,t,r,l.length,rc,bF,re,rt,g1,g2,g3,g4,by rw[g5,k1],h0,h1,rfl,k2,by omega,by rw[List.drop_zero] at k4;exact k4,by simp[aI]⟩
    ·cases h
   ·rename_i kr l;split at h
    ·rename_i aI;obtain⟨rfl,rfl⟩:=QS h;have h0:0≤j:=hc _ (by simp);have h1:j<l.length:=hc _ (by simp);obtain⟨r,o',rc,bF,re,qF,rt,k1,k2,k3,k4⟩:=CV (show KC (Xa (pl o)) (.list kr) l [evV x] from ha) (j:=j.toNat) (by omega);refine⟨.pointer (some ⟨r,o'+j.toNat*size,none⟩),?_,?_⟩
     ·simp only[Q6,k1,ej];rw[if_pos ⟨h0,h1⟩]
     ·simp only[SR,DR];exact⟨r,o',bF,re,qF,rt,h0,h1,k2,by simp[aI],k3,k4⟩
    ·cases h
   ·cases h
  ·cases h
 ·rename_i o lo n sz k' j heq hj;have ej:=J7 hj (aj i);split at h
  ·rename_i ty k xs nl ho;split at h
   ·rename_i aI;obtain⟨aI,rfl⟩:=aI;obtain⟨rfl,rfl⟩:=QS h;have h0:0≤j:=hc _ (by simp);have h1:j<n:=hc _ (by simp);rw[heq] at ha;simp only[SR] at ha;rcases ha with⟨rfl,rfl,_,_⟩|⟨b,len,cap,au,h2,h3,h4,h5⟩
    ·simp at h1;omega
    ·refine⟨.pointer (some ⟨b,lo*sz+j.toNat*sz,none⟩),?_,?_⟩
     ·simp only[Q6,h5,ej];rw[if_pos ⟨h0,h1⟩]
     ·simp only[SR];refine⟨b,len,cap,h2,by omega,by omega,?_⟩;have:((lo:Int)+j).toNat=lo+j.toNat:=by omega
      rw[this,Nat.add_mul,Nat.add_zero]
   ·cases h
  ·cases h
 ·rename_i k l k' j heq hj;have ej:=J7 hj (aj i);split at h
  ·rename_i aI;obtain⟨rfl,rfl⟩:=QS h;have h0:0≤j:=hc _ (by simp);have h1:j<l.length:=hc _ (by simp);rw[heq] at ha;simp only[SR,KC] at ha;obtain⟨v',e,hs⟩:=ha;obtain e:=(List.cons.inj e).1;rcases hs with⟨rfl,_⟩|⟨b,o,cap,c,e',wr,t,h2,h3,h4,h5,h6,h7⟩
   ·simp at h1;omega
   ·refine⟨.pointer (some ⟨b,o+j.toNat*size,none⟩),?_,?_⟩
    ·simp only[Q6,e,h2,ej];rw[if_pos ⟨h0,h1⟩]
    ·simp only[SR];exact⟨b,o,c,e',wr,t,h0,h1,h4,by rw[aI,Nat.add_zero],h6,h7⟩
  ·cases h
 ·cases h
theorem QY (aj:∀ x,SR P B pl tb (ev x) (evV x)) {x:Option Operand}{d:Nat}{a:Int}(h:Wn ev x d=some a) (ha:0≤a):Jc evV x d=some a.toNat:=by
 cases x with
 |none=>obtain rfl:=osj h;simp[Jc]
 |some x =>simp only[Wn,Option.map_eq_some_iff] at h;obtain⟨⟨k,a'⟩,h1,h2⟩:=h;simp only at h2;subst h2;simp only[Jc,J7 h1 (aj x),ha,if_true]
theorem F4 (aj:∀ x,SR P B pl tb (ev x) (evV x)) {x:Operand}{lo hi:Option Operand}(h:gq kt raw (.sliceStr x lo hi) ev own=some (cs,v)) (hc:∀ c∈cs,c):QOk P B pl tb σ (.sliceStr x lo hi) evV v:=by
 simp only[gq] at h;split at h
 ·rename_i s hs;have es:=VS hs (aj x);split at h
  ·rename_i a b h1 h2;obtain⟨rfl,rfl⟩:=QS h;have k0:0≤a:=hc _ (by simp);have k1:a≤b:=hc _ (by simp);have k2:b≤s.length:=hc _ (by simp);have e1:=QY (evV:=evV) aj h1 k0;have e2:=QY (evV:=evV) aj h2 (by omega);have g8:(ByteArray.mk s.toArray).size=s.length:=by simp[ByteArray.size]
   refine⟨.string ((ByteArray.mk s.toArray).extract a.toNat b.toNat),?_,?_⟩
   ·simp only[Q6,es,g8,e1,e2];rw[if_pos (by omega)]
   ·have:(ByteArray.mk s.toArray).extract a.toNat b.toNat=⟨((s.drop a.toNat).take (b-a).toNat).toArray⟩:=by
     apply ByteArray.ext;simp[ByteArray.data_extract];rw[show (b-a).toNat=b.toNat-a.toNat by omega]
    rw[this];exact Aq _
  ·cases h
 ·cases h
theorem Z3a (aj:∀ x,SR P B pl tb (ev x) (evV x)) (av:∀ d,OR P B pl tb σ (pl d) (Q9 own d)) {x:Operand}(h:gq kt raw (.len x) ev own=some (cs,v)):QOk P B pl tb σ (.len x) evV v:=by
 simp only[gq] at h;split at h
 ·rename_i n h1;obtain⟨rfl,rfl⟩:=QS h;obtain⟨a,cap,e⟩:=Ei av h1 (aj x);exact⟨.int .i64 n,by simp only[Q6,e],Xb _ _⟩
 ·cases h
theorem Q0m (aj:∀ x,SR P B pl tb (ev x) (evV x)) {x:Operand}(h:gq kt raw (.lenStr x) ev own=some (cs,v)):QOk P B pl tb σ (.lenStr x) evV v:=by
 simp only[gq] at h;split at h
 ·rename_i s h1;obtain⟨rfl,rfl⟩:=QS h;exact⟨.int .i64 s.length,by simp only[Q6,VS h1 (aj x)];simp[ByteArray.size],Xb _ _⟩
 ·cases h
theorem Z37 (aj:∀ x,SR P B pl tb (ev x) (evV x)) {x y:Operand}(h:gq kt raw (.max x y) ev own=some (cs,v)):QOk P B pl tb σ (.max x y) evV v:=by
 simp only[gq] at h;split at h
 ·rename_i k a k' b h1 h2;obtain⟨e1,e2⟩:=Gc aj h1 h2;split at h
  ·rename_i hk;subst hk;obtain⟨rfl,rfl⟩:=QS h;exact⟨.int k (Q1q a b),by simp only[Q6,e1,e2,if_true];rfl,Xb _ _⟩
  ·cases h
 ·cases h
theorem Q7h (aj:∀ x,SR P B pl tb (ev x) (evV x)) {x y z w:Operand}(h:gq kt raw (.max4 x y z w) ev own=some (cs,v)):QOk P B pl tb σ (.max4 x y z w) evV v:=by
 simp only[gq] at h;split at h
 ·rename_i k a k2 b k3 c k4 d h1 h2 h3 h4;obtain⟨e1,e2⟩:=Gc aj h1 h2;obtain⟨e3,e4⟩:=Gc aj h3 h4;split at h
  ·rename_i hk;obtain⟨rfl,rfl,rfl⟩:=hk;obtain⟨rfl,rfl⟩:=QS h;exact⟨.int k (Q1q (Q1q (Q1q a b) c) d),by simp only[Q6,e1,e2,e3,e4,and_self,if_true];rfl,Xb _ _⟩
  ·cases h
 ·cases h
theorem Z1z (aj:∀ x,SR P B pl tb (ev x) (evV x)) {x y:Operand}(h:gq kt raw (.min x y) ev own=some (cs,v)):QOk P B pl tb σ (.min x y) evV v:=by
 simp only[gq] at h;split at h
 ·rename_i k a k' b h1 h2;obtain⟨e1,e2⟩:=Gc aj h1 h2;split at h
  ·rename_i hk;subst hk;obtain⟨rfl,rfl⟩:=QS h;exact⟨.int k (Z4d a b),by simp only[Q6,e1,e2,if_true];rfl,Xb _ _⟩
  ·cases h
 ·cases h
theorem EJ (aj:∀ x,SR P B pl tb (ev x) (evV x)) {fn:Fn}{a b:List Operand}(h:gq kt raw (.makeFunc fn a b) ev own=some (cs,v)):QOk P B pl tb σ (.makeFunc fn a b) evV v:=by
 cases fn with
 |func f =>obtain⟨rfl,rfl⟩:=QS h;refine⟨.func (.func f) (a.map evV).toArray (b.map evV).toArray,by simp only[Q6],?_⟩;simp only[SR];exact⟨_,_,rfl,SRs.map fun x _=>aj x,SRs.map fun x _=>aj x⟩
 |_=>cases h
theorem SlRel.sl {h:Heap}{sz:Nat}{α:Type}{R:α→List Value→Prop}{l:List α}{v:Value}(hs:SlRel h sz R l v):∃ cs a cap,h.sl sz v=some cs∧Rows R l cs∧v=.slice a l.length cap:=by
 rcases hs with⟨rfl,rfl⟩|⟨i,o,cap,c,e,wr,t,rfl,h2,h3,h4,h5,h6⟩
 ·exact⟨[],_,_,rfl,.nil,rfl⟩
 ·refine⟨_,_,cap,?_,h6,rfl⟩;simp only[Heap.sl,h3];rw[if_pos ⟨h4,h5⟩]
theorem FZ {h:Heap}:∀ {xs:List Int}{cs:List Value},Rows (KC h (.i .u8)) xs cs→Bb cs=some ⟨(xs.map fun x=>x.toNat.toUInt8).toArray⟩:=by
 have key:∀ {xs:List Int}{cs:List Value},Rows (KC h (.i .u8)) xs cs→cs.mapM Cy=some (xs.map fun x=>x.toNat.toUInt8):=fun {xs cs} hr=>by
  induction hr with
  |nil=>rfl
  |@cons x xs c cs hx _ ih =>simp only[KC] at hx;subst hx;simp only[List.singleton_append,List.mapM_cons,Cy,ih,List.map_cons];rfl
 intro xs cs hr;simp only[Bb,key hr,Option.map_some]
theorem ER (aj:∀ x,SR P B pl tb (ev x) (evV x)) (hle:B.Le σ) (av:∀ d,OR P B pl tb σ (pl d) (Q9 own d)) {x:Operand}(h:gq kt raw (.ext (.bytesStr x)) ev own=some (cs,v)):QOk P B pl tb σ (.ext (.bytesStr x)) evV v:=by
 simp only[gq] at h;split at h
 ·rename_i xs h1;obtain⟨rfl,rfl⟩:=QS h;obtain⟨cs,a,cap,h2,h3,h4⟩:=(V2 hle av h1 (aj x)).sl;refine⟨.string ⟨(Q2e xs).toArray⟩,?_,Aq _⟩;have aI:Kind.size (.i .u8)=1:=rfl;rw[h4,aI] at h2;simp only[Q6,Zj,h4,h2,FZ h3];rfl
 ·cases h
theorem OO (aj:∀ x,SR P B pl tb (ev x) (evV x)) (av:∀ d,OR P B pl tb σ (pl d) (Q9 own d)) {neg:Bool}{x y:Operand}(h:gq kt raw (.ext (.eqNil 0 neg x y)) ev own=some (cs,v)) (hc:∀ c∈cs,c):QOk P B pl tb σ (.ext (.eqNil 0 neg x y)) evV v:=by
 have hx:=aj x;have hy:=aj y;simp only[gq] at h;split at h
 ·rename_i h1 h2;obtain⟨rfl,rfl⟩:=QS h;rw[h1] at hx;rw[h2] at hy;simp only[SR] at hx hy;exact⟨.bool (!neg),by simp only[Q6,Zj,hx,hy,J5];cases neg<;>rfl,ZT _⟩
 ·rename_i o f h1 h2;obtain⟨rfl,rfl⟩:=QS h;rw[h1] at hx;rw[h2] at hy;simp only[SR] at hx hy;obtain⟨b,_,hb⟩:=hx;exact⟨.bool neg,by simp only[Q6,Zj,hb,hy,J5];cases neg<;>rfl,ZT _⟩
 ·rename_i l f h1 h2;obtain⟨rfl,rfl⟩:=QS h;rw[h1] at hx;rw[h2] at hy;simp only[SR] at hx hy;obtain⟨b,c,e,wr,t,_,hb,_⟩:=hx;exact⟨.bool neg,by simp only[Q6,Zj,hb,hy,J5];cases neg<;>rfl,ZT _⟩
 ·rename_i o c h1 h2;obtain⟨rfl,rfl⟩:=QS h;rw[h1] at hx;rw[h2] at hy;simp only[SR,DR] at hx hy;rcases hx with⟨rfl,hb⟩|⟨rfl,b,_,hb⟩
  ·exact⟨.bool (bif neg then false else true),by simp only[Q6,Zj,hb,hy,J5];cases neg<;>rfl,ZT _⟩
  ·exact⟨.bool (bif neg then true else false),by simp only[Q6,Zj,hb,hy,J5];cases neg<;>rfl,ZT _⟩
 ·rename_i o c o' f h1 h2;split at h
  ·rename_i l u ho;split at h
   ·rename_i he;obtain⟨rfl,rfl⟩:=he;obtain⟨rfl,rfl⟩:=QS h;have sO:c=true:=hc _ (by simp);rw[h1] at hx;rw[h2] at hy;simp only[SR,DR] at hx hy;have al:=av o;rw[ho] at al;obtain⟨i,cc,e,t,hp,hg,_⟩:=al;obtain⟨b',bg,hy⟩:=hy;rcases hx with⟨jA,_⟩|⟨_,b,de,hb⟩
    ·rw[sO] at jA;cases jA
    ·rw[hp] at bg de;simp only[phd,Value.pointer.injEq,Option.some.injEq] at bg de;have e1:i=b':=by injection bg
     have e2:i=b:=by injection de
     subst e1;subst e2;exact⟨.bool (!neg),by simp only[Q6,Zj,hb,hy,J5,hg,Option.isSome_some,and_self,if_true];cases neg<;>rfl,ZT _⟩
   ·cases h
  ·cases h
 ·cases h
theorem Ek (aj:∀ x,SR P B pl tb (ev x) (evV x)) (av:∀ d,OR P B pl tb σ (pl d) (Q9 own d)) {x:Operand}(h:gq kt raw (.ext (.toUnsafe x)) ev own=some (cs,v)):QOk P B pl tb σ (.ext (.toUnsafe x)) evV v:=by
 have hx:=aj x;simp only[gq] at h;split at h
 ·rename_i o f h1;split at h
  ·rename_i l u ho;split at h
   ·rename_i hf;obtain⟨rfl,rfl⟩:=QS h;rw[h1] at hx;have pJ:=hx;simp only[SR] at hx;obtain⟨b,hp,hv⟩:=hx;have al:=av o;rw[ho] at al;obtain⟨i,c,e,t,de,hg,hl,_⟩:=al;rw[hp] at de;have e1:b=i:=by simpa using de
    subst e1;refine⟨.pointer (some ⟨b,f,none⟩),?_,by rw[←hv];exact pJ⟩;simp only[Q6,Zj,hv,hg];rw[if_pos (by rw[←hl.length];exact hf)]
   ·cases h
  ·cases h
 ·cases h
theorem L8 (aj:∀ x,SR P B pl tb (ev x) (evV x)) (av:∀ d,OR P B pl tb σ (pl d) (Q9 own d)) {u size:Nat}{x:Operand}(h:gq kt raw (.ext (.fromUnsafe u size x)) ev own=some (cs,v)):QOk P B pl tb σ (.ext (.fromUnsafe u size x)) evV v:=by
 have hx:=aj x;simp only[gq] at h;split at h
 ·rename_i o f h1;split at h
  ·rename_i l t0 ho;split at h
   ·rename_i hf;obtain⟨rfl,rfl,aI⟩:=hf;obtain⟨rfl,rfl⟩:=QS h;rw[h1] at hx;have pJ:=hx;simp only[SR] at hx;obtain⟨b,hp,hv⟩:=hx;have al:=av o;rw[ho] at al;obtain⟨i,c,e,t,de,hg,hl,hu⟩:=al;obtain⟨he,ht⟩:=hu _ rfl;subst ht;rw[hp] at de;have e1:b=i:=by simpa using de
    subst e1;refine⟨.pointer (some ⟨b,0,none⟩),?_,by rw[←hv];exact pJ⟩;simp only[Q6,Zj,hv,hg];rw[if_pos ⟨trivial,he,by rw[←hl.length];exact aI⟩]
   ·cases h
  ·cases h
 ·cases h
theorem C6 (aj:∀ x,SR P B pl tb (ev x) (evV x)) (av:∀ d,OR P B pl tb σ (pl d) (Q9 own d)) {x:Operand}(h:gq kt raw (.ext (.sliceData x)) ev own=some (cs,v)) (hc:∀ c∈cs,c):QOk P B pl tb σ (.ext (.sliceData x)) evV v:=by
 have hx:=aj x;simp only[gq] at h;split at h
 ·rename_i h1;obtain⟨rfl,rfl⟩:=QS h;rw[h1] at hx;simp only[SR] at hx;exact⟨.pointer none,by simp only[Q6,Zj,hx],by simp[SR]⟩
 ·rename_i o h1;split at h
  ·rename_i ty k xs nl ho;obtain⟨rfl,rfl⟩:=QS h;have dU:nl=false→xs≠[]:=hc _ (by simp);rw[h1] at hx;simp only[SR] at hx;have al:=av o;rw[ho] at al;rcases al with⟨_,_,hp⟩|⟨kE,i,cap,c,t,hp,c_,hg,_⟩
   ·refine⟨.pointer none,by simp only[Q6,Zj,hx.1,hp],?_⟩;simp only[SR,DR];exact .inl ⟨by rw[hp];rfl,trivial⟩
   ·have aA:=List.length_pos_iff.2 (dU kE);refine⟨.pointer (some ⟨i,0,none⟩),?_,?_⟩
    ·simp only[Q6,Zj,hx.1,hp,hg,Option.isSome_some,and_true];rw[if_pos (by omega)]
    ·simp only[SR,DR];exact .inr ⟨i,xs.length,cap,by rw[hp];rfl,aA,rfl⟩
  ·cases h
 ·cases h
theorem HM {size:Nat}{i o len cap l h:Nat}{c:List Value}{e:El}{wr t:Bool}(hg:σ.get i=some (.cells c e wr t)) (he:e.sz=size) (h1:l≤h) (h2:h≤cap) :
  Yh size σ (.slice (some ⟨i,o,none⟩) len cap) l h none=some (.slice (some ⟨i,o+l*size,none⟩) (h-l) (cap-l),σ):=by
 simp only[Yh,hg];rw[if_pos ⟨he,h1,h2⟩]
theorem Q6w {H:Heap}{k:Kind}{l:List k.T}{v:Value}(h:KC H (.list k) l [v]):∃ a c,v=.slice a l.length c:=by
 obtain⟨v',e,hs⟩:=h;obtain rfl:=(List.cons.inj e).1;rcases hs with⟨rfl,rfl⟩|⟨i,o,cap,c,e',wr,t,rfl,_⟩
 ·exact⟨_,_,rfl⟩
 ·exact⟨_,_,rfl⟩
theorem Ad {H:Heap}(hle:H.Le σ) {k:Kind}{l:List k.T}{v:Value}{a b:Nat}(h:KC H (.list k) l [v]) (k1:a≤b) (k2:b≤l.length) :
  ∃ u,Yh k.size σ v a b none=some (u,σ)∧KC H (.list k) ((l.drop a).take (b-a)) [u]:=by
 obtain⟨v',e,hs⟩:=h;obtain rfl:=(List.cons.inj e).1;rcases hs with⟨rfl,rfl⟩|⟨i,o,cap,c,e',wr,t,rfl,h4,h5,h6,h7,h8⟩
 ·simp only[List.length_nil] at k2;have za:a=0:=by omega
  have zb:b=0:=by omega
  subst za;subst zb;exact⟨.slice none 0 0,by simp only[Yh];rfl,_,rfl,.inl ⟨by simp,rfl⟩⟩
 ·have hlen:((l.drop a).take (b-a)).length=b-a:=by simp;omega
  refine⟨.slice (some ⟨i,o+a*k.size,none⟩) (b-a) (cap-a),HM (hle.2 _ _ h5) h6 (by omega) (by omega),_,rfl,.inr ⟨i,o+a*k.size,cap-a,c,e',wr,t,by rw[hlen],by rw[hlen];omega,h5,h6,?_,?_⟩⟩
  ·rw[hlen];have:(a+(b-a))*k.size≤l.length*k.size:=Nat.mul_le_mul_right _ (by omega);rw[Nat.add_mul] at this;omega
  ·rw[hlen];have:=(h8.drop KC.rows_len a).take KC.rows_len (b-a);have e3:(((c.drop o).take (l.length*k.size)).drop (a*k.size)).take ((b-a)*k.size)=(c.drop (o+a*k.size)).take ((b-a)*k.size):=by
    apply List.ext_getElem?;intro j;simp only[List.getElem?_take,List.getElem?_drop];split
    ·have:(a+(b-a))*k.size≤l.length*k.size:=Nat.mul_le_mul_right _ (by omega);rw[Nat.add_mul] at this;rw[if_pos (by omega),Nat.add_assoc]
    ·rfl
   rw[e3] at this;exact this
theorem Q5d (aj:∀ x,SR P B pl tb (ev x) (evV x)) (hle:B.Le σ) (av:∀ d,OR P B pl tb σ (pl d) (Q9 own d)) {size:Nat}{x:Operand}{lo hi mx:Option Operand}(h:gq kt raw (.slice size x lo hi mx) ev own=some (cs,v)) (hc:∀ c∈cs,c):QOk P B pl tb σ (.slice size x lo hi mx) evV v:=by
 have ha:=aj x;cases mx with
 |some m=>cases h
 |none =>
 simp only[gq] at h;split at h
 ·rename_i o heq;rw[heq] at ha;simp only[SR] at ha;have al:=av o;split at h
  ·rename_i ty k xs nl ho;rw[ho] at al;split at h
   ·rename_i aI;split at h
    ·rename_i a b h1 h2;obtain⟨rfl,rfl⟩:=QS h;have k0:0≤a:=hc _ (by simp);have k1:a≤b:=hc _ (by simp);have k2:b≤xs.length:=hc _ (by simp);have e1:=QY (evV:=evV) (d:=0) aj h1 k0;have e2:=QY (evV:=evV) aj h2 (by omega);rcases al with⟨_,rfl,h3⟩|⟨_,i,cap,c,t,h3,h4,h5,h6,h7⟩
     ·simp only[List.length_nil] at k2 e2;have za:a.toNat=0:=by omega
      have zb:b.toNat=0:=by omega
      have zc:(b-a).toNat=0:=by omega
      refine⟨.slice none 0 0,?_,?_⟩
      ·simp only[Q6,ha.1,h3,e1,e2,za,zb,Yh];rfl
      ·rw[za,zc];simp only[SR];exact .inl ⟨trivial,trivial,trivial,h3⟩
     ·refine⟨.slice (some ⟨i,0+a.toNat*size,none⟩) (b.toNat-a.toNat) (cap-a.toNat),?_,?_⟩
      ·simp only[Q6,ha.1,h3,e1,e2];exact HM h5 aI (by omega) (by omega)
      ·simp only[SR];refine .inr ⟨i,_,cap,cap-a.toNat,h3,by omega,by omega,?_⟩;rw[Nat.zero_add,show (b-a).toNat=b.toNat-a.toNat by omega]
    ·cases h
   ·cases h
  ·cases h
 ·rename_i o l0 n sz heq;rw[heq] at ha;simp only[SR] at ha;have al:=av o;split at h
  ·rename_i ty k xs nl ho;rw[ho] at al;split at h
   ·rename_i aI;obtain⟨aI,rfl⟩:=aI;split at h
    ·rename_i a b h1 h2;obtain⟨rfl,rfl⟩:=QS h;have k0:0≤a:=hc _ (by simp);have k1:a≤b:=hc _ (by simp);have k2:b≤n:=hc _ (by simp);have e1:=QY (evV:=evV) (d:=0) aj h1 k0;have e2:=QY (evV:=evV) aj h2 (by omega);rcases ha with⟨rfl,rfl,hv,hp⟩|⟨i,len,cap,au,h3,h4,h5,hv⟩
     ·have za:a.toNat=0:=by omega
      have zb:b.toNat=0:=by omega
      have zc:(b-a).toNat=0:=by omega
      refine⟨.slice none 0 0,?_,?_⟩
      ·simp only[Q6,hv,e1,e2,za,zb,Yh];rfl
      ·rw[za,zc];simp only[SR];exact .inl ⟨trivial,trivial,trivial,hp⟩
     ·rcases al with⟨_,_,h6⟩|⟨_,i',gZ,c,t,h6,h7,h8,h9,bY⟩
      ·rw[h3] at h6;cases h6
      ·rw[h3] at h6;obtain⟨rfl,rfl,rfl⟩:=(by simpa using h6:i=i'∧len=xs.length∧cap=gZ);refine⟨.slice (some ⟨i,l0*sz+a.toNat*sz,none⟩) (b.toNat-a.toNat) (au-a.toNat),?_,?_⟩
       ·simp only[Q6,hv,e1,e2];exact HM h8 aI (by omega) (by omega)
       ·simp only[SR];refine .inr ⟨i,_,cap,au-a.toNat,h3,by omega,by omega,?_⟩;rw[Nat.add_mul,show (b-a).toNat=b.toNat-a.toNat by omega]
    ·cases h
   ·cases h
  ·cases h
 ·rename_i k l heq;rw[heq] at ha;simp only[SR] at ha;split at h
  ·rename_i aI;split at h
   ·rename_i a b h1 h2;obtain⟨rfl,rfl⟩:=QS h;have k0:0≤a:=hc _ (by simp);have k1:a≤b:=hc _ (by simp);have k2:b≤l.length:=hc _ (by simp);have e1:=QY (evV:=evV) (d:=0) aj h1 k0;have e2:=QY (evV:=evV) aj h2 (by omega);obtain⟨v',e⟩:=List.length_eq_one_iff.1 (KC.length ha);obtain⟨u,g1,g2⟩:=Ad hle (a:=a.toNat) (b:=b.toNat) ha (by omega) (by omega);obtain⟨n,cap,e3⟩:=Q6w ha;refine⟨u,?_,?_⟩
    ·simp only[Q6,e3,e1,e2];rw[←aI,←e3];exact g1
    ·simp only[SR];rw[show (b-a).toNat=b.toNat-a.toNat by omega];exact g2
   ·cases h
  ·cases h
 ·rename_i o w heq;rw[heq] at ha;simp only[SR] at ha;have al:=av o;split at h
  ·rename_i ty q k xs nl hole ho;rw[ho] at al
   have key:∀ (k:Kind) (l:List k.T),KC (Xa (pl o)) (.list k) l [evV x]→(if k.size=size then (match Wn ev lo 0,Wn ev hi l.length with
     |some a,some b=>some ([0≤a,a≤b,b≤(l.length:Int)],SV.dd o (.inn k ((l.drop a.toNat).take (b-a).toNat)))
     |_,_=>none) else none)=some (cs,v)→QOk P B pl tb σ (.slice size x lo hi none) evV v:=by
    intro k l ha h;split at h
    ·rename_i aI;split at h
     ·rename_i a b h1 h2;obtain⟨rfl,rfl⟩:=QS h;have k0:0≤a:=hc _ (by simp);have k1:a≤b:=hc _ (by simp);have k2:b≤l.length:=hc _ (by simp);have e1:=QY (evV:=evV) (d:=0) aj h1 k0;have e2:=QY (evV:=evV) aj h2 (by omega);obtain⟨u,g1,g2⟩:=Ad (DP.le al) (a:=a.toNat) (b:=b.toNat) ha (by omega) (by omega);obtain⟨n,cap,e3⟩:=(Ht ha).len;refine⟨u,?_,?_⟩
      ·simp only[Q6,e3,e1,e2];rw[←aI,←e3];exact g1
      ·simp only[SR,DR];rw[show (b-a).toNat=b.toNat-a.toNat by omega];exact g2
     ·cases h
    ·cases h
   split at h
   ·exact key _ _ ha h
   ·exact key _ _ ha.1 h
   ·cases h
  ·cases h
 ·rename_i heq;rw[heq] at ha;simp only[SR] at ha;split at h
  ·rename_i a b h1 h2;obtain⟨rfl,rfl⟩:=QS h;have k0:a=0:=hc _ (by simp);have k1:b=0:=hc _ (by simp);subst k0;subst k1;have e1:=QY (evV:=evV) (d:=0) aj h1 (Int.le_refl _);have e2:=QY (evV:=evV) (d:=0) aj h2 (Int.le_refl _);refine⟨.slice none 0 0,?_,?_⟩
   ·simp only[Q6,ha,e1,e2,Yh];rfl
   ·simp only[SR]
  ·cases h
 ·cases h
theorem Q53 (aj:∀ x,SR P B pl tb (ev x) (evV x)) {neg:Bool}{x y:Operand}(av:∀ d,OR P B pl tb σ (pl d) (Q9 own d)) (h:gq kt raw (.ext (.eqNil 1 neg x y)) ev own=some (cs,v)) (hc:∀ c∈cs,c):QOk P B pl tb σ (.ext (.eqNil 1 neg x y)) evV v:=by
 have ha:=aj x;have hb:=aj y;simp only[gq] at h;split at h
 ·rename_i h1 h2;rw[h1] at ha;rw[h2] at hb;simp only[SR] at ha hb;obtain⟨rfl,rfl⟩:=QS h;refine⟨.bool (!neg),?_,ZT _⟩;simp only[Q6,Zj,ha,hb,J5];cases neg<;>rfl
 ·rename_i o h1 h2;rw[h1] at ha;rw[h2] at hb;simp only[SR] at ha hb;have al:=av o;split at h
  ·rename_i ty k xs nl ho;rw[ho] at al;obtain⟨rfl,rfl⟩:=QS h;refine⟨.bool (bif neg then !nl else nl),?_,ZT _⟩;rcases al with⟨rfl,_,h3⟩|⟨rfl,i,cap,c,t,h3,_⟩
   ·simp only[Q6,Zj,ha.1,h3,hb,J5];cases neg<;>rfl
   ·simp only[Q6,Zj,ha.1,h3,hb,J5];cases neg<;>rfl
  ·cases h
 ·rename_i o h1 h2;rw[h1] at ha;rw[h2] at hb;simp only[SR] at ha hb;have al:=av o;split at h
  ·rename_i ty q k xs nl hole ho;rw[ho] at al;obtain⟨rfl,rfl⟩:=QS h;refine⟨.bool (bif neg then !nl else nl),?_,ZT _⟩;obtain⟨is,_,_,g2,_,_,g5⟩:=al;obtain⟨e1,_⟩:=ha;rcases g2 with⟨_,h3,_⟩|⟨i,cap,c,t,js,h3,_⟩
   ·obtain rfl:=g5.2 h3;simp only[Q6,Zj,e1,h3,hb,J5];cases neg<;>rfl
   ·have hn:nl=false:=by
     cases nl with
     |false=>rfl
     |true=>rw[g5.1 rfl] at h3;cases h3
    subst hn;simp only[Q6,Zj,e1,h3,hb,J5];cases neg<;>rfl
  ·cases h
 ·rename_i k l h1 h2;rw[h1] at ha;rw[h2] at hb;simp only[SR] at ha hb;obtain⟨rfl,rfl⟩:=QS h;have hl:=hc (l≠[]) (by simp);refine⟨.bool neg,?_,ZT _⟩;obtain⟨u,hu,hs⟩:=ha;obtain rfl:=(List.cons.inj hu).1;rcases hs with⟨e,_⟩|⟨i,o,cap,c,e,wr,t,h3,_⟩
  ·exact absurd e hl
  ·simp only[Q6,Zj,h3,hb,J5];cases neg<;>rfl
 ·cases h
theorem Q09 (aj:∀ x,SR P B pl tb (ev x) (evV x)) {mk:MK}{z:Value}{ok:Bool}{x i:Operand}(_hle:B.Le σ) (av:∀ d,OR P B pl tb σ (pl d) (Q9 own d)) (h:gq kt raw (.ext (.lookup mk z ok x i)) ev own=some (cs,v)):QOk P B pl tb σ (.ext (.lookup mk z ok x i)) evV v:=by
 have ha:=aj x;simp only[gq] at h;split at h
 ·rename_i o h1;rw[h1] at ha;simp only[SR] at ha;have al:=av o;split at h
  ·rename_i kk vk m ho;rw[ho] at al;obtain⟨id,es,clock,h2,h3,h4⟩:=al;split at h
   ·rename_i cj;obtain⟨cj,hz⟩:=cj;split at h
    ·rename_i key aS;have hk:=NJ aS (aj i) QF;have bM:=N_ cj hk;have ae:=MR.keys cj h4.1;have pK:KV B vk vk.dflt z:=Bc hz;have aE:σ.mapAt id=some (es,clock,true):=by simp[Heap.mapAt,h3]
     have aH:=MR.find cj hk pK h4.1
     have base:∀ u,(match Qg (evV i) es with
      |some e=>some (if ok then Value.tuple #[e.2.1,.bool true] else e.2.1,σ)
      |none=>some (if ok then .tuple #[z,.bool false] else z,σ))=some (u,σ)→Q6 (.ext (.lookup mk z ok x i)) evV σ=some (u,σ):=fun u hu=>by
      simp only[Q6,Zj,bM,if_true,ha.1,h2,aE,ae];exact hu
     cases ok with
     |true =>
      simp only[if_true] at h;obtain⟨rfl,rfl⟩:=QS h;rcases aH with⟨e,k1,k2,k3⟩|⟨k1,k2,k3⟩
      ·refine⟨.tuple #[e.2.1,.bool true],base _ (by rw[k1];rfl),?_⟩;simp only[SR];refine⟨[e.2.1,.bool true],rfl,?_⟩;simp only[SRs,SR];exact⟨_,_,rfl,JY k3,_,_,rfl,by simp[KC,k2],rfl⟩
      ·refine⟨.tuple #[z,.bool false],base _ (by rw[k1];rfl),?_⟩;simp only[SR];refine⟨[z,.bool false],rfl,?_⟩;simp only[SRs,SR];exact⟨_,_,rfl,by rw[k3];exact JY pK,_,_,rfl,by simp[KC,k2],rfl⟩
     |false =>
      simp only[Bool.false_eq_true,if_false] at h;obtain⟨rfl,rfl⟩:=QS h;rcases aH with⟨e,k1,k2,k3⟩|⟨k1,k2,k3⟩
      ·exact⟨e.2.1,base _ (by rw[k1];rfl),JY k3⟩
      ·exact⟨z,base _ (by rw[k1];rfl),by rw[k3];exact JY pK⟩
    ·cases h
   ·cases h
  ·cases h
 ·cases h
theorem Q0q (aj:∀ x,SR P B pl tb (ev x) (evV x)) {x:Operand}(av:∀ d,OR P B pl tb σ (pl d) (Q9 own d)) (h:gq kt raw (.ext (.lenMap x)) ev own=some (cs,v)):QOk P B pl tb σ (.ext (.lenMap x)) evV v:=by
 have ha:=aj x;simp only[gq] at h;split at h
 ·rename_i o h1;rw[h1] at ha;simp only[SR] at ha;have al:=av o;split at h
  ·rename_i kk vk m ho;rw[ho] at al;obtain⟨id,es,clock,h2,h3,h4⟩:=al;obtain⟨rfl,rfl⟩:=QS h;have aE:σ.mapAt id=some (es,clock,true):=by simp[Heap.mapAt,h3]
   refine⟨.int .i64 es.length,by simp only[Q6,Zj,ha.1,h2,aE],?_⟩;rw[h4.1.length];exact Xb _ _
  ·cases h
 ·cases h
theorem MR.at {kk vk:Kind}:∀ {m:List (kk.T×vk.T)}{es:List Jr}{r:Nat}{e:Jr},MR B kk vk m es→es[r]?=some e→∃ h:r<m.length,KV B kk m[r].1 e.1∧KV B vk m[r].2 e.2.1
 |[],es,r,e,h,he=>by simp only[MR] at h;subst h;simp at he
 |x::m,es,r,e,h,he=>by
  obtain⟨e',bT,rfl,h1,h2,h3⟩:=h;cases r with
  |zero=>simp only[List.getElem?_cons_zero,Option.some.injEq] at he;subst he;exact⟨by simp,h1,h2⟩
  |succ r =>obtain⟨k1,k2,k3⟩:=MR.at h3 (by simpa using he);exact⟨by simpa using k1,k2,k3⟩
theorem Gp:∀ {k:Kind},k.keyk=true→∀ {x:k.T}{cs:List Value},KC B k x cs→cs.all QQ=true
 |.pair a b,hk,x,cs,h=>by simp only[Kind.keyk,Bool.and_eq_true] at hk;obtain⟨c1,c2,rfl,h1,h2⟩:=h;rw[List.all_append,Gp hk.1 h1,Gp hk.2 h2];rfl
 |.i _,_,x,cs,h=>by simp only[KC] at h;subst h;rfl
 |.bo,_,x,cs,h=>by simp only[KC] at h;subst h;rfl
 |.st,_,x,cs,h=>by simp only[KC] at h;subst h;rfl
 |.list _,hk,_,_,_=>by cases hk
theorem LJ {k:Kind}(hk:k.keyk=true) {x:k.T}{v:Value}(h:KV B k x v):KF v=true:=by
 rcases h with⟨ho,h⟩|⟨ho,cs,rfl,h⟩
 ·have:=Gp hk h;rw[List.all_cons,Bool.and_eq_true] at this;have hp:=this.1;cases v<;>first|exact hp|cases hp
 ·show cs.toArray.toList.all QQ=true;exact Gp hk h
theorem Gb {es:List Jr}{clock:Nat}(h:SOk es clock) {r r':Nat}{e e':Jr}(h1:es[r]?=some e) (h2:es[r']?=some e') (he:e.2.2=e'.2.2):r=r':=by
 obtain⟨k1,rfl⟩:=List.getElem?_eq_some_iff.1 h1;obtain⟨k2,rfl⟩:=List.getElem?_eq_some_iff.1 h2;have:=h.1;rw[List.nodup_iff_pairwise_ne,List.pairwise_iff_getElem] at this;rcases Nat.lt_trichotomy r r' with ai|ai|ai
 ·exact absurd (by rw[List.getElem_map,List.getElem_map];exact he) (this r r' (by simpa using k1) (by simpa using k2) ai)
 ·exact ai
 ·exact absurd (by rw[List.getElem_map,List.getElem_map];exact he.symm) (this r' r (by simpa using k2) (by simpa using k1) ai)
theorem F3 {es:List Jr}{clock:Nat}(h:SOk es clock) {r:Nat}{e:Jr}(h1:es[r]?=some e):es.find? (fun e'=>e'.2.2==e.2.2)=some e:=by
 obtain⟨k1,rfl⟩:=List.getElem?_eq_some_iff.1 h1;rw[List.find?_eq_some_iff_getElem];refine⟨by simp,r,k1,rfl,fun j hj=>?_⟩;have cf:j<es.length:=by omega
 simp only[Bool.not_eq_true',beq_eq_false_iff_ne];intro he;have:=Gb h (List.getElem?_eq_getElem cf) h1 he;omega
theorem Q4u (aj:∀ x,SR P B pl tb (ev x) (evV x)) (hle:B.Le σ) (av:∀ d,OR P B pl tb σ (pl d) (Q9 own d)) {x:Operand}(h:gq kt raw (.ext (.entry x)) ev own=some (cs,v)) (hc:∀ c∈cs,c):QOk P B pl tb σ (.ext (.entry x)) evV v:=by
 simp only[gq] at h;split at h
 ·rename_i o f h1;split at h
  ·rename_i kk vk m dn ho;split at h
   ·rename_i ak;obtain⟨rfl,hk,hv⟩:=ak;obtain⟨rfl,rfl⟩:=QS h;have sP:dn≠[]:=hc _ (by simp);have e1:=aj x;rw[h1] at e1;simp only[SR] at e1;obtain⟨b,e2,e3⟩:=e1;have al:=av o;rw[ho] at al;obtain⟨j,i,es,clock,wr,seen,h2,h3,h4,h5,h6⟩:=al;rw[h2] at e2;obtain rfl:j=b:=by simpa using e2
    have bA:0<dn.length:=List.length_pos_iff.2 sP;have dF:dn[dn.length-1]?=some (dn.getLastD 0):=by rw[List.getLastD_eq_getLast?,List.getLast?_eq_getElem?];rw[List.getElem?_eq_getElem (show dn.length-1<dn.length by omega)];rfl
    obtain⟨e,jy,iO⟩:=h6.2 _ _ dF;have lN:seen.getLast?=some e.2.2:=by rw[List.getLast?_eq_getElem?,h6.1];exact iO
    obtain⟨hr,k1,k2⟩:=MR.at h5.1 jy;have k2:=k2.kc hv;have aE:σ.mapAt i=some (es,clock,wr):=by simp[Heap.mapAt,hle.2 _ _ h4]
    have cR:=F3 h5.2 jy;refine⟨.tuple #[e.1,e.2.1],?_,?_⟩
    ·simp only[Q6,Zj,e3,h3,aE,lN,cR,if_true];rw[if_pos (LJ hk k1)]
    ·simp only[SR,SRs];refine⟨[e.1,e.2.1],rfl,e.1,[e.2.1],rfl,?_,e.2.1,[],rfl,?_,rfl⟩
     ·have:m.getD (dn.getLastD 0) (kk.dflt,vk.dflt)=m[dn.getLastD 0]:=by rw[List.getD_eq_getElem?_getD,List.getElem?_eq_getElem hr];rfl
      rw[this];exact JY k1
     ·have:m.getD (dn.getLastD 0) (kk.dflt,vk.dflt)=m[dn.getLastD 0]:=by rw[List.getD_eq_getElem?_getD,List.getElem?_eq_getElem hr];rfl
      rw[this];exact k2
   ·cases h
  ·cases h
 ·cases h
theorem RP (aj:∀ x,SR P B pl tb (ev x) (evV x)) (fK:∀ c,evV (.const c)=c) (hle:B.Le σ) (av:∀ d,OR P B pl tb σ (pl d) (Q9 own d)) {o:VOp}(h:gq kt raw o ev own=some (cs,v)) (hc:∀ c∈cs,c):QOk P B pl tb σ o evV v:=by
 cases o with
 |move x=>obtain⟨rfl,rfl⟩:=QS h;exact⟨evV x,rfl,aj x⟩
 |arith=>exact Q50 aj h hc
 |div=>exact Z38 aj h hc
 |bits=>exact Q8o aj h
 |shift=>exact Q4e aj h hc
 |cmp=>exact Z1a aj h
 |str=>exact Z2k aj h hc
 |eqB=>exact Z3l aj h
 |un=>exact Z4q aj h hc
 |convI=>exact Q4v aj h hc
 |convS=>exact Q40 aj h
 |build=>exact Q5t aj h
 |load=>exact Q7s aj hle av h
 |fieldAddr=>exact Cf aj h
 |field=>exact Q4j aj h
 |indexAddr=>exact CI aj hle av h hc
 |indexAddrArr=>exact Th aj fK h
 |indexStr=>exact EY aj h hc
 |indexArr=>exact Eu aj fK h
 |slice=>exact Q5d aj hle av h hc
 |sliceStr=>exact F4 aj h hc
 |len=>exact Z3a aj av h
 |lenStr=>exact Q0m aj h
 |max=>exact Z37 aj h
 |max4=>exact Q7h aj h
 |min=>exact Z1z aj h
 |makeFunc=>exact EJ aj h
 |extract=>exact Fc aj h
 |nilCheck=>exact E7 aj h
 |ext x =>
  cases x with
  |eqNil k neg a b =>
   match k with
   |1=>exact Q53 aj av h hc
   |0=>exact OO aj av h hc
   |(n+2)=>cases h
  |eqAgg n s a b=>exact Q4w aj h
  |toUnsafe a=>exact Ek aj av h
  |fromUnsafe u size a=>exact L8 aj av h
  |sliceData a=>exact C6 aj av h hc
  |bytesStr a=>exact ER aj hle av h
  |lookup=>exact Q09 aj hle av h
  |lenMap=>exact Q0q aj av h
  |entry a=>exact Q4u aj hle av h hc
  |_=>cases h
 |_=>cases h
end
end
end Go.V
namespace Go.V
open Go
theorem Z4n {α:Type}{l:List α}(h:¬ l=[]) (b:Bool):(l.isEmpty&&b)=false:=by cases l with|nil=>exact absurd rfl h|cons _ _=>rfl
theorem Z2d {α:Type}{l:List α}(h:¬ l=[]):l.isEmpty=false:=by cases l with|nil=>exact absurd rfl h|cons _ _=>rfl
theorem DM {c vs:List Value}{o:Nat}(h:o+vs.length≤c.length):Yp c o vs=c.take o++vs++c.drop (o+vs.length):=by
 apply List.ext_getElem?;intro k;rcases Nat.lt_or_ge k o with hk|hk
 ·rw[WI vs c o k (.inl hk),List.append_assoc,List.getElem?_append_left (by simp;omega),List.getElem?_take,if_pos hk]
 ·rcases Nat.lt_or_ge k (o+vs.length) with aq|aq
  ·have:=S9 vs c o (k-o) h (by omega);rw[show o+(k-o)=k by omega] at this;rw[this,List.append_assoc,List.getElem?_append_right (by simp;omega),List.getElem?_append_left (by simp;omega)];congr 1;simp;omega
  ·rw[WI vs c o k (.inr aq),List.getElem?_append_right (by simp;omega),List.getElem?_drop];congr 1;simp;omega
theorem Q0s (us c:List Value) {m p n off:Nat}(h1:off+us.length≤n) (h2:p+n≤m) (h3:m≤c.length) :
  (Yp c (p+off) us).take m=(c.take m).take p++Yp (((c.take m).drop p).take n) off us++(c.take m).drop (p+n):=by
 have l1:(((c.take m).drop p).take n).length=n:=by simp;omega
 have cU:∀ q,q<n→(((c.take m).drop p).take n)[q]?=c[p+q]?:=fun q hq=>by rw[List.getElem?_take,if_pos hq,List.getElem?_drop,List.getElem?_take,if_pos (by omega)]
 generalize ((c.take m).drop p).take n=row at l1 cU;have l2:((c.take m).take p).length=p:=by simp;omega
 have l3:(Yp row off us).length=n:=by rw[WB,l1]
 have g2:∀ q,q<p→((c.take m).take p)[q]?=c[q]?:=fun q hq=>by rw[List.getElem?_take,if_pos hq,List.getElem?_take,if_pos (by omega)]
 generalize (c.take m).take p=pre at l2 g2;apply List.ext_getElem?;intro j;rw[List.getElem?_take,List.append_assoc];by_cases hj:j<m
 ·rw[if_pos hj];rcases Nat.lt_or_ge j p with a1|a1
  ·rw[WI us c _ j (.inl (by omega)),List.getElem?_append_left (by omega),g2 j a1]
  ·rw[List.getElem?_append_right (by omega),l2];rcases Nat.lt_or_ge j (p+n) with a2|a2
   ·rw[List.getElem?_append_left (by omega)];rcases Nat.lt_or_ge (j-p) off with a3|a3
    ·rw[WI us c _ j (.inl (by omega)),WI us _ _ _ (.inl a3),cU _ (by omega)];congr 1;omega
    ·rcases Nat.lt_or_ge (j-p) (off+us.length) with a4|a4
     ·have b1:=S9 us c (p+off) (j-(p+off)) (by omega) (by omega);have b2:=S9 us row off (j-(p+off)) (by omega) (by omega);rw[show p+off+(j-(p+off))=j by omega] at b1;rw[show off+(j-(p+off))=j-p by omega] at b2;rw[b1,b2]
     ·rw[WI us c _ j (.inr (by omega)),WI us _ _ _ (.inr a4),cU _ (by omega)];congr 1;omega
   ·rw[WI us c _ j (.inr (by omega)),List.getElem?_append_right (by omega),List.getElem?_drop,List.getElem?_take,l3,if_pos (by omega)];congr 1;omega
 ·rw[if_neg hj,List.getElem?_append_right (by omega),List.getElem?_append_right (by omega),List.getElem?_drop,List.getElem?_take,if_neg (by omega)]
theorem Heap.Le.push {B σ:Heap}(h:B.Le σ) (b:Blk):B.Le (σ.push b) :=
 ⟨by have:=h.1;simp;omega,fun i b' hb=>by rw[Heap.get_push_lt _ _ (σ.lt (h.2 i b' hb))];exact h.2 i b' hb⟩
theorem Heap.Le.upd {B σ:Heap}(h:B.Le σ) {i:Nat}(hi:B.get i=none) (b:Blk):B.Le (σ.upd i b) :=
 ⟨by simpa using h.1,fun j b' hb=>by
  have:j≠i:=fun e=>by subst e;rw[hi] at hb;cases hb
  rw[Heap.get_upd_ne _ _ this];exact h.2 j b' hb⟩
theorem Heap.Le.kill {B σ:Heap}(h:B.Le σ) {i:Nat}(hi:B.get i=none):B.Le (σ.kill i) :=
 ⟨by simpa using h.1,fun j b' hb=>by
  have:j≠i:=fun e=>by subst e;rw[hi] at hb;cases hb
  rw[Heap.get_kill_ne _ this];exact h.2 j b' hb⟩
theorem Heap.Le.fresh {B σ:Heap}(h:B.Le σ):B.get σ.n=none:=B.wf _ h.1
section
variable {P:Program}{B F:Heap}{pl:Nat→Value}{tb:Nat→Option Bool}{s:St}{env:Env}{σ:Heap}
theorem OR.id_lt {p:Value}{b:OB}(h:OR P B pl tb σ p b) (hl:b.live=true) {i:Nat}(hi:Oid p i):i<σ.n:=by
 cases b with
 |dead=>cases hl
 |lst ty k xs nl =>
  rcases h with⟨_,_,rfl⟩|⟨_,i',cap,c,t,rfl,_,h3,_⟩
  ·cases hi
  ·obtain rfl:=osj hi;exact σ.lt h3
 |cells l u=>obtain⟨i',c,e,t,rfl,h2,_⟩:=h;obtain rfl:=osj hi;exact σ.lt h2
 |map kk vk m=>obtain⟨i',es,clock,rfl,h2,_⟩:=h;obtain rfl:=osj hi;exact σ.lt h2
 |mapE kk vk m key n=>obtain⟨i',es,clock,r,e,rfl,h2,_⟩:=h;obtain rfl:=osj hi;exact σ.lt h2
 |iter kk vk m dn=>obtain⟨j,i',es,clock,wr,seen,rfl,h2,_⟩:=h;obtain rfl:=osj hi;exact σ.lt h2
 |lpf l q s=>obtain⟨rfl,_,h2⟩:=h;obtain rfl:=osj hi;exact σ.lt (h2 hl)
 |deep ty q k xs nl hh =>obtain⟨is,hO,_,_,_,h4,_⟩:=h;obtain⟨b',b9⟩:=(hO i).1 hi;exact σ.lt (h4 i b' b9)
 |stk l vals=>cases hl
theorem Gam.push (h:Gam P B F pl tb s env σ) (d:Nat) (b:OB) (p:Value) (blk:Blk) (hp:oid p=some σ.n) (hb:OR P B (Jo pl d p) tb (σ.push blk) p b):Gam P B F (Jo pl d p) tb (s.make d b) env (σ.push blk):=by
 refine h.make d b p (h.le.push blk) (fun j i hj hl hi=>?_) hb (fun i _ hi=>?_)
 ·exact Heap.get_push_lt _ _ ((h.obj j).id_lt hl hi)
 ·obtain rfl:=Ok hp hi;exact⟨h.le.fresh,fun j _ hl e=>by have:=(h.obj j).id_lt hl e;omega⟩
theorem Rows.cellOk {k:Kind}{xs:List k.T}{cs:List Value}(h:Rows (KC B k) xs cs):cs.all Go.V.cellOk=true:=by
 induction h with
 |nil=>rfl
 |cons h _ ih=>rw[List.all_append,KC.cellOk h,ih];rfl
theorem Di {pl:Nat→Value}:∀ {k:Kind}{off:Nat}{v:SV}{u:Value}{x y:k.T}{row:List Value},Q97 k off v x=some y→KC B k x row→SR P B pl tb v u→off<k.size→KC B k y (Yp row off [u])
 |.pair a b,off,v,u,x,y,row,h,hr,hv,ho=>by
  obtain⟨c1,c2,rfl,h1,h2⟩:=hr;have l1:=KC.length h1;have l2:=KC.length h2;simp only[Q97] at h;simp only[Yp];cases hb:Nat.blt off a.size with
  |true =>
   rw[hb] at h;simp only[_root_.cond_true,Option.map_eq_some_iff] at h;obtain⟨z,h3,rfl⟩:=h;have bn:off<a.size:=by simpa [Nat.blt_eq] using hb
   have:=Di h3 h1 hv bn;exact⟨c1.set off u,c2,by rw[List.set_append_left _ _ (by omega)],this,h2⟩
  |false =>
   rw[hb] at h;simp only[_root_.cond_false,Option.map_eq_some_iff] at h;obtain⟨z,h3,rfl⟩:=h;have bn:¬ off<a.size:=by intro ai;rw[show Nat.blt off a.size=true by rw[Nat.blt_eq];exact ai] at hb;cases hb
   simp only[Kind.size] at ho;have:=Di h3 h2 hv (by omega);refine⟨c1,c2.set (off-a.size) u,?_,h1,this⟩;rw[List.set_append_right _ _ (by omega),l1]
 |.i ik,off,v,u,x,y,row,h,hr,hv,ho=>by
  have:=QF (k:=.i ik) h (show SRs P B pl tb [v] [u] by simp only[SRs];exact⟨_,[],rfl,hv,rfl⟩);have hl:=KC.length hr;simp only[Kind.size] at hl ho;obtain⟨c,rfl⟩:=List.length_eq_one_iff.1 hl;obtain rfl:off=0:=by omega
  exact this
 |.bo,off,v,u,x,y,row,h,hr,hv,ho=>by
  have:=QF (k:=.bo) h (show SRs P B pl tb [v] [u] by simp only[SRs];exact⟨_,[],rfl,hv,rfl⟩);have hl:=KC.length hr;simp only[Kind.size] at hl ho;obtain⟨c,rfl⟩:=List.length_eq_one_iff.1 hl;obtain rfl:off=0:=by omega
  exact this
 |.st,off,v,u,x,y,row,h,hr,hv,ho=>by
  have:=QF (k:=.st) h (show SRs P B pl tb [v] [u] by simp only[SRs];exact⟨_,[],rfl,hv,rfl⟩);have hl:=KC.length hr;simp only[Kind.size] at hl ho;obtain⟨c,rfl⟩:=List.length_eq_one_iff.1 hl;obtain rfl:off=0:=by omega
  exact this
 |.list k,off,v,u,x,y,row,h,hr,hv,ho=>by
  have:=QF (k:=.list k) h (show SRs P B pl tb [v] [u] by simp only[SRs];exact⟨_,[],rfl,hv,rfl⟩);have hl:=KC.length hr;simp only[Kind.size] at hl ho;obtain⟨c,rfl⟩:=List.length_eq_one_iff.1 hl;obtain rfl:off=0:=by omega
  exact this
theorem NM {mk:MK}{kk vk:Kind}(hk:gq.mkOk mk kk=true) {key:kk.T}{x:vk.T}{kv xv:Value}{clock:Nat}(aS:KV B kk key kv) (hx:KV B vk x xv):∀ {m:List (kk.T×vk.T)}{es:List Jr},MR B kk vk m es→MR B kk vk (T2 kk m key x) (Qq kv xv clock es).1
 |[],es,h=>by simp only[MR] at h;subst h;exact⟨_,[],rfl,aS,hx,rfl⟩
 |m::ms,es,h=>by
  obtain⟨e,bT,rfl,h2,h3,h4⟩:=h;have hq:=Pe hk aS h2;simp only[Qq,T2,hq];cases gq.keq kk key m.1 with
  |true=>exact⟨_,bT,rfl,aS,hx,h4⟩
  |false=>exact⟨e,_,rfl,h2,h3,NM hk aS hx h4⟩
theorem GR (k v:Value) (clock:Nat):∀ es:List Jr,((Qq k v clock es).2=clock∧(Qq k v clock es).1.map (fun e=>e.2.2)=es.map fun e=>e.2.2)∨((Qq k v clock es).2=clock+1∧(Qq k v clock es).1.map (fun e=>e.2.2)=(es.map fun e=>e.2.2)++[clock])
 |[]=>.inr ⟨rfl,rfl⟩
 |e::es=>by
  simp only[Qq];split
  ·exact .inl ⟨rfl,rfl⟩
  ·rcases GR k v clock es with⟨h1,h2⟩|⟨h1,h2⟩
   ·exact .inl ⟨h1,by simp[h2]⟩
   ·exact .inr ⟨h1,by simp[h2]⟩
theorem SOk.put {es:List Jr}{clock:Nat}(h:SOk es clock) {k v:Value}:SOk (Qq k v clock es).1 (Qq k v clock es).2:=by
 obtain⟨h1,h2⟩:=h;have mem:∀ (l:List Jr) (x:Nat),x∈l.map (fun e=>e.2.2)↔∃ e∈l,e.2.2=x:=fun l x=>by simp
 rcases GR k v clock es with⟨e1,e2⟩|⟨e1,e2⟩
 ·refine⟨by rw[e2];exact h1,fun e he=>?_⟩;have:e.2.2∈es.map fun e=>e.2.2:=by rw[←e2];exact(mem _ _).2 ⟨e,he,rfl⟩
  obtain⟨e',k1,k2⟩:=(mem _ _).1 this;rw[e1,←k2];exact h2 e' k1
 ·refine⟨?_,fun e he=>?_⟩
  ·rw[e2,List.nodup_append];refine⟨h1,by simp,fun a ha b hb=>?_⟩;obtain rfl:=List.mem_singleton.1 hb;obtain⟨e',k1,k2⟩:=(mem _ _).1 ha;have:=h2 e' k1;omega
  ·have:e.2.2∈(es.map fun e=>e.2.2)++[clock]:=by rw[←e2];exact(mem _ _).2 ⟨e,he,rfl⟩
   rw[e1];rcases List.mem_append.1 this with h3|h3
   ·obtain⟨e',k1,k2⟩:=(mem _ _).1 h3;have:=h2 e' k1;omega
   ·have:=List.mem_singleton.1 h3;omega
def Fr (T:Nat) (s s':St) (pl pl':Nat→Value) (σ σ':Heap):Prop :=
 ∀ q,q≠T→(Q9 s'.own q).live=(Q9 s.own q).live∧pl' q=pl q∧((Q9 s.own q).live=true→∀ i,Oid (pl q) i→σ'.get i=σ.get i)
theorem Va (s:St) (d:Nat) (b:OB) {q:Nat}(hq:q≠d):(Q9 (s.make d b).own q).live=(Q9 s.own q).live:=by simp only[St.make,St.kill,Qh,V6,if_neg hq,OB.live_kill]
theorem Gam.makeF {s:St}{env:Env}{σ σ':Heap}{pl:Nat→Value}(h:Gam P B F pl tb s env σ) (d:Nat) (b:OB) (p:Value) (hle:F.Le σ') (ho:∀ j i,j≠d→(Q9 s.own j).live=true→Oid (pl j) i→σ'.get i=σ.get i)
  (hb:OR P B (Jo pl d p) tb σ' p b) (hf:∀ i,b.live=true→Oid p i→F.get i=none∧∀ j,j≠d→(Q9 s.own j).live=true→¬ Oid (pl j) i):Gam P B F (Jo pl d p) tb (s.make d b) env σ'∧Fr d s (s.make d b) pl (Jo pl d p) σ σ' :=
 ⟨h.make d b p hle ho hb hf,fun q hq=>⟨Va s d b hq,by simp[Jo,hq],fun hl i hi=>ho q i hq hl hi⟩⟩
theorem Gam.writeF {s:St}{env:Env}{σ σ':Heap}{pl:Nat→Value}(h:Gam P B F pl tb s env σ) (d:Nat) (b:OB) (hle:F.Le σ') (ao:(Q9 s.own d).live=true)
  (cM:∀ j i,j≠d→(Q9 s.own j).live=true→Oid (pl j) i→σ'.get i=σ.get i) (hb:OR P B pl tb σ' (pl d) b):Gam P B F pl tb ⟨s.env,oset s.own d b,s.nx⟩ env σ'∧Fr d s ⟨s.env,oset s.own d b,s.nx⟩ pl pl σ σ' :=
 ⟨h.write d b hle ao cM hb,fun q hq=>⟨by simp only[Qh,if_neg hq],rfl,fun hl i hi=>cM q i hq hl hi⟩⟩
theorem Gam.pushF {s:St}{env:Env}{σ:Heap}{pl:Nat→Value}(h:Gam P B F pl tb s env σ) (d:Nat) (b:OB) (p:Value) (blk:Blk) (hp:oid p=some σ.n) (hb:OR P B (Jo pl d p) tb (σ.push blk) p b):Gam P B F (Jo pl d p) tb (s.make d b) env (σ.push blk)∧Fr d s (s.make d b) pl (Jo pl d p) σ (σ.push blk) :=
 ⟨h.push d b p blk hp hb,fun q hq=>⟨Va s d b hq,by simp[Jo,hq],fun hl i hi=>Heap.get_push_lt _ _ ((h.obj q).id_lt hl hi)⟩⟩
def NOk (P:Program) (B F:Heap) (tb:Nat→Option Bool) (o:VOp) (evV:Operand→Value) (env:Env) (σ:Heap) (K:SV→St→Prop) (T:Nat) (s:St) (pl:Nat→Value):Prop :=
 ∃ u σ' pl' v s',Q6 o evV σ=some (u,σ')∧K v s'∧(Gam P B F pl' tb s' env σ'∧Fr T s s' pl pl' σ σ')∧SR P B pl' tb v u
theorem XO (pl:Nat→Value) (d:Nat) (p:Value):Jo pl d p d=p:=by simp[Jo]
section
variable {C:Cx}{d:Nat}{ev:Operand→SV}{evV:Operand→Value}{K:SV→St→Prop}
theorem IN (aj:∀ x,SR P B pl tb (ev x) (evV x)) (hG:Gam P B F pl tb s env σ) {t:Nat}{z:List Value}(h:gn C d (.alloc t z) ev s K):NOk P B F tb (.alloc t z) evV env σ K (QT d (.alloc t z) ev) s pl:=by
 have _hev:=aj;simp only[gn] at h;refine⟨.pointer (some ⟨σ.n,0,none⟩),_,Jo pl d (.pointer (some ⟨σ.n,0,none⟩)),_,_,rfl,h,hG.pushF d _ _ _ rfl ?_,?_⟩
 ·refine⟨σ.n,z,_,_,rfl,Heap.get_push_self _ _,?_,fun y hy=>⟨osj hy,rfl⟩⟩;have hz:SRs P B (Jo pl d (.pointer (some ⟨σ.n,0,none⟩))) tb (z.map cvp) (z.map id):=SRs.map fun x _=>GD x
  rwa [List.map_id] at hz
 ·simp only[SR,XO];exact⟨_,rfl,rfl⟩
theorem Q76 (aj:∀ x,SR P B pl tb (ev x) (evV x)) (hG:Gam P B F pl tb s env σ) {t:Nat}{x:Operand}(h:gn C d (.box t x) ev s K):NOk P B F tb (.box t x) evV env σ K (QT d (.box t x) ev) s pl:=by
 simp only[gn] at h;split at h
 ·rename_i l hl;obtain⟨c,h1,h2,_⟩:=WY hl (aj x);refine⟨.pointer (some ⟨σ.n,0,none⟩),σ.push (.cells c ⟨c.length,t⟩ true true),Jo pl d (.pointer (some ⟨σ.n,0,none⟩)),_,_,by simp only[Q6,h1],h,hG.pushF d _ _ _ rfl ?_,?_⟩
  ·exact⟨σ.n,c,_,_,rfl,Heap.get_push_self _ _,SRs.upd (Heap.Le.refl B) (fun _ _ h=>h) (fun j hj=>by simp[Jo,hj]) _ _ h2,fun y hy=>⟨osj hy,rfl⟩⟩
  ·simp only[SR,XO];exact⟨_,rfl,rfl⟩
 ·cases h
theorem Bk (aj:∀ x,SR P B pl tb (ev x) (evV x)) {k:Kind}:∀ {ps:List (Nat×Operand)}{xs ys:List k.T}{c:List Value},LO k ev ps xs=some ys→Rows (KC B k) xs c →
  ys.length=xs.length∧∃ c',Nm c (ps.map fun p=>(p.1*k.size,k.size,evV p.2))=some c'∧Rows (KC B k) ys c'
 |[],xs,ys,c,h,hr=>by obtain rfl:=osj h;exact⟨rfl,c,rfl,hr⟩
 |(j,x)::r,xs,ys,c,h,hr=>by
  simp only[LO] at h;split at h
  ·rename_i l hl;split at h
   ·rename_i y hy;split at h
    ·rename_i hj;obtain⟨vs,h1,h2,_⟩:=WY hl (aj x);have hk:=QF hy h2;have hlen:=KC.length hk;have cy:=hr.length KC.rows_len;have cf:(j+1)*k.size≤xs.length*k.size:=Nat.mul_le_mul_right _ hj;rw[Nat.add_mul,Nat.one_mul] at cf;have a8:=hr.set KC.rows_len hj hk;have e:Yp c (j*k.size) vs=c.take (j*k.size)++vs++c.drop (j*k.size+k.size):=by
      rw[DM (by omega),hlen]
     rw[←e] at a8;obtain⟨h3,c',h4,h5⟩:=Bk aj h a8;refine⟨by rw[h3,List.length_set],c',?_,h5⟩;simp only[List.map_cons,Nm,h1];rw[if_pos ⟨hlen,by omega⟩];exact h4
    ·cases h
   ·cases h
  ·cases h
theorem Nl (aj:∀ x,SR P B pl tb (ev x) (evV x)) (hG:Gam P B F pl tb s env σ) {e:El}{z:List Value}{n:Nat}{ps:List (Nat×Operand)}(h:gn C d (.buildSlice e z n ps) ev s K):NOk P B F tb (.buildSlice e z n ps) evV env σ K (QT d (.buildSlice e z n ps) ev) s pl:=by
 simp only[gn] at h;split at h
 ·rename_i k _;split at h
  ·rename_i hc;obtain⟨aI,hz⟩:=hc;split at h
   ·rename_i xs hx;have pL:KC B k k.dflt z:=Y6 hz;have cU:Rows (KC B k) (List.replicate n k.dflt) (BN n z):=by rw[Vg];exact Rows.replicate pL n
    obtain⟨h3,c',h4,h5⟩:=Bk (B:=B) aj hx cU;rw[List.length_replicate] at h3;have cy:=h5.length KC.rows_len;refine⟨.slice (some ⟨σ.n,0,none⟩) n n,σ.push (.cells c' e true true),Jo pl d (.slice (some ⟨σ.n,0,none⟩) n n),_,_,?_,h,hG.pushF d _ _ _ rfl ?_,?_⟩
    ·simp only[Q6];rw[←aI,h4]
    ·refine .inr ⟨rfl,σ.n,n,c',true,by rw[h3],by omega,?_,by rw[cy,h3];exact Nat.le_refl _,?_⟩
     ·rw[Heap.get_push_self,aI]
     ·rw[List.take_of_length_le (by omega)];exact h5
    ·simp only[SR,XO];exact⟨trivial,_,_,_,rfl⟩
   ·cases h
  ·cases h
 ·cases h
theorem HR (aj:∀ x,SR P B pl tb (ev x) (evV x)) (hG:Gam P B F pl tb s env σ) {e:El}{bytes:Nat}{z:List Value}{l c:Operand}(h:gn C d (.makeSlice e bytes z l c) ev s K):NOk P B F tb (.makeSlice e bytes z l c) evV env σ K (QT d (.makeSlice e bytes z l c) ev) s pl:=by
 simp only[gn] at h;split at h
 ·rename_i k k1 a k2 b _ h1 h2;have e1:=J7 h1 (aj l);have e2:=J7 h2 (aj c);split at h
  ·rename_i hc;obtain⟨aI,hz⟩:=hc;simp only[C3,Q69] at h;obtain⟨k3,k4,k5,k6,h⟩:=h;have pL:KC B k k.dflt z:=Y6 hz;have cU:Rows (KC B k) (List.replicate b.toNat k.dflt) (BN b.toNat z):=by rw[Vg];exact Rows.replicate pL _
   have cy:=cU.length KC.rows_len;rw[List.length_replicate] at cy;have ht:=cU.take KC.rows_len a.toNat;rw[List.take_replicate,Nat.min_eq_left (by omega)] at ht;refine⟨.slice (some ⟨σ.n,0,none⟩) a.toNat b.toNat,σ.push (.cells (BN b.toNat z) e true true),Jo pl d (.slice (some ⟨σ.n,0,none⟩) a.toNat b.toNat),_,_,?_,h,hG.pushF d _ _ _ rfl ?_,?_⟩
   ·simp only[Q6,e1,e2];rw[if_pos ⟨k3,k4,by simpa using k5,by simpa using k6⟩]
   ·refine .inr ⟨rfl,σ.n,b.toNat,_,true,by rw[List.length_replicate],by simp;omega,?_,by rw[cy];exact Nat.le_refl _,?_⟩
    ·rw[Heap.get_push_self,aI]
    ·rw[List.length_replicate];exact ht
   ·simp only[SR,XO];exact⟨trivial,_,_,_,rfl⟩
  ·cases h
 ·cases h
theorem AB (aj:∀ x,SR P B pl tb (ev x) (evV x)) (hG:Gam P B F pl tb s env σ) {e:El}{bytes:Nat}{x y:Operand}(h:gn C d (.append e bytes x y) ev s K):NOk P B F tb (.append e bytes x y) evV env σ K (QT d (.append e bytes x y) ev) s pl:=by
 have ha:=aj x;simp only[gn] at h;split at h
 ·rename_i k _;split at h
  ·rename_i ys hy;obtain⟨cs,ay,sQ,az,cW,qG⟩:=(V2 hG.leB hG.obj hy (aj y)).sl;have ah:cs.all cellOk=true:=cW.cellOk;have cy:=cW.length KC.rows_len;split at h
   ·rename_i hx;have hT:QT d (.append e bytes x y) ev=d:=by simp only[QT,hx]
    rw[hT];rw[hx] at ha;simp only[SR] at ha;split at h
    ·rename_i aI;simp only[C3,Q69] at h;obtain⟨h1,h⟩:=h;rw[aI] at az;have base:Q6 (.append e bytes x y) evV σ=Yb e bytes σ (.slice none 0 0) ys.length cs:=by
      simp only[Q6,qG] at az ⊢;simp only[az,ah,if_true,ha]
     by_cases hm:ys=[]
     ·subst hm;refine⟨.slice none 0 0,σ,Jo pl d (.slice none 0 0),_,_,by rw[base];rfl,h,?_,?_⟩
      ·refine hG.makeF d _ _ hG.le (fun j i _ _ _=>rfl) (.inl ⟨rfl,rfl,rfl⟩) fun i _ hi=>by cases hi
      ·simp only[SR,XO];exact⟨trivial,_,_,_,rfl⟩
     ·have eY:ys.length≠0:=fun e=>hm (List.length_eq_zero_iff.1 e);refine⟨.slice (some ⟨σ.n,0,none⟩) ys.length ys.length,σ.push (.cells cs e true false),Jo pl d (.slice (some ⟨σ.n,0,none⟩) ys.length ys.length),_,_,?_,h,hG.pushF d _ _ _ rfl ?_,?_⟩
      ·rw[base];simp only[Yb];rw[if_neg eY,if_pos (by simpa using h1)]
      ·refine .inr ⟨Z2d hm,σ.n,ys.length,cs,false,rfl,Nat.le_refl _,?_,by omega,?_⟩
       ·rw[Heap.get_push_self,aI]
       ·rw[List.take_of_length_le (by omega)];exact cW
      ·simp only[SR,XO];exact⟨trivial,_,_,_,rfl⟩
    ·cases h
   ·rename_i o hx;have hT:QT d (.append e bytes x y) ev=o:=by simp only[QT,hx]
    rw[hT];rw[hx] at ha;simp only[SR] at ha;have al:=hG.obj o;split at h
    ·rename_i ty k' xs nl ho;rw[ho] at al;have ao:(Q9 s.own o).live=true:=by rw[ho];rfl
     split at h
     ·rename_i aI;obtain⟨ju,aI⟩:=aI;split at h
      ·rename_i cF jS;obtain rfl:=Xq jS;obtain rfl:=Xt jS;simp only[C3,Q69] at h;obtain⟨h1,h⟩:=h;rw[aI] at az;have base:Q6 (.append e bytes x y) evV σ=Yb e bytes σ (pl o) ys.length cs:=by
        simp only[Q6,qG] at az ⊢;simp only[az,ah,if_true,ha.1]
       have he:e=⟨k'.size,ty⟩:=by cases e;simp only at ju aI;rw[ju,aI]
       rcases al with⟨rfl,rfl,h3⟩|⟨rfl,i,cap,c,t,h3,h4,h5,h6,h7⟩
       ·
        rw[h3] at base;by_cases hm:ys=[]
        ·subst hm;refine⟨.slice none 0 0,σ,Jo pl o (.slice none 0 0),_,_,by rw[base];rfl,h,?_,?_⟩
         ·refine hG.makeF o _ _ hG.le (fun j i _ _ _=>rfl) (.inl ⟨rfl,rfl,rfl⟩) fun i _ hi=>by cases hi
         ·simp only[SR,XO];exact⟨trivial,_,_,_,rfl⟩
        ·have eY:ys.length≠0:=fun e=>hm (List.length_eq_zero_iff.1 e);refine⟨.slice (some ⟨σ.n,0,none⟩) ys.length ys.length,σ.push (.cells cs e true false),Jo pl o (.slice (some ⟨σ.n,0,none⟩) ys.length ys.length),_,_,?_,h,hG.pushF o _ _ _ rfl ?_,?_⟩
         ·rw[base];simp only[Yb];rw[if_neg eY,if_pos (by simpa using h1)]
         ·rw[List.nil_append];refine .inr ⟨Z4n hm _,σ.n,ys.length,cs,false,rfl,Nat.le_refl _,?_,by omega,?_⟩
          ·rw[Heap.get_push_self,he]
          ·rw[List.take_of_length_le (by omega)];exact cW
         ·simp only[SR,XO];exact⟨trivial,_,_,_,rfl⟩
       ·rw[h3] at base;have k1:cF.length*k'.size≤cap*k'.size:=Nat.mul_le_mul_right _ h4;have bj:F.get i=none:=hG.fresh o i ao (by rw[h3];rfl);have bH:∀ j i',j≠o→(Q9 s.own j).live=true→Oid (pl j) i'→i'≠i:=fun j i' hj hl hi e=>by
         subst e;exact hG.sep j o i' hj hl ao hi (by rw[h3];rfl)
        have ak:e=e∧cF.length≤cap∧0+cF.length*e.sz≤c.length:=⟨rfl,h4,by rw[←aI];omega⟩;simp only[Yb,h5] at base;rw[←he,if_pos ak] at base;by_cases hm:ys=[]
        ·subst hm;simp only[List.length_nil,if_true] at base;refine⟨_,σ,Jo pl o (pl o),_,_,base,h,?_,?_⟩
         ·refine hG.makeF o _ _ hG.le (fun j i _ _ _=>rfl) (.inr ⟨rfl,i,cap,c,t,?_,?_,h5,h6,?_⟩) fun i' _ hi=>?_
          ·rw[h3];simp
          ·simpa using h4
          ·simpa using h7
          ·rw[h3] at hi;obtain rfl:=osj hi;exact⟨bj,fun j hj hl e=>bH j _ hj hl e rfl⟩
         ·simp only[SR,XO,h3];exact⟨trivial,_,_,_,rfl⟩
        ·have eY:ys.length≠0:=fun e=>hm (List.length_eq_zero_iff.1 e);have kE:(ys.isEmpty&&false)=false:=by simp
         have oz:Rows (KC B k') (cF++ys) (c.take (cF.length*k'.size)++cs):=h7.append cW;have dm:=oz.length KC.rows_len;rw[if_neg eY] at base;by_cases aY:cF.length+ys.length≤cap
         ·have fp:(cF.length+ys.length)*k'.size≤cap*k'.size:=Nat.mul_le_mul_right _ aY;have dI:cF.length*k'.size+ys.length*k'.size≤cap*k'.size:=by rw[←Nat.add_mul];exact fp
          rw[if_pos aY,if_pos ⟨trivial,by rw[←aI];omega⟩] at base;refine⟨_,_,Jo pl o (.slice (some ⟨i,0,none⟩) (cF.length+ys.length) cap),_,_,base,h,?_,?_⟩
          ·refine hG.makeF o _ _ (hG.le.upd bj _) (fun j i' hj hl hi=>Heap.get_upd_ne _ _ (bH j i' hj hl hi)) (.inr ⟨kE,i,cap,Yp c (0+cF.length*e.sz) cs,t,by rw[List.length_append],by rw[List.length_append];exact aY,?_,?_,?_⟩) fun i' _ hi=>?_
           ·rw[Heap.get_upd_self _ _ (σ.lt h5),he]
           ·rw[WB];exact h6
           ·have eA:0+cF.length*e.sz+cs.length≤c.length:=by rw[←aI];omega
            rw[DM eA,←aI,Nat.zero_add,List.take_left' (by rw[dm])];exact oz
           ·obtain rfl:=osj hi;exact⟨bj,fun j hj hl e=>bH j _ hj hl e rfl⟩
          ·simp only[SR,XO];exact⟨trivial,_,_,_,rfl⟩
         ·rw[if_neg aY,if_pos (by simpa using h1)] at base;have i_:((c.drop 0).take (cF.length*e.sz)++cs)=c.take (cF.length*k'.size)++cs:=by rw[List.drop_zero,aI]
          cases t with
          |true =>
           simp only[if_true] at base;rw[i_] at base;refine⟨_,_,Jo pl o (.slice (some ⟨σ.n,0,none⟩) (cF.length+ys.length) (cF.length+ys.length)),_,_,base,h,hG.pushF o _ _ _ rfl (.inr ⟨kE,σ.n,cF.length+ys.length,c.take (cF.length*k'.size)++cs,false,by rw[List.length_append],by rw[List.length_append];exact Nat.le_refl _,?_,?_,?_⟩),?_⟩
           ·rw[Heap.get_push_self,he]
           ·rw[dm,List.length_append];exact Nat.le_refl _
           ·rw[List.take_of_length_le (by rw[dm];exact Nat.le_refl _)];exact oz
           ·simp only[SR,XO];exact⟨trivial,_,_,_,rfl⟩
          |false =>
           simp only[Bool.false_eq_true,if_false,if_true] at base;rw[i_] at base;have hn:(σ.kill i).n=σ.n:=rfl;refine⟨_,_,Jo pl o (.slice (some ⟨σ.n,0,none⟩) (cF.length+ys.length) (cF.length+ys.length)),_,_,base,h,?_,?_⟩
           ·refine hG.makeF o _ _ ((hG.le.kill bj).push _) (fun j i' hj hl hi=>?_) (.inr ⟨kE,σ.n,cF.length+ys.length,c.take (cF.length*k'.size)++cs,false,by rw[List.length_append],by rw[List.length_append];exact Nat.le_refl _,?_,?_,?_⟩) fun i' _ hi=>?_
            ·rw[Heap.get_push_lt _ _ (by rw[hn];exact(hG.obj j).id_lt hl hi)];exact Heap.get_kill_ne _ (bH j i' hj hl hi)
            ·rw[←hn,Heap.get_push_self,he]
            ·rw[dm,List.length_append];exact Nat.le_refl _
            ·rw[List.take_of_length_le (by rw[dm];exact Nat.le_refl _)];exact oz
            ·obtain rfl:=osj hi;exact⟨hG.le.fresh,fun j _ hl e=>Nat.lt_irrefl σ.n ((hG.obj j).id_lt hl e)⟩
           ·simp only[SR,XO];exact⟨trivial,_,_,_,rfl⟩
      ·cases h
     ·cases h
    ·cases h
   ·cases h
  ·cases h
 ·cases h
theorem FW (aj:∀ x,SR P B pl tb (ev x) (evV x)) (hG:Gam P B F pl tb s env σ) {size:Nat}{a x:Operand}(h:gn C d (.store size a x) ev s K):NOk P B F tb (.store size a x) evV env σ K (QT d (.store size a x) ev) s pl:=by
 have ha:=aj a;simp only[gn] at h;split at h
 ·rename_i o off vs h1 h2;have hT:QT d (.store size a x) ev=o:=by simp only[QT,h1]
  rw[hT];obtain⟨us,h3,h4,h5⟩:=WY h2 (aj x);rw[h1] at ha;simp only[SR] at ha;obtain⟨b,h6,h7⟩:=ha;have al:=hG.obj o;split at h
  ·rename_i l u ho;rw[ho] at al;have ao:(Q9 s.own o).live=true:=by rw[ho];rfl
   obtain⟨i,c,e,t,h8,h9,bY,gk⟩:=al;rw[h6] at h8;obtain rfl:=(by simpa using h8:b=i);split at h
   ·rename_i hc;have bj:F.get b=none:=hG.fresh o b ao (by rw[h6];rfl);have bH:∀ j i',j≠o→(Q9 s.own j).live=true→Oid (pl j) i'→i'≠b:=fun j i' hj hl hi e=>by
     subst e;exact hG.sep j o i' hj hl ao hi (by rw[h6];rfl)
    refine⟨undef,σ.upd b (.cells (Yp c off us) e true t),pl,_,_,?_,h,hG.writeF o _ (hG.le.upd bj _) ao (fun j i' hj hl hi=>Heap.get_upd_ne _ _ (bH j i' hj hl hi)) ?_,by simp[SR]⟩
    ·simp only[Q6,h7,h3,h9];rw[if_pos ⟨trivial,by rw[←h4.length];exact hc.1,by rw[←bY.length];exact hc.2,h5⟩]
    ·exact⟨b,_,e,t,h6,Heap.get_upd_self _ _ (σ.lt h9),DK bY h4,gk⟩
   ·cases h
  ·cases h
 ·rename_i o i off sz vs h1 h2;have hT:QT d (.store size a x) ev=o:=by simp only[QT,h1]
  rw[hT];obtain⟨us,h3,h4,h5⟩:=WY h2 (aj x);rw[h1] at ha;simp only[SR] at ha;obtain⟨b,len,cap,h6,h7,h8,h9⟩:=ha;have al:=hG.obj o;split at h
  ·rename_i ty k xs nl ho;rw[ho] at al;have ao:(Q9 s.own o).live=true:=by rw[ho];rfl
   rcases al with⟨_,_,k3⟩|⟨rfl,i',au,c,t,k3,k4,k5,k6,k7⟩
   ·rw[h6] at k3;cases k3
   ·rw[h6] at k3;obtain⟨rfl,rfl,rfl⟩:=(by simpa using k3:b=i'∧len=xs.length∧cap=au);have bj:F.get b=none:=hG.fresh o b ao (by rw[h6];rfl);have bH:∀ j i',j≠o→(Q9 s.own j).live=true→Oid (pl j) i'→i'≠b:=fun j i' hj hl hi e=>by
     subst e;exact hG.sep j o i' hj hl ao hi (by rw[h6];rfl)
    have hi:i.toNat<xs.length:=by omega
    have aI:(i.toNat+1)*k.size≤xs.length*k.size:=Nat.mul_le_mul_right _ hi;rw[Nat.add_mul,Nat.one_mul] at aI;have k8:=Nat.mul_le_mul_right k.size k4
    have fin:∀ (y:k.T) (us:List Value) (dw:Nat),dw+us.length≤k.size→KC B k y (Yp (((c.take (xs.length*k.size)).drop (i.toNat*k.size)).take k.size) dw us) →
      Gam P B F pl tb ⟨s.env,oset s.own o (.lst ty k (xs.set i.toNat y) false),s.nx⟩ env (σ.upd b (.cells (Yp c (i.toNat*k.size+dw) us) ⟨k.size,ty⟩ true t))∧Fr o s ⟨s.env,oset s.own o (.lst ty k (xs.set i.toNat y) false),s.nx⟩ pl pl σ (σ.upd b (.cells (Yp c (i.toNat*k.size+dw) us) ⟨k.size,ty⟩ true t)):=by
     intro y us dw nh hk;refine hG.writeF o _ (hG.le.upd bj _) ao (fun j i' hj hl hi=>Heap.get_upd_ne _ _ (bH j i' hj hl hi)) (.inr ⟨rfl,b,cap,Yp c (i.toNat*k.size+dw) us,t,by rw[h6];simp,by simpa using k4,Heap.get_upd_self _ _ (σ.lt k5),by rw[WB];exact k6,?_⟩);have a8:=k7.set KC.rows_len hi hk;rw[List.length_set];rw[Q0s us c (m:=xs.length*k.size) (p:=i.toNat*k.size) (n:=k.size) (off:=dw) nh aI (by omega)];exact a8
    have cU:=k7.at KC.rows_len hi;have dm:=KC.length cU;split at h
    ·rename_i hc;obtain⟨rfl,rfl,rfl⟩:=hc;split at h
     ·rename_i y hy;have hk:=QF hy h4;have hl:=KC.length hk;refine⟨undef,σ.upd b (.cells (Yp c (i.toNat*k.size+0) us) ⟨k.size,ty⟩ true t),pl,_,_,?_,h,fin y us 0 (by omega) ?_,by simp[SR]⟩
      ·simp only[Q6,h9,h3,k5];rw[if_pos ⟨trivial,hl,by omega,h5⟩]
      ·rw[DM (by omega),Nat.zero_add,List.take_zero,List.nil_append,List.drop_of_length_le (by omega),List.append_nil];exact hk
     ·cases h
    ·split at h
     ·rename_i hc;obtain⟨rfl,qH,rfl,bn⟩:=hc;split at h
      ·rename_i y hy;obtain⟨v0,rfl⟩:∃ v0,vs=[v0]:=by
        cases vs with
        |nil=>cases qH
        |cons a r=>cases r with
         |nil=>exact⟨a,rfl⟩
         |cons _ _=>simp at qH
       obtain⟨u0,rfl,sR⟩:=h4.one;have hx:xs.getD i.toNat k.dflt=xs[i.toNat]:=by simp[List.getD_eq_getElem?_getD,List.getElem?_eq_getElem hi]
       rw[hx] at hy;refine⟨undef,σ.upd b (.cells (Yp c (i.toNat*k.size+off) [u0]) ⟨k.size,ty⟩ true t),pl,_,_,?_,h,fin y [u0] off (by simp;omega) (Di hy cU sR bn),by simp[SR]⟩;simp only[Q6,h9,h3,k5];rw[if_pos ⟨trivial,rfl,by omega,h5⟩]
      ·cases h
     ·cases h
  ·cases h
 ·cases h
theorem HG (aj:∀ x,SR P B pl tb (ev x) (evV x)) (hG:Gam P B F pl tb s env σ) {mk:MK}{m kx vx:Operand}(h:gn C d (.ext (.mapUpdate mk m kx vx)) ev s K):NOk P B F tb (.ext (.mapUpdate mk m kx vx)) evV env σ K (QT d (.ext (.mapUpdate mk m kx vx)) ev) s pl:=by
 have ha:=aj m;simp only[gn] at h;split at h
 ·rename_i o h1;have hT:QT d (.ext (.mapUpdate mk m kx vx)) ev=o:=by simp only[QT,h1]
  rw[hT];rw[h1] at ha;simp only[SR] at ha;have al:=hG.obj o;split at h
  ·rename_i kk vk l ho;rw[ho] at al;have ao:(Q9 s.own o).live=true:=by rw[ho];rfl
   obtain⟨id,es,clock,h2,h3,h4⟩:=al;split at h
   ·rename_i hc;have cj:=hc;split at h
    ·rename_i key x aS hx;have hk:=NJ aS (aj kx) QF;have hv:=NJ hx (aj vx) QF;have bj:F.get id=none:=hG.fresh o id ao (by rw[h2];rfl);have bH:∀ j i',j≠o→(Q9 s.own j).live=true→Oid (pl j) i'→i'≠id:=fun j i' hj hl hi e=>by
      subst e;exact hG.sep j o i' hj hl ao hi (by rw[h2];rfl)
     have aE:σ.mapAt id=some (es,clock,true):=by simp[Heap.mapAt,h3]
     refine⟨undef,σ.upd id (.obj (.map (Qq (evV kx) (evV vx) clock es).1 (Qq (evV kx) (evV vx) clock es).2) true),pl,_,_,?_,h,hG.writeF o _ (hG.le.upd bj _) ao (fun j i' hj hl hi=>Heap.get_upd_ne _ _ (bH j i' hj hl hi)) ?_,by simp[SR]⟩
     ·simp only[Q6,Zj,ha.1,h2,aE];rw[if_pos (by rw[N_ cj hk,h4.1.keys cj];rfl)]
     ·exact⟨id,_,_,h2,Heap.get_upd_self _ _ (σ.lt h3),NM cj hk hv h4.1,h4.2.put⟩
    ·cases h
   ·cases h
  ·cases h
 ·cases h
theorem AG {mk:MK}{kk:Kind}(hk:gq.mkP mk kk=true) (x:kk.T):gq.keq kk x x=true:=by
 unfold gq.mkP at hk;split at hk
 ·simp[gq.keq]
 ·simp[gq.keq]
 ·simp[gq.keq]
 ·cases hk
theorem Hf:∀ {k:Kind}{l r:List MK},gq.mkAt k l=some r→∀ x:k.T,gq.keq k x x=true
 |.pair a b,l,r,hk,x=>by
  simp only[gq.mkAt] at hk;split at hk
  ·rename_i q hq;simp only[gq.keq,Hf hq,Hf hk,Bool.and_self]
  ·cases hk
 |.i _,m::l,r,hk,x|.bo,m::l,r,hk,x|.st,m::l,r,hk,x|.list _,m::l,r,hk,x=>by
  simp only[gq.mkAt] at hk;cases hp:gq.mkP m _ with
  |false=>rw[hp] at hk;cases hk
  |true=>exact AG hp x
 |.i _,[],r,hk,x|.bo,[],r,hk,x|.st,[],r,hk,x|.list _,[],r,hk,x=>by cases hk
theorem O0 {mk:MK}{kk:Kind}(hk:gq.mkOk mk kk=true) (x:kk.T):gq.keq kk x x=true:=by
 unfold gq.mkOk at hk;cases ho:kk.one with
 |true=>rw[ho] at hk;exact AG hk x
 |false =>
  rw[ho] at hk;simp only[_root_.cond_false] at hk;split at hk
  ·split at hk
   ·rename_i hr;exact Hf hr x
   ·cases hk
  ·cases hk
theorem So {k v:Value}(hk:Xh k k=true) (clock:Nat):∀ es:List Jr,Qg k (Qq k v clock es).1=some (k,v,match Qg k es with|some e=>e.2.2|none=>clock)
 |[]=>by simp[Qq,Qg,hk]
 |e::es=>by
  simp only[Qq,Qg];cases he:Xh k e.1 with
  |true=>simp[Qg,hk]
  |false =>simp only[Bool.false_eq_true,if_false,Qg,he];exact So hk clock es
theorem Rq {k v:Value}{clock:Nat}:∀ {es:List Jr}{e:Jr},Qg k es=some e→∃ j:Nat,es[j]?=some e∧Qq k v clock es=(es.set j (k,v,e.2.2),clock)
 |[],e,h=>by cases h
 |a::es,e,h=>by
  simp only[Qg] at h;split at h
  ·rename_i he;obtain rfl:=osj h;exact⟨0,rfl,by simp[Qq,he]⟩
  ·rename_i he;obtain⟨j,h1,h2⟩:=Rq (v:=v) (clock:=clock) h;exact⟨j+1,by simpa using h1,by simp[Qq,he,h2]⟩
theorem HS (aj:∀ x,SR P B pl tb (ev x) (evV x)) (hG:Gam P B F pl tb s env σ) {mk:MK}{z:Value}{m kx:Operand}(h:gn C d (.ext (.mapEntry mk z m kx)) ev s K):∃ u σ' v s' T kv aV i es c,T=QT d (.ext (.mapEntry mk z m kx)) ev∧Q6 (.ext (.mapEntry mk z m kx)) evV σ=some (u,σ')∧K v s'∧(Gam P B F pl tb s' env σ'∧Fr T s s' pl pl σ σ')∧SR P B pl tb v u ∧
  (Q9 s'.own T).live=true∧pl T=.map (some i)∧σ.get i=some (.obj (.map es c) true)∧σ'.get i=some (.obj (.map (Qq kv aV c es).1 (Qq kv aV c es).2) true)∧Zk mk kv=true∧es.all (fun e=>Zk mk e.1)=true∧aV=(match Qg kv es with|some e=>e.2.1|none=>z):=by
 have ha:=aj m;simp only[gn] at h;split at h
 ·rename_i o h1;have hT:QT d (.ext (.mapEntry mk z m kx)) ev=o:=by simp only[QT,h1]
  rw[h1] at ha;simp only[SR] at ha;have al:=hG.obj o;split at h
  ·rename_i kk vk l ho;rw[ho] at al;have ao:(Q9 s.own o).live=true:=by rw[ho];rfl
   obtain⟨id,es,clock,h2,h3,h4⟩:=al;split at h
   ·rename_i hc;obtain⟨cj,sS⟩:=hc;split at h
    ·rename_i key aS;have hk:=NJ aS (aj kx) QF;have hz:KV B vk vk.dflt z:=Bc sS;have bj:F.get id=none:=hG.fresh o id ao (by rw[h2];rfl);have bH:∀ j i',j≠o→(Q9 s.own j).live=true→Oid (pl j) i'→i'≠id:=fun j i' hj hl hi e=>by
      subst e;exact hG.sep j o i' hj hl ao hi (by rw[h2];rfl)
     have aE:σ.mapAt id=some (es,clock,true):=by simp[Heap.mapAt,h3]
     have qI:Xh (evV kx) (evV kx)=true:=by rw[Pe cj hk hk];exact O0 cj key
     obtain⟨aV,n,hold,fC⟩:∃ (aV:Value) (n:Nat),KV B vk (gq.aget kk l key vk.dflt) aV∧Q6 (.ext (.mapEntry mk z m kx)) evV σ=some (.tuple #[aV,.int .i64 n],σ.upd id (.obj (.map (Qq (evV kx) aV clock es).1 (Qq (evV kx) aV clock es).2) true))∧Qg (evV kx) (Qq (evV kx) aV clock es).1=some (evV kx,aV,n)∧aV=(match Qg (evV kx) es with|some e=>e.2.1|none=>z):=by
      rcases MR.find cj hk hz h4.1 with⟨e,k1,_,k3⟩|⟨k1,_,k3⟩
      ·refine⟨e.2.1,e.2.2,k3,?_,?_,by rw[k1]⟩
       ·simp only[Q6,Zj,ha.1,h2,aE];rw[if_pos (by rw[N_ cj hk,h4.1.keys cj];rfl),k1]
       ·rw[So qI,k1]
      ·refine⟨z,clock,by rw[k3];exact hz,?_,?_,by rw[k1]⟩
       ·simp only[Q6,Zj,ha.1,h2,aE];rw[if_pos (by rw[N_ cj hk,h4.1.keys cj];rfl),k1]
       ·rw[So qI,k1]
     obtain⟨fC,cR,ni⟩:=fC;obtain⟨r,hr,_⟩:=Rq (v:=aV) (clock:=clock) cR;refine⟨_,_,_,_,o,evV kx,aV,id,es,clock,hT.symm,fC,h n,hG.writeF o _ (hG.le.upd bj _) ao (fun j i' hj hl hi=>Heap.get_upd_ne _ _ (bH j i' hj hl hi)) ?_,?_,by simp[Qh,OB.live],h2,h3,Heap.get_upd_self _ _ (σ.lt h3),N_ cj hk,h4.1.keys cj,ni⟩
     ·exact⟨id,_,_,r,_,h2,Heap.get_upd_self _ _ (σ.lt h3),⟨NM cj hk hold h4.1,h4.2.put⟩,hr,hk,cR,rfl,mk,cj⟩
     ·simp only[SR,SRs];exact⟨_,rfl,_,_,rfl,JY hold,_,_,rfl,by simp[KC],rfl⟩
    ·cases h
   ·cases h
  ·cases h
 ·cases h
theorem R7 (aj:∀ x,SR P B pl tb (ev x) (evV x)) (hG:Gam P B F pl tb s env σ) {mk:MK}{z:Value}{m kx:Operand}(h:gn C d (.ext (.mapEntry mk z m kx)) ev s K):NOk P B F tb (.ext (.mapEntry mk z m kx)) evV env σ K (QT d (.ext (.mapEntry mk z m kx)) ev) s pl:=by obtain⟨u,σ',v,s',T,kv,aV,i,es,c,rfl,h1,h2,h3,h4,_⟩:=HS aj hG h;exact⟨u,σ',pl,v,s',h1,h2,h3,h4⟩
theorem B9 (aj:∀ x,SR P B pl tb (ev x) (evV x)) (hG:Gam P B F pl tb s env σ) {m st vx:Operand}(h:gn C d (.ext (.entryStore m st vx)) ev s K):NOk P B F tb (.ext (.entryStore m st vx)) evV env σ K (QT d (.ext (.entryStore m st vx)) ev) s pl:=by
 have ha:=aj m;simp only[gn] at h;split at h
 ·rename_i o h1;have hT:QT d (.ext (.entryStore m st vx)) ev=o:=by simp only[QT,h1]
  rw[hT];rw[h1] at ha;simp only[SR] at ha;have al:=hG.obj o;split at h
  ·rename_i kk vk l key n ho;rw[ho] at al;have ao:(Q9 s.own o).live=true:=by rw[ho];rfl
   obtain⟨id,es,clock,r,e,h2,h3,h4,h5,h6,h7,h8,mk,cj⟩:=al;split at h
   ·rename_i n' x bc hx;obtain⟨rfl,h⟩:=h;have sU:=J7 bc (aj st);have hv:=NJ hx (aj vx) QF;have bj:F.get id=none:=hG.fresh o id ao (by rw[h2];rfl);have bH:∀ j i',j≠o→(Q9 s.own j).live=true→Oid (pl j) i'→i'≠id:=fun j i' hj hl hi e=>by
     subst e;exact hG.sep j o i' hj hl ao hi (by rw[h2];rfl)
    have aE:σ.mapAt id=some (es,clock,true):=by simp[Heap.mapAt,h3]
    obtain⟨q,hq,bQ⟩:=Rq (v:=evV vx) (clock:=clock) h7;obtain rfl:q=r:=Gb h4.2 hq h5 rfl;have iE:es.findIdx? (fun a=>(a.2.2:Int)==n')=some q:=by
     obtain⟨lR,heq⟩:=List.getElem?_eq_some_iff.1 hq;rw[List.findIdx?_eq_some_iff_getElem];refine⟨lR,by rw[heq,h8];simp,fun j hj=>?_⟩;have cf:j<es.length:=by omega
     cases hb:((es[j].2.2:Int)==n') with
     |false=>simp
     |true =>
      have:es[j].2.2=e.2.2:=by have:=eq_of_beq hb;omega
      have:=Gb h4.2 (List.getElem?_eq_getElem cf) hq this;omega
    refine⟨undef,σ.upd id (.obj (.map (es.set q (e.1,evV vx,e.2.2)) clock) true),pl,_,_,?_,h,hG.writeF o _ (hG.le.upd bj _) ao (fun j i' hj hl hi=>Heap.get_upd_ne _ _ (bH j i' hj hl hi)) ?_,by simp[SR]⟩
    ·simp only[Q6,Zj,ha.1,h2,sU,aE,iE,hq]
    ·refine⟨id,_,_,h2,Heap.get_upd_self _ _ (σ.lt h3),?_⟩;have e1:=congrArg (fun x:List Jr×Nat=>x.1) bQ;have e2:=congrArg (fun x:List Jr×Nat=>x.2) bQ;simp only at e1 e2;have k1:=NM (clock:=clock) cj h6 hv h4.1;have k2:=h4.2.put (k:=e.1) (v:=evV vx);rw[e1] at k1 k2;rw[e2] at k2;exact⟨k1,k2⟩
   ·cases h
  ·cases h
 ·cases h
end
theorem ID (hG:Gam P B F pl tb s env σ) (d:Nat) (kk vk:Kind):Gam P B F (Jo pl d (.map (some σ.n))) tb (s.make d (.map kk vk [])) env (σ.push (.obj (.map [] 0) true))∧SR P B (Jo pl d (.map (some σ.n))) tb (.map d) (.map (some σ.n)):=by refine⟨hG.push d _ _ _ rfl ⟨σ.n,[],0,rfl,Heap.get_push_self _ _,rfl,List.nodup_nil,fun _ h=>by cases h⟩,?_⟩;simp only[SR,XO];exact⟨trivial,_,rfl⟩
end
end Go.V
namespace Go.V
open Go
def Q0n (ρ1 ρ2:Plc):Prop:=∀ i p2,ρ2 i=some p2→∃ p1,ρ1 i=some p1∧p2.blk=p1.blk∧p2.shift=p1.shift∧p2.ext=p1.ext∧p2.esz=p1.esz∧(p2.tight=true→p1.tight=true)
theorem VRel.loose {ρ1 ρ2:Plc}{n:Nat}(hl:Q0n ρ1 ρ2) {v c:Value}(h:VRel ρ1 n v c):VRel ρ2 n v c:=by
 induction h with
 |poison c=>exact .poison c
 |bool b=>exact .bool b
 |int k x=>exact .int k x
 |string s=>exact .string s
 |nilPtr=>exact .nilPtr
 |nilSl=>exact .nilSl
 |nilMap=>exact .nilMap
 |nilFunc=>exact .nilFunc
 |nilIface=>exact .nilIface
 |glob g o s=>exact .glob g o s
 |ptr i o a hi h =>refine .ptr i o a hi fun p hp=>?_;obtain⟨p1,h1,h2,h3,_⟩:=hl i p hp;rw[h2,h3];exact h p1 h1
 |sl i o len cap a au hi h =>refine .sl i o len cap a au hi fun p hp=>?_;obtain⟨p1,h1,h2,h3,h4,h5,h6⟩:=hl i p hp;obtain⟨k1,k2,k3⟩:=h p1 h1;rw[h2,h3,h4,h5];exact⟨k1,fun ht=>k2 (h6 ht),k3⟩
 |slx i o len cap a hi h =>refine .slx i o len cap a hi fun p hp=>?_;obtain⟨p1,h1,h2,h3,h4,h5,h6⟩:=hl i p hp;rw[h2,h3,h4,h5];exact h p1 h1
 |map i r hi h =>refine .map i r hi fun p hp=>?_;obtain⟨p1,h1,h2,_⟩:=hl i p hp;rw[h2];exact h p1 h1
 |yield i r hi h =>refine .yield i r hi fun p hp=>?_;obtain⟨p1,h1,h2,_⟩:=hl i p hp;rw[h2];exact h p1 h1
 |iface t v c _ ih=>exact .iface t v c ih
 |func fn fs gs cs ds hf hc _ _ j8 j9=>exact .func fn fs gs cs ds hf hc j8 j9
 |agg cs ds hc _ ih=>exact .agg cs ds hc ih
 |tuple cs ds hc _ ih=>exact .tuple cs ds hc ih
theorem LRel.loose {ρ1 ρ2:Plc}{n:Nat}(hl:Q0n ρ1 ρ2) {v c:List Value}(h:LRel ρ1 n v c):LRel ρ2 n v c:=⟨h.1,fun i a b h1 h2=>(h.2 i a b h1 h2).loose hl⟩
theorem ORel.loose {ρ1 ρ2:Plc}{n:Nat}(hl:Q0n ρ1 ρ2) {o:VObj}{O:Obj}(h:ORel ρ1 n o O):ORel ρ2 n o O:=by
 cases o with
 |map es clock =>obtain⟨entries,h1,h2,h3⟩:=h;exact⟨entries,h1,h2,fun k kv hk=>let ⟨e,he,h4,h5,hv⟩:=h3 k kv hk;⟨e,he,h4,h5,hv.loose hl⟩⟩
 |iter m since seen last=>obtain⟨rm,h1,h2⟩:=h;exact⟨rm,h1,h2.loose hl⟩
 |lp env r st pend=>exact⟨h.1,h.2.loose hl⟩
inductive Weak (n0:Nat→Prop):Value→Value→Prop
 |refl (v:Value):Weak n0 v v
 |sl (i len cap:Nat) (hi:n0 i) (hc:len≤cap):Weak n0 (.slice (some ⟨i,0,none⟩) len cap) (.slice (some ⟨i,0,none⟩) len len)
 |agg (cs ds:List Value) (hc:cs.length=ds.length) (h:∀ (i:Nat) (a b:Value),cs[i]?=some a→ds[i]?=some b→Weak n0 a b):Weak n0 (.agg cs.toArray) (.agg ds.toArray)
 |tuple (cs ds:List Value) (hc:cs.length=ds.length) (h:∀ (i:Nat) (a b:Value),cs[i]?=some a→ds[i]?=some b→Weak n0 a b):Weak n0 (.tuple cs.toArray) (.tuple ds.toArray)
theorem Weak.rel {ρ:Plc}{n:Nat}{n0:Nat→Prop}(hρ:∀ i p,n0 i→ρ i=some p→p.tight=false) {v v':Value}(h:Weak n0 v v'):∀ {c:Value},VRel ρ n v c→VRel ρ n v' c:=by
 induction h with
 |refl v=>exact fun h=>h
 |sl i len cap hi hc =>
  intro c h;cases h with
  |sl _ _ _ _ a au cC h =>
   refine .sl _ _ _ _ _ _ cC fun p hp=>?_;obtain⟨k1,k2,o',k3,k4,k5⟩:=h p hp;refine⟨by omega,(fun ht=>by rw[hρ i p hi hp] at ht;cases ht),o',k3,k4,?_⟩;rcases k5 with k5|k5
   ·exact .inl k5
   ·exact .inr ⟨k5.1,k5.1⟩
 |agg cs ds hc h ih =>
  intro c hr;cases hr with
  |agg _ es cK hr =>
   refine .agg _ _ (by simpa [hc] using cK) fun i h1 h2=>?_;have l1:i<cs.length:=by simpa [hc] using h1
   have l2:i<ds.length:=by simpa using h1
   have:=ih i cs[i] ds[i] (List.getElem?_eq_getElem l1) (List.getElem?_eq_getElem l2) (hr i (by simpa using l1) h2);simpa using this
 |tuple cs ds hc h ih =>
  intro c hr;cases hr with
  |tuple _ es cK hr =>
   refine .tuple _ _ (by simpa [hc] using cK) fun i h1 h2=>?_;have l1:i<cs.length:=by simpa [hc] using h1
   have l2:i<ds.length:=by simpa using h1
   have:=ih i cs[i] ds[i] (List.getElem?_eq_getElem l1) (List.getElem?_eq_getElem l2) (hr i (by simpa using l1) h2);simpa using this
theorem DropTo.trans {σ0 σ1 σ2 σ3:Heap}{v1 v2 v3:Value}(h:DropTo σ0 v1 σ1 v2 σ2) (k:DropTo σ0 v2 σ2 v3 σ3):DropTo σ0 v1 σ1 v3 σ3:=by intro ρ0 w0 ρ w c fD hE hH hv;obtain⟨ρ',fP,fX,bV⟩:=h ρ0 w0 ρ w c fD hE hH hv;exact k ρ0 w0 ρ' w c fD bV fX fP
theorem DropTo.weaken {σ0 σ1 σ2:Heap}{v v':Value}(S:Nat→Bool) (hS:∀ i,S i=true→σ0.n≤i) (hn:σ2.n=σ1.n) (h0:σ0.n≤σ1.n) (h1:∀ i,S i=false→σ2.get i=σ1.get i)
  (h2:∀ i,S i=true→∃ c e wr t m,σ1.get i=some (.cells c e wr t)∧σ2.get i=some (.cells (c.take m) e wr false)) (hv:Weak (fun i=>S i=true) v v'):DropTo σ0 v σ1 v' σ2:=by
 intro ρ0 w0 ρ w c fD hE hH dZ;let ρ':Plc:=fun i=>if S i=false then ρ i else (ρ i).map fun p=>{p with tight:=false}
 have hl:Q0n ρ ρ':=fun i p2 hp=>by
  change (if S i=false then ρ i else (ρ i).map fun p=>{p with tight:=false})=some p2 at hp;by_cases hi:S i=false
  ·rw[if_pos hi] at hp;exact⟨p2,hp,rfl,rfl,rfl,rfl,fun h=>h⟩
  ·rw[if_neg hi,Option.map_eq_some_iff] at hp;obtain⟨p1,iS,rfl⟩:=hp;exact⟨p1,iS,rfl,rfl,rfl,rfl,fun h=>by cases h⟩
 have eg:∀ i p2,ρ' i=some p2→∃ p1,ρ i=some p1∧p2.blk=p1.blk∧p2.ext=p1.ext:=fun i p2 hp=>by obtain⟨p1,k1,k2,k3,k4,_⟩:=hl i p2 hp;exact⟨p1,k1,k2,k4⟩
 have gm:∀ i b,σ2.get i=some b→∃ b1,σ1.get i=some b1∧b.wr=b1.wr:=fun i b hb=>by
  by_cases hi:S i=false
  ·rw[h1 i hi] at hb;exact⟨b,hb,rfl⟩
  ·obtain⟨c,e,wr,t,m,k1,k2⟩:=h2 i (by simpa using hi);rw[k2] at hb;obtain rfl:=osj hb;exact⟨_,k1,rfl⟩
 have hX:Ext ρ0 σ0 w0 ρ' σ2 w:=by
  refine⟨hE.os,hE.tape,hE.output,hE.size,hE.keep,?_,by omega,fun i hi p hp=>?_⟩
  ·rintro B hB ⟨i,p,b,hp,hb,hw,rfl⟩;obtain⟨p1,k1,k2,_⟩:=eg i p hp;obtain⟨b1,k7,k8⟩:=gm i b hb;exact hE.wr _ hB ⟨i,p1,b1,k1,k7,by rw[←k8];exact hw,k2.symm⟩
  ·have:S i=false:=by
    cases hs:S i with
    |false=>rfl
    |true=>have:=hS i hs;omega
   simp only[ρ',this,if_true] at hp;exact hE.pl i hi p hp
 refine⟨ρ',?_,fD.ext ⟨fun i b hb=>?_,fun i hi=>?_,fun i p hp=>?_,fun i j p q b b8 hp hq hb hw hx=>?_⟩ hX,hX⟩
 ·rw[hn];refine hv.rel (fun i p hi hp=>?_) (dZ.loose hl);have:¬ S i=false:=by simp[hi]
  change (if S i=false then ρ i else (ρ i).map fun p=>{p with tight:=false})=some p at hp;rw[if_neg this,Option.map_eq_some_iff] at hp;obtain⟨p1,_,rfl⟩:=hp;rfl
 ·by_cases hi:S i=false
  ·rw[h1 i hi] at hb;obtain⟨p,hp,hB⟩:=hH.live i b hb;refine⟨p,by simp only[ρ',hi,if_true];exact hp,?_⟩;rw[hn];cases b with
   |cells c e wr t =>obtain⟨k1,k2,k3,k4,k5,k6⟩:=hB;exact⟨k1,k2,k3,k4,fun k v hk=>let ⟨u,a1,a2⟩:=k5 k v hk;⟨u,a1,a2.loose hl⟩,k6⟩
   |obj o wr =>obtain⟨k1,O,k2,k3⟩:=hB;exact⟨k1,O,k2,k3.loose hl⟩
  ·obtain⟨c,e,wr,t,m,k1,k2⟩:=h2 i (by simpa using hi);rw[k2] at hb;obtain rfl:=osj hb;obtain⟨p,hp,hB⟩:=hH.live i _ k1;obtain⟨a1,a2,a3,a4,a5,a6⟩:=hB;refine⟨{p with tight:=false},by simp[ρ',hi,hp],a1,rfl,by simp;omega,a4,fun k v hk=>?_,fun gm=>⟨(fun h=>by cases h),(a6 gm).2⟩⟩;rw[List.getElem?_take] at hk;split at hk
   ·obtain⟨u,b1,b2⟩:=a5 k v hk;rw[hn];exact⟨u,b1,b2.loose hl⟩
   ·cases hk
 ·have hd:σ1.get i=none:=by
   by_cases cC:S i=false
   ·rw[←h1 i cC];exact hi
   ·obtain⟨c,e,wr,t,m,k1,k2⟩:=h2 i (by simpa using cC);rw[k2] at hi;cases hi
  have:=hH.dead i hd;simp only[ρ',this];split<;>rfl
 ·obtain⟨p1,k1,k2,_⟩:=eg i p hp;rw[k2];exact hH.lt i p1 k1
 ·obtain⟨p1,k1,k2,k3⟩:=eg i p hp;obtain⟨q1,k4,k5,k6⟩:=eg j q hq;obtain⟨b1,k7,k8⟩:=gm i b hb;rw[k2,k5];exact hH.sep i j p1 q1 b1 b8 k1 k4 k7 (by rw[←k8];exact hw) (by rw[←k6];exact hx)
def mkP (σ:Heap) (v:Value) (is:List Nat):Value:=.tuple (v::is.map fun i=>match σ.get i with|some b=>Z4x i b|none=>.bool true).toArray
theorem KO.imp {H H':Heap}:∀ {k:Kind}{q:Option Nat}{x:k.T}{cs:List Value}{is:List Nat},KO H q k x cs is→(∀ i∈is,H'.get i=H.get i)→KO H' q k x cs is
 |.i _,_,_,_,_,h,_|.bo,_,_,_,_,h,_|.st,_,_,_,_,h,_=>by simp only[KO] at h ⊢;exact h
 |.list k,q,l,cs,is,h,g=>by
  simp only[KO] at h ⊢;rcases h with h|⟨i,cap,c,e,t,js,h1,rfl,h3,h4,h5,h6,h7,h8⟩
  ·exact .inl h
  ·refine .inr ⟨i,cap,c,e,t,js,h1,rfl,h3,by rw[g i List.mem_cons_self];exact h4,h5,h6,h7,?_⟩;have key:∀ {xs:List k.T}{cs:List Value}{js:List Nat},RowsO (fun x c is=>KO H none k x c is) xs cs js→(∀ i∈js,H'.get i=H.get i)→RowsO (fun x c is=>KO H' none k x c is) xs cs js:=fun h=>by
    induction h with
    |nil=>exact fun _=>.nil
    |cons h _ ih=>exact fun g=>.cons (KO.imp (k:=k) h fun i hi=>g i (List.mem_append_left _ hi)) (ih fun i hi=>g i (List.mem_append_right _ hi))
   exact key h8 fun i hi=>g i (List.mem_cons_of_mem _ hi)
 |.pair a b,_,x,cs,is,h,g=>by simp only[KO] at h ⊢;obtain⟨c1,c2,i1,i2,h1,rfl,h3,h4⟩:=h;exact⟨c1,c2,i1,i2,h1,rfl,h3.imp fun i hi=>g i (List.mem_append_left _ hi),h4.imp fun i hi=>g i (List.mem_append_right _ hi)⟩
theorem KO.cells {H:Heap}:∀ {k:Kind}{q:Option Nat}{x:k.T}{cs:List Value}{is:List Nat},KO H q k x cs is→∀ i∈is,∃ c e t,H.get i=some (.cells c e true t)
 |.i _,_,_,_,_,h,i,hi|.bo,_,_,_,_,h,i,hi|.st,_,_,_,_,h,i,hi=>by simp only[KO] at h;rw[h.2] at hi;cases hi
 |.list k,q,l,cs,is,h,i,hi=>by
  simp only[KO] at h;rcases h with⟨_,_,rfl⟩|⟨i',cap,c,e,t,js,h1,rfl,h3,h4,h5,h6,h7,h8⟩
  ·cases hi
  ·rcases List.mem_cons.1 hi with rfl|hi
   ·exact⟨_,_,_,h4⟩
   ·have key:∀ {xs:List k.T}{cs:List Value}{js:List Nat},RowsO (fun x c is=>KO H none k x c is) xs cs js→∀ i∈js,∃ c e t,H.get i=some (.cells c e true t):=fun h=>by
     induction h with
     |nil=>exact fun i hi=>by cases hi
     |cons h _ ih=>exact fun i hi=>(List.mem_append.1 hi).elim (KO.cells (k:=k) h i) (ih i)
    exact key h8 i hi
 |.pair a b,_,x,cs,is,h,i,hi=>by simp only[KO] at h;obtain⟨c1,c2,i1,i2,h1,rfl,h3,h4⟩:=h;exact(List.mem_append.1 hi).elim (h3.cells i) (h4.cells i)
theorem KO.weak {H:Heap}:∀ {k:Kind}{q:Option Nat}{x:k.T}{cs:List Value}{is:List Nat},KO H q k x cs is→KO H none k x cs is
 |.i _,_,_,_,_,h|.bo,_,_,_,_,h|.st,_,_,_,_,h=>by simp only[KO] at h ⊢;exact h
 |.list k,q,l,cs,is,h=>by
  simp only[KO] at h ⊢;rcases h with h|⟨i,cap,c,e,t,js,h1,h2,h3,h4,h5,h6,h7,h8⟩
  ·exact .inl h
  ·exact .inr ⟨i,cap,c,e,t,js,h1,h2,h3,h4,h5,(fun _ e=>by cases e),h7,h8⟩
 |.pair a b,_,x,cs,is,h=>by simp only[KO] at h ⊢;exact h
theorem KO.rows_len {H:Heap}{q:Option Nat}{k:Kind}:∀ (x:k.T) (c:List Value) (is:List Nat),KO H q k x c is→c.length=k.size:=fun _ _ _ h=>KC.length h.kc
section
variable {α:Type}{R R':α→List Value→List Nat→Prop}{sz:Nat}
theorem RowsH.imp:∀ {xs:List α}{h:Option Nat}{j:Nat}{cs:List Value}{is:List Nat},RowsH R sz h j xs cs is→(∀ x c js,R x c js→(∀ i∈js,i∈is)→R' x c js)→RowsH R' sz h j xs cs is
 |[],_,_,_,_,h,_=>h
 |x::xs,hh,j,cs,is,h,g=>by
  obtain⟨c,cs',i1,i2,rfl,rfl,h1,h2⟩:=h;refine⟨c,cs',i1,i2,rfl,rfl,?_,h2.imp fun x c js hr hj=>g x c js hr fun i hi=>List.mem_append_right _ (hj i hi)⟩;by_cases e:hh=some j
  ·rw[if_pos e] at h1 ⊢;exact h1
  ·rw[if_neg e] at h1 ⊢;exact g _ _ _ h1 fun i hi=>List.mem_append_left _ hi
theorem RowsH.hole:∀ {xs:List α}{h h':Option Nat}{j j':Nat}{cs:List Value}{is:List Nat},RowsH R sz h j xs cs is→(∀ m,h=some (j+m)↔h'=some (j'+m))→RowsH R sz h' j' xs cs is
 |[],_,_,_,_,_,_,h,_=>h
 |x::xs,h,h',j,j',cs,is,hr,g=>by
  obtain⟨c,cs',i1,i2,rfl,rfl,h1,h2⟩:=hr;refine⟨c,cs',i1,i2,rfl,rfl,?_,h2.hole fun m=>?_⟩
  ·have:=g 0;simp only[Nat.add_zero] at this;by_cases e:h=some j
   ·rw[if_pos e] at h1;rw[if_pos (this.1 e)];exact h1
   ·rw[if_neg e] at h1;rw[if_neg fun e'=>e (this.2 e')];exact h1
  ·have:=g (1+m);rw[←Nat.add_assoc,←Nat.add_assoc] at this;exact this
theorem RowsH.length (hR:∀ x c is,R x c is→c.length=sz):∀ {xs:List α}{h:Option Nat}{j:Nat}{cs:List Value}{is:List Nat},RowsH R sz h j xs cs is→cs.length=xs.length*sz
 |[],_,_,_,_,h=>by rw[h.1];simp
 |x::xs,_,j,cs,is,h=>by
  obtain⟨c,cs',i1,i2,rfl,rfl,h1,h2⟩:=h;have hc:c.length=sz:=by
   split at h1
   ·exact h1.1
   ·exact hR _ _ _ h1
  rw[List.length_append,hc,h2.length hR,List.length_cons,Nat.add_mul,Nat.one_mul,Nat.add_comm]
theorem RowsH.append:∀ {xs ys:List α}{j j':Nat}{cs ds:List Value}{is js:List Nat},RowsH R sz none j xs cs is→RowsH R sz none j' ys ds js→RowsH R sz none j (xs++ys) (cs++ds) (is++js)
 |[],ys,j,j',cs,ds,is,js,h,h'=>by obtain⟨rfl,rfl⟩:=h;exact h'.hole fun m=>by simp
 |x::xs,ys,j,j',cs,ds,is,js,h,h'=>by obtain⟨c,cs',i1,i2,rfl,rfl,h1,h2⟩:=h;exact⟨c,cs'++ds,i1,i2++js,by rw[List.append_assoc],by rw[List.append_assoc],h1,h2.append h'⟩
theorem RowsH.replicate {x:α}{c:List Value}(h:R x c []):∀ (n j:Nat),RowsH R sz none j (List.replicate n x) (List.replicate n c).flatten []
 |0,_=>⟨rfl,rfl⟩
 |n+1,j=>⟨c,_,[],[],rfl,rfl,by rw[if_neg (by simp)];exact h,RowsH.replicate h n (j+1)⟩
theorem RowsH.take (hR:∀ x c is,R x c is→c.length=sz):∀ {xs:List α}{j:Nat}{cs:List Value},RowsH R sz none j xs cs []→∀ n,RowsH R sz none j (xs.take n) (cs.take (n*sz)) []
 |[],j,cs,h,n=>by obtain⟨rfl,_⟩:=h;simp[RowsH]
 |x::xs,j,cs,h,0=>by simp[RowsH]
 |x::xs,j,cs,h,n+1=>by
  obtain⟨c,cs',i1,i2,rfl,e,h1,h2⟩:=h;obtain⟨rfl,rfl⟩:=List.append_eq_nil_iff.1 e.symm;have hc:c.length=sz:=by rw[if_neg (by simp)] at h1;exact hR _ _ _ h1
  refine⟨c,cs'.take (n*sz),[],[],?_,rfl,h1,h2.take hR n⟩;rw[Nat.add_mul,Nat.one_mul,Nat.add_comm,List.take_append,hc,List.take_of_length_le (by omega),Nat.add_sub_cancel_left]
theorem RowsH.set (hR:∀ x c is,R x c is→c.length=sz):∀ {xs:List α}{h h':Option Nat}{j i:Nat}{cs:List Value}{is:List Nat}{x:α}{c':List Value}{inew:List Nat},
  RowsH R sz h j xs cs is→(hi:i<xs.length)→(∀ m,m≠i→(h=some (j+m)↔h'=some (j+m)))→c'.length=sz→(if h'=some (j+i) then inew=[] else R x c' inew) →
  ∃ nj ix nk,is=nj++ix++nk∧RowsH R sz h' j (xs.set i x) (cs.take (i*sz)++c'++cs.drop (i*sz+sz)) (nj++inew++nk)∧(if h=some (j+i) then ix=[] else R xs[i] ((cs.drop (i*sz)).take sz) ix)
 |[],_,_,_,_,_,_,_,_,_,_,hi,_,_,_=>by simp at hi
 |y::ys,h,h',j,0,cs,is,x,c',inew,hr,hi,g,hl,hn=>by
  obtain⟨c,cs',i1,i2,rfl,rfl,h1,h2⟩:=hr;have hc:c.length=sz:=by
   split at h1
   ·exact h1.1
   ·exact hR _ _ _ h1
  have ht:RowsH R sz h' (j+1) ys cs' i2:=h2.hole fun m=>by have:=g (m+1) (by omega);rw[show j+1+m=j+(m+1) by omega];exact this
  refine⟨[],i1,i2,rfl,?_,?_⟩
  ·rw[List.set_cons_zero];refine⟨c',cs',inew,i2,?_,rfl,?_,ht⟩
   ·rw[Nat.zero_mul,List.take_zero,List.nil_append,Nat.zero_add,List.drop_append,hc,Nat.sub_self,List.drop_zero,List.drop_of_length_le (by omega),List.nil_append]
   ·rw[Nat.add_zero] at hn;split
    ·rename_i e;rw[if_pos e] at hn;exact⟨hl,hn⟩
    ·rename_i e;rw[if_neg e] at hn;exact hn
  ·rw[Nat.add_zero];split
   ·rename_i e;rw[if_pos e] at h1;exact h1.2
   ·rename_i e;rw[if_neg e] at h1;rw[Nat.zero_mul,List.drop_zero,List.take_append,hc,Nat.sub_self,List.take_zero,List.append_nil,List.take_of_length_le (by omega)];exact h1
 |y::ys,h,h',j,i+1,cs,is,x,c',inew,hr,hi,g,hl,hn=>by
  obtain⟨c,cs',i1,i2,rfl,rfl,h1,h2⟩:=hr;have hc:c.length=sz:=by
   split at h1
   ·exact h1.1
   ·exact hR _ _ _ h1
  obtain⟨nj,ix,nk,rfl,k1,k2⟩:=RowsH.set hR h2 (i:=i) (h':=h') (x:=x) (c':=c') (inew:=inew) (by simpa using hi) (fun m hm=>by
   have:=g (m+1) (by omega);rw[show j+1+m=j+(m+1) by omega];exact this) hl (by rw[show j+1+i=j+(i+1) by omega];exact hn)
  have e0:(i+1)*sz=sz+i*sz:=by rw[Nat.add_mul,Nat.one_mul,Nat.add_comm]
  refine⟨i1++nj,ix,nk,by simp[List.append_assoc],?_,?_⟩
  ·rw[List.set_cons_succ];refine⟨c,_,i1,nj++inew++nk,?_,by simp[List.append_assoc],?_,k1⟩
   ·have e1:(c++cs').take ((i+1)*sz)=c++cs'.take (i*sz):=by
     rw[e0,List.take_append,hc,List.take_of_length_le (by omega),Nat.add_sub_cancel_left]
    have e2:(c++cs').drop ((i+1)*sz+sz)=cs'.drop (i*sz+sz):=by rw[e0,List.drop_append,hc,List.drop_of_length_le (by omega),List.nil_append];congr 1;omega
    rw[e1,e2];simp[List.append_assoc]
   ·have:=g 0 (by omega);rw[Nat.add_zero] at this;by_cases e:h=some j
    ·rw[if_pos e] at h1;rw[if_pos (this.1 e)];exact h1
    ·rw[if_neg e] at h1;rw[if_neg fun e'=>e (this.2 e')];exact h1
  ·rw[show j+(i+1)=j+1+i by omega];have e3:(c++cs').drop ((i+1)*sz)=cs'.drop (i*sz):=by
    rw[e0,List.drop_append,hc,List.drop_of_length_le (by omega),List.nil_append];congr 1;omega
   rw[e3];exact k2
end
theorem DO.imp {H H':Heap}{ty:Nat}{q:Option Nat}{k:Kind}{xs:List k.T}{h:Option Nat}{v:Value}{is:List Nat}(hd:DO H ty q k xs h v is) (g:∀ i∈is,H'.get i=H.get i):DO H' ty q k xs h v is:=by
 rcases hd with hd|⟨i,cap,c,t,js,h1,rfl,h3,h4,h5,h6⟩
 ·exact .inl hd
 ·exact .inr ⟨i,cap,c,t,js,h1,rfl,h3,by rw[g i List.mem_cons_self];exact h4,h5,h6.imp fun x c tV hr hj=>KO.imp hr fun i hi=>g i (List.mem_cons_of_mem _ (hj i hi))⟩
theorem RowsH.cells {H:Heap}{q:Option Nat}{k:Kind}{sz:Nat}:∀ {xs:List k.T}{h:Option Nat}{j:Nat}{cs:List Value}{is:List Nat},RowsH (KO H q k) sz h j xs cs is→∀ i∈is,∃ c e t,H.get i=some (.cells c e true t)
 |[],_,_,_,_,h,i,hi=>by rw[h.2] at hi;cases hi
 |x::xs,_,j,cs,is,h,i,hi=>by
  obtain⟨c,cs',i1,i2,rfl,rfl,h1,h2⟩:=h;rcases List.mem_append.1 hi with hi|hi
  ·split at h1
   ·rw[h1.2] at hi;cases hi
   ·exact KO.cells h1 i hi
  ·exact h2.cells i hi
theorem DO.cells {H:Heap}{ty:Nat}{q:Option Nat}{k:Kind}{xs:List k.T}{h:Option Nat}{v:Value}{is:List Nat}(hd:DO H ty q k xs h v is):∀ i∈is,∃ c e t,H.get i=some (.cells c e true t):=by
 rcases hd with⟨_,_,rfl⟩|⟨i,cap,c,t,js,h1,rfl,h3,h4,h5,h6⟩
 ·exact fun i hi=>by cases hi
 ·exact fun j hj=>(List.mem_cons.1 hj).elim (fun e=>by subst e;exact⟨_,_,_,h4⟩) (h6.cells j)
theorem DP.open {σ:Heap}{p:Value}{ty:Nat}{q:Option Nat}{k:Kind}{xs:List k.T}{nl:Bool}{h:Option Nat}(hd:DP σ p ty q k xs nl h) :
  ∃ is,is.Nodup∧DO σ ty q k xs h (phd p) is∧(∀ i,Oid p i↔i∈is)∧(nl=true↔phd p=.slice none 0 0):=by
 obtain⟨is,hO,h1,h2,h3,h4,h5⟩:=hd;refine⟨is,h1,h2.imp fun i hi=>?_,fun i=>(hO i).trans (h3 i),h5⟩;obtain⟨b,hb⟩:=(h3 i).2 hi;rw[hb,h4 i b hb]
end Go.V
namespace Go.V
open Go
section
variable {P:Program}{B F:Heap}{pl:Nat→Value}{tb:Nat→Option Bool}{s:St}{env:Env}{σ σ':Heap}
theorem KO.nil {H:Heap}{q:Option Nat}{k:Kind}:KO H q (.list k) [] [.slice none 0 0] []:=by unfold KO;exact .inl ⟨rfl,rfl,rfl⟩
def FrL (Ts:List Nat) (s s':St) (pl pl':Nat→Value) (σ σ':Heap):Prop :=
 ∀ q,q∉Ts→(Q9 s'.own q).live=(Q9 s.own q).live∧pl' q=pl q∧((Q9 s.own q).live=true→∀ i,Oid (pl q) i→σ'.get i=σ.get i)
theorem FrL.mono {Ts qJ:List Nat}{s s':St}{pl pl':Nat→Value}{σ σ':Heap}(h:FrL Ts s s' pl pl' σ σ') (hs:∀ t∈Ts,t∈qJ):FrL qJ s s' pl pl' σ σ':=fun q hq=>h q fun h=>hq (hs q h)
def Q8w (P:Program) (B F:Heap) (tb:Nat→Option Bool) (o:VOp) (evV:Operand→Value) (env:Env) (σ:Heap) (K:SV→St→Prop) (Ts:List Nat) (s:St) (pl:Nat→Value):Prop :=
 ∃ u σ' pl' v s',Q6 o evV σ=some (u,σ')∧K v s'∧(Gam P B F pl' tb s' env σ'∧FrL Ts s s' pl pl' σ σ')∧SR P B pl' tb v u
section
variable {C:Cx}{d:Nat}{ev:Operand→SV}{evV:Operand→Value}{K:SV→St→Prop}
theorem DO.sl {ty:Nat}{q:Option Nat}{k:Kind}{xs:List k.T}{v:Value}{is:List Nat}(hd:DO σ ty q k xs none v is) (hn:is.Nodup) :
  ∃ a cap cs js,v=.slice a xs.length cap∧σ.sl k.size v=some cs∧RowsH (KO σ q k) k.size none 0 xs cs js∧(∀ i∈js,i∈is)∧js.Nodup∧cs.all cellOk=true∧cs.length=xs.length*k.size:=by
 rcases hd with⟨rfl,rfl,rfl⟩|⟨i,cap,c,t,js,rfl,rfl,h1,h3,h4,h5⟩
 ·exact⟨_,_,[],[],rfl,rfl,⟨rfl,rfl⟩,fun i hi=>hi,List.nodup_nil,rfl,by simp⟩
 ·have hl:=h5.length KO.rows_len;refine⟨_,_,c.take (xs.length*k.size),js,rfl,?_,h5,fun i hi=>List.mem_cons_of_mem _ hi,(List.nodup_cons.1 hn).2,(h5.rows (R':=KC σ k) fun _ _ _ h=>h.kc).cellOk,hl⟩;have:=Nat.mul_le_mul_right k.size h1;simp only[Heap.sl,h3];rw[if_pos ⟨trivial,by omega⟩];simp
theorem P1 (aj:∀ x,SR P B pl tb (ev x) (evV x)) (hG:Gam P B F pl tb s env σ) {o:VOp}(h:gnd C d o ev s K):Q8w P B F tb o evV env σ K (LN d o ev) s pl:=h.elim
end
end
end Go.V
namespace Go.V
open Go
def Jq:Nat→Value:=fun _=>poison
def ZF:Nat→Option Bool:=fun _=>none
def hNil:Heap:=⟨fun _=>none,0,fun _ _=>rfl⟩
theorem A8 (B:Heap):hNil.Le B:=⟨Nat.zero_le _,fun i b h=>by cases h⟩
section
variable {P:Program}
mutual
theorem SR.retd {B B':Heap}{pl pl':Nat→Value}{tb tb':Nat→Option Bool}{n:Nat}(hp:∀ j,j<n→pl' j=pl j) :
  ∀ (s:SV) (v:Value),s.ret n=true→SR P B pl tb s v→SR P B' pl' tb' s v
 |.any,_,h,_|.bid _ _,_,h,_|.grd _ _,_,h,_|.sub _ _ _ _,_,h,_|.elp _ _ _ _,_,h,_|.rop _ _ _ _,_,h,_|.cp _ _,_,h,_|.fn _ _ _,_,h,_|.pf _ _ _ _,_,h,_=>by cases h
 |.val k x,v,h,hs=>by simp only[SR] at hs ⊢;exact KC.flat h hs
 |.nilS,v,_,hs|.nilP,v,_,hs|.nilM,v,_,hs|.nilF,v,_,hs=>by simp only[SR] at hs ⊢;exact hs
 |.lst j,v,h,hs=>by
  have hj:j<n:=by simpa [SV.ret,Nat.blt_eq] using h
  simp only[SR] at hs ⊢;rw[hp j hj];exact hs
 |.map j,v,h,hs=>by
  have hj:j<n:=by simpa [SV.ret,Nat.blt_eq] using h
  simp only[SR] at hs ⊢;rw[hp j hj];exact hs
 |.dd j w,v,h,hs=>by
  cases w with
  |out =>
   have hj:j<n:=by simpa [SV.ret,Nat.blt_eq] using h
   simp only[SR] at hs ⊢;rw[hp j hj];exact hs
  |_=>cases h
 |.box j off,v,h,hs=>by
  have hj:j<n:=by simpa [SV.ret,Nat.blt_eq] using h
  simp only[SR] at hs ⊢;rw[hp j hj];exact hs
 |.agg l,v,h,hs=>by simp only[SR] at hs ⊢;obtain⟨cs,h1,h2⟩:=hs;exact⟨cs,h1,SRs.retd hp l cs h h2⟩
 |.tup l,v,h,hs=>by simp only[SR] at hs ⊢;obtain⟨cs,h1,h2⟩:=hs;exact⟨cs,h1,SRs.retd hp l cs h h2⟩
theorem SRs.retd {B B':Heap}{pl pl':Nat→Value}{tb tb':Nat→Option Bool}{n:Nat}(hp:∀ j,j<n→pl' j=pl j) :
  ∀ (s:List SV) (v:List Value),SVs.ret n s=true→SRs P B pl tb s v→SRs P B' pl' tb' s v
 |[],v,_,hs=>by simp only[SRs] at hs ⊢;exact hs
 |s::ss,v,h,hs=>by simp only[SVs.ret,Bool.and_eq_true] at h;simp only[SRs] at hs ⊢;obtain⟨x,y,h1,h2,h3⟩:=hs;exact⟨x,y,h1,SR.retd hp s x h.1 h2,SRs.retd hp ss y h.2 h3⟩
end
mutual
theorem SR.ren {B:Heap}{pl pl':Nat→Value}{tb tb':Nat→Option Bool}{n d nt:Nat}(hp:∀ j,j<n→pl' (d+j*nt)=pl j) :
  ∀ (s:SV) (v:Value),s.ret n=true→SR P B pl tb s v→SR P B pl' tb' (s.ren d nt) v
 |.any,_,h,_|.bid _ _,_,h,_|.grd _ _,_,h,_|.sub _ _ _ _,_,h,_|.elp _ _ _ _,_,h,_|.rop _ _ _ _,_,h,_|.cp _ _,_,h,_|.fn _ _ _,_,h,_|.pf _ _ _ _,_,h,_=>by cases h
 |.val k x,v,h,hs=>by simp only[SR,SV.ren] at hs ⊢;exact hs
 |.nilS,v,_,hs|.nilP,v,_,hs|.nilM,v,_,hs|.nilF,v,_,hs=>by simp only[SR,SV.ren] at hs ⊢;exact hs
 |.lst j,v,h,hs=>by
  have hj:j<n:=by simpa [SV.ret,Nat.blt_eq] using h
  simp only[SR,SV.ren] at hs ⊢;rw[hp j hj];exact hs
 |.map j,v,h,hs=>by
  have hj:j<n:=by simpa [SV.ret,Nat.blt_eq] using h
  simp only[SR,SV.ren] at hs ⊢;rw[hp j hj];exact hs
 |.dd j w,v,h,hs=>by
  cases w with
  |out =>
   have hj:j<n:=by simpa [SV.ret,Nat.blt_eq] using h
   simp only[SR,SV.ren] at hs ⊢;rw[hp j hj];exact hs
  |_=>cases h
 |.box j off,v,h,hs=>by
  have hj:j<n:=by simpa [SV.ret,Nat.blt_eq] using h
  simp only[SR,SV.ren] at hs ⊢;rw[hp j hj];exact hs
 |.agg l,v,h,hs=>by simp only[SR,SV.ren] at hs ⊢;obtain⟨cs,h1,h2⟩:=hs;exact⟨cs,h1,SRs.ren hp l cs h h2⟩
 |.tup l,v,h,hs=>by simp only[SR,SV.ren] at hs ⊢;obtain⟨cs,h1,h2⟩:=hs;exact⟨cs,h1,SRs.ren hp l cs h h2⟩
theorem SRs.ren {B:Heap}{pl pl':Nat→Value}{tb tb':Nat→Option Bool}{n d nt:Nat}(hp:∀ j,j<n→pl' (d+j*nt)=pl j) :
  ∀ (s:List SV) (v:List Value),SVs.ret n s=true→SRs P B pl tb s v→SRs P B pl' tb' (SVs.ren d nt s) v
 |[],v,_,hs=>by simp only[SRs,SVs.ren] at hs ⊢;exact hs
 |s::ss,v,h,hs=>by simp only[SVs.ret,Bool.and_eq_true] at h;simp only[SRs,SVs.ren] at hs ⊢;obtain⟨x,y,h1,h2,h3⟩:=hs;exact⟨x,y,h1,SR.ren hp s x h.1 h2,SRs.ren hp ss y h.2 h3⟩
end
theorem MR.flat {B B':Heap}{kk vk:Kind}(h1:kk.flat=true) (h2:vk.flat=true):∀ {m:List (kk.T×vk.T)}{es:List Jr},MR B kk vk m es→MR B' kk vk m es
 |[],es,h=>h
 |m::ms,es,h=>by obtain⟨e,bT,k1,k2,k3,k4⟩:=h;exact⟨e,bT,k1,k2.flat h1,k3.flat h2,MR.flat h1 h2 k4⟩
theorem OR.retd {B B':Heap}{pl pl':Nat→Value}{tb tb':Nat→Option Bool}{σ σ':Heap}{p:Value}{b:OB}(hb:b.ret=true) (h:OR P B pl tb σ p b) (hg:∀ i,Oid p i→σ'.get i=σ.get i):OR P B' pl' tb' σ' p b:=by
 cases b with
 |dead=>trivial
 |lst ty k xs nl =>
  rcases h with h|⟨h0,i,cap,c,t,h1,h2,h3,h4,h5⟩
  ·exact .inl h
  ·exact .inr ⟨h0,i,cap,c,t,h1,h2,by rw[hg i (by rw[h1];rfl)];exact h3,h4,h5.mono fun _ _ e=>KC.flat hb e⟩
 |cells l u =>obtain⟨i,c,e,t,h1,h2,h3,h4⟩:=h;exact⟨i,c,e,t,h1,by rw[hg i (by rw[h1];rfl)];exact h2,SRs.retd (n:=0) (fun j hj=>by omega) l c hb h3,h4⟩
 |map kk vk m =>simp only[OB.ret,Bool.and_eq_true] at hb;obtain⟨i,es,clock,h1,h2,h3⟩:=h;exact⟨i,es,clock,h1,by rw[hg i (by rw[h1];rfl)];exact h2,h3.1.flat hb.1 hb.2,h3.2⟩
 |stk l vals=>cases hb
 |deep ty q k xs nl hh=>exact DP.mono h hg
 |mapE kk vk m key n=>cases hb
 |iter kk vk m dn=>cases hb
 |lpf l q s=>cases hb
def Sv:(k:Kind)→k.T→List Value
 |.i ik,x=>[.int ik x]
 |.bo,x=>[.bool x]
 |.st,x=>[.string ⟨x.toArray⟩]
 |.list _,_=>[]
 |.pair a b,x=>Sv a x.1++Sv b x.2
def It:OB→Option Blk
 |.lst ty k xs nl=>if nl then none else some (.cells (xs.map (Sv k)).flatten ⟨k.size,ty⟩ true false)
 |_=>none
def Bz (σ:Heap) (bs:List OB):Heap where
 get i:=if i<σ.n then σ.get i else (bs[i-σ.n]?).bind It
 n:=σ.n+bs.length
 wf i h:=by rw[if_neg (by omega),List.getElem?_eq_none (by omega)];rfl
def TZ (σ:Heap) (bs:List OB) (j:Nat):Value:=match bs[j]? with
 |some (.lst _ _ xs nl)=>if nl then .slice none 0 0 else .slice (some ⟨σ.n+j,0,none⟩) xs.length xs.length
 |_=>poison
mutual
def KS (p:Nat→Value):SV→Value
 |.val k x=>(Sv k x).headD poison
 |.nilS=>.slice none 0 0
 |.nilP=>.pointer none
 |.nilM=>.map none
 |.nilF=>.nilFunc
 |.lst j=>p j
 |.agg l=>.agg (Yu p l).toArray
 |.tup l=>.tuple (Yu p l).toArray
 |_=>poison
def Yu (p:Nat→Value):List SV→List Value
 |[]=>[]
 |s::ss=>KS p s::Yu p ss
end
def Dead (σ σ':Heap):Prop:=σ.n≤σ'.n∧∀ i,i<σ.n→σ.get i=none→σ'.get i=none
theorem Dead.refl (σ:Heap):Dead σ σ:=⟨Nat.le_refl _,fun _ _ h=>h⟩
theorem Dead.trans {σ0 σ σ':Heap}(h:Dead σ0 σ) (h':Dead σ σ'):Dead σ0 σ':=⟨Nat.le_trans h.1 h'.1,fun i hi hg=>h'.2 i (Nat.lt_of_lt_of_le hi h.1) (h.2 i hi hg)⟩
def Ret (P:Program) (σ:Heap) (v:SV) (bs:List OB) (u:Value) (σ':Heap):Prop :=
 (σ.Le σ'∧Dead σ σ')∧(bs=[]→σ'=σ)∧∃ pl:Nat→Value,(∀ j b,bs[j]?=some b→OR P hNil pl ZF σ' (pl j) b∧∀ i,Oid (pl j) i→σ.get i=none∧σ.n≤i) ∧
  (∀ j j' i,j<bs.length→j'<bs.length→j≠j'→Oid (pl j) i→Oid (pl j') i→False)∧SR P hNil pl ZF v u
def I1 (P:Program) (ap:SV→List SV→Option (Prop×SV)):Prop :=
 ∀ σ f args c v fV vs,SR P σ Jq ZF f fV→SRs P σ Jq ZF args vs→ap f args=some (c,v)→c→v.ret 0=true∧∃ g a b,fV=.func (.func g) a b∧VCalled P g (a.toList++vs++b.toList) σ fun u σ'=>σ'=σ∧SR P hNil Jq ZF v u
def OkC (P:Program) (f:Nat) (sp:CSp):Prop :=
 ∀ ap,I1 P ap→∀ σ args vs c v bs,SRs P σ Jq ZF args vs→sp ap args=some (c,v,bs)→v.ret bs.length=true→bs.all OB.ret=true→c→(VCalled P f vs σ fun u σ'=>Ret P σ v bs u σ') ∧
  (bs.all OB.isL=true→KG v=true→VCalled P f vs σ fun u σ'=>u=KS (TZ σ bs) v∧σ'=Bz σ bs)
def CsOk (P:Program) (cs:List (Nat×CSp)):Prop:=∀ f sp,Qv cs f=some sp→OkC P f sp
theorem VCalled.mono {f:FuncId}{args:List Value}{σ:Heap}{R R':Value→Heap→Prop}(h:VCalled P f args σ R) (hr:∀ v σ',R v σ'→R' v σ'):VCalled P f args σ R':=by
 intro ρ w ax hH hL;rcases h ρ w ax hH hL with⟨h1,h2⟩|⟨c,h1,h2⟩
 ·exact .inl ⟨h1,h2.mono fun _ _ ⟨c,he,hg⟩=>⟨c,he,hg.mono hr⟩⟩
 ·exact .inr ⟨c,h1.mono hr,h2⟩
theorem HE {B:Heap}{pl:Nat→Value}{tb:Nat→Option Bool}{k:Kind}{v:SV}{u:Value}{x:k.T}(h:gap.asV k v=some x) (hs:SR P B pl tb v u):KV B k x u:=by
 unfold gap.asV at h;cases bO:k.one with
 |true =>rw[bO] at h;exact .inl ⟨bO,QF h (by simp only[SRs];exact⟨u,[],rfl,hs,rfl⟩)⟩
 |false =>
  rw[bO] at h;simp only[_root_.cond_false] at h;split at h
  ·simp only[SR] at hs;obtain⟨cs,rfl,hs⟩:=hs;exact .inr ⟨bO,cs,rfl,QF h hs⟩
  ·cases h
theorem TK {B:Heap}{pl:Nat→Value}{tb:Nat→Option Bool}:∀ {ks:List Kind}{args:List SV}{x:AT ks}{vs:List Value},gap.deca ks args=some x→SRs P B pl tb args vs→TR B ks x vs
 |[],[],x,vs,_,hs=>by simp only[SRs] at hs;exact hs
 |[],_::_,x,vs,h,_=>by cases h
 |[k],[],x,vs,h,_=>by cases h
 |[k],[v],x,vs,h,hs=>by obtain⟨u,rfl,h1⟩:=hs.one;exact⟨u,rfl,HE h h1⟩
 |[k],_::_::_,x,vs,h,_=>by cases h
 |k::k'::ks,[],x,vs,h,_=>by cases h
 |k::k'::ks,v::args,x,vs,h,hs=>by
  simp only[gap.deca] at h;split at h
  ·rename_i y z h1 h2;obtain rfl:=osj h;simp only[SRs] at hs;obtain⟨u,us,rfl,h3,h4⟩:=hs;exact⟨u,us,rfl,HE h1 h3,TK h2 h4⟩
  ·cases h
theorem Ret.flat {σ σ':Heap}{v:SV}{u:Value}(h:Ret P σ v [] u σ') (hv:v.ret 0=true):σ'=σ∧SR P hNil Jq ZF v u:=by obtain⟨_,h2,pl,_,_,h5⟩:=h;exact⟨h2 rfl,h5.retd (fun j hj=>by omega) _ _ hv⟩
theorem KV.vcall {B σ:Heap}(hB:B.Le σ) {k:Kind}{x:k.T}{v:Value}(h:KV B k x v):KV σ k x v:=by
 rcases h with⟨h1,h2⟩|⟨h1,cs,h2,h3⟩
 ·exact .inl ⟨h1,h2.mono hB⟩
 ·exact .inr ⟨h1,cs,h2,h3.mono hB⟩
theorem DC:∀ {k:Kind}{x:k.T},k.flat=true→SVs.ret 0 (UF k x)=true
 |.i _,_,_|.bo,_,_|.st,_,_=>rfl
 |.list _,_,h=>by cases h
 |.pair a b,x,h=>by
  simp only[Kind.flat,Bool.and_eq_true] at h;have app:∀ l m:List SV,SVs.ret 0 l=true→SVs.ret 0 m=true→SVs.ret 0 (l++m)=true:=by
   intro l m hl hm;induction l with
   |nil=>exact hm
   |cons s l ih =>simp only[SVs.ret,Bool.and_eq_true,List.cons_append] at hl ⊢;exact⟨hl.1,ih hl.2⟩
  exact app _ _ (DC h.1) (DC h.2)
theorem OP {k:Kind}{x:k.T}(h:k.flat=true):(FQ k x).ret 0=true:=by
 cases k with
 |pair a b=>exact DC (k:=.pair a b) h
 |list k=>cases h
 |_=>rfl
theorem FR {cs:List (Nat×CSp)}(h:CsOk P cs):∀ n,I1 P (gap cs n)
 |0=>fun σ f args c v fV vs _ _ h=>by cases h
 |n+1=>by
  intro σ f args c v fV vs hf ha hg hc;cases f with
  |fn g a b =>
   simp only[gap] at hg;split at hg
   ·rename_i sp ep;split at hg
    ·rename_i c' v' heq;cases hv:v'.ret 0 with
     |false=>rw[hv] at hg;cases hg
     |true =>rw[hv] at hg;simp only[_root_.cond_true,Option.some.injEq,Prod.mk.injEq] at hg;obtain⟨rfl,rfl⟩:=hg;simp only[SR] at hf;obtain⟨x,y,rfl,h1,h2⟩:=hf;refine⟨hv,g,x.toArray,y.toArray,rfl,?_⟩;have:=(h g sp ep (gap cs n) (FR h n) σ (a++args++b) (x++vs++y) c' v' [] ((h1.append ha).append h2) heq hv rfl hc).1;simpa using this.mono fun u σ' hr=>hr.flat hv
    ·cases hg
   ·cases hg
  |pf ks r cO p =>
   simp only[gap] at hg;split at hg
   ·rename_i x hx;cases hr:r.flat with
    |false=>rw[hr] at hg;cases hg
    |true =>rw[hr] at hg;obtain⟨rfl,rfl⟩:=QS hg;simp only[SR] at hf;obtain⟨g,first,cap,rfl,aB⟩:=hf;have h2:=aB x hc σ vs (Heap.Le.refl _) (TK hx ha);have dx:=OP (x:=p x) hr;exact⟨dx,g,first,cap,rfl,h2.mono fun u σ' hu=>⟨hu.1,(JY (P:=P) (pl:=Jq) (tb:=ZF) hu.2).retd (fun j hj=>by omega) _ _ dx⟩⟩
   ·cases hg
  |_=>cases hg
end
end Go.V
namespace Go.V
open Go
theorem DropTo.rename2 {σ0 σf σ':Heap}{v v':Value}(π:Nat→Nat) (h1:σ0.n≤σ'.n)
  (h2:∀ i,i<σ0.n→π i=i∧σ'.get i=σf.get i∧(σf.get i=σ0.get i∨∃ b,σf.get i=some b∧b.plain=true))
  (h3:∀ i,σ0.n≤i→i<σ'.n→σ0.n≤π i∧((σ'.get i=none∧σf.get (π i)=none)∨∃ b' b,σ'.get i=some b'∧σf.get (π i)=some b∧BRen σ'.n π b' b))
  (h4:∀ i j,σ0.n≤i→i<σ'.n→σ0.n≤j→j<σ'.n→π i=π j→i=j) (h5:Ren σ'.n π v' v):DropTo σ0 v σf v' σ':=by
 intro ρ0 w0 ρ w c fD hE hH hv;have hπ:∀ i,i<σ0.n→π i=i:=fun i hi=>(h2 i hi).1;have aD:∀ i b',σ'.get i=some b'→∃ b,σf.get (π i)=some b∧BRen σ'.n π b' b:=fun i b' hb=>by
  have hi:=σ'.lt hb;rcases Nat.lt_or_ge i σ0.n with ai|bI
  ·obtain⟨k1,k2,k3⟩:=h2 i ai;rw[k1];rw[k2] at hb;refine⟨b',hb,?_⟩;rcases k3 with k3|⟨b,k3,k4⟩
   ·rw[k3] at hb;obtain⟨p,_,hB⟩:=fD.live i b' hb;exact hB.ren h1 hπ
   ·rw[k3] at hb;obtain rfl:=osj hb;exact BRen.plain k4
  ·obtain⟨_,⟨k1,_⟩|⟨b1,b,k1,k2,k3⟩⟩:=h3 i bI hi
   ·rw[k1] at hb;cases hb
   ·rw[k1] at hb;obtain rfl:=osj hb;exact⟨b,k2,k3⟩
 have eI:∀ i j,i<σ'.n→j<σ'.n→π i=π j→i=j:=fun i j hi hj he=>by
  rcases Nat.lt_or_ge i σ0.n with ai|bI<;>rcases Nat.lt_or_ge j σ0.n with bW|gU
  ·rw[hπ i ai,hπ j bW] at he;exact he
  ·have:=(h3 j gU hj).1;rw[hπ i ai] at he;omega
  ·have:=(h3 i bI hi).1;rw[hπ j bW] at he;omega
  ·exact h4 i j bI hi gU hj he
 have hX:Ext ρ0 σ0 w0 (fun i=>if i<σ'.n then ρ (π i) else none) σ' w:=by
  refine⟨hE.os,hE.tape,hE.output,hE.size,hE.keep,?_,h1,fun i hi p hp=>?_⟩
  ·rintro B hB ⟨i,p,b,hp,hb,hw,rfl⟩;change (if i<σ'.n then ρ (π i) else none)=some p at hp;split at hp
   ·obtain⟨b0,bw,cu⟩:=aD i b hb;exact hE.wr _ hB ⟨π i,p,b0,hp,bw,by rw[←cu.wr];exact hw,rfl⟩
   ·cases hp
  ·change (if i<σ'.n then ρ (π i) else none)=some p at hp;split at hp
   ·rw[hπ i hi] at hp;exact hE.pl i hi p hp
   ·cases hp
 refine⟨fun i=>if i<σ'.n then ρ (π i) else none,h5.rel hv,fD.ext ⟨fun i b' hb=>?_,fun i hi=>?_,fun i p hp=>?_,fun i j p q b b8 hp hq hb hw hx=>?_⟩ hX,hX⟩
 ·obtain⟨b,bw,cu⟩:=aD i b' hb;obtain⟨p,hp,hB⟩:=hH.live _ b bw;exact⟨p,by simp[σ'.lt hb,hp],cu.rel hB⟩
 ·show (if i<σ'.n then ρ (π i) else none)=none;split
  ·rename_i ai;rcases Nat.lt_or_ge i σ0.n with bW|bI
   ·obtain⟨k1,k2,_⟩:=h2 i bW;rw[k1];exact hH.dead i (by rw[←k2];exact hi)
   ·obtain⟨_,⟨_,k2⟩|⟨b1,b,k1,_⟩⟩:=h3 i bI ai
    ·exact hH.dead _ k2
    ·rw[k1] at hi;cases hi
  ·rfl
 ·change (if i<σ'.n then ρ (π i) else none)=some p at hp;split at hp
  ·exact hH.lt _ p hp
  ·cases hp
 ·change (if i<σ'.n then ρ (π i) else none)=some p at hp;change (if j<σ'.n then ρ (π j) else none)=some q at hq;split at hp
  ·rename_i hi;split at hq
   ·rename_i hj;obtain⟨b0,bw,cu⟩:=aD i b hb;exact hH.sep (π i) (π j) p q b0 (fun e=>b8 (eI i j hi hj e)) hp hq bw (by rw[←cu.wr];exact hw) hx
   ·cases hq
  ·cases hp
theorem KC.enc {h:Heap}:∀ {k:Kind}{x:k.T}{cs:List Value},k.flat=true→KC h k x cs→cs=Sv k x
 |.i _,_,_,_,e|.bo,_,_,_,e|.st,_,_,_,e=>e
 |.list _,_,_,f,_=>by cases f
 |.pair a b,x,cs,f,e=>by simp only[Kind.flat,Bool.and_eq_true] at f;obtain⟨c1,c2,rfl,h1,h2⟩:=e;rw[KC.enc f.1 h1,KC.enc f.2 h2];rfl
theorem Rows.enc {h:Heap}{k:Kind}(hk:k.flat=true) {xs:List k.T}{cs:List Value}(hr:Rows (KC h k) xs cs):cs=(xs.map (Sv k)).flatten:=by
 induction hr with
 |nil=>rfl
 |cons h _ ih=>rw[List.map_cons,List.flatten_cons,←ih,KC.enc hk h]
theorem Ge:∀ {k:Kind}{x:k.T},k.flat=true→(Sv k x).all QQ=true
 |.i _,_,_|.bo,_,_|.st,_,_=>rfl
 |.list _,_,h=>by cases h
 |.pair a b,x,h=>by simp only[Kind.flat,Bool.and_eq_true] at h;simp only[Sv,List.all_append,Bool.and_eq_true];exact⟨Ge h.1,Ge h.2⟩
section
variable {P:Program}
mutual
theorem KX {B:Heap}{pl:Nat→Value}{tb:Nat→Option Bool}{n:Nat}:∀ (s:SV) (v:Value),s.ret n=true→KG s=true→SR P B pl tb s v→v=KS pl s
 |.val k x,v,h,_,hs=>by simp only[SR] at hs;have:=KC.enc h hs;simp only[KS,←this,List.headD_cons]
 |.nilS,v,_,_,hs|.nilP,v,_,_,hs|.nilM,v,_,_,hs|.nilF,v,_,_,hs=>by simp only[SR] at hs;exact hs
 |.lst j,v,_,_,hs=>by simp only[SR] at hs;exact hs.1
 |.agg l,v,h,hb,hs=>by simp only[SR] at hs;obtain⟨cs,rfl,h2⟩:=hs;rw[MO l cs h hb h2];rfl
 |.tup l,v,h,hb,hs=>by simp only[SR] at hs;obtain⟨cs,rfl,h2⟩:=hs;rw[MO l cs h hb h2];rfl
 |.box _ _,_,_,hb,_|.map _,_,_,hb,_=>by cases hb
 |.any,_,h,_,_|.bid _ _,_,h,_,_|.grd _ _,_,h,_,_|.sub _ _ _ _,_,h,_,_|.elp _ _ _ _,_,h,_,_|.rop _ _ _ _,_,h,_,_|.cp _ _,_,h,_,_|.fn _ _ _,_,h,_,_|.pf _ _ _ _,_,h,_,_=>by cases h
theorem MO {B:Heap}{pl:Nat→Value}{tb:Nat→Option Bool}{n:Nat}:∀ (s:List SV) (v:List Value),SVs.ret n s=true→UM s=true→SRs P B pl tb s v→v=Yu pl s
 |[],v,_,_,hs=>by simp only[SRs] at hs;exact hs
 |s::ss,v,h,hb,hs=>by simp only[SVs.ret,Bool.and_eq_true] at h;simp only[UM,Bool.and_eq_true] at hb;simp only[SRs] at hs;obtain⟨x,y,rfl,h1,h2⟩:=hs;rw[KX s x h.1 hb.1 h1,MO ss y h.2 hb.2 h2];rfl
end
theorem Ik {k:Kind}{x:k.T}(h:k.flat=true):QQ ((Sv k x).headD poison)=true∨(Sv k x).headD poison=poison:=by
 have:=Ge (x:=x) h;cases e:Sv k x with
 |nil=>exact .inr rfl
 |cons a l=>rw[e] at this;simp only[List.all_cons,Bool.and_eq_true] at this;exact .inl this.1
mutual
theorem A4 {n m:Nat}{π:Nat→Nat}{p q:Nat→Value}(h:∀ j,j<m→Ren n π (p j) (q j)):∀ (s:SV),s.ret m=true→KG s=true→Ren n π (KS p s) (KS q s)
 |.val k x,hr,_=>by
  simp only[KS];rcases Ik (x:=x) hr with h|h
  ·exact .plain _ h
  ·rw[h];exact .poison _
 |.nilS,_,_|.nilP,_,_|.nilM,_,_|.nilF,_,_=>.plain _ rfl
 |.lst j,hr,_=>h j (by simpa [SV.ret,Nat.blt_eq] using hr)
 |.agg l,hr,hb=>by have:=HK h l hr hb;simp only[KS];refine .agg _ _ (by simpa using this.1) fun i h1 h2=>this.2 i _ _ (by simp) (by simp)
 |.tup l,hr,hb=>by have:=HK h l hr hb;simp only[KS];refine .tuple _ _ (by simpa using this.1) fun i h1 h2=>this.2 i _ _ (by simp) (by simp)
 |.box _ _,_,hb|.map _,_,hb=>by cases hb
 |.any,h,_|.bid _ _,h,_|.grd _ _,h,_|.sub _ _ _ _,h,_|.elp _ _ _ _,h,_|.rop _ _ _ _,h,_|.cp _ _,h,_|.fn _ _ _,h,_|.pf _ _ _ _,h,_=>by cases h
theorem HK {n m:Nat}{π:Nat→Nat}{p q:Nat→Value}(h:∀ j,j<m→Ren n π (p j) (q j)):∀ (s:List SV),SVs.ret m s=true→UM s=true→LRen n π (Yu p s) (Yu q s)
 |[],_,_=>⟨rfl,fun i v c hv=>by simp[Yu] at hv⟩
 |s::ss,hr,hb=>by
  simp only[SVs.ret,Bool.and_eq_true] at hr;simp only[UM,Bool.and_eq_true] at hb;have h1:=A4 h s hr.1 hb.1;have h2:=HK h ss hr.2 hb.2;refine⟨by simp[Yu,h2.1],fun i v c hv hc=>?_⟩;cases i with
  |zero=>simp[Yu] at hv hc;subst hv;subst hc;exact h1
  |succ i=>simp[Yu] at hv hc;exact h2.2 i v c hv hc
end
mutual
theorem Lz {m:Nat}{S:Nat→Prop}{p q:Nat→Value}(h:∀ j,j<m→Weak S (p j) (q j)):∀ (s:SV),s.ret m=true→KG s=true→Weak S (KS p s) (KS q s)
 |.val k x,_,_=>.refl _
 |.nilS,_,_|.nilP,_,_|.nilM,_,_|.nilF,_,_=>.refl _
 |.lst j,hr,_=>h j (by simpa [SV.ret,Nat.blt_eq] using hr)
 |.agg l,hr,hb=>by have:=Dt h l hr hb;simp only[KS];exact .agg _ _ this.1 this.2
 |.tup l,hr,hb=>by have:=Dt h l hr hb;simp only[KS];exact .tuple _ _ this.1 this.2
 |.box _ _,_,hb|.map _,_,hb=>by cases hb
 |.any,h,_|.bid _ _,h,_|.grd _ _,h,_|.sub _ _ _ _,h,_|.elp _ _ _ _,h,_|.rop _ _ _ _,h,_|.cp _ _,h,_|.fn _ _ _,h,_|.pf _ _ _ _,h,_=>by cases h
theorem Dt {m:Nat}{S:Nat→Prop}{p q:Nat→Value}(h:∀ j,j<m→Weak S (p j) (q j)):∀ (s:List SV),SVs.ret m s=true→UM s=true→(Yu p s).length=(Yu q s).length∧∀ (i:Nat) (a b:Value),(Yu p s)[i]?=some a→(Yu q s)[i]?=some b→Weak S a b
 |[],_,_=>⟨rfl,fun i v c hv=>by simp[Yu] at hv⟩
 |s::ss,hr,hb=>by
  simp only[SVs.ret,Bool.and_eq_true] at hr;simp only[UM,Bool.and_eq_true] at hb;have h1:=Lz h s hr.1 hb.1;have h2:=Dt h ss hr.2 hb.2;refine⟨by simp[Yu,h2.1],fun i v c hv hc=>?_⟩;cases i with
  |zero=>simp[Yu] at hv hc;subst hv;subst hc;exact h1
  |succ i=>simp[Yu] at hv hc;exact h2.2 i v c hv hc
end
theorem KC.ofEnc {h:Heap}:∀ {k:Kind}{x:k.T},k.flat=true→KC h k x (Sv k x)
 |.i _,_,_|.bo,_,_|.st,_,_=>by simp[KC,Sv]
 |.list _,_,f=>by cases f
 |.pair a b,x,f=>by simp only[Kind.flat,Bool.and_eq_true] at f;exact⟨_,_,rfl,KC.ofEnc f.1,KC.ofEnc f.2⟩
theorem Rows.ofEnc {h:Heap}{k:Kind}(hk:k.flat=true):∀ xs:List k.T,Rows (KC h k) xs (xs.map (Sv k)).flatten
 |[]=>.nil
 |x::xs=>by rw[List.map_cons,List.flatten_cons];exact .cons (KC.ofEnc hk) (Rows.ofEnc hk xs)
mutual
theorem Sr {pl:Nat→Value}{m:Nat}(h:∀ j,j<m→∃ a n c,pl j=.slice a n c):∀ (s:SV),s.ret m=true→KG s=true→SR P hNil pl ZF s (KS pl s)
 |.val k x,hr,hb=>by have h1:=KC.ofEnc (h:=hNil) (x:=x) hr;have h2:=KC.length h1;rw[Kind.one_size hb] at h2;obtain⟨c,e⟩:=List.length_eq_one_iff.1 h2;simp only[KS,SR,e,List.headD_cons];rw[e] at h1;exact h1
 |.nilS,_,_|.nilP,_,_|.nilM,_,_|.nilF,_,_=>by simp[KS,SR]
 |.lst j,hr,_=>by simp only[KS,SR];exact⟨trivial,h j (by simpa [SV.ret,Nat.blt_eq] using hr)⟩
 |.agg l,hr,hb=>by simp only[KS,SR];exact⟨_,rfl,Rj h l hr hb⟩
 |.tup l,hr,hb=>by simp only[KS,SR];exact⟨_,rfl,Rj h l hr hb⟩
 |.box _ _,_,hb|.map _,_,hb=>by cases hb
 |.any,h,_|.bid _ _,h,_|.grd _ _,h,_|.sub _ _ _ _,h,_|.elp _ _ _ _,h,_|.rop _ _ _ _,h,_|.cp _ _,h,_|.fn _ _ _,h,_|.pf _ _ _ _,h,_=>by cases h
theorem Rj {pl:Nat→Value}{m:Nat}(h:∀ j,j<m→∃ a n c,pl j=.slice a n c):∀ (s:List SV),SVs.ret m s=true→UM s=true→SRs P hNil pl ZF s (Yu pl s)
 |[],_,_=>by simp[Yu,SRs]
 |s::ss,hr,hb=>by simp only[SVs.ret,Bool.and_eq_true] at hr;simp only[UM,Bool.and_eq_true] at hb;simp only[Yu,SRs];exact⟨_,_,rfl,Sr h s hr.1 hb.1,Rj h ss hr.2 hb.2⟩
end
theorem Q5k {σ:Heap}{bs:List OB}(hl:bs.all OB.isL=true) {j:Nat}(hj:j<bs.length):∃ a n c,TZ σ bs j=.slice a n c:=by
 have hb:=List.all_eq_true.1 hl _ (List.getElem_mem hj);simp only[TZ,List.getElem?_eq_getElem hj];cases e:bs[j] with
 |lst ty k xs nl=>cases nl<;>simp
 |_=>rw[e] at hb;cases hb
theorem Em {σ0 σf:Heap}(hA:Agree σ0 σf) (hn:σ0.n≤σf.n) {v:SV}{bs:List OB}(hv:v.ret bs.length=true) (cD:KG v=true) (hb:bs.all OB.ret=true) (hl:bs.all OB.isL=true) {pl:Nat→Value}{u:Value}
  (al:∀ j b,bs[j]?=some b→OR P hNil pl ZF σf (pl j) b∧∀ i,oid (pl j)=some i→σ0.n≤i)
  (ff:∀ j j' i,j<bs.length→j'<bs.length→j≠j'→oid (pl j)=some i→oid (pl j')=some i→False) (hu:SR P hNil pl ZF v u) :
  DropTo σ0 u σf (KS (TZ σ0 bs) v) (Bz σ0 bs):=by
 have b_:=KX v u hv cD hu;subst b_;have kind:∀ j,j<bs.length→∃ ty k xs nl,bs[j]?=some (.lst ty k xs nl)∧k.flat=true∧((nl=true∧xs=[]∧pl j=.slice none 0 0)∨(nl=false∧∃ i cap c t,pl j=.slice (some ⟨i,0,none⟩) xs.length cap∧xs.length≤cap∧σ0.n≤i∧σf.get i=some (.cells c ⟨k.size,ty⟩ true t)∧c.take (xs.length*k.size)=(xs.map (Sv k)).flatten∧Rows (KC hNil k) xs (xs.map (Sv k)).flatten)):=by
  intro j hj;have e:=List.getElem?_eq_getElem hj;have h1:=List.all_eq_true.1 hb _ (List.getElem_mem hj);have h2:=List.all_eq_true.1 hl _ (List.getElem_mem hj);obtain⟨ho,hi⟩:=al j _ e;cases cY:bs[j] with
  |lst ty k xs nl =>
   rw[cY] at e ho h1;refine⟨ty,k,xs,nl,e,h1,?_⟩;rcases ho with⟨k1,k2,k3⟩|⟨k0,i,cap,c,t,k1,k2,k3,k4,k5⟩
   ·exact .inl ⟨k1,k2,k3⟩
   ·have k6:=Rows.enc h1 k5;exact .inr ⟨k0,i,cap,c,t,k1,k2,hi i (by rw[k1];rfl),k3,k6,by rw[←k6];exact k5⟩
  |_=>rw[cY] at h2;cases h2
 let S:Nat→Bool:=fun i=>(List.range bs.length).any fun j=>decide (oid (pl j)=some i);have hS:∀ i,S i=true↔∃ j,j<bs.length∧oid (pl j)=some i:=fun i=>by simp only[S,List.any_eq_true,List.mem_range,decide_eq_true_eq]
 let σw:Heap:=⟨fun i=>if S i=true then ((List.range bs.length).find? fun j=>decide (oid (pl j)=some i)).bind fun j=>(bs[j]?).bind It else σf.get i,σf.n,fun i hi=>by
  by_cases h:S i=true
  ·obtain⟨j,hj,bj⟩:=(hS i).1 h;obtain⟨ty,k,xs,nl,_,_,h3⟩:=kind j hj;rcases h3 with⟨_,_,k3⟩|⟨_,i',cap,c,t,k1,_,_,k3,_⟩
   ·rw[k3] at bj;cases bj
   ·rw[k1] at bj;obtain rfl:=osj bj;exact absurd (σf.lt k3) (Nat.not_lt.2 hi)
  ·rw[if_neg h];exact σf.wf i hi⟩
 have cR:∀ j i,j<bs.length→oid (pl j)=some i→σw.get i=(bs[j]?).bind It:=fun j i hj bj=>by
  have h1:S i=true:=(hS i).2 ⟨j,hj,bj⟩;show (if S i=true then _ else _)=_;rw[if_pos h1];cases hf:(List.range bs.length).find? fun j=>decide (oid (pl j)=some i) with
  |none=>have:=List.find?_eq_none.1 hf j (List.mem_range.2 hj);simp[bj] at this
  |some j' =>have h2:=List.find?_some hf;have h3:=List.mem_range.1 (List.mem_of_find?_eq_some hf);have h4:j'=j:=Classical.byContradiction fun aA=>ff j' j i h3 hj aA (by simpa using h2) bj;subst h4;rfl
 let q:Nat→Value:=fun j=>match pl j with
  |.slice (some a) n _=>.slice (some a) n n
  |v=>v
 have hq:∀ j,j<bs.length→Weak (fun i=>S i=true) (pl j) (q j):=fun j hj=>by
  obtain⟨ty,k,xs,nl,_,_,h3⟩:=kind j hj;rcases h3 with⟨_,_,k3⟩|⟨_,i',cap,c,t,k1,k2,_,k3,_⟩
  ·simp only[q,k3];exact .refl _
  ·simp only[q,k1];exact .sl _ _ _ ((hS i').2 ⟨j,hj,by rw[k1];rfl⟩) k2
 have nq:DropTo σ0 (KS pl v) σf (KS q v) σw:=by
  refine DropTo.weaken S (fun i hi=>?_) rfl hn (fun i hi=>?_) (fun i hi=>?_) (Lz hq v hv cD)
  ·obtain⟨j,hj,bj⟩:=(hS i).1 hi;exact(al j _ (List.getElem?_eq_getElem hj)).2 i bj
  ·show (if S i=true then _ else _)=_;rw[if_neg (by simp[hi])]
  ·obtain⟨j,hj,bj⟩:=(hS i).1 hi;obtain⟨ty,k,xs,nl,e,_,h3⟩:=kind j hj;rcases h3 with⟨_,_,k3⟩|⟨k0,i',cap,c,t,k1,k2,_,k3,k4,_⟩
   ·rw[k3] at bj;cases bj
   ·rw[k1] at bj;obtain rfl:=osj bj;refine⟨c,_,true,t,xs.length*k.size,k3,?_⟩;rw[cR j _ hj (by rw[k1];rfl),e];simp only[Option.bind_some,It,k0];rw[k4];rfl
 have iv:∀ j i,j<bs.length→oid (pl j)=some i→i<σf.n:=fun j i hj bj=>by
  obtain⟨ty,k,xs,nl,_,_,h3⟩:=kind j hj;rcases h3 with⟨_,_,k3⟩|⟨_,i',cap,c,t,k1,_,_,k3,_⟩
  ·rw[k3] at bj;cases bj
  ·rw[k1] at bj;obtain rfl:=osj bj;exact σf.lt k3
 let π:Nat→Nat:=fun i=>if i<σ0.n then i else match oid (pl (i-σ0.n)) with
  |some id=>id
  |none=>σf.n+i
 have sV:σw.n=σf.n:=rfl;have nr:DropTo σ0 (KS q v) σw (KS (TZ σ0 bs) v) (Bz σ0 bs):=by
  refine DropTo.rename2 π (by simp[Bz]) (fun i hi=>⟨by simp[π,hi],?_,.inl ?_⟩) (fun i h1 h2=>?_) (fun i j h1 h2 h3 h4 he=>?_) (A4 (fun j hj=>?_) v hv cD)
  ·have hs:S i=false:=by
    cases hs:S i with
    |false=>rfl
    |true=>obtain⟨j,hj,bj⟩:=(hS i).1 hs;have:=(al j _ (List.getElem?_eq_getElem hj)).2 i bj;omega
   show (if i<σ0.n then _ else _)=(if S i=true then _ else _);rw[if_pos hi,if_neg (by simp[hs]),hA i hi]
  ·have hs:S i=false:=by
    cases hs:S i with
    |false=>rfl
    |true=>obtain⟨j,hj,bj⟩:=(hS i).1 hs;have:=(al j _ (List.getElem?_eq_getElem hj)).2 i bj;omega
   show (if S i=true then _ else _)=_;rw[if_neg (by simp[hs]),hA i hi]
  ·have hj:i-σ0.n<bs.length:=by simp[Bz] at h2;omega
   have bI:¬ i<σ0.n:=by omega
   obtain⟨ty,k,xs,nl,e,pM,h3⟩:=kind _ hj;have nu:(Bz σ0 bs).get i=(bs[i-σ0.n]?).bind It:=by show (if i<σ0.n then _ else _)=_;rw[if_neg bI]
   rcases h3 with⟨k0,_,k3⟩|⟨k0,i',cap,c,t,k1,k2,kW,k3,k4,_⟩
   ·have hp:π i=σf.n+i:=by simp only[π,if_neg bI,k3,oid]
    refine⟨by omega,.inl ⟨?_,σw.wf _ (by rw[hp,sV];omega)⟩⟩;rw[nu,e];simp[It,k0]
   ·have hp:π i=i':=by simp only[π,if_neg bI,k1,oid]
    rw[hp];have hw:=cR _ i' hj (by rw[k1];rfl);rw[e] at hw;simp only[Option.bind_some,It,k0] at hw;refine⟨kW,.inr ⟨_,_,?_,hw,BRen.plain ?_⟩⟩
    ·rw[nu,e];simp[It,k0]
    ·simp only[Blk.plain,List.all_flatten,List.all_map];rw[List.all_eq_true];intro x _;exact Ge pM
  ·have hi:i-σ0.n<bs.length:=by simp[Bz] at h2;omega
   have hj:j-σ0.n<bs.length:=by simp[Bz] at h4;omega
   have gy:¬ i<σ0.n:=by omega
   have sW:¬ j<σ0.n:=by omega
   simp only[π,if_neg gy,if_neg sW] at he;cases e1:oid (pl (i-σ0.n)) with
   |none =>
    cases e2:oid (pl (j-σ0.n)) with
    |none=>rw[e1,e2] at he;simp only at he;omega
    |some b=>rw[e1,e2] at he;have:=iv _ b hj e2;simp only at he;omega
   |some a =>
    cases e2:oid (pl (j-σ0.n)) with
    |none=>rw[e1,e2] at he;have:=iv _ a hi e1;simp only at he;omega
    |some b =>rw[e1,e2] at he;simp only at he;subst he;have:i-σ0.n=j-σ0.n:=Classical.byContradiction fun aA=>ff _ _ a hi hj aA e1 e2;omega
  ·obtain⟨ty,k,xs,nl,e,_,h3⟩:=kind j hj;rcases h3 with⟨k0,kx,k3⟩|⟨k0,i',cap,c,t,k1,k2,_,k3,_⟩
   ·simp only[TZ,e,k0,if_true,q,k3];exact .plain _ rfl
   ·simp only[TZ,e,k0,Bool.false_eq_true,if_false,q,k1];have hp:π (σ0.n+j)=i':=by
     have:¬ σ0.n+j<σ0.n:=by omega
     simp only[π,if_neg this,Nat.add_sub_cancel_left,k1,oid]
    have:=Ren.sl (n:=(Bz σ0 bs).n) (π:=π) (σ0.n+j) 0 xs.length xs.length (by simp[Bz];omega)
    rwa [hp] at this
 exact nq.trans nr
def OB.wfL:OB→Prop
 |.lst _ _ xs nl=>nl=true→xs=[]
 |_=>True
theorem SY (σ0:Heap) {v:SV}{bs:List OB}(hv:v.ret bs.length=true) (cD:KG v=true) (hb:bs.all OB.ret=true) (hl:bs.all OB.isL=true) (hw:∀ b∈bs,b.wfL):Ret P σ0 v bs (KS (TZ σ0 bs) v) (Bz σ0 bs):=by
 have kind:∀ j,j<bs.length→∃ ty k xs nl,bs[j]?=some (.lst ty k xs nl)∧k.flat=true∧(nl=true→xs=[]):=fun j hj=>by
  have e:=List.getElem?_eq_getElem hj;have h1:=List.all_eq_true.1 hb _ (List.getElem_mem hj);have h2:=List.all_eq_true.1 hl _ (List.getElem_mem hj);have h3:=hw _ (List.getElem_mem hj);cases cY:bs[j] with
  |lst ty k xs nl=>rw[cY] at e h1 h3;exact⟨ty,k,xs,nl,e,h1,h3⟩
  |_=>rw[cY] at h2;cases h2
 refine⟨⟨?_,?_⟩,?_,TZ σ0 bs,fun j b hj=>?_,fun j j' i hj dj aA h1 h2=>?_,Sr (fun j hj=>Q5k hl hj) v hv cD⟩
 ·refine⟨by simp[Bz],fun i b hg=>?_⟩;show (if i<σ0.n then _ else _)=_;rw[if_pos (σ0.lt hg)];exact hg
 ·refine⟨by simp[Bz],fun i hi hg=>?_⟩;show (if i<σ0.n then _ else _)=_;rw[if_pos hi];exact hg
 ·rintro rfl;apply Heap.ext'
  ·intro i;show (if i<σ0.n then _ else _)=_;by_cases hi:i<σ0.n
   ·rw[if_pos hi]
   ·rw[if_neg hi,σ0.wf i (by omega)];rfl
  ·simp[Bz]
 ·have cf:j<bs.length:=(List.getElem?_eq_some_iff.1 hj).1;obtain⟨ty,k,xs,nl,e,pM,h3⟩:=kind j cf;obtain rfl:=osj (e.symm.trans hj);cases nl with
  |true =>
   have hp:TZ σ0 bs j=.slice none 0 0:=by simp[TZ,e]
   rw[hp];exact⟨.inl ⟨rfl,h3 rfl,rfl⟩,fun i hi=>by cases hi⟩
  |false =>
   have hp:TZ σ0 bs j=.slice (some ⟨σ0.n+j,0,none⟩) xs.length xs.length:=by simp[TZ,e]
   have k5:=Rows.ofEnc (h:=hNil) pM xs;have dm:=k5.length KC.rows_len;rw[hp];refine⟨.inr ⟨rfl,σ0.n+j,xs.length,(xs.map (Sv k)).flatten,false,rfl,Nat.le_refl _,?_,by omega,?_⟩,fun i hi=>?_⟩
   ·show (if σ0.n+j<σ0.n then _ else _)=_;rw[if_neg (by omega),Nat.add_sub_cancel_left,e];simp[It]
   ·rw[List.take_of_length_le (by omega)];exact k5
   ·obtain rfl:=osj hi;exact⟨σ0.wf _ (by simp),by simp⟩
 ·obtain⟨ty,k,xs,nl,e,_,h3⟩:=kind j hj;obtain⟨iA,k',cF,jP,e',_,jT⟩:=kind j' dj;simp only[TZ,e] at h1;simp only[TZ,e'] at h2;cases nl with
  |true=>simp[Oid,oid] at h1
  |false =>
   cases jP with
   |true=>simp[Oid,oid] at h2
   |false=>simp[Oid,oid] at h1 h2;omega
end
end Go.V
namespace Go.V
open Go
section
variable {P:Program}{B F:Heap}{pl:Nat→Value}{tb:Nat→Option Bool}{own:Own}{σ:Heap}
mutual
theorem E_ {bx:List SV→Nat→SV}(hle:B.Le σ) (av:∀ d,OR P B pl tb σ (pl d) (Q9 own d))
  (jU:∀ l off b c e t,σ.get b=some (.cells c e true t)→SRs P B pl tb l c→SR P σ Jq ZF (bx l off) (.pointer (some ⟨b,off,none⟩))) :
  ∀ (s:SV) (v:Value),SR P B pl tb s v→SR P σ Jq ZF (Pn own bx s) v
 |.any,v,h=>by simp[Pn,SR]
 |.val k x,v,h=>by simp only[Pn,SR] at h ⊢;exact h.mono hle
 |.bid n c,v,h=>by simp only[Pn,SR] at h ⊢;obtain⟨rfl,_⟩:=h;rfl
 |.grd gs s,v,h=>by simp[Pn,SR]
 |.nilS,v,h=>by simp only[Pn,SR] at h ⊢;exact h
 |.nilP,v,h=>by simp only[Pn,SR] at h ⊢;exact h
 |.nilM,v,h=>by simp only[Pn,SR] at h ⊢;exact h
 |.nilF,v,h=>by simp only[Pn,SR] at h ⊢;exact h
 |.lst o,v,h=>by
  simp only[Pn];split
  ·rename_i ty k xs nl ho;have:view own k (.lst o)=some xs:=by simp[view,ho,Nt]
   simp only[SR,KC];exact⟨v,rfl,(V2 hle av this h).mono (Heap.Le.refl _) fun _ _ e=>e.mono hle⟩
  ·simp[SR]
 |.sub o lo n sz,v,h=>by
  simp only[Pn];split
  ·rename_i ty k xs nl ho;split
   ·rename_i aI;have:view own k (.sub o lo n sz)=some ((xs.drop lo).take n):=by simp[view,ho,Nt,aI]
    simp only[SR,KC];exact⟨v,rfl,(V2 hle av this h).mono (Heap.Le.refl _) fun _ _ e=>e.mono hle⟩
   ·simp[SR]
  ·simp[SR]
 |.elp o i off sz,v,h=>by simp[Pn,SR]
 |.dd o w,v,h=>by
  simp only[Pn];simp only[SR] at h;split
  ·rename_i ty q k xs nl hole ho;have al:=av o;rw[ho] at al;have di:=DP.le al;split
   ·split
    ·obtain⟨h1,_⟩:=h;simp only[SR,KC];refine⟨v,rfl,?_⟩;rw[h1];exact(DP.sl al).mono di fun _ _ e=>e.mono di
    ·simp[SR]
   ·simp only[SR];exact KC.mono di h
   ·simp only[SR];exact KC.mono di h.1
   ·simp[SR]
  ·simp[SR]
 |.map o,v,h=>by simp[Pn,SR]
 |.tup l,v,h=>by simp[Pn,SR]
 |.box o off,v,h=>by
  simp only[Pn];split
  ·rename_i l _ ho;have al:=av o;rw[ho] at al;obtain⟨i,c,e,t,h1,h2,h3,_⟩:=al;simp only[SR] at h;obtain⟨b,h4,rfl⟩:=h;rw[h4] at h1;obtain rfl:=(by simpa using h1:b=i);exact jU l off b c e t h2 h3
  ·simp[SR]
 |.rop k l i off,v,h=>by simp only[Pn];exact SR.mono (tb:=tb) hle (fun n c hn=>hn) (.rop k l i off) v h |> fun h=>by simp only[SR] at h ⊢;exact h
 |.cp l off,v,h=>by simp only[Pn,SR] at h ⊢;obtain⟨b,c,e,wr,t,h1,h2,h3⟩:=h;exact⟨b,c,e,wr,t,hle.2 _ _ h1,h2,JN hle av jU l c h3⟩
 |.agg l,v,h=>by simp only[Pn,SR] at h ⊢;obtain⟨cs,h1,h2⟩:=h;exact⟨cs,h1,JN hle av jU l cs h2⟩
 |.fn f a b,v,h=>by simp only[Pn,SR] at h ⊢;obtain⟨x,y,h1,h2,h3⟩:=h;exact⟨x,y,h1,JN hle av jU a x h2,JN hle av jU b y h3⟩
 |.pf ks r cO p,v,h=>by simp only[Pn,SR] at h ⊢;exact h.mono hle
theorem JN {bx:List SV→Nat→SV}(hle:B.Le σ) (av:∀ d,OR P B pl tb σ (pl d) (Q9 own d))
  (jU:∀ l off b c e t,σ.get b=some (.cells c e true t)→SRs P B pl tb l c→SR P σ Jq ZF (bx l off) (.pointer (some ⟨b,off,none⟩))) :
  ∀ (s:List SV) (v:List Value),SRs P B pl tb s v→SRs P σ Jq ZF (HN own bx s) v
 |[],v,h=>by simp only[HN,SRs] at h ⊢;exact h
 |s::ss,v,h=>by simp only[HN,SRs] at h ⊢;obtain⟨x,y,h1,h2,h3⟩:=h;exact⟨x,y,h1,E_ hle av jU s x h2,JN hle av jU ss y h3⟩
end
theorem XC (hle:B.Le σ) (av:∀ d,OR P B pl tb σ (pl d) (Q9 own d)) {l:List SV}{v:List Value}(h:SRs P B pl tb l v):SRs P σ Jq ZF (BG own l) v:=by
 have h0:∀ {l v},SRs P B pl tb l v→SRs P σ Jq ZF (Z4k own l) v:=fun h=>JN hle av (fun _ _ _ _ _ _ _ _=>by simp[SR]) _ _ h;have h1:∀ {l v},SRs P B pl tb l v→SRs P σ Jq ZF (Z4f own l) v:=fun h=>JN hle av (fun l off b c e t hg hs=>by
  simp only[SR];exact⟨b,c,e,true,t,hg,rfl,h0 hs⟩) _ _ h
 exact JN hle av (fun l off b c e t hg hs=>by
  simp only[SR];exact⟨b,c,e,true,t,hg,rfl,h1 hs⟩) _ _ h
mutual
theorem Ia {p q:Nat→Value}{n:Nat}(h:∀ j,j<n→p j=q j):∀ (s:SV),s.ret n=true→KS p s=KS q s
 |.val _ _,_|.nilS,_|.nilP,_|.nilM,_|.nilF,_=>by simp[KS]
 |.lst j,hr=>by simp only[KS];exact h j (by simpa [SV.ret,Nat.blt_eq] using hr)
 |.agg l,hr=>by simp only[KS];rw[Rz h l hr]
 |.tup l,hr=>by simp only[KS];rw[Rz h l hr]
 |.box _ _,_|.map _,_=>by simp[KS]
 |.dd _ _,_=>by simp[KS]
 |.any,h|.bid _ _,h|.grd _ _,h|.sub _ _ _ _,h|.elp _ _ _ _,h|.rop _ _ _ _,h|.cp _ _,h|.fn _ _ _,h|.pf _ _ _ _,h=>by cases h
theorem Rz {p q:Nat→Value}{n:Nat}(h:∀ j,j<n→p j=q j):∀ (s:List SV),SVs.ret n s=true→Yu p s=Yu q s
 |[],_=>rfl
 |s::ss,hr=>by simp only[SVs.ret,Bool.and_eq_true] at hr;simp only[Yu];rw[Ia h s hr.1,Rz h ss hr.2]
end
theorem ZO {cs:List (Nat×CSp)}(az:CsOk P cs) {f:SV}{args:List SV}{c:Prop}{v:SV}{bs:List OB}{fV:Value}{vs:List Value}(hf:SR P σ Jq ZF f fV) (ha:SRs P σ Jq ZF args vs)
  (h:KJ cs f args=some (c,v,bs)) (hv:v.ret bs.length=true) (hb:bs.all OB.ret=true) (hc:c):∃ g a b,fV=.func (.func g) a b∧(VCalled P g (a.toList++vs++b.toList) σ fun u σ'=>Ret P σ v bs u σ') ∧
  (bs.all OB.isL=true→KG v=true→VCalled P g (a.toList++vs++b.toList) σ fun u σ'=>u=KS (TZ σ bs) v∧σ'=Bz σ bs):=by
 have gen:(gap cs 3 f args).map (fun x=>(x.1,x.2,([]:List OB)))=some (c,v,bs)→∃ g a b,fV=.func (.func g) a b∧(VCalled P g (a.toList++vs++b.toList) σ fun u σ'=>Ret P σ v bs u σ') ∧
   (bs.all OB.isL=true→KG v=true→VCalled P g (a.toList++vs++b.toList) σ fun u σ'=>u=KS (TZ σ bs) v∧σ'=Bz σ bs):=fun h=>by
  simp only[Option.map_eq_some_iff] at h;obtain⟨⟨c',v'⟩,h1,h2⟩:=h;simp only[Prod.mk.injEq] at h2;obtain⟨rfl,rfl,rfl⟩:=h2;obtain⟨h3,g,a,b,rfl,h4⟩:=FR az 3 σ f args c' v' fV vs hf ha h1 hc;refine⟨g,a,b,rfl,h4.mono fun u σ' hu=>?_,fun _ cD=>h4.mono fun u σ' hu=>?_⟩
  ·obtain⟨rfl,hu⟩:=hu;exact⟨⟨Heap.Le.refl _,Dead.refl _⟩,fun _=>rfl,Jq,(fun j b hj=>by simp at hj),(fun j j' i hj=>by simp at hj),hu⟩
  ·obtain⟨rfl,hu⟩:=hu;have hz:Bz σ' []=σ':=(SY (P:=P) σ' (v:=v') (bs:=[]) h3 cD rfl rfl (fun b hb=>by cases hb)).2.1 rfl;refine⟨?_,hz.symm⟩;rw[KX v' u h3 cD hu];exact Ia (fun j hj=>by omega) v' h3
 cases f with
 |fn g a b =>
  simp only[KJ] at h;split at h
  ·rename_i sp ep;simp only[SR] at hf;obtain⟨x,y,rfl,h1,h2⟩:=hf;refine⟨g,x.toArray,y.toArray,rfl,?_⟩;simpa using az g sp ep (gap cs 3) (FR az 3) σ (a++args++b) (x++vs++y) c v bs ((h1.append ha).append h2) h hv hb hc
  ·cases h
 |_=>exact gen h
theorem Gam.heap_get {s:St}{env:Env}{σ':Heap}(h:Gam P B F pl tb s env σ) (hl:σ.Le σ') {d:Nat}(ao:(Q9 s.own d).live=true) {i:Nat}(hi:Oid (pl d) i):σ'.get i=σ.get i:=by
  have ai:=(h.obj d).id_lt ao hi;cases hb:σ.get i with
  |none =>
   have al:=h.obj d;cases ho:Q9 s.own d with
   |dead=>rw[ho] at ao;cases ao
   |lst ty k xs nl =>
    rw[ho] at al;rcases al with⟨_,_,h2⟩|⟨_,i',cap,c,t,h2,_,h3,_⟩
    ·rw[h2] at hi;cases hi
    ·rw[h2] at hi;obtain rfl:=osj hi;rw[h3] at hb;cases hb
   |cells l u=>rw[ho] at al;obtain⟨i',c,e,t,h2,h3,_⟩:=al;rw[h2] at hi;obtain rfl:=osj hi;rw[h3] at hb;cases hb
   |mapE kk vk m key n=>rw[ho] at al;obtain⟨i',es,cl,r,e,h2,h3,_⟩:=al;rw[h2] at hi;obtain rfl:=osj hi;rw[h3] at hb;cases hb
   |map kk vk m=>rw[ho] at al;obtain⟨i',es,cl,h2,h3,_⟩:=al;rw[h2] at hi;obtain rfl:=osj hi;rw[h3] at hb;cases hb
   |stk l vals=>rw[ho] at ao;cases ao
   |lpf l q s=>rw[ho] at al ao;obtain⟨h2,_,h3⟩:=al;rw[h2] at hi;obtain rfl:=osj hi;have h3:=h3 ao;rw[hb] at h3;cases h3
   |iter kk vk m dn=>rw[ho] at al;obtain⟨j',i',es,cl,wr,seen,h2,h3,_⟩:=al;rw[h2] at hi;obtain rfl:=osj hi;rw[h3] at hb;cases hb
   |deep ty q k xs nl hh =>rw[ho] at al;obtain⟨is,_,d2,d3,_⟩:=DP.open al;obtain⟨c,e,t,h⟩:=d2.cells i ((d3 i).1 hi);rw[h] at hb;cases hb
  |some b=>rw[hl.2 i b hb]
theorem Gam.heap {s:St}{env:Env}{σ':Heap}(h:Gam P B F pl tb s env σ) (hl:σ.Le σ'):Gam P B F pl tb s env σ' :=
 ⟨h.bf,h.le.trans hl,h.env,fun d=>(h.obj d).mono (Heap.Le.refl _) (fun _ _ h=>h) fun ao _i hi=>h.heap_get hl ao hi,h.fresh,h.sep,h.free⟩
theorem P3 {env:Env}{σ0:Heap}{d nt:Nat}(dC:0<nt) (fL:Nat→Value) (bs:List OB) (hB:F.Le σ0)
  (al:∀ j b,bs[j]?=some b→b.ret=true∧OR P hNil fL ZF σ (fL j) b∧∀ i,Oid (fL j) i→σ0.n≤i)
  (ff:∀ j j' i,j<bs.length→j'<bs.length→j≠j'→Oid (fL j) i→Oid (fL j') i→False) :
  ∀ (r:List OB) (j:Nat) (pl:Nat→Value) (s:St),bs.drop j=r→Gam P B F pl tb s env σ→(∀ k i,(Q9 s.own k).live=true→Oid (pl k) i→i<σ0.n∨∃ j'<j,j'<bs.length∧Oid (fL j') i∧k=d+j'*nt)→(∀ j'<j,j'<bs.length→pl (d+j'*nt)=fL j') →
   ∃ pl',Gam P B F pl' tb (s.makes d nt j r) env σ∧(∀ j'<bs.length,pl' (d+j'*nt)=fL j')∧∀ q,(∀ j'<bs.length,q≠d+j'*nt)→pl' q=pl q∧(Q9 (s.makes d nt j r).own q).live=(Q9 s.own q).live
 |[],j,pl,s,hr,hG,_,hp=>⟨pl,hG,fun j' dj=>hp j' (by
   have:=congrArg List.length hr;simp at this;omega) dj,fun q _=>⟨rfl,rfl⟩⟩
 |b::r,j,pl,s,hr,hG,hinv,hp=>by
  have cf:j<bs.length:=by
   rcases Nat.lt_or_ge j bs.length with h|h
   ·exact h
   ·rw[List.drop_eq_nil_of_le h] at hr;cases hr
  have cY:bs[j]?=some b:=by
   have:(bs.drop j)[0]?=some b:=by rw[hr];rfl
   simpa using this
  have ku:bs.drop (j+1)=r:=by
   have:(bs.drop j).drop 1=r:=by rw[hr];rfl
   simpa [List.drop_drop,Nat.add_comm] using this
  obtain⟨h1,h2,h3⟩:=al j b cY;have aS:∀ j' ,j'≠j→d+j'*nt≠d+j*nt:=fun j' aA e=>aA (Nat.eq_of_mul_eq_mul_right dC (by omega));obtain⟨pl',k1,k2,k3⟩:∃ pl',Gam P B F pl' tb ((s.make (d+j*nt) b).makes d nt (j+1) r) env σ∧(∀ j'<bs.length,pl' (d+j'*nt)=fL j')∧∀ q,(∀ j'<bs.length,q≠d+j'*nt)→pl' q=Jo pl (d+j*nt) (fL j) q∧(Q9 ((s.make (d+j*nt) b).makes d nt (j+1) r).own q).live=(Q9 (s.make (d+j*nt) b).own q).live:=by
   refine P3 dC fL bs hB al ff r (j+1) (Jo pl (d+j*nt) (fL j)) _ ku (hG.make (d+j*nt) b (fL j) hG.le (fun _ _ _ _ _=>rfl) (h2.retd h1 fun _ _=>rfl) fun i _ hi=>⟨F.wf _ (by have:=h3 i hi;have:=hB.1;omega),fun k hk hl e=>?_⟩) (fun k i hl hi=>?_) fun j' dj pN=>?_
   ·rcases hinv k i hl e with h|⟨j',dj,eU,he,_⟩
    ·have:=h3 i hi;omega
    ·exact ff j j' i cf eU (by omega) hi he
   ·by_cases hk:k=d+j*nt
    ·subst hk;simp only[Jo,if_true] at hi;exact .inr ⟨j,by omega,cf,hi,rfl⟩
    ·have cm:(Q9 s.own k).live=true:=by
      simp only[St.make,St.kill,Qh,V6,if_neg hk] at hl
      rwa [OB.live_kill] at hl
     simp only[Jo,if_neg hk] at hi;rcases hinv k i cm hi with h|⟨j',dj,h5⟩
     ·exact .inl h
     ·exact .inr ⟨j',by omega,h5⟩
   ·by_cases e:j'=j
    ·subst e;simp[Jo]
    ·simp only[Jo,if_neg (aS j' e)];exact hp j' (by omega) pN
  refine⟨pl',k1,k2,fun q hq=>?_⟩;obtain⟨e1,e2⟩:=k3 q hq;refine⟨by rw[e1];simp[Jo,hq j cf],?_⟩;show (Q9 ((s.make (d+j*nt) b).makes d nt (j+1) r).own q).live=_;rw[e2];simp only[St.make,St.kill,Qh,V6,if_neg (hq j cf),OB.live_kill]
theorem Ret.gamF {s:St}{env:Env}{d nt:Nat}(dC:0<nt) (hG:Gam P B F pl tb s env σ) {v:SV}{bs:List OB}{u:Value}{σ':Heap}(hv:v.ret bs.length=true) (hb:bs.all OB.ret=true) (h:Ret P σ v bs u σ') :
  ∃ pl',Gam P B F pl' tb (s.makes d nt 0 bs) env σ'∧SR P B pl' tb (v.ren d nt) u∧∀ q,(∀ j'<bs.length,q≠d+j'*nt)→(Q9 (s.makes d nt 0 bs).own q).live=(Q9 s.own q).live∧pl' q=pl q∧((Q9 s.own q).live=true→∀ i,Oid (pl q) i→σ'.get i=σ.get i):=by
 obtain⟨⟨h1,_⟩,_,fL,h2,h3,h4⟩:=h
 obtain⟨pl',h5,h6,h7⟩:=P3 (tb:=tb) (d:=d) dC fL bs hG.le (fun j b hj=>⟨List.all_eq_true.1 hb b (List.mem_of_getElem? hj),(h2 j b hj).1,fun i hi=>((h2 j b hj).2 i hi).2⟩) h3 bs 0 pl s rfl (hG.heap h1)
  (fun k i hl hi=>.inl ((hG.obj k).id_lt hl hi)) (fun j' dj=>by omega)
 exact⟨pl',h5,SR.ren (tb:=ZF) (fun j hj=>h6 j hj) _ _ hv (SR.mono (tb:=ZF) (tb':=ZF) (A8 B) (fun _ _ h=>h) _ _ h4),fun q hq=>⟨(h7 q hq).2,(h7 q hq).1,fun hl i hi=>hG.heap_get h1 hl hi⟩⟩
theorem Ret.gam {s:St}{env:Env}{d nt:Nat}(dC:0<nt) (hG:Gam P B F pl tb s env σ) {v:SV}{bs:List OB}{u:Value}{σ':Heap}(hv:v.ret bs.length=true) (hb:bs.all OB.ret=true) (h:Ret P σ v bs u σ') :
  ∃ pl',Gam P B F pl' tb (s.makes d nt 0 bs) env σ'∧SR P B pl' tb (v.ren d nt) u:=by
 obtain⟨pl',h1,h2,_⟩:=h.gamF dC hG hv hb;exact⟨pl',h1,h2⟩
end
end Go.V
namespace Go.V
open Go
section
variable {P:Program}
structure GBase (B0 F0 D0 B F σ:Heap):Prop where
 b:B0.Le B
 f:F0.Le F
 x:∀ i b,F0.get i=some b→B0.get i=none→B.get i=none
 d:Dead D0 σ
theorem GBase.of {B F σ:Heap}{σ':Heap}(_hB:B.Le F) (h:Dead σ σ'):GBase B F σ B F σ':=⟨.refl _,.refl _,fun _ _ _ h=>h,h⟩
theorem GBase.trans {B0 F0 D0 B F σ B' F' σ':Heap}(h:GBase B0 F0 D0 B F σ) (h':GBase B F σ B' F' σ'):GBase B0 F0 D0 B' F' σ' :=
 ⟨h.b.trans h'.b,h.f.trans h'.f,fun i b h1 h2=>h'.x i b (h.f.2 _ _ h1) (h.x i b h1 h2),h.d.trans h'.d⟩
def GRel (P:Program) (B0 F0 D0:Heap) (s:St) (env:Env) (σ:Heap):Prop:=∃ B F pl tb,GBase B0 F0 D0 B F σ∧Gam P B F pl tb s env σ
theorem M8 {B0 F0 D0 B F:Heap}{σ σ':Heap}(hB:GBase B0 F0 D0 B F σ) (h:Dead σ σ'):GBase B0 F0 D0 B F σ':=⟨hB.b,hB.f,hB.x,hB.d.trans h⟩
theorem Gam.evs {B F:Heap}{pl:Nat→Value}{tb:Nat→Option Bool}{s:St}{env:Env}{σ:Heap}(h:Gam P B F pl tb s env σ) {gs:List Gd}(hg:Gds tb gs) (x:Operand):SR P B pl tb (gev gs s.env x) (Q3 env x):=FO hg h.env x
theorem Gds.nil {tb:Nat→Option Bool}:Gds tb []:=fun _ h=>by cases h
theorem E0 {gs:List Gd}{c:Prop}(h:Q69 gs c) (hg:∀ g∈gs,g.c=g.want):c:=by
 induction gs with
 |nil=>exact h
 |cons g gs ih=>exact ih (h (hg g (by simp))) fun g' dB=>hg g' (by simp[dB])
theorem Zi {gs:List Gd}{cs:List Prop}{q:Prop}(h:C3 gs cs q):q∧((∀ g∈gs,g.c=g.want)→∀ c∈cs,c):=by
 induction cs with
 |nil=>exact⟨h,fun _ c hc=>by cases hc⟩
 |cons c cs ih =>
  obtain⟨h1,h2⟩:=h;obtain⟨h3,h4⟩:=ih h2;exact⟨h3,fun hg c' cK=>by
   rcases List.mem_cons.1 cK with rfl|cK
   ·exact E0 h1 hg
   ·exact h4 hg c' cK⟩
theorem Dead.push (σ:Heap) (b:Blk):Dead σ (σ.push b):=⟨by simp,fun i hi h=>by rw[Heap.get_push_lt _ _ hi];exact h⟩
theorem Dead.upd (σ:Heap) (j:Nat) (b:Blk) (hj:(σ.get j).isSome=true):Dead σ (σ.upd j b):=⟨by simp,fun i hi h=>by
 have:i≠j:=fun e=>by subst e;rw[h] at hj;cases hj
 rw[Heap.get_upd_ne _ _ this];exact h⟩
theorem Dead.kill (σ:Heap) (j:Nat):Dead σ (σ.kill j):=⟨by simp,fun i hi h=>by
 by_cases e:i=j
 ·subst e;exact Heap.get_kill_self _ _
 ·rw[Heap.get_kill_ne _ e];exact h⟩
theorem L2 {e:El}{bytes m:Nat}{σ σ':Heap}{s u:Value}{xs:List Value}(h:Yb e bytes σ s m xs=some (u,σ')):Dead σ σ':=by
 unfold Yb at h;split at h
 ·split at h
  ·obtain⟨rfl,rfl⟩:=QS h;exact Dead.refl _
  ·split at h
   ·obtain⟨rfl,rfl⟩:=QS h;exact Dead.push _ _
   ·cases h
 ·split at h
  ·rename_i hg;split at h
   ·split at h
    ·obtain⟨rfl,rfl⟩:=QS h;exact Dead.refl _
    ·split at h
     ·split at h
      ·obtain⟨rfl,rfl⟩:=QS h;exact Dead.upd _ _ _ (by rw[hg];rfl)
      ·cases h
     ·split at h
      ·split at h
       ·obtain⟨rfl,rfl⟩:=QS h;exact Dead.push _ _
       ·split at h
        ·obtain⟨rfl,rfl⟩:=QS h;exact(Dead.kill _ _).trans (Dead.push _ _)
        ·cases h
      ·cases h
   ·cases h
  ·cases h
 ·split at h
  ·split at h
   ·obtain⟨rfl,rfl⟩:=QS h;exact Dead.push _ _
   ·cases h
  ·cases h
 ·cases h
theorem Kh {o:VOp}{ev:Operand→Value}{σ σ':Heap}{u:Value}(h:Q6 o ev σ=some (u,σ')):Dead σ σ':=by
 by_cases hk:o.kind=2
 ·cases o<;>first|(cases hk;done)|skip
  case alloc t z=>obtain⟨rfl,rfl⟩:=QS h;exact Dead.push _ _
  case box t x =>
   simp only[Q6] at h;split at h
   ·obtain⟨rfl,rfl⟩:=QS h;exact Dead.push _ _
   ·cases h
  case buildSlice e z n ps =>
   simp only[Q6] at h;split at h
   ·obtain⟨rfl,rfl⟩:=QS h;exact Dead.push _ _
   ·cases h
  case makeSlice e b z l c =>
   simp only[Q6] at h;split at h
   ·split at h
    ·obtain⟨rfl,rfl⟩:=QS h;exact Dead.push _ _
    ·cases h
   ·cases h
  case store size a x =>
   simp only[Q6] at h;split at h
   ·split at h
    ·rename_i hg;split at h
     ·obtain⟨rfl,rfl⟩:=QS h;exact Dead.upd _ _ _ (by rw[hg];rfl)
     ·cases h
    ·cases h
   ·cases h
  case append e b x y =>
   simp only[Q6] at h;split at h
   ·split at h
    ·exact L2 h
    ·cases h
   ·cases h
  case slice size x lo hi mx =>
   simp only[Q6] at h;split at h
   ·have sl:∀ {l hh:Nat}{m:Option Nat}{v:Value},Yh size σ v l hh m=some (u,σ')→Dead σ σ':=fun {l hh m v} h=>by
     unfold Yh at h;split at h
     ·split at h
      ·obtain⟨rfl,rfl⟩:=QS h;exact Dead.refl _
      ·cases h
     ·split at h
      ·split at h
       ·split at h
        ·obtain⟨rfl,rfl⟩:=QS h;exact Dead.refl _
        ·cases h
       ·split at h
        ·split at h
         ·obtain⟨rfl,rfl⟩:=QS h;exact Dead.push _ _
         ·split at h<;>(obtain⟨rfl,rfl⟩:=QS h;exact Dead.refl _)
        ·cases h
      ·cases h
     ·cases h
    split at h
    ·exact sl h
    ·split at h
     ·exact sl h
     ·cases h
    ·cases h
   ·cases h
  case callF f a=>cases h
  case callV f a=>cases h
  case ext x =>
   cases x<;>first|(cases hk;done)|skip
   case makeMap=>obtain⟨rfl,rfl⟩:=QS h;exact Dead.push _ _
   case mapUpdate mk m k v =>
    simp only[Q6,Zj] at h;split at h
    ·split at h
     ·rename_i hm;split at h
      ·obtain⟨rfl,rfl⟩:=QS h;refine Dead.upd _ _ _ ?_;unfold Heap.mapAt at hm;split at hm
       ·rename_i hg;rw[hg];rfl
       ·cases hm
      ·cases h
     ·cases h
    ·cases h
   case mapEntry mk z m k =>
    simp only[Q6,Zj] at h;split at h
    ·split at h
     ·rename_i hm;split at h
      ·split at h
       all_goals
        obtain⟨rfl,rfl⟩:=QS h;refine Dead.upd _ _ _ ?_;unfold Heap.mapAt at hm;split at hm
        ·rename_i hg;rw[hg];rfl
        ·cases hm
      ·cases h
     ·cases h
    ·cases h
   case entryStore m s v =>
    simp only[Q6,Zj] at h;split at h
    ·split at h
     ·rename_i hm;split at h
      ·split at h
       ·obtain⟨rfl,rfl⟩:=QS h;refine Dead.upd _ _ _ ?_;unfold Heap.mapAt at hm;split at hm
        ·rename_i hg;rw[hg];rfl
        ·cases hm
       ·cases h
      ·cases h
     ·cases h
    ·cases h
   case delete mk m k =>
    simp only[Q6,Zj] at h;split at h
    ·split at h
     ·rename_i hm;split at h
      ·obtain⟨rfl,rfl⟩:=QS h;refine Dead.upd _ _ _ ?_;unfold Heap.mapAt at hm;split at hm
       ·rename_i hg;rw[hg];rfl
       ·cases hm
      ·cases h
     ·cases h
    ·cases h
   case rangeMap x =>
    simp only[Q6,Zj] at h;split at h
    ·split at h
     ·obtain⟨rfl,rfl⟩:=QS h;exact Dead.push _ _
     ·cases h
    ·cases h
   case nextMap x=>cases h
   case copy size a b =>
    simp only[Q6,Zj] at h;split at h
    ·split at h
     ·obtain⟨rfl,rfl⟩:=QS h;exact Dead.refl _
     ·split at h
      ·split at h
       ·rename_i hg;split at h
        ·obtain⟨rfl,rfl⟩:=QS h;exact Dead.upd _ _ _ (by rw[hg];rfl)
        ·cases h
       ·cases h
      ·cases h
    ·cases h
   case clear z x =>
    simp only[Q6,Zj] at h;split at h
    ·split at h
     ·obtain⟨rfl,rfl⟩:=QS h;exact Dead.refl _
     ·split at h
      ·split at h
       ·rename_i hg;split at h
        ·obtain⟨rfl,rfl⟩:=QS h;exact Dead.upd _ _ _ (by rw[hg];rfl)
        ·cases h
       ·cases h
      ·cases h
    ·cases h
   case strBytes e x =>
    simp only[Q6,Zj] at h;split at h
    ·split at h
     ·obtain⟨rfl,rfl⟩:=QS h;exact Dead.push _ _
     ·cases h
    ·cases h
   case unsafeStr e x n =>
    simp only[Q6,Zj] at h;split at h
    ·split at h
     ·obtain⟨rfl,rfl⟩:=QS h;exact Dead.refl _
     ·split at h
      ·split at h
       ·rename_i hg;split at h
        ·split at h
         ·obtain⟨rfl,rfl⟩:=QS h;exact Dead.upd _ _ _ (by rw[hg];rfl)
         ·cases h
        ·cases h
       ·cases h
      ·cases h
    ·cases h
 ·obtain rfl:=Dc hk h;exact Dead.refl _
theorem NH {B F:Heap}{pl:Nat→Value}{tb:Nat→Option Bool}{s:St}{env:Env}{σ:Heap}(hG:Gam P B F pl tb s env σ) {x:Operand}{b:Bool}(h:Lu s.env x=some b):Q3 env x=.bool b:=by
 unfold Lu at h;split at h
 ·rename_i j;split at h
  ·rename_i gs v he;split at h
   ·split at h
    ·rename_i k y;split at h
     ·obtain rfl:=osj h;have:=hG.env.getD j undef;rw[he] at this;simp only[SR] at this;have h2:=this.2.1 (fun g hg=>by cases hg);have h3:[env.getD j undef]=[Value.bool _]:=h2;exact(List.cons.inj h3).1
     ·cases h
    ·cases h
   ·cases h
  ·cases h
 ·cases h
theorem K2 {B F:Heap}{pl:Nat→Value}{tb:Nat→Option Bool}{s:St}{env:Env}{σ:Heap}(hG:Gam P B F pl tb s env σ) {g:Option (Nat×Bool)}{t:Bool}(h:FE s.env g=some t):Z_ env g=some t:=by
 unfold FE at h;split at h
 ·cases h
 ·rename_i j want;split at h
  ·rename_i b hb;obtain rfl:=osj h;have:=NH hG hb;simp only[Q3] at this;simp only[Z_,this]
  ·cases h
theorem Vv {B F:Heap}{pl:Nat→Value}{tb:Nat→Option Bool}{s:St}{env:Env}{σ:Heap}(hG:Gam P B F pl tb s env σ) {gs:List Gd}(hg:Gds tb gs) {c a b:Operand}{v:SV}(h:Eb gs s.env c a b=some v) :
  ∃ u,Q6 (.pick c a b) (Q3 env) σ=some (u,σ)∧SR P B pl tb v u:=by
 unfold Eb at h;split at h
 ·rename_i t ht;have e:=NH hG ht;obtain rfl:=osj h;cases t with
  |true=>exact⟨Q3 env a,by simp only[Q6,e];rfl,hG.evs hg a⟩
  |false=>exact⟨Q3 env b,by simp only[Q6,e];rfl,hG.evs hg b⟩
 have hc:=hG.evs hg c;unfold Q2x at h;split at h
 ·rename_i n t heq;rw[heq] at hc;simp only[SR] at hc;obtain⟨e,cP⟩:=hc;have ht:∀ w,t=w→Gds tb (gs++[⟨n,w,t⟩]):=fun w hw g dB=>by
   rcases List.mem_append.1 dB with h1|h1
   ·exact hg g h1
   ·obtain rfl:=List.mem_singleton.1 h1;exact⟨hw,cP⟩
  have hv:∀ u,(if t then Q3 env a else Q3 env b)=u→Q6 (.pick c a b) (Q3 env) σ=some (u,σ):=fun u hu=>by simp only[Q6,e];rw[←hu]
  split at h
  ·rename_i b';simp only[Option.map_eq_some_iff] at h;obtain⟨y,h1,rfl⟩:=h;refine⟨.bool (t||y),hv _ ?_,ZT _⟩;cases t with
   |true=>rfl
   |false=>simpa using Xk h1 (hG.evs (ht false rfl) _)
  ·rename_i a' aA;simp only[Option.map_eq_some_iff] at h;obtain⟨x,h1,rfl⟩:=h;refine⟨.bool (t&&x),hv _ ?_,ZT _⟩;cases t with
   |true=>simpa using Xk h1 (hG.evs (ht true rfl) _)
   |false=>rfl
  ·split at h
   ·rename_i k x k' y h1 h2;split at h
    ·rename_i hk;subst hk;obtain rfl:=osj h;refine⟨.int k (if t then x else y),hv _ ?_,Xb _ _⟩;cases t with
     |true=>have:=hG.evs (ht true rfl) a;rw[h1] at this;exact J7 rfl this
     |false=>have:=hG.evs (ht false rfl) b;rw[h2] at this;exact J7 rfl this
    ·cases h
   ·rename_i x y h1 h2;obtain rfl:=osj h;refine⟨.bool (if t then x else y),hv _ ?_,ZT _⟩;cases t with
    |true=>have:=hG.evs (ht true rfl) a;rw[h1] at this;exact Xk rfl this
    |false=>have:=hG.evs (ht false rfl) b;rw[h2] at this;exact Xk rfl this
   ·cases h
 ·cases h
theorem Gam.bid {B F:Heap}{pl:Nat→Value}{tb:Nat→Option Bool}{s:St}{env:Env}{σ:Heap}(hG:Gam P B F pl tb s env σ) {j:Nat}{v:SV}{c:Bool}(hv:∀ tb',(∀ n c,tb n=some c→tb' n=some c)→tb' s.nx=some c→SR P B pl tb' v (env.getD j undef)) :
  ∃ tb',(∀ n c,tb n=some c→tb' n=some c)∧tb' s.nx=some c∧Gam P B F pl tb' ⟨s.env.set j v,s.own,s.nx+1⟩ env σ:=by
 refine⟨fun n=>if n=s.nx then some c else tb n,?_,by simp,?_⟩
 ·intro n c' hn;by_cases e:n=s.nx
  ·rw[e,hG.free _ (Nat.le_refl _)] at hn;cases hn
  ·simp only[if_neg e];exact hn
 ·have hm:∀ n c',tb n=some c'→(fun n=>if n=s.nx then some c else tb n) n=some c':=fun n c' hn=>by
   by_cases e:n=s.nx
   ·rw[e,hG.free _ (Nat.le_refl _)] at hn;cases hn
   ·simp only[if_neg e];exact hn
  refine⟨hG.bf,hG.le,?_,fun d=>(hG.obj d).mono (Heap.Le.refl _) hm fun _ _ _=>rfl,hG.fresh,hG.sep,fun n hn=>?_⟩
  ·have h1:=SRs.mono (Heap.Le.refl B) hm _ _ hG.env;by_cases hj:j<env.length
   ·have:=h1.set j (hv _ hm (by simp))
    rwa [List.getD_eq_getElem?_getD,List.getElem?_eq_getElem hj,Option.getD_some,List.set_getElem_self] at this
   ·have:s.env.set j v=s.env:=List.set_eq_of_length_le (by rw[hG.env.length];omega);rw[this];exact h1
  ·have:n≠s.nx:=by simp only at hn;omega
   simp only[if_neg this];exact hG.free n (by simp only at hn;omega)
theorem I9 {gs:List Gd}(h:¬ ∀ g∈gs,g.c=g.want):∃ g∈gs,g.c≠g.want:=by
 rcases Classical.em (∃ g∈gs,g.c≠g.want) with h'|h'
 ·exact h'
 ·exact absurd (fun g hg=>Classical.byContradiction fun aA=>h' ⟨g,hg,aA⟩) h
theorem Xv {B F:Heap}{pl:Nat→Value}{tb:Nat→Option Bool}{s:St}{env:Env}{σ:Heap}(hG:Gam P B F pl tb s env σ) {j:Nat}{want:Bool}{gs:List Gd}{s':St}(h:B3 s j want=some (gs,s')) :
  ∃ tb',Gam P B F pl tb' s' env σ∧(∀ g∈gs,tb' g.id=some g.c)∧∃ b,Z_ env (some (j,want))=some b∧(b=true→∀ g∈gs,g.c=g.want)∧(b=false→∃ g∈gs,g.c≠g.want):=by
 have hj:=hG.env.getD j undef;unfold B3 at h;split at h
 ·rename_i c heq;obtain⟨rfl,rfl⟩:=QS h;rw[heq] at hj;have hb:env.getD j undef=.bool c:=Xk (s:=.val .bo c) rfl hj;obtain⟨tb',h1,h2,h3⟩:=hG.bid (j:=j) (v:=.bid s.nx c) (c:=c) fun tb' _ h=>by simp only[SR];exact⟨hb,h⟩
  refine⟨tb',h3,fun g hg=>by obtain rfl:=List.mem_singleton.1 hg;exact h2,c==want,by simp only[Z_,hb],fun e g hg=>?_,fun e=>⟨_,List.mem_singleton.2 rfl,?_⟩⟩
  ·obtain rfl:=List.mem_singleton.1 hg;simpa using e
  ·simpa using e
 ·rename_i n c heq;obtain⟨rfl,rfl⟩:=QS h;rw[heq] at hj;simp only[SR] at hj;refine⟨tb,hG,fun g hg=>by obtain rfl:=List.mem_singleton.1 hg;exact hj.2,c==want,by simp only[Z_,hj.1],fun e g hg=>?_,fun e=>⟨_,List.mem_singleton.2 rfl,?_⟩⟩
  ·obtain rfl:=List.mem_singleton.1 hg;simpa using e
  ·simpa using e
 ·rename_i oA c heq;obtain⟨rfl,rfl⟩:=QS h;rw[heq] at hj;simp only[SR] at hj;obtain⟨⟨k1,k0⟩,k2,k3⟩:=hj;obtain⟨tb',h1,h2,h3⟩:=hG.bid (j:=j) (v:=.grd oA (.bid s.nx c)) (c:=c) fun tb' hm h=>by
   simp only[SR];exact⟨⟨fun g hg=>hm _ _ (k1 g hg),h⟩,fun ae=>⟨Xk (s:=.val .bo c) (P:=P) (B:=B) (pl:=pl) (tb:=tb) rfl (by simpa only [SR] using k2 ae),h⟩,k3⟩
  refine⟨tb',h3,fun g hg=>?_,?_⟩
  ·rcases List.mem_append.1 hg with h4|h4
   ·exact h1 _ _ (k1 g h4)
   ·obtain rfl:=List.mem_singleton.1 h4;exact h2
  ·by_cases ae:∀ g∈oA,g.c=g.want
   ·have hb:env.getD j undef=.bool c:=Xk (s:=.val .bo c) (P:=P) (B:=B) (pl:=pl) (tb:=tb) rfl (by simpa only [SR] using k2 ae);refine⟨c==want,by simp only[Z_,hb],fun e g hg=>?_,fun e=>⟨_,List.mem_append.2 (.inr (List.mem_singleton.2 rfl)),by simpa using e⟩⟩;rcases List.mem_append.1 hg with h4|h4
    ·exact ae g h4
    ·obtain rfl:=List.mem_singleton.1 h4;simpa using e
   ·have hex:=I9 ae;refine⟨false,by simp only[Z_,k3 hex];rfl,(fun e=>by cases e),fun _=>?_⟩;obtain⟨g,hg,aA⟩:=hex;exact⟨g,List.mem_append.2 (.inl hg),aA⟩
 ·rename_i oA n c heq;obtain⟨rfl,rfl⟩:=QS h;rw[heq] at hj;simp only[SR] at hj;obtain⟨⟨k1,k0⟩,k2,k3⟩:=hj;refine⟨tb,hG,fun g hg=>?_,?_⟩
  ·rcases List.mem_append.1 hg with h4|h4
   ·exact k1 g h4
   ·obtain rfl:=List.mem_singleton.1 h4;exact k0
  ·by_cases ae:∀ g∈oA,g.c=g.want
   ·obtain⟨hb,cP⟩:=k2 ae;refine⟨c==want,by simp only[Z_,hb],fun e g hg=>?_,fun e=>⟨_,List.mem_append.2 (.inr (List.mem_singleton.2 rfl)),by simpa using e⟩⟩;rcases List.mem_append.1 hg with h4|h4
    ·exact ae g h4
    ·obtain rfl:=List.mem_singleton.1 h4;simpa using e
   ·have hex:=I9 ae;refine⟨false,by simp only[Z_,k3 hex];rfl,(fun e=>by cases e),fun _=>?_⟩;obtain⟨g,hg,aA⟩:=hex;exact⟨g,List.mem_append.2 (.inl hg),aA⟩
 ·cases h
theorem Gam.gcall {B F:Heap}{pl:Nat→Value}{tb:Nat→Option Bool}{s:St}{env:Env}{σ:Heap}(hG:Gam P B F pl tb s env σ) {gs:List Gd}(hg:Gds tb gs) (args:List Operand):SRs P σ Jq ZF (BG s.own (args.map (gev gs s.env))) (args.map (Q3 env)) :=
 XC hG.leB hG.obj (SRs.map fun x _=>hG.evs hg x)
theorem Gam.gfun {B F:Heap}{pl:Nat→Value}{tb:Nat→Option Bool}{s:St}{env:Env}{σ:Heap}(hG:Gam P B F pl tb s env σ) {gs:List Gd}(hg:Gds tb gs) (f:Operand):SR P σ Jq ZF ((BG s.own [gev gs s.env f]).getD 0 .any) (Q3 env f):=by have:=(XC hG.leB hG.obj (show SRs P B pl tb [gev gs s.env f] [Q3 env f] by simp only[SRs];exact⟨_,[],rfl,hG.evs hg f,rfl⟩)).getD 0 poison;simpa using this
theorem UI {env:Env}{f:Operand}{args:List Operand}{σ:Heap}{K:Value→Heap→Prop}{g:FuncId}{a b:Array Value}(e:Q3 env f=.func (.func g) a b) (h:VCalled P g (a.toList++args.map (Q3 env)++b.toList) σ K) :
  vop (Q2 P) (.callV f args) env σ K:=by
 simp only[vop,e];exact h
def XOk (P:Program) (f:Nat) (x:XSp):Prop :=
 ∀ (B F:Heap) (pl:Nat→Value) (tb:Nat→Option Bool) (s:St) (env:Env) (σ:Heap) (d:Nat) (args:List SV) (vs:List Value) (K:SV→St→Prop) (R:Value→Heap→Prop),
  Gam P B F pl tb s env σ→SRs P B pl tb args vs→x d args s K →
  (∀ v s' B' F' pl' tb' u σ',K v s'→GBase B F σ B' F' σ'→Gam P B' F' pl' tb' s' env σ'→SR P B' pl' tb' v u→R u σ')→VCalled P f vs σ R
def Z42 (P:Program) (f:Nat) (x:XSp) (j:Nat):Prop :=
 ∀ (B F:Heap) (pl:Nat→Value) (tb:Nat→Option Bool) (s:St) (env:Env) (σ:Heap) (d:Nat) (args:List SV) (vs:List Value) (K:SV→St→Prop) (R:Value→Heap→Prop) (t:Nat),
  Gam P B F pl tb s env σ→SRs P B pl tb args vs→Q1u s.own j args=some t→x d args s K →
  (∀ v s' u σ',K v s'→Dead σ σ'→Gam P B F pl tb s' env σ'→SR P B pl tb v u→FrL [t] s s' pl pl σ σ'→R u σ')→VCalled P f vs σ R
def Z3n (P:Program) (f:Nat) (it:ISp):Prop:=X6 P f ∧
 ∀ (B:Heap) (args:List SV) (vs:List Value) (c:Prop) (m ar:Nat) (xs:Nat→List SV),SRs P B Jq ZF args vs→it args=some (c,m,ar,xs)→c →
  (∀ k,(xs k).length=ar∧SVs.pure (xs k)=true)∧∀ (i:Nat) (Y:Tk) (J:Nat→Heap→Prop) (E:Heap→Prop) (τ0:Heap),KQ P i Y→(∀ k τ,J k τ→B.Le τ) →
   (∀ k us τ,k<m→J k τ→SRs P B Jq ZF (xs k) us→Y us τ fun v τ'=>(v=.bool true∧J (k+1) τ')∨(v=.bool false∧E τ')) →
   J 0 τ0→VCallsTo P f (.func (.yield i) #[] #[]::vs) τ0 fun _ τ=>J m τ∨E τ
def Q0w (P:Program) (o:Nat) (y:YSp):Prop :=
 ∀ (B F:Heap) (pl:Nat→Value) (tb:Nat→Option Bool) (s:St) (env:Env) (σ:Heap) (args:List SV) (us:List Value) (K:SV→St→Prop) (R:Value→Heap→Prop) (i:Nat),
  Gam P B F pl tb s env σ→SRs P B pl tb args us→y args s K→pl o=.pointer (some ⟨i,0,none⟩) →
  (∀ v s' B' F' pl' tb' u σ',K v s'→GBase B F σ B' F' σ'→Gam P B' F' pl' tb' s' env σ'→SR P B' pl' tb' v u→R u σ')→BY P i us σ R
def Q6d (P:Program) (f:Nat) (x:Q6h):Prop:=X6 P f ∧
 ∀ (B F:Heap) (pl:Nat→Value) (tb:Nat→Option Bool) (s:St) (env:Env) (σ:Heap) (o:Nat) (args:List SV) (vs:List Value) (y:YSp) (K:St→Prop) (R:Heap→Prop),
  Gam P B F pl tb s env σ→SRs P B pl tb args vs→Q0w P o y→x o args (o,y) s K →
  (∀ s' B' F' pl' tb' af σ',K s'→GBase B F σ B' F' σ'→Gam P B' F' pl' tb' s' af σ'→R σ')→VCallsTo P f vs σ fun _=>R
structure COk (P:Program) (C:Cx):Prop where
 cs:CsOk P C.cs
 xs:∀ f x,Qv C.xs f=some x→XOk P f x
 it:∀ f x,Qv C.it f=some x→Z3n P f x
 yl:∀ o y,Qv C.yl o=some y→Q0w P o y
 iy:∀ f x,Qv C.iy f=some x→Q6d P f x
 xf:∀ f j,Qv C.xf f=some j→∀ x,Qv C.xs f=some x→Z42 P f x j
theorem Hl {C:Cx}(az:CsOk P C.cs) {B F:Heap}{pl:Nat→Value}{tb:Nat→Option Bool}{s:St}{env:Env}{σ:Heap}(hG:Gam P B F pl tb s env σ) {gs:List Gd}(hg:Gds tb gs) {raw:Bool}{o:VOp}{cs:List Prop}{v:SV}
  (h:gqc C raw o (gev gs s.env) s.own=some (cs,v)) (hc:∀ c∈cs,c) {K:Value→Heap→Prop}(hK:∀ u,SR P B pl tb v u→K u σ):vop (Q2 P) o env σ K:=by
 have flat:∀ {c:Prop}{v':SV},(bif v'.ret 0 then some ([c],v') else none)=some (cs,v)→v'.ret 0=true∧c∧v'=v:=fun {c v'} h=>by
  cases hv:v'.ret 0 with
  |false=>rw[hv] at h;cases h
  |true =>rw[hv] at h;obtain⟨rfl,rfl⟩:=QS h;exact⟨rfl,hc _ (by simp),rfl⟩
 have quiet:∀ o,gq C.kt raw o (gev gs s.env) s.own=some (cs,v)→(∀ K,QZ (Q6 o (Q3 env) σ) (fun p=>K p.1 p.2)→vop (Q2 P) o env σ K)→vop (Q2 P) o env σ K:=fun o h hv=>by obtain⟨u,h1,h2⟩:=RP (hG.evs hg) (fun _=>rfl) hG.leB hG.obj h hc;exact hv K (by rw[h1];exact hK u h2)
 cases o
 case callF f args =>
  simp only[gqc] at h;split at h
  ·rename_i c v' heq;obtain⟨h1,h2,rfl⟩:=flat h;obtain⟨g,a,b,h3,h4,_⟩:=ZO az (show SR P σ Jq ZF (.fn f [] []) (.func (.func f) #[] #[]) by simp only[SR,SRs];exact⟨[],[],rfl,rfl,rfl⟩) (hG.gcall hg args) heq h1 rfl h2;obtain⟨rfl,rfl,rfl⟩:=(by simpa using h3:f=g∧#[]=a∧#[]=b);have:=h4.mono (R':=K) fun u σ' hr=>by
    obtain⟨rfl,hu⟩:=hr.flat h1;exact hK u (hu.retd (fun j hj=>by omega) _ _ h1)
   show VCalled P f (args.map (Q3 env)) σ K;simpa using this
  ·cases h
 case callV f args =>
  simp only[gqc] at h;split at h
  ·rename_i c v' heq;obtain⟨h1,h2,rfl⟩:=flat h;obtain⟨g,a,b,h3,h4,_⟩:=ZO az (hG.gfun hg f) (hG.gcall hg args) heq h1 rfl h2;exact UI h3 (h4.mono fun u σ' hr=>by
    obtain⟨rfl,hu⟩:=hr.flat h1;exact hK u (hu.retd (fun j hj=>by omega) _ _ h1))
  ·cases h
 case ext x =>
  cases x
  case nextMap x=>cases h
  all_goals exact quiet _ h fun _ h=>h
 all_goals exact quiet _ h fun _ h=>h
end
end Go.V