/- A framework for walks, contracts of functions, and their proofs: part 4. -/
import Derived.Laws.Closers25b
import Derived.Test.YtohogbdobpnkpaaGreatDoorR3
namespace Go.V
open Go
theorem InK.wrap {k:IntKind}{x:Int}(h:InK k x):k.wrap x=x:=by obtain⟨h1,h2⟩:=h;cases k<;>simp[IntKind.wrap,IntKind.bits,IntKind.signed,IntKind.min,IntKind.max] at h1 h2 ⊢<;>(try split)<;>omega
section
variable {P:Program}{B:Heap}{pl:Nat→Value}{tb:Nat→Option Bool}{own:Own}{σ:Heap}
def QOk (P:Program) (B:Heap) (pl:Nat→Value) (tb:Nat→Option Bool) (σ:Heap) (o:VOp) (evV:Operand→Value) (v:SV):Prop:=∃ u,vact o evV σ=some (u,σ)∧SR P B pl tb v u
theorem Q4e (k:IntKind) (x:Int):SR P B pl tb (.val (.i k) x) (.int k x):=by simp[SR,KC]
theorem Q2l (x:Bool):SR P B pl tb (.val .bo x) (.bool x):=by simp[SR,KC]
theorem J13 (x:List UInt8):SR P B pl tb (.val .st x) (.string ⟨x.toArray⟩):=by simp[SR,KC]
theorem pinj {α β:Type _}{a c:α}{b d:β}(h:some (a,b)=some (c,d)):a=c∧b=d:=by cases h;exact⟨rfl,rfl⟩
section
variable {kt:List (Nat×Kind)}{raw:Bool}{ev:Operand→SV}{evV:Operand→Value}{cs:List Prop}{v:SV}
theorem Z7h (hev:∀ x,SR P B pl tb (ev x) (evV x)) {x y:Operand}{k k':IntKind}{a b:Int}(h1:asI (ev x)=some (k,a)) (h2:asI (ev y)=some (k',b)):evV x=.int k a∧evV y=.int k' b:=⟨Q2k h1 (hev x),Q2k h2 (hev y)⟩
theorem X7c (hev:∀ x,SR P B pl tb (ev x) (evV x)) {op:BinOp}{x y:Operand}(h:gq kt raw (.arith op x y) ev own=some (cs,v)) (hc:∀ c∈cs,c):QOk P B pl tb σ (.arith op x y) evV v:=by
 simp only[gq] at h;split at h
 ·rename_i k a k' b h1 h2;obtain⟨e1,e2⟩:=Z7h hev h1 h2;split at h
  ·rename_i hk;subst hk;cases raw with
   |true =>
    obtain⟨rfl,rfl⟩:=pinj h;refine⟨_,by simp only[vact,e1,e2,if_true]<;>rfl,?_⟩;have:varith op k a b=k.wrap (arithI op a b):=by cases op<;>rfl
    rw[this];exact Q4e _ _
   |false =>
    obtain⟨rfl,rfl⟩:=pinj h;refine⟨_,by simp only[vact,e1,e2,if_true]<;>rfl,?_⟩;have:varith op k a b=arithI op a b:=by
     have hw:InK k (arithI op a b):=hc _ (by simp);have e:varith op k a b=k.wrap (arithI op a b):=by cases op<;>rfl
     rw[e,hw.wrap]
    rw[this];exact Q4e _ _
  ·cases h
 ·cases h
theorem X8m (hev:∀ x,SR P B pl tb (ev x) (evV x)) {op:BinOp}{x y:Operand}(h:gq kt raw (.div op x y) ev own=some (cs,v)) (hc:∀ c∈cs,c):QOk P B pl tb σ (.div op x y) evV v:=by
 simp only[gq] at h;split at h
 ·rename_i k a k' b h1 h2;obtain⟨e1,e2⟩:=Z7h hev h1 h2;split at h
  ·rename_i hk;subst hk;split at h
   ·obtain⟨rfl,rfl⟩:=pinj h;have hb:b≠0:=hc _ (by simp);have hw:InK k (a.tdiv b):=hc _ (by simp);refine⟨_,by simp only[vact,e1,e2,hb,ne_eq,not_false_iff,and_self,if_true]<;>rfl,?_⟩;simp only[vdiv,hw.wrap];exact Q4e _ _
   ·obtain⟨rfl,rfl⟩:=pinj h;have hb:b≠0:=hc _ (by simp);refine⟨_,by simp only[vact,e1,e2,hb,ne_eq,not_false_iff,and_self,if_true]<;>rfl,?_⟩;rename_i hop;have:vdiv op k a b=a.tmod b:=by unfold vdiv;split<;>simp_all
    rw[this];exact Q4e _ _
  ·cases h
 ·cases h
theorem X7o (hev:∀ x,SR P B pl tb (ev x) (evV x)) {op:BinOp}{x y:Operand}(h:gq kt raw (.bits op x y) ev own=some (cs,v)):QOk P B pl tb σ (.bits op x y) evV v:=by
 simp only[gq] at h;split at h
 ·rename_i k a k' b h1 h2;obtain⟨e1,e2⟩:=Z7h hev h1 h2;split at h
  ·rename_i hk;subst hk;obtain⟨rfl,rfl⟩:=pinj h;exact⟨_,by simp only[vact,e1,e2,if_true]<;>rfl,Q4e _ _⟩
  ·cases h
 ·cases h
theorem X6l (hev:∀ x,SR P B pl tb (ev x) (evV x)) {op:BinOp}{x y:Operand}(h:gq kt raw (.shift op x y) ev own=some (cs,v)) (hc:∀ c∈cs,c):QOk P B pl tb σ (.shift op x y) evV v:=by
 simp only[gq] at h;split at h
 ·rename_i k a k' b h1 h2;obtain⟨e1,e2⟩:=Z7h hev h1 h2;split at h
  ·cases raw with
   |true =>obtain⟨rfl,rfl⟩:=pinj h;have hb:0≤b:=hc _ (by simp);exact⟨_,by simp only[vact,e1,e2,hb,if_true]<;>rfl,Q4e _ _⟩
   |false =>obtain⟨rfl,rfl⟩:=pinj h;have hb:0≤b:=hc _ (by simp);have hw:InK k (shlI k a b):=hc _ (by simp);refine⟨_,by simp only[vact,e1,e2,hb,if_true]<;>rfl,?_⟩;have:vshift .shl k a b=k.wrap (shlI k a b):=rfl;rw[this,hw.wrap];exact Q4e _ _
  ·obtain⟨rfl,rfl⟩:=pinj h;have hb:0≤b:=hc _ (by simp);refine⟨_,by simp only[vact,e1,e2,hb,if_true]<;>rfl,?_⟩;have:vshift op k a b=shrI k a b:=by unfold vshift;split<;>simp_all [shrI]
   rw[this];exact Q4e _ _
 ·cases h
theorem X8p (hev:∀ x,SR P B pl tb (ev x) (evV x)) {op:BinOp}{x y:Operand}(h:gq kt raw (.cmp op x y) ev own=some (cs,v)):QOk P B pl tb σ (.cmp op x y) evV v:=by
 simp only[gq] at h;split at h
 ·rename_i k a k' b h1 h2;obtain⟨e1,e2⟩:=Z7h hev h1 h2;split at h
  ·rename_i hk;subst hk;obtain⟨rfl,rfl⟩:=pinj h;exact⟨_,by simp only[vact,e1,e2,if_true]<;>rfl,Q2l _⟩
  ·cases h
 ·cases h
theorem X8o (hev:∀ x,SR P B pl tb (ev x) (evV x)) {op:BinOp}{x y:Operand}(h:gq kt raw (.str op x y) ev own=some (cs,v)) (hc:∀ c∈cs,c):QOk P B pl tb σ (.str op x y) evV v:=by
 simp only[gq] at h;split at h
 ·rename_i a b h1 h2;have e1:=Z0o h1 (hev x);have e2:=Z0o h2 (hev y);split at h
  ·obtain⟨rfl,rfl⟩:=pinj h;have hw:a.length+b.length≤4611686018427387904:=hc _ (by simp);refine⟨.string (⟨a.toArray⟩++⟨b.toArray⟩),by simp only[vact,e1,e2];rw[if_pos (by simpa [ByteArray.size] using hw)],?_⟩;have:(⟨a.toArray⟩:ByteArray)++⟨b.toArray⟩=⟨(a++b).toArray⟩:=by
    apply ByteArray.ext;simp
   rw[this];exact J13 _
  ·obtain⟨rfl,rfl⟩:=pinj h;exact⟨_,by simp only[vact,e1,e2]<;>rfl,Q2l _⟩
  ·obtain⟨rfl,rfl⟩:=pinj h;exact⟨_,by simp only[vact,e1,e2]<;>rfl,Q2l _⟩
  ·obtain⟨rfl,rfl⟩:=pinj h;exact⟨_,by simp only[vact,e1,e2]<;>rfl,Q2l _⟩
  ·cases h
 ·cases h
theorem X8l (hev:∀ x,SR P B pl tb (ev x) (evV x)) {neg:Bool}{x y:Operand}(h:gq kt raw (.eqB neg x y) ev own=some (cs,v)):QOk P B pl tb σ (.eqB neg x y) evV v:=by
 simp only[gq] at h;split at h
 ·rename_i a b h1 h2;have e1:=Q53 h1 (hev x);have e2:=Q53 h2 (hev y);obtain⟨rfl,rfl⟩:=pinj h;exact⟨_,by simp only[vact,e1,e2]<;>rfl,Q2l _⟩
 ·cases h
theorem J16 {k:MK}{a b:SV}{r:Bool}{u w:Value}(h:gcell k a b=some r) (ha:SR P B pl tb a u) (hb:SR P B pl tb b w):fitK k u=true∧fitK k w=true∧cellEqV u w=r:=by
 cases k with
 |agg s=>cases h
 |int q =>
  simp only[gcell] at h;split at h
  ·rename_i q1 x q2 y h1 h2;split at h
   ·rename_i hq;obtain⟨rfl,rfl⟩:=hq;obtain rfl:=osj h;rw[Q2k h1 ha,Q2k h2 hb];exact⟨by simp[fitK],by simp[fitK],rfl⟩
   ·cases h
  ·cases h
 |bool =>
  simp only[gcell] at h;split at h
  ·rename_i x y h1 h2;obtain rfl:=osj h;rw[Q53 h1 ha,Q53 h2 hb];exact⟨rfl,rfl,rfl⟩
  ·cases h
 |string =>
  simp only[gcell] at h;split at h
  ·rename_i x y h1 h2;obtain rfl:=osj h;rw[Z0o h1 ha,Z0o h2 hb];exact⟨rfl,rfl,rfl⟩
  ·cases h
theorem Z90:∀ {s:List MK}{l m:List SV}{r:Bool}{us ws:List Value},gcells s l m=some r→SRs P B pl tb l us→SRs P B pl tb m ws→fits s us=true∧fits s ws=true∧cellsEqV us ws=r
 |[],_,_,_,_,_,h,_,_=>by cases h
 |k::ks,[],_,_,_,_,h,_,_=>by simp[gcells] at h
 |k::ks,_::_,[],_,_,_,h,_,_=>by simp[gcells] at h
 |[k],a::l,b::m,r,us,ws,h,ha,hb=>by
  simp only[gcells] at h;split at h
  ·simp only[SRs] at ha hb;obtain⟨u,us',rfl,h1,rfl⟩:=ha;obtain⟨w,ws',rfl,h2,rfl⟩:=hb;obtain⟨f1,f2,f3⟩:=J16 h h1 h2;simp[fits,cellsEqV,f1,f2,f3]
  ·cases h
 |k::k'::ks,a::l,b::m,r,us,ws,h,ha,hb=>by
  simp only[gcells] at h;split at h
  ·rename_i x y hx hy;obtain rfl:=osj h;simp only[SRs] at ha hb;obtain⟨u,us',rfl,h1,h1'⟩:=ha;obtain⟨w,ws',rfl,h2,h2'⟩:=hb;obtain⟨f1,f2,f3⟩:=J16 hx h1 h2;obtain⟨g1,g2,g3⟩:=Z90 (s:=k'::ks) hy h1' h2';rw[fits,fits,f1,f2,g1,g2,cellsEqV,f3,g3];exact⟨rfl,rfl,rfl⟩
  ·cases h
theorem X7f (hev:∀ x,SR P B pl tb (ev x) (evV x)) {neg:Bool}{s:List MK}{x y:Operand}(h:gq kt raw (.ext (.eqAgg neg s x y)) ev own=some (cs,v)):QOk P B pl tb σ (.ext (.eqAgg neg s x y)) evV v:=by
 simp only[gq] at h;split at h
 ·rename_i l m h1 h2;obtain⟨b,hb,he⟩:=Option.map_eq_some_iff.1 h;obtain⟨rfl,rfl⟩:=(by cases he;exact⟨rfl,rfl⟩:[]=cs∧SV.val .bo (bif neg then !b else b)=v);have e1:=hev x;have e2:=hev y;rw[h1] at e1;rw[h2] at e2;simp only[SR] at e1 e2;obtain⟨us,e1,k1⟩:=e1;obtain⟨ws,e2,k2⟩:=e2;obtain⟨f1,f2,f3⟩:=Z90 hb k1 k2;refine⟨.bool (if neg then !b else b),?_,by cases neg<;>exact Q2l _⟩;simp only[vact,xact,e1,e2];rw[if_pos ⟨by simpa using f1,by simpa using f2⟩];simp only[f3]
 ·cases h
theorem q_un (hev:∀ x,SR P B pl tb (ev x) (evV x)) {op:UnOp}{x:Operand}(h:gq kt raw (.un op x) ev own=some (cs,v)) (hc:∀ c∈cs,c):QOk P B pl tb σ (.un op x) evV v:=by
 simp only[gq] at h;split at h
 ·split at h
  ·rename_i b h1;obtain⟨rfl,rfl⟩:=pinj h;exact⟨_,by simp only[vact,Q53 h1 (hev x)]<;>rfl,Q2l _⟩
  ·cases h
 ·split at h
  ·rename_i k n h1;obtain⟨rfl,rfl⟩:=pinj h;have hw:InK k (0-n):=hc _ (by simp);refine⟨_,by simp only[vact,Q2k h1 (hev x)]<;>rfl,?_⟩;rw[hw.wrap];exact Q4e _ _
  ·cases h
 ·split at h
  ·rename_i k n h1;obtain⟨rfl,rfl⟩:=pinj h;exact⟨_,by simp only[vact,Q2k h1 (hev x)]<;>rfl,Q4e _ _⟩
  ·cases h
 ·cases h
theorem X6v (hev:∀ x,SR P B pl tb (ev x) (evV x)) {k:IntKind}{x:Operand}(h:gq kt raw (.convI k x) ev own=some (cs,v)) (hc:∀ c∈cs,c):QOk P B pl tb σ (.convI k x) evV v:=by
 simp only[gq] at h;split at h
 ·rename_i k' n h1;cases raw with
  |true =>obtain⟨rfl,rfl⟩:=pinj h;exact⟨_,by simp only[vact,Q2k h1 (hev x)]<;>rfl,Q4e _ _⟩
  |false =>obtain⟨rfl,rfl⟩:=pinj h;have hw:InK k n:=hc _ (by simp);refine⟨_,by simp only[vact,Q2k h1 (hev x)]<;>rfl,?_⟩;rw[hw.wrap];exact Q4e _ _
 ·cases h
theorem X78 (hev:∀ x,SR P B pl tb (ev x) (evV x)) {x:Operand}(h:gq kt raw (.convS x) ev own=some (cs,v)):QOk P B pl tb σ (.convS x) evV v:=by
 simp only[gq] at h;split at h
 ·rename_i s h1;obtain⟨rfl,rfl⟩:=pinj h;exact⟨_,by simp only[vact,Z0o h1 (hev x)]<;>rfl,J13 _⟩
 ·cases h
theorem X6w (hev:∀ x,SR P B pl tb (ev x) (evV x)) {z:List Value}{ps:List (Nat×Nat×Operand)}(h:gq kt raw (.build z ps) ev own=some (cs,v)):QOk P B pl tb σ (.build z ps) evV v:=by
 simp only[gq] at h;split at h
 ·rename_i l h1;obtain⟨rfl,rfl⟩:=pinj h;have hz:SRs P B pl tb (z.map cvp) (z.map id):=SRs.map fun x _=>Z6r x;rw[List.map_id] at hz;obtain⟨lV,h2,h3⟩:=J1e hev hz h1;refine⟨.agg lV.toArray,by simp only[vact,h2],?_⟩;simp only[SR];exact⟨lV,rfl,h3⟩
 ·cases h
theorem X81 (hev:∀ x,SR P B pl tb (ev x) (evV x)) (hle:B.Le σ) (hobj:∀ d,OR P B pl tb σ (pl d) (oget own d)) {agg:Bool}{size:Nat}{a:Operand}(h:gq kt raw (.load agg size a) ev own=some (cs,v)):QOk P B pl tb σ (.load agg size a) evV v:=by
 simp only[gq] at h;cases hb:Nat.blt 0 size with
 |false=>rw[hb] at h;cases h
 |true =>
  rw[hb] at h;simp only[_root_.cond_true,Option.map_eq_some_iff] at h;obtain⟨v',h1,h2⟩:=h;obtain⟨rfl,rfl⟩:=(by simpa only [Prod.mk.injEq] using h2:_=cs∧_=v);have hs:0<size:=by simpa [Nat.blt_eq] using hb
  obtain⟨i,o,c,e,wr,t,u,h3,h4,h5,h6⟩:=J2f hle hobj hs h1 (hev a);exact⟨u,by simp only[vact,h3,h4,h5],h6⟩
theorem J8p (hev:∀ x,SR P B pl tb (ev x) (evV x)) {off:Nat}{a:Operand}(h:gq kt raw (.fieldAddr off a) ev own=some (cs,v)):QOk P B pl tb σ (.fieldAddr off a) evV v:=by
 have ha:=hev a;simp only[gq] at h;split at h
 ·rename_i o f heq;obtain⟨rfl,rfl⟩:=pinj h;rw[heq] at ha;simp only[SR] at ha;obtain⟨b,h1,h2⟩:=ha;refine⟨_,by simp only[vact,h2]<;>rfl,?_⟩;simp only[SR];exact⟨b,h1,rfl⟩
 ·rename_i l f heq;obtain⟨rfl,rfl⟩:=pinj h;rw[heq] at ha;simp only[SR] at ha;obtain⟨b,c,e,wr,t,h1,h2,h3⟩:=ha;refine⟨_,by simp only[vact,h2]<;>rfl,?_⟩;simp only[SR];exact⟨b,c,e,wr,t,h1,rfl,h3⟩
 ·rename_i o i f sz heq;obtain⟨rfl,rfl⟩:=pinj h;rw[heq] at ha;simp only[SR] at ha;obtain⟨b,len,cap,h1,h2,h3,h4⟩:=ha;refine⟨_,by simp only[vact,h4]<;>rfl,?_⟩;simp only[SR];exact⟨b,len,cap,h1,h2,h3,by rw[Nat.add_assoc]⟩
 ·rename_i o w heq;rw[heq] at ha;simp only[SR] at ha;split at h
  ·obtain⟨rfl,rfl⟩:=pinj h;obtain⟨b,len,cap,h1,h2,h3,h4⟩:=ha;refine⟨_,by simp only[vact,h4]<;>rfl,?_⟩;simp only[SR,DR];exact⟨b,len,cap,h1,h2,h3,by rw[Nat.add_assoc]⟩
  ·obtain⟨rfl,rfl⟩:=pinj h;obtain⟨b,len,cap,c,e,t,r,rl,rc,rcells,re,rt,h1,h2,h3,h4,h5,h6,h7,h8,h9,h10,h11,h12⟩:=ha;refine⟨_,by simp only[vact,h12]<;>rfl,?_⟩;simp only[SR,DR];exact⟨b,len,cap,c,e,t,r,rl,rc,rcells,re,rt,h1,h2,h3,h4,h5,h6,h7,h8,h9,h10,h11,by rw[Nat.add_assoc]⟩
  ·obtain⟨rfl,rfl⟩:=pinj h;obtain⟨b,o',c,e,wr,t,h1,h2,h3,h4,h5,h6⟩:=ha;refine⟨_,by simp only[vact,h4]<;>rfl,?_⟩;simp only[SR,DR];exact⟨b,o',c,e,wr,t,h1,h2,h3,by rw[Nat.add_assoc],h5,h6⟩
  ·cases h
 ·rename_i k l i f heq;obtain⟨rfl,rfl⟩:=pinj h;rw[heq] at ha;simp only[SR] at ha;obtain⟨b,o,c,e,wr,t,h1,h2,h3,h4,h5,h6⟩:=ha;refine⟨_,by simp only[vact,h4]<;>rfl,?_⟩;simp only[SR];exact⟨b,o,c,e,wr,t,h1,h2,h3,by rw[Nat.add_assoc],h5,h6⟩
 ·cases h
theorem X6y (hev:∀ x,SR P B pl tb (ev x) (evV x)) {agg:Bool}{off size:Nat}{x:Operand}(h:gq kt raw (.field agg off size x) ev own=some (cs,v)):QOk P B pl tb σ (.field agg off size x) evV v:=by
 have ha:=hev x;simp only[gq] at h;split at h
 ·rename_i l heq;rw[heq] at ha;simp only[SR] at ha;obtain⟨c,h1,h2⟩:=ha;simp only[Option.map_eq_some_iff] at h;obtain⟨v',h3,h4⟩:=h;obtain⟨rfl,rfl⟩:=(by simpa only [Prod.mk.injEq] using h4:_=cs∧_=v);obtain⟨u,h5,h6⟩:=Q3e h2 h3;exact⟨u,by simp only[vact,h1,h5],h6⟩
 ·cases h
theorem X2n (hev:∀ x,SR P B pl tb (ev x) (evV x)) {x:Operand}{i:Nat}(h:gq kt raw (.extract x i) ev own=some (cs,v)):QOk P B pl tb σ (.extract x i) evV v:=by
 have ha:=hev x;simp only[gq] at h;split at h
 ·rename_i l heq;rw[heq] at ha;simp only[SR] at ha;obtain⟨c,h1,h2⟩:=ha;simp only[Option.map_eq_some_iff] at h;obtain⟨v',h3,h4⟩:=h;obtain⟨rfl,rfl⟩:=(by simpa only [Prod.mk.injEq] using h4:_=cs∧_=v);obtain⟨u,h5,h6⟩:=h2.get h3;exact⟨u,by simp only[vact,h1,h5],h6⟩
 ·cases h
theorem X1x (hev:∀ x,SR P B pl tb (ev x) (evV x)) {x:Operand}(h:gq kt raw (.nilCheck x) ev own=some (cs,v)):QOk P B pl tb σ (.nilCheck x) evV v:=by
 have ha:=hev x;simp only[gq] at h;split at h
 ·rename_i o f heq;obtain⟨rfl,rfl⟩:=pinj h;rw[heq] at ha;have hb:=ha;simp only[SR] at ha;obtain⟨b,h1,h2⟩:=ha;exact⟨_,by simp only[vact,h2]<;>rfl,by rw[←h2];exact hb⟩
 ·rename_i l f heq;obtain⟨rfl,rfl⟩:=pinj h;rw[heq] at ha;have hb:=ha;simp only[SR] at ha;obtain⟨b,c,e,wr,t,h1,h2,h3⟩:=ha;exact⟨_,by simp only[vact,h2]<;>rfl,by rw[←h2];exact hb⟩
 ·rename_i f a b heq;obtain⟨rfl,rfl⟩:=pinj h;rw[heq] at ha;have hb:=ha;simp only[SR] at ha;obtain⟨x1,y1,h1,h2,h3⟩:=ha;exact⟨_,by simp only[vact,h1]<;>rfl,by rw[←h1];exact hb⟩
 ·cases h
theorem X0k (hev:∀ x,SR P B pl tb (ev x) (evV x)) {x i:Operand}(h:gq kt raw (.indexStr x i) ev own=some (cs,v)) (hc:∀ c∈cs,c):QOk P B pl tb σ (.indexStr x i) evV v:=by
 simp only[gq] at h;split at h
 ·rename_i s k j h1 h2;have e1:=Z0o h1 (hev x);have e2:=Q2k h2 (hev i);obtain⟨rfl,rfl⟩:=pinj h;have k1:0≤j:=hc _ (by simp);have k2:j<s.length:=hc _ (by simp);have k3:j.toNat<s.length:=by omega
  refine⟨.int .u8 (s[j.toNat].toNat:Int),by simp only[vact,e1,e2,k1,if_true];simp[k3],?_⟩;have:s.getD j.toNat 0=s[j.toNat]:=by simp[List.getD_eq_getElem?_getD,k3]
  rw[this];exact Q4e _ _
 ·cases h
theorem X1g (hev:∀ x,SR P B pl tb (ev x) (evV x)) (hcst:∀ c,evV (.const c)=c) {len size:Nat}{agg:Bool}{x i:Operand}(h:gq kt raw (.indexArr len agg size x i) ev own=some (cs,v)):QOk P B pl tb σ (.indexArr len agg size x i) evV v:=by
 have ha:=hev x;simp only[gq] at h;split at h
 ·rename_i l k j heq;split at h
  ·rename_i hj;rw[heq] at ha;simp only[SR] at ha;obtain⟨c,h1,h2⟩:=ha;simp only[Option.map_eq_some_iff] at h;obtain⟨v',h3,h4⟩:=h;obtain⟨rfl,rfl⟩:=(by simpa only [Prod.mk.injEq] using h4:_=cs∧_=v);obtain⟨u,h5,h6⟩:=Q3e h2 h3;refine⟨u,?_,h6⟩;simp only[vact,h1,hcst];rw[if_pos ⟨by simp,by simpa using hj⟩];simp[h5]
  ·cases h
 ·cases h
theorem J2s (hev:∀ x,SR P B pl tb (ev x) (evV x)) (hcst:∀ c,evV (.const c)=c) {len size:Nat}{x i:Operand}(h:gq kt raw (.indexAddrArr len size x i) ev own=some (cs,v)):QOk P B pl tb σ (.indexAddrArr len size x i) evV v:=by
 have ha:=hev x;simp only[gq] at h;split at h
 ·rename_i o f k j heq;split at h
  ·rename_i hj;obtain⟨rfl,rfl⟩:=pinj h;rw[heq] at ha;simp only[SR] at ha;obtain⟨b,h1,h2⟩:=ha;refine⟨.pointer (some ⟨b,f+j*size,none⟩),?_,?_⟩
   ·simp only[vact,h2,hcst];rw[if_pos ⟨by simp,by simpa using hj⟩];simp
   ·simp only[SR];exact⟨b,h1,rfl⟩
  ·cases h
 ·rename_i l f k j heq;split at h
  ·rename_i hj;obtain⟨rfl,rfl⟩:=pinj h;rw[heq] at ha;simp only[SR] at ha;obtain⟨b,c,e,wr,t,h1,h2,h3⟩:=ha;refine⟨.pointer (some ⟨b,f+j*size,none⟩),?_,?_⟩
   ·simp only[vact,h2,hcst];rw[if_pos ⟨by simp,by simpa using hj⟩];simp
   ·simp only[SR];exact⟨b,c,e,wr,t,h1,rfl,h3⟩
  ·cases h
 ·cases h
theorem J8o (hev:∀ x,SR P B pl tb (ev x) (evV x)) (_hle:B.Le σ) (hobj:∀ d,OR P B pl tb σ (pl d) (oget own d)) {size:Nat}{x i:Operand}(h:gq kt raw (.indexAddr size x i) ev own=some (cs,v)) (hc:∀ c∈cs,c):QOk P B pl tb σ (.indexAddr size x i) evV v:=by
 have ha:=hev x;simp only[gq] at h;split at h
 ·rename_i o k' j heq hj;have ej:=Q2k hj (hev i);split at h
  ·rename_i ty k xs nl ho;split at h
   ·rename_i hsz;obtain⟨rfl,rfl⟩:=pinj h;have h0:0≤j:=hc _ (by simp);have h1:j<xs.length:=hc _ (by simp);rw[heq] at ha;simp only[SR] at ha;have hob:=hobj o;rw[ho] at hob;rcases hob with⟨_,rfl,_⟩|⟨_,b,cap,c,t,h2,h3,h4,h5,h6⟩
    ·simp at h1;omega
    ·refine⟨.pointer (some ⟨b,0+j.toNat*size,none⟩),?_,?_⟩
     ·simp only[vact,ha.1,h2,ej];rw[if_pos ⟨h0,h1⟩]
     ·simp only[SR];exact⟨b,_,cap,h2,h0,h1,by simp⟩
   ·cases h
  ·cases h
 ·rename_i o w k' j heq hj;have ej:=Q2k hj (hev i);rw[heq] at ha;simp only[SR] at ha;have hob:=hobj o;split at h
  ·rename_i ty q k xs nl hole ho;rw[ho] at hob;split at h
   ·have key:(if k.size=size then some ([0≤j,j<xs.length],SV.dd o (.el j 0 size)) else none)=some (cs,v)→QOk P B pl tb σ (.indexAddr size x i) evV v:=by
     intro h;split at h
     ·rename_i hsz;obtain⟨rfl,rfl⟩:=pinj h;have h0:0≤j:=hc _ (by simp);have h1:j<xs.length:=hc _ (by simp);obtain⟨is,_,_,h2,_⟩:=hob;rcases h2 with⟨rfl,_⟩|⟨b,cap,c,t,js,h2,_⟩
      ·simp at h1;omega
      ·refine⟨.pointer (some ⟨b,0+j.toNat*size,none⟩),?_,?_⟩
       ·simp only[vact,ha.1,h2,ej];rw[if_pos ⟨h0,h1⟩]
       ·simp only[SR,DR];exact⟨b,_,cap,h2,h0,h1,by simp⟩
     ·cases h
    split at h
    ·exact key h
    ·exact key h
   ·rename_i kr l ir;split at h
    ·rename_i hsz;obtain⟨rfl,rfl⟩:=pinj h;have h0:0≤j:=hc _ (by simp);have h1:j<l.length:=hc _ (by simp);obtain⟨hkc,hoff,b,len,cap,c,e,t,g1,g2,g3,g4,g5⟩:=ha;obtain⟨r,o',rc,rcells,re,rwr,rt,k1,k2,k3,k4⟩:=X04 hkc (j:=j.toNat) (by omega);obtain rfl:o'=0:=hoff _ _ _ k1;obtain rfl:=X53 k2;refine⟨.pointer (some ⟨r,0+j.toNat*size,none⟩),?_,?_⟩
     ·simp only[vact,k1,ej];rw[if_pos ⟨h0,h1⟩]
     ·simp only[SR,DR];exact⟨b,len,cap,c,e,t,r,l.length,rc,rcells,re,rt,g1,g2,g3,g4,by rw[g5,k1],h0,h1,rfl,k2,by omega,by rw[List.drop_zero] at k4;exact k4,by simp[hsz]⟩
    ·cases h
   ·rename_i kr l;split at h
    ·rename_i hsz;obtain⟨rfl,rfl⟩:=pinj h;have h0:0≤j:=hc _ (by simp);have h1:j<l.length:=hc _ (by simp);obtain⟨r,o',rc,rcells,re,rwr,rt,k1,k2,k3,k4⟩:=X04 (show KC (pheap (pl o)) (.list kr) l [evV x] from ha) (j:=j.toNat) (by omega);refine⟨.pointer (some ⟨r,o'+j.toNat*size,none⟩),?_,?_⟩
     ·simp only[vact,k1,ej];rw[if_pos ⟨h0,h1⟩]
     ·simp only[SR,DR];exact⟨r,o',rcells,re,rwr,rt,h0,h1,k2,by simp[hsz],k3,k4⟩
    ·cases h
   ·cases h
  ·cases h
 ·rename_i o lo n sz k' j heq hj;have ej:=Q2k hj (hev i);split at h
  ·rename_i ty k xs nl ho;split at h
   ·rename_i hsz;obtain⟨hsz,rfl⟩:=hsz;obtain⟨rfl,rfl⟩:=pinj h;have h0:0≤j:=hc _ (by simp);have h1:j<n:=hc _ (by simp);rw[heq] at ha;simp only[SR] at ha;rcases ha with⟨rfl,rfl,_,_⟩|⟨b,len,cap,cap',h2,h3,h4,h5⟩
    ·simp at h1;omega
    ·refine⟨.pointer (some ⟨b,lo*sz+j.toNat*sz,none⟩),?_,?_⟩
     ·simp only[vact,h5,ej];rw[if_pos ⟨h0,h1⟩]
     ·simp only[SR];refine⟨b,len,cap,h2,by omega,by omega,?_⟩;have:((lo:Int)+j).toNat=lo+j.toNat:=by omega
      rw[this,Nat.add_mul,Nat.add_zero]
   ·cases h
  ·cases h
 ·rename_i k l k' j heq hj;have ej:=Q2k hj (hev i);split at h
  ·rename_i hsz;obtain⟨rfl,rfl⟩:=pinj h;have h0:0≤j:=hc _ (by simp);have h1:j<l.length:=hc _ (by simp);rw[heq] at ha;simp only[SR,KC] at ha;obtain⟨v',e,hs⟩:=ha;obtain e:=(List.cons.inj e).1;rcases hs with⟨rfl,_⟩|⟨b,o,cap,c,e',wr,t,h2,h3,h4,h5,h6,h7⟩
   ·simp at h1;omega
   ·refine⟨.pointer (some ⟨b,o+j.toNat*size,none⟩),?_,?_⟩
    ·simp only[vact,e,h2,ej];rw[if_pos ⟨h0,h1⟩]
    ·simp only[SR];exact⟨b,o,c,e',wr,t,h0,h1,h4,by rw[hsz,Nat.add_zero],h6,h7⟩
  ·cases h
 ·cases h
theorem Q13 (hev:∀ x,SR P B pl tb (ev x) (evV x)) {x:Option Operand}{d:Nat}{a:Int}(h:gbound ev x d=some a) (ha:0≤a):vbound evV x d=some a.toNat:=by
 cases x with
 |none=>obtain rfl:=osj h;simp[vbound]
 |some x =>simp only[gbound,Option.map_eq_some_iff] at h;obtain⟨⟨k,a'⟩,h1,h2⟩:=h;simp only at h2;subst h2;simp only[vbound,Q2k h1 (hev x),ha,if_true]
theorem X1k (hev:∀ x,SR P B pl tb (ev x) (evV x)) {x:Operand}{lo hi:Option Operand}(h:gq kt raw (.sliceStr x lo hi) ev own=some (cs,v)) (hc:∀ c∈cs,c):QOk P B pl tb σ (.sliceStr x lo hi) evV v:=by
 simp only[gq] at h;split at h
 ·rename_i s hs;have es:=Z0o hs (hev x);split at h
  ·rename_i a b h1 h2;obtain⟨rfl,rfl⟩:=pinj h;have k0:0≤a:=hc _ (by simp);have k1:a≤b:=hc _ (by simp);have k2:b≤s.length:=hc _ (by simp);have e1:=Q13 (evV:=evV) hev h1 k0;have e2:=Q13 (evV:=evV) hev h2 (by omega);have hsize:(ByteArray.mk s.toArray).size=s.length:=by simp[ByteArray.size]
   refine⟨.string ((ByteArray.mk s.toArray).extract a.toNat b.toNat),?_,?_⟩
   ·simp only[vact,es,hsize,e1,e2];rw[if_pos (by omega)]
   ·have:(ByteArray.mk s.toArray).extract a.toNat b.toNat=⟨((s.drop a.toNat).take (b-a).toNat).toArray⟩:=by
     apply ByteArray.ext;simp[ByteArray.data_extract];rw[show (b-a).toNat=b.toNat-a.toNat by omega]
    rw[this];exact J13 _
  ·cases h
 ·cases h
theorem X8j (hev:∀ x,SR P B pl tb (ev x) (evV x)) (hobj:∀ d,OR P B pl tb σ (pl d) (oget own d)) {x:Operand}(h:gq kt raw (.len x) ev own=some (cs,v)):QOk P B pl tb σ (.len x) evV v:=by
 simp only[gq] at h;split at h
 ·rename_i n h1;obtain⟨rfl,rfl⟩:=pinj h;obtain⟨a,cap,e⟩:=X1f hobj h1 (hev x);exact⟨.int .i64 n,by simp only[vact,e],Q4e _ _⟩
 ·cases h
theorem X5i (hev:∀ x,SR P B pl tb (ev x) (evV x)) {x:Operand}(h:gq kt raw (.lenStr x) ev own=some (cs,v)):QOk P B pl tb σ (.lenStr x) evV v:=by
 simp only[gq] at h;split at h
 ·rename_i s h1;obtain⟨rfl,rfl⟩:=pinj h;exact⟨.int .i64 s.length,by simp only[vact,Z0o h1 (hev x)];simp[ByteArray.size],Q4e _ _⟩
 ·cases h
theorem X8n (hev:∀ x,SR P B pl tb (ev x) (evV x)) {x y:Operand}(h:gq kt raw (.max x y) ev own=some (cs,v)):QOk P B pl tb σ (.max x y) evV v:=by
 simp only[gq] at h;split at h
 ·rename_i k a k' b h1 h2;obtain⟨e1,e2⟩:=Z7h hev h1 h2;split at h
  ·rename_i hk;subst hk;obtain⟨rfl,rfl⟩:=pinj h;exact⟨.int k (gmax a b),by simp only[vact,e1,e2,if_true];rfl,Q4e _ _⟩
  ·cases h
 ·cases h
theorem X7k (hev:∀ x,SR P B pl tb (ev x) (evV x)) {x y z w:Operand}(h:gq kt raw (.max4 x y z w) ev own=some (cs,v)):QOk P B pl tb σ (.max4 x y z w) evV v:=by
 simp only[gq] at h;split at h
 ·rename_i k a k2 b k3 c k4 d h1 h2 h3 h4;obtain⟨e1,e2⟩:=Z7h hev h1 h2;obtain⟨e3,e4⟩:=Z7h hev h3 h4;split at h
  ·rename_i hk;obtain⟨rfl,rfl,rfl⟩:=hk;obtain⟨rfl,rfl⟩:=pinj h;exact⟨.int k (gmax (gmax (gmax a b) c) d),by simp only[vact,e1,e2,e3,e4,and_self,if_true];rfl,Q4e _ _⟩
  ·cases h
 ·cases h
theorem X8k (hev:∀ x,SR P B pl tb (ev x) (evV x)) {x y:Operand}(h:gq kt raw (.min x y) ev own=some (cs,v)):QOk P B pl tb σ (.min x y) evV v:=by
 simp only[gq] at h;split at h
 ·rename_i k a k' b h1 h2;obtain⟨e1,e2⟩:=Z7h hev h1 h2;split at h
  ·rename_i hk;subst hk;obtain⟨rfl,rfl⟩:=pinj h;exact⟨.int k (gmin a b),by simp only[vact,e1,e2,if_true];rfl,Q4e _ _⟩
  ·cases h
 ·cases h
theorem X22 (hev:∀ x,SR P B pl tb (ev x) (evV x)) {fn:Fn}{a b:List Operand}(h:gq kt raw (.makeFunc fn a b) ev own=some (cs,v)):QOk P B pl tb σ (.makeFunc fn a b) evV v:=by
 cases fn with
 |func f =>obtain⟨rfl,rfl⟩:=pinj h;refine⟨.func (.func f) (a.map evV).toArray (b.map evV).toArray,by simp only[vact],?_⟩;simp only[SR];exact⟨_,_,rfl,SRs.map fun x _=>hev x,SRs.map fun x _=>hev x⟩
 |_=>cases h
theorem SlRel.sl {h:Heap}{sz:Nat}{α:Type}{R:α→List Value→Prop}{l:List α}{v:Value}(hs:SlRel h sz R l v):∃ cs a cap,h.sl sz v=some cs∧Rows R l cs∧v=.slice a l.length cap:=by
 rcases hs with⟨rfl,rfl⟩|⟨i,o,cap,c,e,wr,t,rfl,h2,h3,h4,h5,h6⟩
 ·exact⟨[],_,_,rfl,.nil,rfl⟩
 ·refine⟨_,_,cap,?_,h6,rfl⟩;simp only[Heap.sl,h3];rw[if_pos ⟨h4,h5⟩]
theorem J6k {h:Heap}:∀ {xs:List Int}{cs:List Value},Rows (KC h (.i .u8)) xs cs→vbytes cs=some ⟨(xs.map fun x=>x.toNat.toUInt8).toArray⟩:=by
 have key:∀ {xs:List Int}{cs:List Value},Rows (KC h (.i .u8)) xs cs→cs.mapM vbyte=some (xs.map fun x=>x.toNat.toUInt8):=fun {xs cs} hr=>by
  induction hr with
  |nil=>rfl
  |@cons x xs c cs hx _ ih =>simp only[KC] at hx;subst hx;simp only[List.singleton_append,List.mapM_cons,vbyte,ih,List.map_cons];rfl
 intro xs cs hr;simp only[vbytes,key hr,Option.map_some]
theorem X0t (hev:∀ x,SR P B pl tb (ev x) (evV x)) (hle:B.Le σ) (hobj:∀ d,OR P B pl tb σ (pl d) (oget own d)) {x:Operand}(h:gq kt raw (.ext (.bytesStr x)) ev own=some (cs,v)):QOk P B pl tb σ (.ext (.bytesStr x)) evV v:=by
 simp only[gq] at h;split at h
 ·rename_i xs h1;obtain⟨rfl,rfl⟩:=pinj h;obtain⟨cs,a,cap,h2,h3,h4⟩:=(Q6w hle hobj h1 (hev x)).sl;refine⟨.string ⟨(bytesI xs).toArray⟩,?_,J13 _⟩;have hsz:Kind.size (.i .u8)=1:=rfl;rw[h4,hsz] at h2;simp only[vact,xact,h4,h2,J6k h3];rfl
 ·cases h
theorem X5t (hev:∀ x,SR P B pl tb (ev x) (evV x)) (hobj:∀ d,OR P B pl tb σ (pl d) (oget own d)) {neg:Bool}{x y:Operand}(h:gq kt raw (.ext (.eqNil 0 neg x y)) ev own=some (cs,v)) (hc:∀ c∈cs,c):QOk P B pl tb σ (.ext (.eqNil 0 neg x y)) evV v:=by
 have hx:=hev x;have hy:=hev y;simp only[gq] at h;split at h
 ·rename_i h1 h2;obtain⟨rfl,rfl⟩:=pinj h;rw[h1] at hx;rw[h2] at hy;simp only[SR] at hx hy;exact⟨.bool (!neg),by simp only[vact,xact,hx,hy,sameNil];cases neg<;>rfl,Q2l _⟩
 ·rename_i o f h1 h2;obtain⟨rfl,rfl⟩:=pinj h;rw[h1] at hx;rw[h2] at hy;simp only[SR] at hx hy;obtain⟨b,_,hb⟩:=hx;exact⟨.bool neg,by simp only[vact,xact,hb,hy,sameNil];cases neg<;>rfl,Q2l _⟩
 ·rename_i l f h1 h2;obtain⟨rfl,rfl⟩:=pinj h;rw[h1] at hx;rw[h2] at hy;simp only[SR] at hx hy;obtain⟨b,c,e,wr,t,_,hb,_⟩:=hx;exact⟨.bool neg,by simp only[vact,xact,hb,hy,sameNil];cases neg<;>rfl,Q2l _⟩
 ·rename_i o c h1 h2;obtain⟨rfl,rfl⟩:=pinj h;rw[h1] at hx;rw[h2] at hy;simp only[SR,DR] at hx hy;rcases hx with⟨rfl,hb⟩|⟨rfl,b,_,hb⟩
  ·exact⟨.bool (bif neg then false else true),by simp only[vact,xact,hb,hy,sameNil];cases neg<;>rfl,Q2l _⟩
  ·exact⟨.bool (bif neg then true else false),by simp only[vact,xact,hb,hy,sameNil];cases neg<;>rfl,Q2l _⟩
 ·rename_i o c o' f h1 h2;split at h
  ·rename_i l u ho;split at h
   ·rename_i he;obtain⟨rfl,rfl⟩:=he;obtain⟨rfl,rfl⟩:=pinj h;have hct:c=true:=hc _ (by simp);rw[h1] at hx;rw[h2] at hy;simp only[SR,DR] at hx hy;have hob:=hobj o;rw[ho] at hob;obtain⟨i,cc,e,t,hp,hg,_⟩:=hob;obtain⟨b',hp',hy⟩:=hy;rcases hx with⟨hcf,_⟩|⟨_,b,hp2,hb⟩
    ·rw[hct] at hcf;cases hcf
    ·rw[hp] at hp' hp2;simp only[phd,Value.pointer.injEq,Option.some.injEq] at hp' hp2;have e1:i=b':=by injection hp'
     have e2:i=b:=by injection hp2
     subst e1;subst e2;exact⟨.bool (!neg),by simp only[vact,xact,hb,hy,sameNil,hg,Option.isSome_some,and_self,if_true];cases neg<;>rfl,Q2l _⟩
   ·cases h
  ·cases h
 ·cases h
theorem X1j (hev:∀ x,SR P B pl tb (ev x) (evV x)) (hobj:∀ d,OR P B pl tb σ (pl d) (oget own d)) {x:Operand}(h:gq kt raw (.ext (.toUnsafe x)) ev own=some (cs,v)):QOk P B pl tb σ (.ext (.toUnsafe x)) evV v:=by
 have hx:=hev x;simp only[gq] at h;split at h
 ·rename_i o f h1;split at h
  ·rename_i l u ho;split at h
   ·rename_i hf;obtain⟨rfl,rfl⟩:=pinj h;rw[h1] at hx;have hx0:=hx;simp only[SR] at hx;obtain⟨b,hp,hv⟩:=hx;have hob:=hobj o;rw[ho] at hob;obtain⟨i,c,e,t,hp2,hg,hl,_⟩:=hob;rw[hp] at hp2;have e1:b=i:=by simpa using hp2
    subst e1;refine⟨.pointer (some ⟨b,f,none⟩),?_,by rw[←hv];exact hx0⟩;simp only[vact,xact,hv,hg];rw[if_pos (by rw[←hl.length];exact hf)]
   ·cases h
  ·cases h
 ·cases h
theorem J8d (hev:∀ x,SR P B pl tb (ev x) (evV x)) (hobj:∀ d,OR P B pl tb σ (pl d) (oget own d)) {u size:Nat}{x:Operand}(h:gq kt raw (.ext (.fromUnsafe u size x)) ev own=some (cs,v)):QOk P B pl tb σ (.ext (.fromUnsafe u size x)) evV v:=by
 have hx:=hev x;simp only[gq] at h;split at h
 ·rename_i o f h1;split at h
  ·rename_i l t0 ho;split at h
   ·rename_i hf;obtain⟨rfl,rfl,hsz⟩:=hf;obtain⟨rfl,rfl⟩:=pinj h;rw[h1] at hx;have hx0:=hx;simp only[SR] at hx;obtain⟨b,hp,hv⟩:=hx;have hob:=hobj o;rw[ho] at hob;obtain⟨i,c,e,t,hp2,hg,hl,hu⟩:=hob;obtain⟨he,ht⟩:=hu _ rfl;subst ht;rw[hp] at hp2;have e1:b=i:=by simpa using hp2
    subst e1;refine⟨.pointer (some ⟨b,0,none⟩),?_,by rw[←hv];exact hx0⟩;simp only[vact,xact,hv,hg];rw[if_pos ⟨trivial,he,by rw[←hl.length];exact hsz⟩]
   ·cases h
  ·cases h
 ·cases h
theorem J8y (hev:∀ x,SR P B pl tb (ev x) (evV x)) (hobj:∀ d,OR P B pl tb σ (pl d) (oget own d)) {x:Operand}(h:gq kt raw (.ext (.sliceData x)) ev own=some (cs,v)) (hc:∀ c∈cs,c):QOk P B pl tb σ (.ext (.sliceData x)) evV v:=by
 have hx:=hev x;simp only[gq] at h;split at h
 ·rename_i h1;obtain⟨rfl,rfl⟩:=pinj h;rw[h1] at hx;simp only[SR] at hx;exact⟨.pointer none,by simp only[vact,xact,hx],by simp[SR]⟩
 ·rename_i o h1;split at h
  ·rename_i ty k xs nl ho;obtain⟨rfl,rfl⟩:=pinj h;have hcc:nl=false→xs≠[]:=hc _ (by simp);rw[h1] at hx;simp only[SR] at hx;have hob:=hobj o;rw[ho] at hob;rcases hob with⟨_,_,hp⟩|⟨hnl,i,cap,c,t,hp,hcap,hg,_⟩
   ·refine⟨.pointer none,by simp only[vact,xact,hx.1,hp],?_⟩;simp only[SR,DR];exact .inl ⟨by rw[hp];rfl,trivial⟩
   ·have hne:=List.length_pos_iff.2 (hcc hnl);refine⟨.pointer (some ⟨i,0,none⟩),?_,?_⟩
    ·simp only[vact,xact,hx.1,hp,hg,Option.isSome_some,and_true];rw[if_pos (by omega)]
    ·simp only[SR,DR];exact .inr ⟨i,xs.length,cap,by rw[hp];rfl,hne,rfl⟩
  ·cases h
 ·cases h
theorem J1d {size:Nat}{i o len cap l h:Nat}{c:List Value}{e:El}{wr t:Bool}(hg:σ.get i=some (.cells c e wr t)) (he:e.sz=size) (h1:l≤h) (h2:h≤cap) :
  vslice size σ (.slice (some ⟨i,o,none⟩) len cap) l h none=some (.slice (some ⟨i,o+l*size,none⟩) (h-l) (cap-l),σ):=by
 simp only[vslice,hg];rw[if_pos ⟨he,h1,h2⟩]
theorem X84 {H:Heap}{k:Kind}{l:List k.T}{v:Value}(h:KC H (.list k) l [v]):∃ a c,v=.slice a l.length c:=by
 obtain⟨v',e,hs⟩:=h;obtain rfl:=(List.cons.inj e).1;rcases hs with⟨rfl,rfl⟩|⟨i,o,cap,c,e',wr,t,rfl,_⟩
 ·exact⟨_,_,rfl⟩
 ·exact⟨_,_,rfl⟩
theorem X09 {H:Heap}(hle:H.Le σ) {k:Kind}{l:List k.T}{v:Value}{a b:Nat}(h:KC H (.list k) l [v]) (k1:a≤b) (k2:b≤l.length) :
  ∃ u,vslice k.size σ v a b none=some (u,σ)∧KC H (.list k) ((l.drop a).take (b-a)) [u]:=by
 obtain⟨v',e,hs⟩:=h;obtain rfl:=(List.cons.inj e).1;rcases hs with⟨rfl,rfl⟩|⟨i,o,cap,c,e',wr,t,rfl,h4,h5,h6,h7,h8⟩
 ·simp only[List.length_nil] at k2;have za:a=0:=by omega
  have zb:b=0:=by omega
  subst za;subst zb;exact⟨.slice none 0 0,by simp only[vslice];rfl,_,rfl,.inl ⟨by simp,rfl⟩⟩
 ·have hlen:((l.drop a).take (b-a)).length=b-a:=by simp;omega
  refine⟨.slice (some ⟨i,o+a*k.size,none⟩) (b-a) (cap-a),J1d (hle.2 _ _ h5) h6 (by omega) (by omega),_,rfl,.inr ⟨i,o+a*k.size,cap-a,c,e',wr,t,by rw[hlen],by rw[hlen];omega,h5,h6,?_,?_⟩⟩
  ·rw[hlen];have:(a+(b-a))*k.size≤l.length*k.size:=Nat.mul_le_mul_right _ (by omega);rw[Nat.add_mul] at this;omega
  ·rw[hlen];have:=(h8.drop KC.rows_len a).take KC.rows_len (b-a);have e3:(((c.drop o).take (l.length*k.size)).drop (a*k.size)).take ((b-a)*k.size)=(c.drop (o+a*k.size)).take ((b-a)*k.size):=by
    apply List.ext_getElem?;intro j;simp only[List.getElem?_take,List.getElem?_drop];split
    ·have:(a+(b-a))*k.size≤l.length*k.size:=Nat.mul_le_mul_right _ (by omega);rw[Nat.add_mul] at this;rw[if_pos (by omega),Nat.add_assoc]
    ·rfl
   rw[e3] at this;exact this
theorem X6x (hev:∀ x,SR P B pl tb (ev x) (evV x)) (hle:B.Le σ) (hobj:∀ d,OR P B pl tb σ (pl d) (oget own d)) {size:Nat}{x:Operand}{lo hi mx:Option Operand}(h:gq kt raw (.slice size x lo hi mx) ev own=some (cs,v)) (hc:∀ c∈cs,c):QOk P B pl tb σ (.slice size x lo hi mx) evV v:=by
 have ha:=hev x;cases mx with
 |some m=>cases h
 |none =>
 simp only[gq] at h;split at h
 ·rename_i o heq;rw[heq] at ha;simp only[SR] at ha;have hob:=hobj o;split at h
  ·rename_i ty k xs nl ho;rw[ho] at hob;split at h
   ·rename_i hsz;split at h
    ·rename_i a b h1 h2;obtain⟨rfl,rfl⟩:=pinj h;have k0:0≤a:=hc _ (by simp);have k1:a≤b:=hc _ (by simp);have k2:b≤xs.length:=hc _ (by simp);have e1:=Q13 (evV:=evV) (d:=0) hev h1 k0;have e2:=Q13 (evV:=evV) hev h2 (by omega);rcases hob with⟨_,rfl,h3⟩|⟨_,i,cap,c,t,h3,h4,h5,h6,h7⟩
     ·simp only[List.length_nil] at k2 e2;have za:a.toNat=0:=by omega
      have zb:b.toNat=0:=by omega
      have zc:(b-a).toNat=0:=by omega
      refine⟨.slice none 0 0,?_,?_⟩
      ·simp only[vact,ha.1,h3,e1,e2,za,zb,vslice];rfl
      ·rw[za,zc];simp only[SR];exact .inl ⟨trivial,trivial,trivial,h3⟩
     ·refine⟨.slice (some ⟨i,0+a.toNat*size,none⟩) (b.toNat-a.toNat) (cap-a.toNat),?_,?_⟩
      ·simp only[vact,ha.1,h3,e1,e2];exact J1d h5 hsz (by omega) (by omega)
      ·simp only[SR];refine .inr ⟨i,_,cap,cap-a.toNat,h3,by omega,by omega,?_⟩;rw[Nat.zero_add,show (b-a).toNat=b.toNat-a.toNat by omega]
    ·cases h
   ·cases h
  ·cases h
 ·rename_i o l0 n sz heq;rw[heq] at ha;simp only[SR] at ha;have hob:=hobj o;split at h
  ·rename_i ty k xs nl ho;rw[ho] at hob;split at h
   ·rename_i hsz;obtain⟨hsz,rfl⟩:=hsz;split at h
    ·rename_i a b h1 h2;obtain⟨rfl,rfl⟩:=pinj h;have k0:0≤a:=hc _ (by simp);have k1:a≤b:=hc _ (by simp);have k2:b≤n:=hc _ (by simp);have e1:=Q13 (evV:=evV) (d:=0) hev h1 k0;have e2:=Q13 (evV:=evV) hev h2 (by omega);rcases ha with⟨rfl,rfl,hv,hp⟩|⟨i,len,cap,cap',h3,h4,h5,hv⟩
     ·have za:a.toNat=0:=by omega
      have zb:b.toNat=0:=by omega
      have zc:(b-a).toNat=0:=by omega
      refine⟨.slice none 0 0,?_,?_⟩
      ·simp only[vact,hv,e1,e2,za,zb,vslice];rfl
      ·rw[za,zc];simp only[SR];exact .inl ⟨trivial,trivial,trivial,hp⟩
     ·rcases hob with⟨_,_,h6⟩|⟨_,i',cap1,c,t,h6,h7,h8,h9,h10⟩
      ·rw[h3] at h6;cases h6
      ·rw[h3] at h6;obtain⟨rfl,rfl,rfl⟩:=(by simpa using h6:i=i'∧len=xs.length∧cap=cap1);refine⟨.slice (some ⟨i,l0*sz+a.toNat*sz,none⟩) (b.toNat-a.toNat) (cap'-a.toNat),?_,?_⟩
       ·simp only[vact,hv,e1,e2];exact J1d h8 hsz (by omega) (by omega)
       ·simp only[SR];refine .inr ⟨i,_,cap,cap'-a.toNat,h3,by omega,by omega,?_⟩;rw[Nat.add_mul,show (b-a).toNat=b.toNat-a.toNat by omega]
    ·cases h
   ·cases h
  ·cases h
 ·rename_i k l heq;rw[heq] at ha;simp only[SR] at ha;split at h
  ·rename_i hsz;split at h
   ·rename_i a b h1 h2;obtain⟨rfl,rfl⟩:=pinj h;have k0:0≤a:=hc _ (by simp);have k1:a≤b:=hc _ (by simp);have k2:b≤l.length:=hc _ (by simp);have e1:=Q13 (evV:=evV) (d:=0) hev h1 k0;have e2:=Q13 (evV:=evV) hev h2 (by omega);obtain⟨v',e⟩:=List.length_eq_one_iff.1 (KC.length ha);obtain⟨u,g1,g2⟩:=X09 hle (a:=a.toNat) (b:=b.toNat) ha (by omega) (by omega);obtain⟨n,cap,e3⟩:=X84 ha;refine⟨u,?_,?_⟩
    ·simp only[vact,e3,e1,e2];rw[←hsz,←e3];exact g1
    ·simp only[SR];rw[show (b-a).toNat=b.toNat-a.toNat by omega];exact g2
   ·cases h
  ·cases h
 ·rename_i o w heq;rw[heq] at ha;simp only[SR] at ha;have hob:=hobj o;split at h
  ·rename_i ty q k xs nl hole ho;rw[ho] at hob
   have key:∀ (k:Kind) (l:List k.T),KC (pheap (pl o)) (.list k) l [evV x]→(if k.size=size then (match gbound ev lo 0,gbound ev hi l.length with
     |some a,some b=>some ([0≤a,a≤b,b≤(l.length:Int)],SV.dd o (.inn k ((l.drop a.toNat).take (b-a).toNat)))
     |_,_=>none) else none)=some (cs,v)→QOk P B pl tb σ (.slice size x lo hi none) evV v:=by
    intro k l ha h;split at h
    ·rename_i hsz;split at h
     ·rename_i a b h1 h2;obtain⟨rfl,rfl⟩:=pinj h;have k0:0≤a:=hc _ (by simp);have k1:a≤b:=hc _ (by simp);have k2:b≤l.length:=hc _ (by simp);have e1:=Q13 (evV:=evV) (d:=0) hev h1 k0;have e2:=Q13 (evV:=evV) hev h2 (by omega);obtain⟨u,g1,g2⟩:=X09 (DP.le hob) (a:=a.toNat) (b:=b.toNat) ha (by omega) (by omega);obtain⟨n,cap,e3⟩:=(J07 ha).len;refine⟨u,?_,?_⟩
      ·simp only[vact,e3,e1,e2];rw[←hsz,←e3];exact g1
      ·simp only[SR,DR];rw[show (b-a).toNat=b.toNat-a.toNat by omega];exact g2
     ·cases h
    ·cases h
   split at h
   ·exact key _ _ ha h
   ·exact key _ _ ha.1 h
   ·cases h
  ·cases h
 ·rename_i heq;rw[heq] at ha;simp only[SR] at ha;split at h
  ·rename_i a b h1 h2;obtain⟨rfl,rfl⟩:=pinj h;have k0:a=0:=hc _ (by simp);have k1:b=0:=hc _ (by simp);subst k0;subst k1;have e1:=Q13 (evV:=evV) (d:=0) hev h1 (Int.le_refl _);have e2:=Q13 (evV:=evV) (d:=0) hev h2 (Int.le_refl _);refine⟨.slice none 0 0,?_,?_⟩
   ·simp only[vact,ha,e1,e2,vslice];rfl
   ·simp only[SR]
  ·cases h
 ·cases h
theorem X7a (hev:∀ x,SR P B pl tb (ev x) (evV x)) {neg:Bool}{x y:Operand}(hobj:∀ d,OR P B pl tb σ (pl d) (oget own d)) (h:gq kt raw (.ext (.eqNil 1 neg x y)) ev own=some (cs,v)) (hc:∀ c∈cs,c):QOk P B pl tb σ (.ext (.eqNil 1 neg x y)) evV v:=by
 have ha:=hev x;have hb:=hev y;simp only[gq] at h;split at h
 ·rename_i h1 h2;rw[h1] at ha;rw[h2] at hb;simp only[SR] at ha hb;obtain⟨rfl,rfl⟩:=pinj h;refine⟨.bool (!neg),?_,Q2l _⟩;simp only[vact,xact,ha,hb,sameNil];cases neg<;>rfl
 ·rename_i o h1 h2;rw[h1] at ha;rw[h2] at hb;simp only[SR] at ha hb;have hob:=hobj o;split at h
  ·rename_i ty k xs nl ho;rw[ho] at hob;obtain⟨rfl,rfl⟩:=pinj h;refine⟨.bool (bif neg then !nl else nl),?_,Q2l _⟩;rcases hob with⟨rfl,_,h3⟩|⟨rfl,i,cap,c,t,h3,_⟩
   ·simp only[vact,xact,ha.1,h3,hb,sameNil];cases neg<;>rfl
   ·simp only[vact,xact,ha.1,h3,hb,sameNil];cases neg<;>rfl
  ·cases h
 ·rename_i o h1 h2;rw[h1] at ha;rw[h2] at hb;simp only[SR] at ha hb;have hob:=hobj o;split at h
  ·rename_i ty q k xs nl hole ho;rw[ho] at hob;obtain⟨rfl,rfl⟩:=pinj h;refine⟨.bool (bif neg then !nl else nl),?_,Q2l _⟩;obtain⟨is,_,_,g2,_,_,g5⟩:=hob;obtain⟨e1,_⟩:=ha;rcases g2 with⟨_,h3,_⟩|⟨i,cap,c,t,js,h3,_⟩
   ·obtain rfl:=g5.2 h3;simp only[vact,xact,e1,h3,hb,sameNil];cases neg<;>rfl
   ·have hn:nl=false:=by
     cases nl with
     |false=>rfl
     |true=>rw[g5.1 rfl] at h3;cases h3
    subst hn;simp only[vact,xact,e1,h3,hb,sameNil];cases neg<;>rfl
  ·cases h
 ·rename_i k l h1 h2;rw[h1] at ha;rw[h2] at hb;simp only[SR] at ha hb;obtain⟨rfl,rfl⟩:=pinj h;have hl:=hc (l≠[]) (by simp);refine⟨.bool neg,?_,Q2l _⟩;obtain⟨u,hu,hs⟩:=ha;obtain rfl:=(List.cons.inj hu).1;rcases hs with⟨e,_⟩|⟨i,o,cap,c,e,wr,t,h3,_⟩
  ·exact absurd e hl
  ·simp only[vact,xact,h3,hb,sameNil];cases neg<;>rfl
 ·cases h
theorem X4w (hev:∀ x,SR P B pl tb (ev x) (evV x)) {mk:MK}{z:Value}{ok:Bool}{x i:Operand}(_hle:B.Le σ) (hobj:∀ d,OR P B pl tb σ (pl d) (oget own d)) (h:gq kt raw (.ext (.lookup mk z ok x i)) ev own=some (cs,v)):QOk P B pl tb σ (.ext (.lookup mk z ok x i)) evV v:=by
 have ha:=hev x;simp only[gq] at h;split at h
 ·rename_i o h1;rw[h1] at ha;simp only[SR] at ha;have hob:=hobj o;split at h
  ·rename_i kk vk m ho;rw[ho] at hob;obtain⟨id,es,clock,h2,h3,h4⟩:=hob;split at h
   ·rename_i hmk;obtain⟨hmk,hz⟩:=hmk;split at h
    ·rename_i key hkey;have hk:=J1p hkey (hev i) Q0u;have hko:=J5c hmk hk;have hall:=MR.keys hmk h4.1;have hzk:KV B vk vk.dflt z:=J83 hz;have hmap:σ.mapAt id=some (es,clock,true):=by simp[Heap.mapAt,h3]
     have key2:=MR.find hmk hk hzk h4.1
     have base:∀ u,(match mapFind (evV i) es with
      |some e=>some (if ok then Value.tuple #[e.2.1,.bool true] else e.2.1,σ)
      |none=>some (if ok then .tuple #[z,.bool false] else z,σ))=some (u,σ)→vact (.ext (.lookup mk z ok x i)) evV σ=some (u,σ):=fun u hu=>by
      simp only[vact,xact,hko,if_true,ha.1,h2,hmap,hall];exact hu
     cases ok with
     |true =>
      simp only[if_true] at h;obtain⟨rfl,rfl⟩:=pinj h;rcases key2 with⟨e,k1,k2,k3⟩|⟨k1,k2,k3⟩
      ·refine⟨.tuple #[e.2.1,.bool true],base _ (by rw[k1];rfl),?_⟩;simp only[SR];refine⟨[e.2.1,.bool true],rfl,?_⟩;simp only[SRs,SR];exact⟨_,_,rfl,Q6q k3,_,_,rfl,by simp[KC,k2],rfl⟩
      ·refine⟨.tuple #[z,.bool false],base _ (by rw[k1];rfl),?_⟩;simp only[SR];refine⟨[z,.bool false],rfl,?_⟩;simp only[SRs,SR];exact⟨_,_,rfl,by rw[k3];exact Q6q hzk,_,_,rfl,by simp[KC,k2],rfl⟩
     |false =>
      simp only[Bool.false_eq_true,if_false] at h;obtain⟨rfl,rfl⟩:=pinj h;rcases key2 with⟨e,k1,k2,k3⟩|⟨k1,k2,k3⟩
      ·exact⟨e.2.1,base _ (by rw[k1];rfl),Q6q k3⟩
      ·exact⟨z,base _ (by rw[k1];rfl),by rw[k3];exact Q6q hzk⟩
    ·cases h
   ·cases h
  ·cases h
 ·cases h
theorem X56 (hev:∀ x,SR P B pl tb (ev x) (evV x)) {x:Operand}(hobj:∀ d,OR P B pl tb σ (pl d) (oget own d)) (h:gq kt raw (.ext (.lenMap x)) ev own=some (cs,v)):QOk P B pl tb σ (.ext (.lenMap x)) evV v:=by
 have ha:=hev x;simp only[gq] at h;split at h
 ·rename_i o h1;rw[h1] at ha;simp only[SR] at ha;have hob:=hobj o;split at h
  ·rename_i kk vk m ho;rw[ho] at hob;obtain⟨id,es,clock,h2,h3,h4⟩:=hob;obtain⟨rfl,rfl⟩:=pinj h;have hmap:σ.mapAt id=some (es,clock,true):=by simp[Heap.mapAt,h3]
   refine⟨.int .i64 es.length,by simp only[vact,xact,ha.1,h2,hmap],?_⟩;rw[h4.1.length];exact Q4e _ _
  ·cases h
 ·cases h
theorem MR.at {kk vk:Kind}:∀ {m:List (kk.T×vk.T)}{es:List MEnt}{r:Nat}{e:MEnt},MR B kk vk m es→es[r]?=some e→∃ h:r<m.length,KV B kk m[r].1 e.1∧KV B vk m[r].2 e.2.1
 |[],es,r,e,h,he=>by simp only[MR] at h;subst h;simp at he
 |x::m,es,r,e,h,he=>by
  obtain⟨e',es',rfl,h1,h2,h3⟩:=h;cases r with
  |zero=>simp only[List.getElem?_cons_zero,Option.some.injEq] at he;subst he;exact⟨by simp,h1,h2⟩
  |succ r =>obtain⟨k1,k2,k3⟩:=MR.at h3 (by simpa using he);exact⟨by simpa using k1,k2,k3⟩
theorem J3q {k:Kind}(hk:k.prim=true) {x:k.T}{v:Value}(h:KC B k x [v]):plainV v=true:=by cases k<;>first|(cases hk;done)|(simp only[KC,List.cons.injEq,and_true] at h;subst h;rfl)
theorem J87 {es:List MEnt}{clock:Nat}(h:SOk es clock) {r r':Nat}{e e':MEnt}(h1:es[r]?=some e) (h2:es[r']?=some e') (he:e.2.2=e'.2.2):r=r':=by
 obtain⟨k1,rfl⟩:=List.getElem?_eq_some_iff.1 h1;obtain⟨k2,rfl⟩:=List.getElem?_eq_some_iff.1 h2;have:=h.1;rw[List.nodup_iff_pairwise_ne,List.pairwise_iff_getElem] at this;rcases Nat.lt_trichotomy r r' with hlt|hlt|hlt
 ·exact absurd (by rw[List.getElem_map,List.getElem_map];exact he) (this r r' (by simpa using k1) (by simpa using k2) hlt)
 ·exact hlt
 ·exact absurd (by rw[List.getElem_map,List.getElem_map];exact he.symm) (this r' r (by simpa using k2) (by simpa using k1) hlt)
theorem X1u {es:List MEnt}{clock:Nat}(h:SOk es clock) {r:Nat}{e:MEnt}(h1:es[r]?=some e):es.find? (fun e'=>e'.2.2==e.2.2)=some e:=by
 obtain⟨k1,rfl⟩:=List.getElem?_eq_some_iff.1 h1;rw[List.find?_eq_some_iff_getElem];refine⟨by simp,r,k1,rfl,fun j hj=>?_⟩;have hjl:j<es.length:=by omega
 simp only[Bool.not_eq_true',beq_eq_false_iff_ne];intro he;have:=J87 h (List.getElem?_eq_getElem hjl) h1 he;omega
theorem X7g (hev:∀ x,SR P B pl tb (ev x) (evV x)) (hle:B.Le σ) (hobj:∀ d,OR P B pl tb σ (pl d) (oget own d)) {x:Operand}(h:gq kt raw (.ext (.entry x)) ev own=some (cs,v)) (hc:∀ c∈cs,c):QOk P B pl tb σ (.ext (.entry x)) evV v:=by
 simp only[gq] at h;split at h
 ·rename_i o f h1;split at h
  ·rename_i kk vk m dn ho;split at h
   ·rename_i hcond;obtain⟨rfl,hk,hv⟩:=hcond;obtain⟨rfl,rfl⟩:=pinj h;have hdn:dn≠[]:=hc _ (by simp);have e1:=hev x;rw[h1] at e1;simp only[SR] at e1;obtain⟨b,e2,e3⟩:=e1;have hob:=hobj o;rw[ho] at hob;obtain⟨j,i,es,clock,wr,seen,h2,h3,h4,h5,h6⟩:=hob;rw[h2] at e2;obtain rfl:j=b:=by simpa using e2
    have hpos:0<dn.length:=List.length_pos_iff.2 hdn;have hlast:dn[dn.length-1]?=some (dn.getLastD 0):=by rw[List.getLastD_eq_getLast?,List.getLast?_eq_getElem?];rw[List.getElem?_eq_getElem (show dn.length-1<dn.length by omega)];rfl
    obtain⟨e,he1,he2⟩:=h6.2 _ _ hlast;have hsl:seen.getLast?=some e.2.2:=by rw[List.getLast?_eq_getElem?,h6.1];exact he2
    obtain⟨hr,k1,k2⟩:=MR.at h5.1 he1;have k1:=k1.kc (Kind.prim_one hk);have k2:=k2.kc hv;have hmap:σ.mapAt i=some (es,clock,wr):=by simp[Heap.mapAt,hle.2 _ _ h4]
    have hfind:=X1u h5.2 he1;refine⟨.tuple #[e.1,e.2.1],?_,?_⟩
    ·simp only[vact,xact,e3,h3,hmap,hsl,hfind,if_true];rw[if_pos (J3q hk k1)]
    ·simp only[SR,SRs];refine⟨[e.1,e.2.1],rfl,e.1,[e.2.1],rfl,?_,e.2.1,[],rfl,?_,rfl⟩
     ·have:m.getD (dn.getLastD 0) (kk.dflt,vk.dflt)=m[dn.getLastD 0]:=by rw[List.getD_eq_getElem?_getD,List.getElem?_eq_getElem hr];rfl
      rw[this];exact k1
     ·have:m.getD (dn.getLastD 0) (kk.dflt,vk.dflt)=m[dn.getLastD 0]:=by rw[List.getD_eq_getElem?_getD,List.getElem?_eq_getElem hr];rfl
      rw[this];exact k2
   ·cases h
  ·cases h
 ·cases h
theorem J5p (hev:∀ x,SR P B pl tb (ev x) (evV x)) (hcst:∀ c,evV (.const c)=c) (hle:B.Le σ) (hobj:∀ d,OR P B pl tb σ (pl d) (oget own d)) {o:VOp}(h:gq kt raw o ev own=some (cs,v)) (hc:∀ c∈cs,c):QOk P B pl tb σ o evV v:=by
 cases o with
 |move x=>obtain⟨rfl,rfl⟩:=pinj h;exact⟨evV x,rfl,hev x⟩
 |arith=>exact X7c hev h hc
 |div=>exact X8m hev h hc
 |bits=>exact X7o hev h
 |shift=>exact X6l hev h hc
 |cmp=>exact X8p hev h
 |str=>exact X8o hev h hc
 |eqB=>exact X8l hev h
 |un=>exact q_un hev h hc
 |convI=>exact X6v hev h hc
 |convS=>exact X78 hev h
 |build=>exact X6w hev h
 |load=>exact X81 hev hle hobj h
 |fieldAddr=>exact J8p hev h
 |field=>exact X6y hev h
 |indexAddr=>exact J8o hev hle hobj h hc
 |indexAddrArr=>exact J2s hev hcst h
 |indexStr=>exact X0k hev h hc
 |indexArr=>exact X1g hev hcst h
 |slice=>exact X6x hev hle hobj h hc
 |sliceStr=>exact X1k hev h hc
 |len=>exact X8j hev hobj h
 |lenStr=>exact X5i hev h
 |max=>exact X8n hev h
 |max4=>exact X7k hev h
 |min=>exact X8k hev h
 |makeFunc=>exact X22 hev h
 |extract=>exact X2n hev h
 |nilCheck=>exact X1x hev h
 |ext x =>
  cases x with
  |eqNil k neg a b =>
   match k with
   |1=>exact X7a hev hobj h hc
   |0=>exact X5t hev hobj h hc
   |(n+2)=>cases h
  |eqAgg n s a b=>exact X7f hev h
  |toUnsafe a=>exact X1j hev hobj h
  |fromUnsafe u size a=>exact J8d hev hobj h
  |sliceData a=>exact J8y hev hobj h hc
  |bytesStr a=>exact X0t hev hle hobj h
  |lookup=>exact X4w hev hle hobj h
  |lenMap=>exact X56 hev hobj h
  |entry a=>exact X7g hev hle hobj h hc
  |_=>cases h
 |_=>cases h
end
end
end Go.V
namespace Go.V
open Go
theorem nemp {α:Type}{l:List α}(h:¬ l=[]) (b:Bool):(l.isEmpty&&b)=false:=by cases l with|nil=>exact absurd rfl h|cons _ _=>rfl
theorem nemp' {α:Type}{l:List α}(h:¬ l=[]):l.isEmpty=false:=by cases l with|nil=>exact absurd rfl h|cons _ _=>rfl
theorem Z4p {c vs:List Value}{o:Nat}(h:o+vs.length≤c.length):setL c o vs=c.take o++vs++c.drop (o+vs.length):=by
 apply List.ext_getElem?;intro k;rcases Nat.lt_or_ge k o with hk|hk
 ·rw[Q77 vs c o k (.inl hk),List.append_assoc,List.getElem?_append_left (by simp;omega),List.getElem?_take,if_pos hk]
 ·rcases Nat.lt_or_ge k (o+vs.length) with hk2|hk2
  ·have:=J4r vs c o (k-o) h (by omega);rw[show o+(k-o)=k by omega] at this;rw[this,List.append_assoc,List.getElem?_append_right (by simp;omega),List.getElem?_append_left (by simp;omega)];congr 1;simp;omega
  ·rw[Q77 vs c o k (.inr hk2),List.getElem?_append_right (by simp;omega),List.getElem?_drop];congr 1;simp;omega
theorem J9e (us c:List Value) {m p n off:Nat}(h1:off+us.length≤n) (h2:p+n≤m) (h3:m≤c.length) :
  (setL c (p+off) us).take m=(c.take m).take p++setL (((c.take m).drop p).take n) off us++(c.take m).drop (p+n):=by
 have l1:(((c.take m).drop p).take n).length=n:=by simp;omega
 have hrow:∀ q,q<n→(((c.take m).drop p).take n)[q]?=c[p+q]?:=fun q hq=>by rw[List.getElem?_take,if_pos hq,List.getElem?_drop,List.getElem?_take,if_pos (by omega)]
 generalize ((c.take m).drop p).take n=row at l1 hrow;have l2:((c.take m).take p).length=p:=by simp;omega
 have l3:(setL row off us).length=n:=by rw[Q56,l1]
 have g2:∀ q,q<p→((c.take m).take p)[q]?=c[q]?:=fun q hq=>by rw[List.getElem?_take,if_pos hq,List.getElem?_take,if_pos (by omega)]
 generalize (c.take m).take p=pre at l2 g2;apply List.ext_getElem?;intro j;rw[List.getElem?_take,List.append_assoc];by_cases hj:j<m
 ·rw[if_pos hj];rcases Nat.lt_or_ge j p with a1|a1
  ·rw[Q77 us c _ j (.inl (by omega)),List.getElem?_append_left (by omega),g2 j a1]
  ·rw[List.getElem?_append_right (by omega),l2];rcases Nat.lt_or_ge j (p+n) with a2|a2
   ·rw[List.getElem?_append_left (by omega)];rcases Nat.lt_or_ge (j-p) off with a3|a3
    ·rw[Q77 us c _ j (.inl (by omega)),Q77 us _ _ _ (.inl a3),hrow _ (by omega)];congr 1;omega
    ·rcases Nat.lt_or_ge (j-p) (off+us.length) with a4|a4
     ·have b1:=J4r us c (p+off) (j-(p+off)) (by omega) (by omega);have b2:=J4r us row off (j-(p+off)) (by omega) (by omega);rw[show p+off+(j-(p+off))=j by omega] at b1;rw[show off+(j-(p+off))=j-p by omega] at b2;rw[b1,b2]
     ·rw[Q77 us c _ j (.inr (by omega)),Q77 us _ _ _ (.inr a4),hrow _ (by omega)];congr 1;omega
   ·rw[Q77 us c _ j (.inr (by omega)),List.getElem?_append_right (by omega),List.getElem?_drop,List.getElem?_take,l3,if_pos (by omega)];congr 1;omega
 ·rw[if_neg hj,List.getElem?_append_right (by omega),List.getElem?_append_right (by omega),List.getElem?_drop,List.getElem?_take,if_neg (by omega)]
theorem Heap.Le.push {B σ:Heap}(h:B.Le σ) (b:Blk):B.Le (σ.push b) :=
 ⟨by have:=h.1;simp;omega,fun i b' hb=>by rw[Heap.get_push_lt _ _ (σ.lt (h.2 i b' hb))];exact h.2 i b' hb⟩
theorem Heap.Le.upd {B σ:Heap}(h:B.Le σ) {i:Nat}(hi:B.get i=none) (b:Blk):B.Le (σ.upd i b) :=
 ⟨by simpa using h.1,fun j b' hb=>by
  have:j≠i:=fun e=>by subst e;rw[hi] at hb;cases hb
  rw[Heap.get_upd_ne _ _ this];exact h.2 j b' hb⟩
theorem Heap.Le.kill {B σ:Heap}(h:B.Le σ) {i:Nat}(hi:B.get i=none):B.Le (σ.kill i) :=
 ⟨by simpa using h.1,fun j b' hb=>by
  have:j≠i:=fun e=>by subst e;rw[hi] at hb;cases hb
  rw[Heap.get_kill_ne _ this];exact h.2 j b' hb⟩
theorem Heap.Le.fresh {B σ:Heap}(h:B.Le σ):B.get σ.n=none:=B.wf _ h.1
section
variable {P:Program}{B F:Heap}{pl:Nat→Value}{tb:Nat→Option Bool}{s:St}{env:Env}{σ:Heap}
theorem OR.id_lt {p:Value}{b:OB}(h:OR P B pl tb σ p b) (hl:b.live=true) {i:Nat}(hi:Oid p i):i<σ.n:=by
 cases b with
 |dead=>cases hl
 |lst ty k xs nl =>
  rcases h with⟨_,_,rfl⟩|⟨_,i',cap,c,t,rfl,_,h3,_⟩
  ·cases hi
  ·obtain rfl:=osj hi;exact σ.lt h3
 |cells l u=>obtain⟨i',c,e,t,rfl,h2,_⟩:=h;obtain rfl:=osj hi;exact σ.lt h2
 |map kk vk m=>obtain⟨i',es,clock,rfl,h2,_⟩:=h;obtain rfl:=osj hi;exact σ.lt h2
 |iter kk vk m dn=>obtain⟨j,i',es,clock,wr,seen,rfl,h2,_⟩:=h;obtain rfl:=osj hi;exact σ.lt h2
 |lpf l q s=>obtain⟨rfl,_,h2⟩:=h;obtain rfl:=osj hi;exact σ.lt (h2 hl)
 |deep ty q k xs nl hh =>obtain⟨is,hO,_,_,_,h4,_⟩:=h;obtain⟨b',hb'⟩:=(hO i).1 hi;exact σ.lt (h4 i b' hb')
 |stk l vals=>cases hl
theorem Gam.push (h:Gam P B F pl tb s env σ) (d:Nat) (b:OB) (p:Value) (blk:Blk) (hp:oid p=some σ.n) (hb:OR P B (updP pl d p) tb (σ.push blk) p b):Gam P B F (updP pl d p) tb (s.make d b) env (σ.push blk):=by
 refine h.make d b p (h.le.push blk) (fun j i hj hl hi=>?_) hb (fun i _ hi=>?_)
 ·exact Heap.get_push_lt _ _ ((h.obj j).id_lt hl hi)
 ·obtain rfl:=X74 hp hi;exact⟨h.le.fresh,fun j _ hl e=>by have:=(h.obj j).id_lt hl e;omega⟩
theorem Rows.cellOk {k:Kind}{xs:List k.T}{cs:List Value}(h:Rows (KC B k) xs cs):cs.all Go.V.cellOk=true:=by
 induction h with
 |nil=>rfl
 |cons h _ ih=>rw[List.all_append,KC.cellOk h,ih];rfl
theorem Z7y {pl:Nat→Value}:∀ {k:Kind}{off:Nat}{v:SV}{u:Value}{x y:k.T}{row:List Value},kput k off v x=some y→KC B k x row→SR P B pl tb v u→off<k.size→KC B k y (setL row off [u])
 |.pair a b,off,v,u,x,y,row,h,hr,hv,ho=>by
  obtain⟨c1,c2,rfl,h1,h2⟩:=hr;have l1:=KC.length h1;have l2:=KC.length h2;simp only[kput] at h;simp only[setL];cases hb:Nat.blt off a.size with
  |true =>
   rw[hb] at h;simp only[_root_.cond_true,Option.map_eq_some_iff] at h;obtain⟨z,h3,rfl⟩:=h;have hoff:off<a.size:=by simpa [Nat.blt_eq] using hb
   have:=Z7y h3 h1 hv hoff;exact⟨c1.set off u,c2,by rw[List.set_append_left _ _ (by omega)],this,h2⟩
  |false =>
   rw[hb] at h;simp only[_root_.cond_false,Option.map_eq_some_iff] at h;obtain⟨z,h3,rfl⟩:=h;have hoff:¬ off<a.size:=by intro hlt;rw[show Nat.blt off a.size=true by rw[Nat.blt_eq];exact hlt] at hb;cases hb
   simp only[Kind.size] at ho;have:=Z7y h3 h2 hv (by omega);refine⟨c1,c2.set (off-a.size) u,?_,h1,this⟩;rw[List.set_append_right _ _ (by omega),l1]
 |.i ik,off,v,u,x,y,row,h,hr,hv,ho=>by
  have:=Q0u (k:=.i ik) h (show SRs P B pl tb [v] [u] by simp only[SRs];exact⟨_,[],rfl,hv,rfl⟩);have hl:=KC.length hr;simp only[Kind.size] at hl ho;obtain⟨c,rfl⟩:=List.length_eq_one_iff.1 hl;obtain rfl:off=0:=by omega
  exact this
 |.bo,off,v,u,x,y,row,h,hr,hv,ho=>by
  have:=Q0u (k:=.bo) h (show SRs P B pl tb [v] [u] by simp only[SRs];exact⟨_,[],rfl,hv,rfl⟩);have hl:=KC.length hr;simp only[Kind.size] at hl ho;obtain⟨c,rfl⟩:=List.length_eq_one_iff.1 hl;obtain rfl:off=0:=by omega
  exact this
 |.st,off,v,u,x,y,row,h,hr,hv,ho=>by
  have:=Q0u (k:=.st) h (show SRs P B pl tb [v] [u] by simp only[SRs];exact⟨_,[],rfl,hv,rfl⟩);have hl:=KC.length hr;simp only[Kind.size] at hl ho;obtain⟨c,rfl⟩:=List.length_eq_one_iff.1 hl;obtain rfl:off=0:=by omega
  exact this
 |.list k,off,v,u,x,y,row,h,hr,hv,ho=>by
  have:=Q0u (k:=.list k) h (show SRs P B pl tb [v] [u] by simp only[SRs];exact⟨_,[],rfl,hv,rfl⟩);have hl:=KC.length hr;simp only[Kind.size] at hl ho;obtain⟨c,rfl⟩:=List.length_eq_one_iff.1 hl;obtain rfl:off=0:=by omega
  exact this
theorem J48 {mk:MK}{kk vk:Kind}(hk:gq.mkOk mk kk=true) {key:kk.T}{x:vk.T}{kv xv:Value}{clock:Nat}(hkey:KV B kk key kv) (hx:KV B vk x xv):∀ {m:List (kk.T×vk.T)}{es:List MEnt},MR B kk vk m es→MR B kk vk (aput kk m key x) (mapPut kv xv clock es).1
 |[],es,h=>by simp only[MR] at h;subst h;exact⟨_,[],rfl,hkey,hx,rfl⟩
 |m::ms,es,h=>by
  obtain⟨e,es',rfl,h2,h3,h4⟩:=h;have hq:=J6m hk hkey h2;simp only[mapPut,aput,hq];cases gq.keq kk key m.1 with
  |true=>exact⟨_,es',rfl,hkey,hx,h4⟩
  |false=>exact⟨e,_,rfl,h2,h3,J48 hk hkey hx h4⟩
theorem Z6j (k v:Value) (clock:Nat):∀ es:List MEnt,((mapPut k v clock es).2=clock∧(mapPut k v clock es).1.map (fun e=>e.2.2)=es.map fun e=>e.2.2)∨((mapPut k v clock es).2=clock+1∧(mapPut k v clock es).1.map (fun e=>e.2.2)=(es.map fun e=>e.2.2)++[clock])
 |[]=>.inr ⟨rfl,rfl⟩
 |e::es=>by
  simp only[mapPut];split
  ·exact .inl ⟨rfl,rfl⟩
  ·rcases Z6j k v clock es with⟨h1,h2⟩|⟨h1,h2⟩
   ·exact .inl ⟨h1,by simp[h2]⟩
   ·exact .inr ⟨h1,by simp[h2]⟩
theorem SOk.put {es:List MEnt}{clock:Nat}(h:SOk es clock) {k v:Value}:SOk (mapPut k v clock es).1 (mapPut k v clock es).2:=by
 obtain⟨h1,h2⟩:=h;have mem:∀ (l:List MEnt) (x:Nat),x∈l.map (fun e=>e.2.2)↔∃ e∈l,e.2.2=x:=fun l x=>by simp
 rcases Z6j k v clock es with⟨e1,e2⟩|⟨e1,e2⟩
 ·refine⟨by rw[e2];exact h1,fun e he=>?_⟩;have:e.2.2∈es.map fun e=>e.2.2:=by rw[←e2];exact(mem _ _).2 ⟨e,he,rfl⟩
  obtain⟨e',k1,k2⟩:=(mem _ _).1 this;rw[e1,←k2];exact h2 e' k1
 ·refine⟨?_,fun e he=>?_⟩
  ·rw[e2,List.nodup_append];refine⟨h1,by simp,fun a ha b hb=>?_⟩;obtain rfl:=List.mem_singleton.1 hb;obtain⟨e',k1,k2⟩:=(mem _ _).1 ha;have:=h2 e' k1;omega
  ·have:e.2.2∈(es.map fun e=>e.2.2)++[clock]:=by rw[←e2];exact(mem _ _).2 ⟨e,he,rfl⟩
   rw[e1];rcases List.mem_append.1 this with h3|h3
   ·obtain⟨e',k1,k2⟩:=(mem _ _).1 h3;have:=h2 e' k1;omega
   ·have:=List.mem_singleton.1 h3;omega
def Fr (T:Nat) (s s':St) (pl pl':Nat→Value) (σ σ':Heap):Prop :=
 ∀ q,q≠T→(oget s'.own q).live=(oget s.own q).live∧pl' q=pl q∧((oget s.own q).live=true→∀ i,Oid (pl q) i→σ'.get i=σ.get i)
theorem Z17 (s:St) (d:Nat) (b:OB) {q:Nat}(hq:q≠d):(oget (s.make d b).own q).live=(oget s.own q).live:=by simp only[St.make,St.kill,Q09,Q8s,if_neg hq,OB.live_kill]
theorem Gam.makeF {s:St}{env:Env}{σ σ':Heap}{pl:Nat→Value}(h:Gam P B F pl tb s env σ) (d:Nat) (b:OB) (p:Value) (hle:F.Le σ') (ho:∀ j i,j≠d→(oget s.own j).live=true→Oid (pl j) i→σ'.get i=σ.get i)
  (hb:OR P B (updP pl d p) tb σ' p b) (hf:∀ i,b.live=true→Oid p i→F.get i=none∧∀ j,j≠d→(oget s.own j).live=true→¬ Oid (pl j) i):Gam P B F (updP pl d p) tb (s.make d b) env σ'∧Fr d s (s.make d b) pl (updP pl d p) σ σ' :=
 ⟨h.make d b p hle ho hb hf,fun q hq=>⟨Z17 s d b hq,by simp[updP,hq],fun hl i hi=>ho q i hq hl hi⟩⟩
theorem Gam.writeF {s:St}{env:Env}{σ σ':Heap}{pl:Nat→Value}(h:Gam P B F pl tb s env σ) (d:Nat) (b:OB) (hle:F.Le σ') (hlive:(oget s.own d).live=true)
  (hfr:∀ j i,j≠d→(oget s.own j).live=true→Oid (pl j) i→σ'.get i=σ.get i) (hb:OR P B pl tb σ' (pl d) b):Gam P B F pl tb ⟨s.env,oset s.own d b,s.nx⟩ env σ'∧Fr d s ⟨s.env,oset s.own d b,s.nx⟩ pl pl σ σ' :=
 ⟨h.write d b hle hlive hfr hb,fun q hq=>⟨by simp only[Q09,if_neg hq],rfl,fun hl i hi=>hfr q i hq hl hi⟩⟩
theorem Gam.pushF {s:St}{env:Env}{σ:Heap}{pl:Nat→Value}(h:Gam P B F pl tb s env σ) (d:Nat) (b:OB) (p:Value) (blk:Blk) (hp:oid p=some σ.n) (hb:OR P B (updP pl d p) tb (σ.push blk) p b):Gam P B F (updP pl d p) tb (s.make d b) env (σ.push blk)∧Fr d s (s.make d b) pl (updP pl d p) σ (σ.push blk) :=
 ⟨h.push d b p blk hp hb,fun q hq=>⟨Z17 s d b hq,by simp[updP,hq],fun hl i hi=>Heap.get_push_lt _ _ ((h.obj q).id_lt hl hi)⟩⟩
def NOk (P:Program) (B F:Heap) (tb:Nat→Option Bool) (o:VOp) (evV:Operand→Value) (env:Env) (σ:Heap) (K:SV→St→Prop) (T:Nat) (s:St) (pl:Nat→Value):Prop :=
 ∃ u σ' pl' v s',vact o evV σ=some (u,σ')∧K v s'∧(Gam P B F pl' tb s' env σ'∧Fr T s s' pl pl' σ σ')∧SR P B pl' tb v u
theorem Q5a (pl:Nat→Value) (d:Nat) (p:Value):updP pl d p d=p:=by simp[updP]
section
variable {C:Cx}{d:Nat}{ev:Operand→SV}{evV:Operand→Value}{K:SV→St→Prop}
theorem X4g (hev:∀ x,SR P B pl tb (ev x) (evV x)) (hG:Gam P B F pl tb s env σ) {t:Nat}{z:List Value}(h:gn C d (.alloc t z) ev s K):NOk P B F tb (.alloc t z) evV env σ K (gtouch d (.alloc t z) ev) s pl:=by
 have _hev:=hev;simp only[gn] at h;refine⟨.pointer (some ⟨σ.n,0,none⟩),_,updP pl d (.pointer (some ⟨σ.n,0,none⟩)),_,_,rfl,h,hG.pushF d _ _ _ rfl ?_,?_⟩
 ·refine⟨σ.n,z,_,_,rfl,Heap.get_push_self _ _,?_,fun y hy=>⟨osj hy,rfl⟩⟩;have hz:SRs P B (updP pl d (.pointer (some ⟨σ.n,0,none⟩))) tb (z.map cvp) (z.map id):=SRs.map fun x _=>Z6r x
  rwa [List.map_id] at hz
 ·simp only[SR,Q5a];exact⟨_,rfl,rfl⟩
theorem X86 (hev:∀ x,SR P B pl tb (ev x) (evV x)) (hG:Gam P B F pl tb s env σ) {t:Nat}{x:Operand}(h:gn C d (.box t x) ev s K):NOk P B F tb (.box t x) evV env σ K (gtouch d (.box t x) ev) s pl:=by
 simp only[gn] at h;split at h
 ·rename_i l hl;obtain⟨c,h1,h2,_⟩:=Q7f hl (hev x);refine⟨.pointer (some ⟨σ.n,0,none⟩),σ.push (.cells c ⟨c.length,t⟩ true true),updP pl d (.pointer (some ⟨σ.n,0,none⟩)),_,_,by simp only[vact,h1],h,hG.pushF d _ _ _ rfl ?_,?_⟩
  ·exact⟨σ.n,c,_,_,rfl,Heap.get_push_self _ _,SRs.upd (Heap.Le.refl B) (fun _ _ h=>h) (fun j hj=>by simp[updP,hj]) _ _ h2,fun y hy=>⟨osj hy,rfl⟩⟩
  ·simp only[SR,Q5a];exact⟨_,rfl,rfl⟩
 ·cases h
theorem Z8k (hev:∀ x,SR P B pl tb (ev x) (evV x)) {k:Kind}:∀ {ps:List (Nat×Operand)}{xs ys:List k.T}{c:List Value},gparts k ev ps xs=some ys→Rows (KC B k) xs c →
  ys.length=xs.length∧∃ c',fillL c (ps.map fun p=>(p.1*k.size,k.size,evV p.2))=some c'∧Rows (KC B k) ys c'
 |[],xs,ys,c,h,hr=>by obtain rfl:=osj h;exact⟨rfl,c,rfl,hr⟩
 |(j,x)::r,xs,ys,c,h,hr=>by
  simp only[gparts] at h;split at h
  ·rename_i l hl;split at h
   ·rename_i y hy;split at h
    ·rename_i hj;obtain⟨vs,h1,h2,_⟩:=Q7f hl (hev x);have hk:=Q0u hy h2;have hlen:=KC.length hk;have hcl:=hr.length KC.rows_len;have hjl:(j+1)*k.size≤xs.length*k.size:=Nat.mul_le_mul_right _ hj;rw[Nat.add_mul,Nat.one_mul] at hjl;have hset:=hr.set KC.rows_len hj hk;have e:setL c (j*k.size) vs=c.take (j*k.size)++vs++c.drop (j*k.size+k.size):=by
      rw[Z4p (by omega),hlen]
     rw[←e] at hset;obtain⟨h3,c',h4,h5⟩:=Z8k hev h hset;refine⟨by rw[h3,List.length_set],c',?_,h5⟩;simp only[List.map_cons,fillL,h1];rw[if_pos ⟨hlen,by omega⟩];exact h4
    ·cases h
   ·cases h
  ·cases h
theorem Z3p (hev:∀ x,SR P B pl tb (ev x) (evV x)) (hG:Gam P B F pl tb s env σ) {e:El}{z:List Value}{n:Nat}{ps:List (Nat×Operand)}(h:gn C d (.buildSlice e z n ps) ev s K):NOk P B F tb (.buildSlice e z n ps) evV env σ K (gtouch d (.buildSlice e z n ps) ev) s pl:=by
 simp only[gn] at h;split at h
 ·rename_i k _;split at h
  ·rename_i hc;obtain⟨hsz,hz⟩:=hc;split at h
   ·rename_i xs hx;have hz':KC B k k.dflt z:=Q7d hz;have hrow:Rows (KC B k) (List.replicate n k.dflt) (repl n z):=by rw[Z46];exact Rows.replicate hz' n
    obtain⟨h3,c',h4,h5⟩:=Z8k (B:=B) hev hx hrow;rw[List.length_replicate] at h3;have hcl:=h5.length KC.rows_len;refine⟨.slice (some ⟨σ.n,0,none⟩) n n,σ.push (.cells c' e true true),updP pl d (.slice (some ⟨σ.n,0,none⟩) n n),_,_,?_,h,hG.pushF d _ _ _ rfl ?_,?_⟩
    ·simp only[vact];rw[←hsz,h4]
    ·refine .inr ⟨rfl,σ.n,n,c',true,by rw[h3],by omega,?_,by rw[hcl,h3];exact Nat.le_refl _,?_⟩
     ·rw[Heap.get_push_self,hsz]
     ·rw[List.take_of_length_le (by omega)];exact h5
    ·simp only[SR,Q5a];exact⟨trivial,_,_,_,rfl⟩
   ·cases h
  ·cases h
 ·cases h
theorem J2e (hev:∀ x,SR P B pl tb (ev x) (evV x)) (hG:Gam P B F pl tb s env σ) {e:El}{bytes:Nat}{z:List Value}{l c:Operand}(h:gn C d (.makeSlice e bytes z l c) ev s K):NOk P B F tb (.makeSlice e bytes z l c) evV env σ K (gtouch d (.makeSlice e bytes z l c) ev) s pl:=by
 simp only[gn] at h;split at h
 ·rename_i k k1 a k2 b _ h1 h2;have e1:=Q2k h1 (hev l);have e2:=Q2k h2 (hev c);split at h
  ·rename_i hc;obtain⟨hsz,hz⟩:=hc;simp only[gobl,gimp] at h;obtain⟨k3,k4,k5,k6,h⟩:=h;have hz':KC B k k.dflt z:=Q7d hz;have hrow:Rows (KC B k) (List.replicate b.toNat k.dflt) (repl b.toNat z):=by rw[Z46];exact Rows.replicate hz' _
   have hcl:=hrow.length KC.rows_len;rw[List.length_replicate] at hcl;have ht:=hrow.take KC.rows_len a.toNat;rw[List.take_replicate,Nat.min_eq_left (by omega)] at ht;refine⟨.slice (some ⟨σ.n,0,none⟩) a.toNat b.toNat,σ.push (.cells (repl b.toNat z) e true true),updP pl d (.slice (some ⟨σ.n,0,none⟩) a.toNat b.toNat),_,_,?_,h,hG.pushF d _ _ _ rfl ?_,?_⟩
   ·simp only[vact,e1,e2];rw[if_pos ⟨k3,k4,by simpa using k5,by simpa using k6⟩]
   ·refine .inr ⟨rfl,σ.n,b.toNat,_,true,by rw[List.length_replicate],by simp;omega,?_,by rw[hcl];exact Nat.le_refl _,?_⟩
    ·rw[Heap.get_push_self,hsz]
    ·rw[List.length_replicate];exact ht
   ·simp only[SR,Q5a];exact⟨trivial,_,_,_,rfl⟩
  ·cases h
 ·cases h
theorem X0d (hev:∀ x,SR P B pl tb (ev x) (evV x)) (hG:Gam P B F pl tb s env σ) {e:El}{bytes:Nat}{x y:Operand}(h:gn C d (.append e bytes x y) ev s K):NOk P B F tb (.append e bytes x y) evV env σ K (gtouch d (.append e bytes x y) ev) s pl:=by
 have ha:=hev x;simp only[gn] at h;split at h
 ·rename_i k _;split at h
  ·rename_i ys hy;obtain⟨cs,ay,capy,hcs,hrows,hvy⟩:=(Q6w hG.leB hG.obj hy (hev y)).sl;have hok:cs.all cellOk=true:=hrows.cellOk;have hcl:=hrows.length KC.rows_len;split at h
   ·rename_i hx;have hT:gtouch d (.append e bytes x y) ev=d:=by simp only[gtouch,hx]
    rw[hT];rw[hx] at ha;simp only[SR] at ha;split at h
    ·rename_i hsz;simp only[gobl,gimp] at h;obtain⟨h1,h⟩:=h;rw[hsz] at hcs;have base:vact (.append e bytes x y) evV σ=vappend e bytes σ (.slice none 0 0) ys.length cs:=by
      simp only[vact,hvy] at hcs ⊢;simp only[hcs,hok,if_true,ha]
     by_cases hm:ys=[]
     ·subst hm;refine⟨.slice none 0 0,σ,updP pl d (.slice none 0 0),_,_,by rw[base];rfl,h,?_,?_⟩
      ·refine hG.makeF d _ _ hG.le (fun j i _ _ _=>rfl) (.inl ⟨rfl,rfl,rfl⟩) fun i _ hi=>by cases hi
      ·simp only[SR,Q5a];exact⟨trivial,_,_,_,rfl⟩
     ·have hm0:ys.length≠0:=fun e=>hm (List.length_eq_zero_iff.1 e);refine⟨.slice (some ⟨σ.n,0,none⟩) ys.length ys.length,σ.push (.cells cs e true false),updP pl d (.slice (some ⟨σ.n,0,none⟩) ys.length ys.length),_,_,?_,h,hG.pushF d _ _ _ rfl ?_,?_⟩
      ·rw[base];simp only[vappend];rw[if_neg hm0,if_pos (by simpa using h1)]
      ·refine .inr ⟨nemp' hm,σ.n,ys.length,cs,false,rfl,Nat.le_refl _,?_,by omega,?_⟩
       ·rw[Heap.get_push_self,hsz]
       ·rw[List.take_of_length_le (by omega)];exact hrows
      ·simp only[SR,Q5a];exact⟨trivial,_,_,_,rfl⟩
    ·cases h
   ·rename_i o hx;have hT:gtouch d (.append e bytes x y) ev=o:=by simp only[gtouch,hx]
    rw[hT];rw[hx] at ha;simp only[SR] at ha;have hob:=hG.obj o;split at h
    ·rename_i ty k' xs nl ho;rw[ho] at hob;have hlive:(oget s.own o).live=true:=by rw[ho];rfl
     split at h
     ·rename_i hsz;obtain⟨hty,hsz⟩:=hsz;split at h
      ·rename_i xs' hcast;obtain rfl:=Q5e hcast;obtain rfl:=Q5b hcast;simp only[gobl,gimp] at h;obtain⟨h1,h⟩:=h;rw[hsz] at hcs;have base:vact (.append e bytes x y) evV σ=vappend e bytes σ (pl o) ys.length cs:=by
        simp only[vact,hvy] at hcs ⊢;simp only[hcs,hok,if_true,ha.1]
       have he:e=⟨k'.size,ty⟩:=by cases e;simp only at hty hsz;rw[hty,hsz]
       rcases hob with⟨rfl,rfl,h3⟩|⟨rfl,i,cap,c,t,h3,h4,h5,h6,h7⟩
       ·
        rw[h3] at base;by_cases hm:ys=[]
        ·subst hm;refine⟨.slice none 0 0,σ,updP pl o (.slice none 0 0),_,_,by rw[base];rfl,h,?_,?_⟩
         ·refine hG.makeF o _ _ hG.le (fun j i _ _ _=>rfl) (.inl ⟨rfl,rfl,rfl⟩) fun i _ hi=>by cases hi
         ·simp only[SR,Q5a];exact⟨trivial,_,_,_,rfl⟩
        ·have hm0:ys.length≠0:=fun e=>hm (List.length_eq_zero_iff.1 e);refine⟨.slice (some ⟨σ.n,0,none⟩) ys.length ys.length,σ.push (.cells cs e true false),updP pl o (.slice (some ⟨σ.n,0,none⟩) ys.length ys.length),_,_,?_,h,hG.pushF o _ _ _ rfl ?_,?_⟩
         ·rw[base];simp only[vappend];rw[if_neg hm0,if_pos (by simpa using h1)]
         ·rw[List.nil_append];refine .inr ⟨nemp hm _,σ.n,ys.length,cs,false,rfl,Nat.le_refl _,?_,by omega,?_⟩
          ·rw[Heap.get_push_self,he]
          ·rw[List.take_of_length_le (by omega)];exact hrows
         ·simp only[SR,Q5a];exact⟨trivial,_,_,_,rfl⟩
       ·rw[h3] at base;have k1:xs'.length*k'.size≤cap*k'.size:=Nat.mul_le_mul_right _ h4;have hid:F.get i=none:=hG.fresh o i hlive (by rw[h3];rfl);have hoth:∀ j i',j≠o→(oget s.own j).live=true→Oid (pl j) i'→i'≠i:=fun j i' hj hl hi e=>by
         subst e;exact hG.sep j o i' hj hl hlive hi (by rw[h3];rfl)
        have hcond:e=e∧xs'.length≤cap∧0+xs'.length*e.sz≤c.length:=⟨rfl,h4,by rw[←hsz];omega⟩;simp only[vappend,h5] at base;rw[←he,if_pos hcond] at base;by_cases hm:ys=[]
        ·subst hm;simp only[List.length_nil,if_true] at base;refine⟨_,σ,updP pl o (pl o),_,_,base,h,?_,?_⟩
         ·refine hG.makeF o _ _ hG.le (fun j i _ _ _=>rfl) (.inr ⟨rfl,i,cap,c,t,?_,?_,h5,h6,?_⟩) fun i' _ hi=>?_
          ·rw[h3];simp
          ·simpa using h4
          ·simpa using h7
          ·rw[h3] at hi;obtain rfl:=osj hi;exact⟨hid,fun j hj hl e=>hoth j _ hj hl e rfl⟩
         ·simp only[SR,Q5a,h3];exact⟨trivial,_,_,_,rfl⟩
        ·have hm0:ys.length≠0:=fun e=>hm (List.length_eq_zero_iff.1 e);have hnl:(ys.isEmpty&&false)=false:=by simp
         have hrr:Rows (KC B k') (xs'++ys) (c.take (xs'.length*k'.size)++cs):=h7.append hrows;have hrl:=hrr.length KC.rows_len;rw[if_neg hm0] at base;by_cases hroom:xs'.length+ys.length≤cap
         ·have hr1:(xs'.length+ys.length)*k'.size≤cap*k'.size:=Nat.mul_le_mul_right _ hroom;have hr2:xs'.length*k'.size+ys.length*k'.size≤cap*k'.size:=by rw[←Nat.add_mul];exact hr1
          rw[if_pos hroom,if_pos ⟨trivial,by rw[←hsz];omega⟩] at base;refine⟨_,_,updP pl o (.slice (some ⟨i,0,none⟩) (xs'.length+ys.length) cap),_,_,base,h,?_,?_⟩
          ·refine hG.makeF o _ _ (hG.le.upd hid _) (fun j i' hj hl hi=>Heap.get_upd_ne _ _ (hoth j i' hj hl hi)) (.inr ⟨hnl,i,cap,setL c (0+xs'.length*e.sz) cs,t,by rw[List.length_append],by rw[List.length_append];exact hroom,?_,?_,?_⟩) fun i' _ hi=>?_
           ·rw[Heap.get_upd_self _ _ (σ.lt h5),he]
           ·rw[Q56];exact h6
           ·have hl1:0+xs'.length*e.sz+cs.length≤c.length:=by rw[←hsz];omega
            rw[Z4p hl1,←hsz,Nat.zero_add,List.take_left' (by rw[hrl])];exact hrr
           ·obtain rfl:=osj hi;exact⟨hid,fun j hj hl e=>hoth j _ hj hl e rfl⟩
          ·simp only[SR,Q5a];exact⟨trivial,_,_,_,rfl⟩
         ·rw[if_neg hroom,if_pos (by simpa using h1)] at base;have hcs2:((c.drop 0).take (xs'.length*e.sz)++cs)=c.take (xs'.length*k'.size)++cs:=by rw[List.drop_zero,hsz]
          cases t with
          |true =>
           simp only[if_true] at base;rw[hcs2] at base;refine⟨_,_,updP pl o (.slice (some ⟨σ.n,0,none⟩) (xs'.length+ys.length) (xs'.length+ys.length)),_,_,base,h,hG.pushF o _ _ _ rfl (.inr ⟨hnl,σ.n,xs'.length+ys.length,c.take (xs'.length*k'.size)++cs,false,by rw[List.length_append],by rw[List.length_append];exact Nat.le_refl _,?_,?_,?_⟩),?_⟩
           ·rw[Heap.get_push_self,he]
           ·rw[hrl,List.length_append];exact Nat.le_refl _
           ·rw[List.take_of_length_le (by rw[hrl];exact Nat.le_refl _)];exact hrr
           ·simp only[SR,Q5a];exact⟨trivial,_,_,_,rfl⟩
          |false =>
           simp only[Bool.false_eq_true,if_false,if_true] at base;rw[hcs2] at base;have hn:(σ.kill i).n=σ.n:=rfl;refine⟨_,_,updP pl o (.slice (some ⟨σ.n,0,none⟩) (xs'.length+ys.length) (xs'.length+ys.length)),_,_,base,h,?_,?_⟩
           ·refine hG.makeF o _ _ ((hG.le.kill hid).push _) (fun j i' hj hl hi=>?_) (.inr ⟨hnl,σ.n,xs'.length+ys.length,c.take (xs'.length*k'.size)++cs,false,by rw[List.length_append],by rw[List.length_append];exact Nat.le_refl _,?_,?_,?_⟩) fun i' _ hi=>?_
            ·rw[Heap.get_push_lt _ _ (by rw[hn];exact(hG.obj j).id_lt hl hi)];exact Heap.get_kill_ne _ (hoth j i' hj hl hi)
            ·rw[←hn,Heap.get_push_self,he]
            ·rw[hrl,List.length_append];exact Nat.le_refl _
            ·rw[List.take_of_length_le (by rw[hrl];exact Nat.le_refl _)];exact hrr
            ·obtain rfl:=osj hi;exact⟨hG.le.fresh,fun j _ hl e=>Nat.lt_irrefl σ.n ((hG.obj j).id_lt hl e)⟩
           ·simp only[SR,Q5a];exact⟨trivial,_,_,_,rfl⟩
      ·cases h
     ·cases h
    ·cases h
   ·cases h
  ·cases h
 ·cases h
theorem X41 (hev:∀ x,SR P B pl tb (ev x) (evV x)) (hG:Gam P B F pl tb s env σ) {size:Nat}{a x:Operand}(h:gn C d (.store size a x) ev s K):NOk P B F tb (.store size a x) evV env σ K (gtouch d (.store size a x) ev) s pl:=by
 have ha:=hev a;simp only[gn] at h;split at h
 ·rename_i o off vs h1 h2;have hT:gtouch d (.store size a x) ev=o:=by simp only[gtouch,h1]
  rw[hT];obtain⟨us,h3,h4,h5⟩:=Q7f h2 (hev x);rw[h1] at ha;simp only[SR] at ha;obtain⟨b,h6,h7⟩:=ha;have hob:=hG.obj o;split at h
  ·rename_i l u ho;rw[ho] at hob;have hlive:(oget s.own o).live=true:=by rw[ho];rfl
   obtain⟨i,c,e,t,h8,h9,h10,h11⟩:=hob;rw[h6] at h8;obtain rfl:=(by simpa using h8:b=i);split at h
   ·rename_i hc;have hid:F.get b=none:=hG.fresh o b hlive (by rw[h6];rfl);have hoth:∀ j i',j≠o→(oget s.own j).live=true→Oid (pl j) i'→i'≠b:=fun j i' hj hl hi e=>by
     subst e;exact hG.sep j o i' hj hl hlive hi (by rw[h6];rfl)
    refine⟨undef,σ.upd b (.cells (setL c off us) e true t),pl,_,_,?_,h,hG.writeF o _ (hG.le.upd hid _) hlive (fun j i' hj hl hi=>Heap.get_upd_ne _ _ (hoth j i' hj hl hi)) ?_,by simp[SR]⟩
    ·simp only[vact,h7,h3,h9];rw[if_pos ⟨trivial,by rw[←h4.length];exact hc.1,by rw[←h10.length];exact hc.2,h5⟩]
    ·exact⟨b,_,e,t,h6,Heap.get_upd_self _ _ (σ.lt h9),Z83 h10 h4,h11⟩
   ·cases h
  ·cases h
 ·rename_i o i off sz vs h1 h2;have hT:gtouch d (.store size a x) ev=o:=by simp only[gtouch,h1]
  rw[hT];obtain⟨us,h3,h4,h5⟩:=Q7f h2 (hev x);rw[h1] at ha;simp only[SR] at ha;obtain⟨b,len,cap,h6,h7,h8,h9⟩:=ha;have hob:=hG.obj o;split at h
  ·rename_i ty k xs nl ho;rw[ho] at hob;have hlive:(oget s.own o).live=true:=by rw[ho];rfl
   rcases hob with⟨_,_,k3⟩|⟨rfl,i',cap',c,t,k3,k4,k5,k6,k7⟩
   ·rw[h6] at k3;cases k3
   ·rw[h6] at k3;obtain⟨rfl,rfl,rfl⟩:=(by simpa using k3:b=i'∧len=xs.length∧cap=cap');have hid:F.get b=none:=hG.fresh o b hlive (by rw[h6];rfl);have hoth:∀ j i',j≠o→(oget s.own j).live=true→Oid (pl j) i'→i'≠b:=fun j i' hj hl hi e=>by
     subst e;exact hG.sep j o i' hj hl hlive hi (by rw[h6];rfl)
    have hi:i.toNat<xs.length:=by omega
    have hsz:(i.toNat+1)*k.size≤xs.length*k.size:=Nat.mul_le_mul_right _ hi;rw[Nat.add_mul,Nat.one_mul] at hsz;have k8:=Nat.mul_le_mul_right k.size k4
    have fin:∀ (y:k.T) (us:List Value) (off':Nat),off'+us.length≤k.size→KC B k y (setL (((c.take (xs.length*k.size)).drop (i.toNat*k.size)).take k.size) off' us) →
      Gam P B F pl tb ⟨s.env,oset s.own o (.lst ty k (xs.set i.toNat y) false),s.nx⟩ env (σ.upd b (.cells (setL c (i.toNat*k.size+off') us) ⟨k.size,ty⟩ true t))∧Fr o s ⟨s.env,oset s.own o (.lst ty k (xs.set i.toNat y) false),s.nx⟩ pl pl σ (σ.upd b (.cells (setL c (i.toNat*k.size+off') us) ⟨k.size,ty⟩ true t)):=by
     intro y us off' hoff' hk;refine hG.writeF o _ (hG.le.upd hid _) hlive (fun j i' hj hl hi=>Heap.get_upd_ne _ _ (hoth j i' hj hl hi)) (.inr ⟨rfl,b,cap,setL c (i.toNat*k.size+off') us,t,by rw[h6];simp,by simpa using k4,Heap.get_upd_self _ _ (σ.lt k5),by rw[Q56];exact k6,?_⟩);have hset:=k7.set KC.rows_len hi hk;rw[List.length_set];rw[J9e us c (m:=xs.length*k.size) (p:=i.toNat*k.size) (n:=k.size) (off:=off') hoff' hsz (by omega)];exact hset
    have hrow:=k7.at KC.rows_len hi;have hrl:=KC.length hrow;split at h
    ·rename_i hc;obtain⟨rfl,rfl,rfl⟩:=hc;split at h
     ·rename_i y hy;have hk:=Q0u hy h4;have hl:=KC.length hk;refine⟨undef,σ.upd b (.cells (setL c (i.toNat*k.size+0) us) ⟨k.size,ty⟩ true t),pl,_,_,?_,h,fin y us 0 (by omega) ?_,by simp[SR]⟩
      ·simp only[vact,h9,h3,k5];rw[if_pos ⟨trivial,hl,by omega,h5⟩]
      ·rw[Z4p (by omega),Nat.zero_add,List.take_zero,List.nil_append,List.drop_of_length_le (by omega),List.append_nil];exact hk
     ·cases h
    ·split at h
     ·rename_i hc;obtain⟨rfl,hv1,rfl,hoff⟩:=hc;split at h
      ·rename_i y hy;obtain⟨v0,rfl⟩:∃ v0,vs=[v0]:=by
        cases vs with
        |nil=>cases hv1
        |cons a r=>cases r with
         |nil=>exact⟨a,rfl⟩
         |cons _ _=>simp at hv1
       obtain⟨u0,rfl,hu0⟩:=h4.one;have hx:xs.getD i.toNat k.dflt=xs[i.toNat]:=by simp[List.getD_eq_getElem?_getD,List.getElem?_eq_getElem hi]
       rw[hx] at hy;refine⟨undef,σ.upd b (.cells (setL c (i.toNat*k.size+off) [u0]) ⟨k.size,ty⟩ true t),pl,_,_,?_,h,fin y [u0] off (by simp;omega) (Z7y hy hrow hu0 hoff),by simp[SR]⟩;simp only[vact,h9,h3,k5];rw[if_pos ⟨trivial,rfl,by omega,h5⟩]
      ·cases h
     ·cases h
  ·cases h
 ·cases h
theorem J0l (hev:∀ x,SR P B pl tb (ev x) (evV x)) (hG:Gam P B F pl tb s env σ) {mk:MK}{m kx vx:Operand}(h:gn C d (.ext (.mapUpdate mk m kx vx)) ev s K):NOk P B F tb (.ext (.mapUpdate mk m kx vx)) evV env σ K (gtouch d (.ext (.mapUpdate mk m kx vx)) ev) s pl:=by
 have ha:=hev m;simp only[gn] at h;split at h
 ·rename_i o h1;have hT:gtouch d (.ext (.mapUpdate mk m kx vx)) ev=o:=by simp only[gtouch,h1]
  rw[hT];rw[h1] at ha;simp only[SR] at ha;have hob:=hG.obj o;split at h
  ·rename_i kk vk l ho;rw[ho] at hob;have hlive:(oget s.own o).live=true:=by rw[ho];rfl
   obtain⟨id,es,clock,h2,h3,h4⟩:=hob;split at h
   ·rename_i hc;have hmk:=hc;split at h
    ·rename_i key x hkey hx;have hk:=J1p hkey (hev kx) Q0u;have hv:=J1p hx (hev vx) Q0u;have hid:F.get id=none:=hG.fresh o id hlive (by rw[h2];rfl);have hoth:∀ j i',j≠o→(oget s.own j).live=true→Oid (pl j) i'→i'≠id:=fun j i' hj hl hi e=>by
      subst e;exact hG.sep j o i' hj hl hlive hi (by rw[h2];rfl)
     have hmap:σ.mapAt id=some (es,clock,true):=by simp[Heap.mapAt,h3]
     refine⟨undef,σ.upd id (.obj (.map (mapPut (evV kx) (evV vx) clock es).1 (mapPut (evV kx) (evV vx) clock es).2) true),pl,_,_,?_,h,hG.writeF o _ (hG.le.upd hid _) hlive (fun j i' hj hl hi=>Heap.get_upd_ne _ _ (hoth j i' hj hl hi)) ?_,by simp[SR]⟩
     ·simp only[vact,xact,ha.1,h2,hmap];rw[if_pos (by rw[J5c hmk hk,h4.1.keys hmk];rfl)]
     ·exact⟨id,_,_,h2,Heap.get_upd_self _ _ (σ.lt h3),J48 hmk hk hv h4.1,h4.2.put⟩
    ·cases h
   ·cases h
  ·cases h
 ·cases h
theorem J1c (hG:Gam P B F pl tb s env σ) {o ty:Nat}{k:Kind}{xs ys:List k.T}{nl:Bool}(ho:oget s.own o=.lst ty k xs nl) {size lo n:Nat}(hsz:k.size=size) (hlo:lo+n≤xs.length) {dv sv:Value}{a b:Operand}(hda:evV a=dv) (hsa:evV b=sv)
  (hs:SlRel σ k.size (KC B k) ys sv) (hd:(n=0∧∃ c,dv=.slice none 0 c∨∃ x,dv=.slice x 0 c)∨∃ i len cap cap',pl o=.slice (some ⟨i,0,none⟩) len cap∧dv=.slice (some ⟨i,lo*size,none⟩) n cap')
  {s':St}(hs':s'=⟨s.env,oset s.own o (.lst ty k (xs.take lo++(ys.take n++xs.drop (lo+Nat.min ys.length n))) nl),s.nx⟩) (h:K (.val (.i .i64) (Nat.min ys.length n:Nat)) s'):NOk P B F tb (.ext (.copy size a b)) evV env σ K o s pl:=by
 subst hs';have hlive:(oget s.own o).live=true:=by rw[ho];rfl
 have hob:=hG.obj o;rw[ho] at hob;by_cases hm:Nat.min ys.length n=0
 ·have hcont:xs.take lo++(ys.take n++xs.drop (lo+Nat.min ys.length n))=xs:=by
   rw[hm,Nat.add_zero];have:ys.take n=[]:=by
    have:min ys.length n=0:=hm;rcases Nat.le_total ys.length n with h|h
    ·have:ys.length=0:=by omega
     rw[List.length_eq_zero_iff.1 this];simp
    ·have:n=0:=by omega
     rw[this];rfl
   rw[this,List.nil_append,List.take_append_drop]
  refine⟨.int .i64 0,σ,pl,_,_,?_,h,?_,?_⟩
  ·obtain⟨aa,cc,e⟩:=hs.len;have hdn:∃ x c,dv=.slice x n c:=by
    rcases hd with⟨rfl,c,hd|⟨x,hd⟩⟩|⟨i,len,cap,cap',_,hd⟩
    ·exact⟨_,_,hd⟩
    ·exact⟨_,_,hd⟩
    ·exact⟨_,_,hd⟩
   obtain⟨x,c,hdn⟩:=hdn;simp only[vact,xact,hda,hsa,hdn,e];rw[if_pos (show min ys.length n=0 from hm)]
  ·rw[hcont];exact hG.writeF o _ hG.le hlive (fun _ _ _ _ _=>rfl) hob
  ·rw[hm];exact Q4e _ _
 ·have hm':0<min ys.length n:=Nat.pos_of_ne_zero hm;have hmn:Nat.min ys.length n≤n:=Nat.min_le_right _ _;have hmy:Nat.min ys.length n≤ys.length:=Nat.min_le_left _ _;rcases hd with⟨rfl,_⟩|⟨i,len,cap,cap',h1,h2⟩
  ·simp at hm'
  rcases hs with⟨rfl,_⟩|⟨si,so,scap,sc,se,swr,st,h3,h4,h5,h6,h7,h8⟩
  ·simp at hm'
  rcases hob with⟨_,_,h9⟩|⟨rfl,i',cap1,c,t,h9,h10,h11,h12,h13⟩
  ·rw[h1] at h9;cases h9
  rw[h1] at h9;obtain⟨rfl,rfl,rfl⟩:=(by simpa using h9:i=i'∧len=xs.length∧cap=cap1);have hid:F.get i=none:=hG.fresh o i hlive (by rw[h1];rfl);have hoth:∀ j i',j≠o→(oget s.own j).live=true→Oid (pl j) i'→i'≠i:=fun j i' hj hl hi e=>by subst e;exact hG.sep j o i' hj hl hlive hi (by rw[h1];rfl)
  have hrow:=h8.take KC.rows_len (Nat.min ys.length n);have hle1:Nat.min ys.length n*k.size≤ys.length*k.size:=Nat.mul_le_mul_right _ (Nat.min_le_left _ _);rw[List.take_take,Nat.min_eq_left hle1] at hrow;have hok:=hrow.cellOk;have hlen:((sc.drop so).take (Nat.min ys.length n*k.size)).length=Nat.min ys.length n*k.size:=by rw[hrow.length KC.rows_len,show (ys.take (Nat.min ys.length n)).length=Nat.min ys.length n by rw[List.length_take];exact Nat.min_eq_left (Nat.min_le_left _ _)]
  have hsl:σ.sl size (.slice (some ⟨si,so,none⟩) (min ys.length n) scap)=some ((sc.drop so).take (Nat.min ys.length n*k.size)):=by simp only[Heap.sl,h5];rw[if_pos ⟨by rw[h6,hsz],by rw[←hsz];have:min ys.length n*k.size≤ys.length*k.size:=hle1;omega⟩,←hsz]
  have hin:lo*k.size+Nat.min ys.length n*k.size≤xs.length*k.size:=by rw[←Nat.add_mul];exact Nat.mul_le_mul_right _ (by omega)
  have hcc:=Nat.mul_le_mul_right k.size h10;refine⟨.int .i64 (Nat.min ys.length n:Nat),σ.upd i (.cells (setL c (lo*k.size) ((sc.drop so).take (Nat.min ys.length n*k.size))) ⟨k.size,ty⟩ true t),pl,_,_,?_,h,?_,Q4e _ _⟩
  ·simp only[vact,xact,hda,hsa,h2,h3];rw[if_neg (show ¬ min ys.length n=0 from hm)];simp only[hsl,h11];rw[if_pos ⟨trivial,hsz,by rw[hlen,←hsz];omega,hok⟩,←hsz]
  ·have htot:(xs.take lo++(ys.take n++xs.drop (lo+Nat.min ys.length n))).length=xs.length:=by
    have:Nat.min ys.length n=min n ys.length:=Nat.min_comm _ _;simp only[List.length_append,List.length_take,List.length_drop];omega
   refine hG.writeF o _ (hG.le.upd hid _) hlive (fun j i' hj hl hi=>Heap.get_upd_ne _ _ (hoth j i' hj hl hi)) (.inr ⟨rfl,i,cap,_,t,by rw[htot];exact h1,by rw[htot];exact h10,Heap.get_upd_self _ _ (σ.lt h11),by rw[Q56];exact h12,?_⟩);rw[htot];have e1:=J9e ((sc.drop so).take (Nat.min ys.length n*k.size)) c (m:=xs.length*k.size) (p:=lo*k.size) (n:=Nat.min ys.length n*k.size) (off:=0) (by omega) hin (by omega);rw[Nat.add_zero] at e1;rw[e1];have e2:setL (((c.take (xs.length*k.size)).drop (lo*k.size)).take (Nat.min ys.length n*k.size)) 0 ((sc.drop so).take (Nat.min ys.length n*k.size))=(sc.drop so).take (Nat.min ys.length n*k.size):=by
    have l1:(((c.take (xs.length*k.size)).drop (lo*k.size)).take (Nat.min ys.length n*k.size)).length=Nat.min ys.length n*k.size:=by simp;omega
    generalize ((c.take (xs.length*k.size)).drop (lo*k.size)).take (Nat.min ys.length n*k.size)=row at l1;generalize (sc.drop so).take (Nat.min ys.length n*k.size)=us at hlen;rw[Z4p (by omega),Nat.zero_add,List.take_zero,List.nil_append,List.drop_of_length_le (by omega),List.append_nil]
   rw[e2,List.append_assoc];have e3:ys.take n=ys.take (Nat.min ys.length n):=by
    rcases Nat.le_total ys.length n with h|h
    ·rw[show Nat.min ys.length n=ys.length from Nat.min_eq_left h,List.take_of_length_le h,List.take_of_length_le (Nat.le_refl _)]
    ·rw[show Nat.min ys.length n=n from Nat.min_eq_right h]
   rw[e3];have hd:=h13.drop KC.rows_len (lo+Nat.min ys.length n);rw[Nat.add_mul] at hd;exact(h13.take KC.rows_len lo).append (hrow.append hd)
theorem J4f:∀ xs:List UInt8,Rows (KC B (.i .u8)) (xs.map fun b=>(b.toNat:Int)) (xs.map fun b=>Value.int .u8 (b.toNat:Int))
 |[]=>.nil
 |x::xs=>.cons (c:=[.int .u8 (x.toNat:Int)]) rfl (J4f xs)
theorem J47 (hev:∀ x,SR P B pl tb (ev x) (evV x)) (hG:Gam P B F pl tb s env σ) {e:Nat}{x:Operand}(h:gn C d (.ext (.strBytes e x)) ev s K):NOk P B F tb (.ext (.strBytes e x)) evV env σ K (gtouch d (.ext (.strBytes e x)) ev) s pl:=by
 simp only[gn] at h;split at h
 ·rename_i xs h1;have e1:=Z0o h1 (hev x);obtain⟨hlen,h⟩:=h;have hlen:xs.length≤4611686018427387904:=hlen;have hsz:(⟨xs.toArray⟩:ByteArray).size=xs.length:=by show xs.toArray.size=_;simp
  refine⟨.slice (some ⟨σ.n,0,none⟩) xs.length xs.length,σ.push (.cells (xs.map fun b=>Value.int .u8 (b.toNat:Int)) ⟨1,e⟩ true false),updP pl d (.slice (some ⟨σ.n,0,none⟩) xs.length xs.length),_,_,?_,h,hG.pushF d _ _ _ rfl ?_,?_⟩
  ·simp only[vact,xact,e1,hsz];rw[if_pos (by exact hlen)]
  ·refine .inr ⟨rfl,σ.n,xs.length,_,false,by rw[List.length_map],by rw[List.length_map];exact Nat.le_refl _,Heap.get_push_self _ _,by rw[List.length_map];simp[Kind.size],?_⟩;rw[List.take_of_length_le (by simp[Kind.size])];exact J4f xs
  ·simp only[SR,Q5a];exact⟨trivial,_,_,_,rfl⟩
 ·cases h
theorem J28 (hev:∀ x,SR P B pl tb (ev x) (evV x)) (hG:Gam P B F pl tb s env σ) {e:Nat}{a n:Operand}(h:gn C d (.ext (.unsafeStr e a n)) ev s K):NOk P B F tb (.ext (.unsafeStr e a n)) evV env σ K (gtouch d (.ext (.unsafeStr e a n)) ev) s pl:=by
 have ha:=hev a;simp only[gn] at h;split at h
 ·rename_i k h1 h2;have hn:=Q2k h2 (hev n);obtain⟨hk,hK⟩:=h;have hk:k=0:=hk;rw[h1] at ha;simp only[SR] at ha;refine⟨.string ⟨#[]⟩,σ,pl,_,_,?_,hK,⟨hG,fun q _=>⟨rfl,rfl,fun _ _ _=>rfl⟩⟩,J13 []⟩;simp only[vact,xact,ha,hn,hk,if_true]
 ·rename_i o k h1 h2;have hn:=Q2k h2 (hev n);have hT:gtouch d (.ext (.unsafeStr e a n)) ev=o:=by simp only[gtouch,h1]
  rw[hT];rw[h1] at ha;simp only[SR,DR] at ha;split at h
  ·rename_i ty xs nl ho;split at h
   ·rename_i hty;obtain⟨hk,hlen,hK⟩:=h;have hk:k=xs.length:=hk;have hlen:xs.length≤4611686018427387904:=hlen;have hob:=hG.obj o;rw[ho] at hob;have hdead:∀ {σ':Heap},F.Le σ'→(∀ j i,j≠o→(oget s.own j).live=true→Oid (pl j) i→σ'.get i=σ.get i)→Gam P B F (updP pl o poison) tb (s.make o .dead) env σ'∧Fr o s (s.make o .dead) pl (updP pl o poison) σ σ':=fun {σ'} h3 h4 =>
     hG.makeF o .dead poison h3 h4 trivial fun i hl=>by cases hl
    rcases hob with⟨_,hx,hp⟩|⟨_,i,cap,c,t,hp,hcap,hg,hcl,hrows⟩
    ·subst hx;refine⟨.string ⟨#[]⟩,σ,_,_,_,?_,hK,hdead hG.le (fun _ _ _ _ _=>rfl),J13 []⟩;rcases ha with⟨_,hv⟩|⟨b,n',cap',hv,hn',_⟩
     ·simp only[vact,xact,hv,hn,hk];rfl
     ·rw[hp] at hv;cases hv
    ·rcases ha with⟨hv,_⟩|⟨b,n',cap',hv,hn',hv2⟩
     ·rw[hp] at hv;cases hv
     ·rw[hp] at hv;have hv:=hv;simp only[phd,Value.slice.injEq,Option.some.injEq] at hv;obtain⟨hb,hnn,_⟩:=hv;have hib:i=b:=by injection hb
      subst hib;subst hnn;have hsz:Kind.size (.i .u8)=1:=rfl;rw[hsz,Nat.mul_one] at hrows hcl;have hvb:=J6k hrows;have hlive:(oget s.own o).live=true:=by rw[ho];rfl
      have hid:F.get i=none:=hG.fresh o i hlive (by rw[hp];rfl);refine⟨.string ⟨(xs.map fun x=>x.toNat.toUInt8).toArray⟩,σ.upd i (.cells c ⟨1,ty⟩ false t),_,_,_,?_,hK,hdead (hG.le.upd hid _) (fun j i' hj hl hi=>Heap.get_upd_ne _ _ fun e=>by
       subst e;exact hG.sep j o i' hj hl hlive hi (by rw[hp];rfl)),J13 _⟩
      have hk0:¬ k=0:=by omega
      have hkn:k.toNat=xs.length:=by omega
      simp only[vact,xact,hv2,hn,if_neg hk0,hg,hsz];rw[if_pos ⟨by omega,by omega,hty,by omega⟩];simp only[List.drop_zero,hkn,hvb]
   ·cases h
  ·cases h
 ·cases h
theorem X5x (hev:∀ x,SR P B pl tb (ev x) (evV x)) (hG:Gam P B F pl tb s env σ) {size:Nat}{a b:Operand}(h:gn C d (.ext (.copy size a b)) ev s K):NOk P B F tb (.ext (.copy size a b)) evV env σ K (gtouch d (.ext (.copy size a b)) ev) s pl:=by
 have ha:=hev a;simp only[gn] at h;split at h
 ·rename_i o h1;have hT:gtouch d (.ext (.copy size a b)) ev=o:=by simp only[gtouch,h1]
  rw[hT];rw[h1] at ha;simp only[SR] at ha;split at h
  ·rename_i ty k xs nl ho;split at h
   ·rename_i hsz;split at h
    ·rename_i ys hy;have hs:=Q6w hG.leB hG.obj hy (hev b);have hob:=hG.obj o;rw[ho] at hob;refine J1c hG ho (lo:=0) (n:=xs.length) hsz (by omega) ha.1 rfl hs ?_ ?_ h
     ·rcases hob with⟨_,rfl,h3⟩|⟨_,i,cap,c,t,h3,_⟩
      ·exact .inl ⟨rfl,0,.inl h3⟩
      ·exact .inr ⟨i,_,cap,cap,h3,by rw[h3];simp⟩
     ·have:xs.drop ys.length=xs.drop (0+Nat.min ys.length xs.length):=by
       rcases Nat.le_total ys.length xs.length with h|h
       ·rw[show Nat.min ys.length xs.length=ys.length from Nat.min_eq_left h,Nat.zero_add]
       ·rw[show Nat.min ys.length xs.length=xs.length from Nat.min_eq_right h,Nat.zero_add,List.drop_of_length_le h,List.drop_of_length_le (Nat.le_refl _)]
      rw[this];rfl
    ·cases h
   ·cases h
  ·cases h
 ·rename_i o lo n sz h1;have hT:gtouch d (.ext (.copy size a b)) ev=o:=by simp only[gtouch,h1]
  rw[hT];rw[h1] at ha;simp only[SR] at ha;split at h
  ·rename_i ty k xs nl ho;split at h
   ·rename_i hsz;split at h
    ·rename_i ys hy;have hs:=Q6w hG.leB hG.obj hy (hev b);have hob:=hG.obj o;rw[ho] at hob;rcases ha with⟨rfl,rfl,h2,h3⟩|⟨i,len,cap,cap',h2,h3,h4,h5⟩
     ·refine J1c hG ho (lo:=0) (n:=0) hsz.1 (by omega) h2 rfl hs (.inl ⟨rfl,0,.inl rfl⟩) rfl h
     ·rcases hob with⟨_,_,h6⟩|⟨_,i',cap1,c,t,h6,_⟩
      ·rw[h2] at h6;cases h6
      ·rw[h2] at h6;obtain⟨rfl,rfl,rfl⟩:=(by simpa using h6:i=i'∧len=xs.length∧cap=cap1);exact J1c hG ho (lo:=lo) (n:=n) hsz.1 h3 h5 rfl hs (.inr ⟨i,_,cap,cap',h2,by rw[hsz.2]⟩) rfl h
    ·cases h
   ·cases h
  ·cases h
 ·cases h
end
theorem X2j (hG:Gam P B F pl tb s env σ) (d:Nat) (kk vk:Kind):Gam P B F (updP pl d (.map (some σ.n))) tb (s.make d (.map kk vk [])) env (σ.push (.obj (.map [] 0) true))∧SR P B (updP pl d (.map (some σ.n))) tb (.map d) (.map (some σ.n)):=by refine⟨hG.push d _ _ _ rfl ⟨σ.n,[],0,rfl,Heap.get_push_self _ _,rfl,List.nodup_nil,fun _ h=>by cases h⟩,?_⟩;simp only[SR,Q5a];exact⟨trivial,_,rfl⟩
end
end Go.V
namespace Go.V
open Go
def Loose (ρ1 ρ2:Plc):Prop:=∀ i p2,ρ2 i=some p2→∃ p1,ρ1 i=some p1∧p2.blk=p1.blk∧p2.shift=p1.shift∧p2.ext=p1.ext∧p2.esz=p1.esz∧(p2.tight=true→p1.tight=true)
theorem VRel.loose {ρ1 ρ2:Plc}{n:Nat}(hl:Loose ρ1 ρ2) {v c:Value}(h:VRel ρ1 n v c):VRel ρ2 n v c:=by
 induction h with
 |poison c=>exact .poison c
 |bool b=>exact .bool b
 |int k x=>exact .int k x
 |string s=>exact .string s
 |nilPtr=>exact .nilPtr
 |nilSl=>exact .nilSl
 |nilMap=>exact .nilMap
 |nilFunc=>exact .nilFunc
 |nilIface=>exact .nilIface
 |glob g o s=>exact .glob g o s
 |ptr i o a hi h =>refine .ptr i o a hi fun p hp=>?_;obtain⟨p1,h1,h2,h3,_⟩:=hl i p hp;rw[h2,h3];exact h p1 h1
 |sl i o len cap a cap' hi h =>refine .sl i o len cap a cap' hi fun p hp=>?_;obtain⟨p1,h1,h2,h3,h4,h5,h6⟩:=hl i p hp;obtain⟨k1,k2,k3⟩:=h p1 h1;rw[h2,h3,h4,h5];exact⟨k1,fun ht=>k2 (h6 ht),k3⟩
 |map i r hi h =>refine .map i r hi fun p hp=>?_;obtain⟨p1,h1,h2,_⟩:=hl i p hp;rw[h2];exact h p1 h1
 |yield i r hi h =>refine .yield i r hi fun p hp=>?_;obtain⟨p1,h1,h2,_⟩:=hl i p hp;rw[h2];exact h p1 h1
 |iface t v c _ ih=>exact .iface t v c ih
 |func fn fs gs cs ds hf hc _ _ ih1 ih2=>exact .func fn fs gs cs ds hf hc ih1 ih2
 |agg cs ds hc _ ih=>exact .agg cs ds hc ih
 |tuple cs ds hc _ ih=>exact .tuple cs ds hc ih
theorem LRel.loose {ρ1 ρ2:Plc}{n:Nat}(hl:Loose ρ1 ρ2) {v c:List Value}(h:LRel ρ1 n v c):LRel ρ2 n v c:=⟨h.1,fun i a b h1 h2=>(h.2 i a b h1 h2).loose hl⟩
theorem ORel.loose {ρ1 ρ2:Plc}{n:Nat}(hl:Loose ρ1 ρ2) {o:VObj}{O:Obj}(h:ORel ρ1 n o O):ORel ρ2 n o O:=by
 cases o with
 |map es clock =>obtain⟨entries,h1,h2,h3⟩:=h;exact⟨entries,h1,h2,fun k kv hk=>let ⟨e,he,h4,h5,hv⟩:=h3 k kv hk;⟨e,he,h4,h5,hv.loose hl⟩⟩
 |iter m since seen last=>obtain⟨rm,h1,h2⟩:=h;exact⟨rm,h1,h2.loose hl⟩
 |lp env r st pend=>exact⟨h.1,h.2.loose hl⟩
inductive Weak (n0:Nat→Prop):Value→Value→Prop
 |refl (v:Value):Weak n0 v v
 |sl (i len cap:Nat) (hi:n0 i) (hc:len≤cap):Weak n0 (.slice (some ⟨i,0,none⟩) len cap) (.slice (some ⟨i,0,none⟩) len len)
 |agg (cs ds:List Value) (hc:cs.length=ds.length) (h:∀ (i:Nat) (a b:Value),cs[i]?=some a→ds[i]?=some b→Weak n0 a b):Weak n0 (.agg cs.toArray) (.agg ds.toArray)
 |tuple (cs ds:List Value) (hc:cs.length=ds.length) (h:∀ (i:Nat) (a b:Value),cs[i]?=some a→ds[i]?=some b→Weak n0 a b):Weak n0 (.tuple cs.toArray) (.tuple ds.toArray)
theorem Weak.rel {ρ:Plc}{n:Nat}{n0:Nat→Prop}(hρ:∀ i p,n0 i→ρ i=some p→p.tight=false) {v v':Value}(h:Weak n0 v v'):∀ {c:Value},VRel ρ n v c→VRel ρ n v' c:=by
 induction h with
 |refl v=>exact fun h=>h
 |sl i len cap hi hc =>
  intro c h;cases h with
  |sl _ _ _ _ a cap' hi' h =>
   refine .sl _ _ _ _ _ _ hi' fun p hp=>?_;obtain⟨k1,k2,o',k3,k4,k5⟩:=h p hp;refine⟨by omega,(fun ht=>by rw[hρ i p hi hp] at ht;cases ht),o',k3,k4,?_⟩;rcases k5 with k5|k5
   ·exact .inl k5
   ·exact .inr ⟨k5.1,k5.1⟩
 |agg cs ds hc h ih =>
  intro c hr;cases hr with
  |agg _ es hc' hr =>
   refine .agg _ _ (by simpa [hc] using hc') fun i h1 h2=>?_;have l1:i<cs.length:=by simpa [hc] using h1
   have l2:i<ds.length:=by simpa using h1
   have:=ih i cs[i] ds[i] (List.getElem?_eq_getElem l1) (List.getElem?_eq_getElem l2) (hr i (by simpa using l1) h2);simpa using this
 |tuple cs ds hc h ih =>
  intro c hr;cases hr with
  |tuple _ es hc' hr =>
   refine .tuple _ _ (by simpa [hc] using hc') fun i h1 h2=>?_;have l1:i<cs.length:=by simpa [hc] using h1
   have l2:i<ds.length:=by simpa using h1
   have:=ih i cs[i] ds[i] (List.getElem?_eq_getElem l1) (List.getElem?_eq_getElem l2) (hr i (by simpa using l1) h2);simpa using this
theorem DropTo.trans {σ0 σ1 σ2 σ3:Heap}{v1 v2 v3:Value}(h:DropTo σ0 v1 σ1 v2 σ2) (k:DropTo σ0 v2 σ2 v3 σ3):DropTo σ0 v1 σ1 v3 σ3:=by intro ρ0 w0 ρ w c hH0 hE hH hv;obtain⟨ρ',hv',hH',hE'⟩:=h ρ0 w0 ρ w c hH0 hE hH hv;exact k ρ0 w0 ρ' w c hH0 hE' hH' hv'
theorem DropTo.weaken {σ0 σ1 σ2:Heap}{v v':Value}(S:Nat→Bool) (hS:∀ i,S i=true→σ0.n≤i) (hn:σ2.n=σ1.n) (h0:σ0.n≤σ1.n) (h1:∀ i,S i=false→σ2.get i=σ1.get i)
  (h2:∀ i,S i=true→∃ c e wr t m,σ1.get i=some (.cells c e wr t)∧σ2.get i=some (.cells (c.take m) e wr false)) (hv:Weak (fun i=>S i=true) v v'):DropTo σ0 v σ1 v' σ2:=by
 intro ρ0 w0 ρ w c hH0 hE hH hvc;let ρ':Plc:=fun i=>if S i=false then ρ i else (ρ i).map fun p=>{p with tight:=false}
 have hl:Loose ρ ρ':=fun i p2 hp=>by
  change (if S i=false then ρ i else (ρ i).map fun p=>{p with tight:=false})=some p2 at hp;by_cases hi:S i=false
  ·rw[if_pos hi] at hp;exact⟨p2,hp,rfl,rfl,rfl,rfl,fun h=>h⟩
  ·rw[if_neg hi,Option.map_eq_some_iff] at hp;obtain⟨p1,hp1,rfl⟩:=hp;exact⟨p1,hp1,rfl,rfl,rfl,rfl,fun h=>by cases h⟩
 have hback:∀ i p2,ρ' i=some p2→∃ p1,ρ i=some p1∧p2.blk=p1.blk∧p2.ext=p1.ext:=fun i p2 hp=>by obtain⟨p1,k1,k2,k3,k4,_⟩:=hl i p2 hp;exact⟨p1,k1,k2,k4⟩
 have hwr:∀ i b,σ2.get i=some b→∃ b1,σ1.get i=some b1∧b.wr=b1.wr:=fun i b hb=>by
  by_cases hi:S i=false
  ·rw[h1 i hi] at hb;exact⟨b,hb,rfl⟩
  ·obtain⟨c,e,wr,t,m,k1,k2⟩:=h2 i (by simpa using hi);rw[k2] at hb;obtain rfl:=osj hb;exact⟨_,k1,rfl⟩
 have hX:Ext ρ0 σ0 w0 ρ' σ2 w:=by
  refine⟨hE.os,hE.tape,hE.output,hE.size,hE.keep,?_,by omega,fun i hi p hp=>?_⟩
  ·rintro B hB ⟨i,p,b,hp,hb,hw,rfl⟩;obtain⟨p1,k1,k2,_⟩:=hback i p hp;obtain⟨b1,k7,k8⟩:=hwr i b hb;exact hE.wr _ hB ⟨i,p1,b1,k1,k7,by rw[←k8];exact hw,k2.symm⟩
  ·have:S i=false:=by
    cases hs:S i with
    |false=>rfl
    |true=>have:=hS i hs;omega
   simp only[ρ',this,if_true] at hp;exact hE.pl i hi p hp
 refine⟨ρ',?_,hH0.ext ⟨fun i b hb=>?_,fun i hi=>?_,fun i p hp=>?_,fun i j p q b hij hp hq hb hw hx=>?_⟩ hX,hX⟩
 ·rw[hn];refine hv.rel (fun i p hi hp=>?_) (hvc.loose hl);have:¬ S i=false:=by simp[hi]
  change (if S i=false then ρ i else (ρ i).map fun p=>{p with tight:=false})=some p at hp;rw[if_neg this,Option.map_eq_some_iff] at hp;obtain⟨p1,_,rfl⟩:=hp;rfl
 ·by_cases hi:S i=false
  ·rw[h1 i hi] at hb;obtain⟨p,hp,hB⟩:=hH.live i b hb;refine⟨p,by simp only[ρ',hi,if_true];exact hp,?_⟩;rw[hn];cases b with
   |cells c e wr t =>obtain⟨k1,k2,k3,k4,k5,k6⟩:=hB;exact⟨k1,k2,k3,k4,fun k v hk=>let ⟨u,a1,a2⟩:=k5 k v hk;⟨u,a1,a2.loose hl⟩,k6⟩
   |obj o wr =>obtain⟨k1,O,k2,k3⟩:=hB;exact⟨k1,O,k2,k3.loose hl⟩
  ·obtain⟨c,e,wr,t,m,k1,k2⟩:=h2 i (by simpa using hi);rw[k2] at hb;obtain rfl:=osj hb;obtain⟨p,hp,hB⟩:=hH.live i _ k1;obtain⟨a1,a2,a3,a4,a5,a6⟩:=hB;refine⟨{p with tight:=false},by simp[ρ',hi,hp],a1,rfl,by simp;omega,a4,fun k v hk=>?_,fun hwr=>⟨(fun h=>by cases h),(a6 hwr).2⟩⟩;rw[List.getElem?_take] at hk;split at hk
   ·obtain⟨u,b1,b2⟩:=a5 k v hk;rw[hn];exact⟨u,b1,b2.loose hl⟩
   ·cases hk
 ·have hd:σ1.get i=none:=by
   by_cases hi':S i=false
   ·rw[←h1 i hi'];exact hi
   ·obtain⟨c,e,wr,t,m,k1,k2⟩:=h2 i (by simpa using hi');rw[k2] at hi;cases hi
  have:=hH.dead i hd;simp only[ρ',this];split<;>rfl
 ·obtain⟨p1,k1,k2,_⟩:=hback i p hp;rw[k2];exact hH.lt i p1 k1
 ·obtain⟨p1,k1,k2,k3⟩:=hback i p hp;obtain⟨q1,k4,k5,k6⟩:=hback j q hq;obtain⟨b1,k7,k8⟩:=hwr i b hb;rw[k2,k5];exact hH.sep i j p1 q1 b1 hij k1 k4 k7 (by rw[←k8];exact hw) (by rw[←k6];exact hx)
end Go.V
namespace Go.V
open Go
def mkP (σ:Heap) (v:Value) (is:List Nat):Value:=.tuple (v::is.map fun i=>match σ.get i with|some b=>encB i b|none=>.bool true).toArray
theorem KO.imp {H H':Heap}:∀ {k:Kind}{q:Option Nat}{x:k.T}{cs:List Value}{is:List Nat},KO H q k x cs is→(∀ i∈is,H'.get i=H.get i)→KO H' q k x cs is
 |.i _,_,_,_,_,h,_|.bo,_,_,_,_,h,_|.st,_,_,_,_,h,_=>by simp only[KO] at h ⊢;exact h
 |.list k,q,l,cs,is,h,g=>by
  simp only[KO] at h ⊢;rcases h with h|⟨i,cap,c,e,t,js,h1,rfl,h3,h4,h5,h6,h7,h8⟩
  ·exact .inl h
  ·refine .inr ⟨i,cap,c,e,t,js,h1,rfl,h3,by rw[g i List.mem_cons_self];exact h4,h5,h6,h7,?_⟩;have key:∀ {xs:List k.T}{cs:List Value}{js:List Nat},RowsO (fun x c is=>KO H none k x c is) xs cs js→(∀ i∈js,H'.get i=H.get i)→RowsO (fun x c is=>KO H' none k x c is) xs cs js:=fun h=>by
    induction h with
    |nil=>exact fun _=>.nil
    |cons h _ ih=>exact fun g=>.cons (KO.imp (k:=k) h fun i hi=>g i (List.mem_append_left _ hi)) (ih fun i hi=>g i (List.mem_append_right _ hi))
   exact key h8 fun i hi=>g i (List.mem_cons_of_mem _ hi)
 |.pair a b,_,x,cs,is,h,g=>by simp only[KO] at h ⊢;obtain⟨c1,c2,i1,i2,h1,rfl,h3,h4⟩:=h;exact⟨c1,c2,i1,i2,h1,rfl,h3.imp fun i hi=>g i (List.mem_append_left _ hi),h4.imp fun i hi=>g i (List.mem_append_right _ hi)⟩
theorem KO.cells {H:Heap}:∀ {k:Kind}{q:Option Nat}{x:k.T}{cs:List Value}{is:List Nat},KO H q k x cs is→∀ i∈is,∃ c e t,H.get i=some (.cells c e true t)
 |.i _,_,_,_,_,h,i,hi|.bo,_,_,_,_,h,i,hi|.st,_,_,_,_,h,i,hi=>by simp only[KO] at h;rw[h.2] at hi;cases hi
 |.list k,q,l,cs,is,h,i,hi=>by
  simp only[KO] at h;rcases h with⟨_,_,rfl⟩|⟨i',cap,c,e,t,js,h1,rfl,h3,h4,h5,h6,h7,h8⟩
  ·cases hi
  ·rcases List.mem_cons.1 hi with rfl|hi
   ·exact⟨_,_,_,h4⟩
   ·have key:∀ {xs:List k.T}{cs:List Value}{js:List Nat},RowsO (fun x c is=>KO H none k x c is) xs cs js→∀ i∈js,∃ c e t,H.get i=some (.cells c e true t):=fun h=>by
     induction h with
     |nil=>exact fun i hi=>by cases hi
     |cons h _ ih=>exact fun i hi=>(List.mem_append.1 hi).elim (KO.cells (k:=k) h i) (ih i)
    exact key h8 i hi
 |.pair a b,_,x,cs,is,h,i,hi=>by simp only[KO] at h;obtain⟨c1,c2,i1,i2,h1,rfl,h3,h4⟩:=h;exact(List.mem_append.1 hi).elim (h3.cells i) (h4.cells i)
theorem KO.weak {H:Heap}:∀ {k:Kind}{q:Option Nat}{x:k.T}{cs:List Value}{is:List Nat},KO H q k x cs is→KO H none k x cs is
 |.i _,_,_,_,_,h|.bo,_,_,_,_,h|.st,_,_,_,_,h=>by simp only[KO] at h ⊢;exact h
 |.list k,q,l,cs,is,h=>by
  simp only[KO] at h ⊢;rcases h with h|⟨i,cap,c,e,t,js,h1,h2,h3,h4,h5,h6,h7,h8⟩
  ·exact .inl h
  ·exact .inr ⟨i,cap,c,e,t,js,h1,h2,h3,h4,h5,(fun _ e=>by cases e),h7,h8⟩
 |.pair a b,_,x,cs,is,h=>by simp only[KO] at h ⊢;exact h
theorem KO.rows_len {H:Heap}{q:Option Nat}{k:Kind}:∀ (x:k.T) (c:List Value) (is:List Nat),KO H q k x c is→c.length=k.size:=fun _ _ _ h=>KC.length h.kc
section
variable {α:Type}{R R':α→List Value→List Nat→Prop}{sz:Nat}
theorem RowsH.imp:∀ {xs:List α}{h:Option Nat}{j:Nat}{cs:List Value}{is:List Nat},RowsH R sz h j xs cs is→(∀ x c js,R x c js→(∀ i∈js,i∈is)→R' x c js)→RowsH R' sz h j xs cs is
 |[],_,_,_,_,h,_=>h
 |x::xs,hh,j,cs,is,h,g=>by
  obtain⟨c,cs',i1,i2,rfl,rfl,h1,h2⟩:=h;refine⟨c,cs',i1,i2,rfl,rfl,?_,h2.imp fun x c js hr hj=>g x c js hr fun i hi=>List.mem_append_right _ (hj i hi)⟩;by_cases e:hh=some j
  ·rw[if_pos e] at h1 ⊢;exact h1
  ·rw[if_neg e] at h1 ⊢;exact g _ _ _ h1 fun i hi=>List.mem_append_left _ hi
theorem RowsH.hole:∀ {xs:List α}{h h':Option Nat}{j j':Nat}{cs:List Value}{is:List Nat},RowsH R sz h j xs cs is→(∀ m,h=some (j+m)↔h'=some (j'+m))→RowsH R sz h' j' xs cs is
 |[],_,_,_,_,_,_,h,_=>h
 |x::xs,h,h',j,j',cs,is,hr,g=>by
  obtain⟨c,cs',i1,i2,rfl,rfl,h1,h2⟩:=hr;refine⟨c,cs',i1,i2,rfl,rfl,?_,h2.hole fun m=>?_⟩
  ·have:=g 0;simp only[Nat.add_zero] at this;by_cases e:h=some j
   ·rw[if_pos e] at h1;rw[if_pos (this.1 e)];exact h1
   ·rw[if_neg e] at h1;rw[if_neg fun e'=>e (this.2 e')];exact h1
  ·have:=g (1+m);rw[←Nat.add_assoc,←Nat.add_assoc] at this;exact this
theorem RowsH.length (hR:∀ x c is,R x c is→c.length=sz):∀ {xs:List α}{h:Option Nat}{j:Nat}{cs:List Value}{is:List Nat},RowsH R sz h j xs cs is→cs.length=xs.length*sz
 |[],_,_,_,_,h=>by rw[h.1];simp
 |x::xs,_,j,cs,is,h=>by
  obtain⟨c,cs',i1,i2,rfl,rfl,h1,h2⟩:=h;have hc:c.length=sz:=by
   split at h1
   ·exact h1.1
   ·exact hR _ _ _ h1
  rw[List.length_append,hc,h2.length hR,List.length_cons,Nat.add_mul,Nat.one_mul,Nat.add_comm]
theorem RowsH.append:∀ {xs ys:List α}{j j':Nat}{cs ds:List Value}{is js:List Nat},RowsH R sz none j xs cs is→RowsH R sz none j' ys ds js→RowsH R sz none j (xs++ys) (cs++ds) (is++js)
 |[],ys,j,j',cs,ds,is,js,h,h'=>by obtain⟨rfl,rfl⟩:=h;exact h'.hole fun m=>by simp
 |x::xs,ys,j,j',cs,ds,is,js,h,h'=>by obtain⟨c,cs',i1,i2,rfl,rfl,h1,h2⟩:=h;exact⟨c,cs'++ds,i1,i2++js,by rw[List.append_assoc],by rw[List.append_assoc],h1,h2.append h'⟩
theorem RowsH.replicate {x:α}{c:List Value}(h:R x c []):∀ (n j:Nat),RowsH R sz none j (List.replicate n x) (List.replicate n c).flatten []
 |0,_=>⟨rfl,rfl⟩
 |n+1,j=>⟨c,_,[],[],rfl,rfl,by rw[if_neg (by simp)];exact h,RowsH.replicate h n (j+1)⟩
theorem RowsH.take (hR:∀ x c is,R x c is→c.length=sz):∀ {xs:List α}{j:Nat}{cs:List Value},RowsH R sz none j xs cs []→∀ n,RowsH R sz none j (xs.take n) (cs.take (n*sz)) []
 |[],j,cs,h,n=>by obtain⟨rfl,_⟩:=h;simp[RowsH]
 |x::xs,j,cs,h,0=>by simp[RowsH]
 |x::xs,j,cs,h,n+1=>by
  obtain⟨c,cs',i1,i2,rfl,e,h1,h2⟩:=h;obtain⟨rfl,rfl⟩:=List.append_eq_nil_iff.1 e.symm;have hc:c.length=sz:=by rw[if_neg (by simp)] at h1;exact hR _ _ _ h1
  refine⟨c,cs'.take (n*sz),[],[],?_,rfl,h1,h2.take hR n⟩;rw[Nat.add_mul,Nat.one_mul,Nat.add_comm,List.take_append,hc,List.take_of_length_le (by omega),Nat.add_sub_cancel_left]
theorem RowsH.set (hR:∀ x c is,R x c is→c.length=sz):∀ {xs:List α}{h h':Option Nat}{j i:Nat}{cs:List Value}{is:List Nat}{x:α}{c':List Value}{inew:List Nat},
  RowsH R sz h j xs cs is→(hi:i<xs.length)→(∀ m,m≠i→(h=some (j+m)↔h'=some (j+m)))→c'.length=sz→(if h'=some (j+i) then inew=[] else R x c' inew) →
  ∃ is1 ix is2,is=is1++ix++is2∧RowsH R sz h' j (xs.set i x) (cs.take (i*sz)++c'++cs.drop (i*sz+sz)) (is1++inew++is2)∧(if h=some (j+i) then ix=[] else R xs[i] ((cs.drop (i*sz)).take sz) ix)
 |[],_,_,_,_,_,_,_,_,_,_,hi,_,_,_=>by simp at hi
 |y::ys,h,h',j,0,cs,is,x,c',inew,hr,hi,g,hl,hn=>by
  obtain⟨c,cs',i1,i2,rfl,rfl,h1,h2⟩:=hr;have hc:c.length=sz:=by
   split at h1
   ·exact h1.1
   ·exact hR _ _ _ h1
  have ht:RowsH R sz h' (j+1) ys cs' i2:=h2.hole fun m=>by have:=g (m+1) (by omega);rw[show j+1+m=j+(m+1) by omega];exact this
  refine⟨[],i1,i2,rfl,?_,?_⟩
  ·rw[List.set_cons_zero];refine⟨c',cs',inew,i2,?_,rfl,?_,ht⟩
   ·rw[Nat.zero_mul,List.take_zero,List.nil_append,Nat.zero_add,List.drop_append,hc,Nat.sub_self,List.drop_zero,List.drop_of_length_le (by omega),List.nil_append]
   ·rw[Nat.add_zero] at hn;split
    ·rename_i e;rw[if_pos e] at hn;exact⟨hl,hn⟩
    ·rename_i e;rw[if_neg e] at hn;exact hn
  ·rw[Nat.add_zero];split
   ·rename_i e;rw[if_pos e] at h1;exact h1.2
   ·rename_i e;rw[if_neg e] at h1;rw[Nat.zero_mul,List.drop_zero,List.take_append,hc,Nat.sub_self,List.take_zero,List.append_nil,List.take_of_length_le (by omega)];exact h1
 |y::ys,h,h',j,i+1,cs,is,x,c',inew,hr,hi,g,hl,hn=>by
  obtain⟨c,cs',i1,i2,rfl,rfl,h1,h2⟩:=hr;have hc:c.length=sz:=by
   split at h1
   ·exact h1.1
   ·exact hR _ _ _ h1
  obtain⟨is1,ix,is2,rfl,k1,k2⟩:=RowsH.set hR h2 (i:=i) (h':=h') (x:=x) (c':=c') (inew:=inew) (by simpa using hi) (fun m hm=>by
   have:=g (m+1) (by omega);rw[show j+1+m=j+(m+1) by omega];exact this) hl (by rw[show j+1+i=j+(i+1) by omega];exact hn)
  have e0:(i+1)*sz=sz+i*sz:=by rw[Nat.add_mul,Nat.one_mul,Nat.add_comm]
  refine⟨i1++is1,ix,is2,by simp[List.append_assoc],?_,?_⟩
  ·rw[List.set_cons_succ];refine⟨c,_,i1,is1++inew++is2,?_,by simp[List.append_assoc],?_,k1⟩
   ·have e1:(c++cs').take ((i+1)*sz)=c++cs'.take (i*sz):=by
     rw[e0,List.take_append,hc,List.take_of_length_le (by omega),Nat.add_sub_cancel_left]
    have e2:(c++cs').drop ((i+1)*sz+sz)=cs'.drop (i*sz+sz):=by rw[e0,List.drop_append,hc,List.drop_of_length_le (by omega),List.nil_append];congr 1;omega
    rw[e1,e2];simp[List.append_assoc]
   ·have:=g 0 (by omega);rw[Nat.add_zero] at this;by_cases e:h=some j
    ·rw[if_pos e] at h1;rw[if_pos (this.1 e)];exact h1
    ·rw[if_neg e] at h1;rw[if_neg fun e'=>e (this.2 e')];exact h1
  ·rw[show j+(i+1)=j+1+i by omega];have e3:(c++cs').drop ((i+1)*sz)=cs'.drop (i*sz):=by
    rw[e0,List.drop_append,hc,List.drop_of_length_le (by omega),List.nil_append];congr 1;omega
   rw[e3];exact k2
end
theorem DO.imp {H H':Heap}{ty:Nat}{q:Option Nat}{k:Kind}{xs:List k.T}{h:Option Nat}{v:Value}{is:List Nat}(hd:DO H ty q k xs h v is) (g:∀ i∈is,H'.get i=H.get i):DO H' ty q k xs h v is:=by
 rcases hd with hd|⟨i,cap,c,t,js,h1,rfl,h3,h4,h5,h6⟩
 ·exact .inl hd
 ·exact .inr ⟨i,cap,c,t,js,h1,rfl,h3,by rw[g i List.mem_cons_self];exact h4,h5,h6.imp fun x c js' hr hj=>KO.imp hr fun i hi=>g i (List.mem_cons_of_mem _ (hj i hi))⟩
theorem RowsH.cells {H:Heap}{q:Option Nat}{k:Kind}{sz:Nat}:∀ {xs:List k.T}{h:Option Nat}{j:Nat}{cs:List Value}{is:List Nat},RowsH (KO H q k) sz h j xs cs is→∀ i∈is,∃ c e t,H.get i=some (.cells c e true t)
 |[],_,_,_,_,h,i,hi=>by rw[h.2] at hi;cases hi
 |x::xs,_,j,cs,is,h,i,hi=>by
  obtain⟨c,cs',i1,i2,rfl,rfl,h1,h2⟩:=h;rcases List.mem_append.1 hi with hi|hi
  ·split at h1
   ·rw[h1.2] at hi;cases hi
   ·exact KO.cells h1 i hi
  ·exact h2.cells i hi
theorem DO.cells {H:Heap}{ty:Nat}{q:Option Nat}{k:Kind}{xs:List k.T}{h:Option Nat}{v:Value}{is:List Nat}(hd:DO H ty q k xs h v is):∀ i∈is,∃ c e t,H.get i=some (.cells c e true t):=by
 rcases hd with⟨_,_,rfl⟩|⟨i,cap,c,t,js,h1,rfl,h3,h4,h5,h6⟩
 ·exact fun i hi=>by cases hi
 ·exact fun j hj=>(List.mem_cons.1 hj).elim (fun e=>by subst e;exact⟨_,_,_,h4⟩) (h6.cells j)
theorem DP.open {σ:Heap}{p:Value}{ty:Nat}{q:Option Nat}{k:Kind}{xs:List k.T}{nl:Bool}{h:Option Nat}(hd:DP σ p ty q k xs nl h) :
  ∃ is,is.Nodup∧DO σ ty q k xs h (phd p) is∧(∀ i,Oid p i↔i∈is)∧(nl=true↔phd p=.slice none 0 0):=by
 obtain⟨is,hO,h1,h2,h3,h4,h5⟩:=hd;refine⟨is,h1,h2.imp fun i hi=>?_,fun i=>(hO i).trans (h3 i),h5⟩;obtain⟨b,hb⟩:=(h3 i).2 hi;rw[hb,h4 i b hb]
end Go.V
namespace Go.V
open Go
section
variable {P:Program}{B F:Heap}{pl:Nat→Value}{tb:Nat→Option Bool}{s:St}{env:Env}{σ σ':Heap}
theorem KO.nil {H:Heap}{q:Option Nat}{k:Kind}:KO H q (.list k) [] [.slice none 0 0] []:=by unfold KO;exact .inl ⟨rfl,rfl,rfl⟩
def FrL (Ts:List Nat) (s s':St) (pl pl':Nat→Value) (σ σ':Heap):Prop :=
 ∀ q,q∉Ts→(oget s'.own q).live=(oget s.own q).live∧pl' q=pl q∧((oget s.own q).live=true→∀ i,Oid (pl q) i→σ'.get i=σ.get i)
theorem FrL.mono {Ts Ts':List Nat}{s s':St}{pl pl':Nat→Value}{σ σ':Heap}(h:FrL Ts s s' pl pl' σ σ') (hs:∀ t∈Ts,t∈Ts'):FrL Ts' s s' pl pl' σ σ':=fun q hq=>h q fun h=>hq (hs q h)
def DeepOk (P:Program) (B F:Heap) (tb:Nat→Option Bool) (o:VOp) (evV:Operand→Value) (env:Env) (σ:Heap) (K:SV→St→Prop) (Ts:List Nat) (s:St) (pl:Nat→Value):Prop :=
 ∃ u σ' pl' v s',vact o evV σ=some (u,σ')∧K v s'∧(Gam P B F pl' tb s' env σ'∧FrL Ts s s' pl pl' σ σ')∧SR P B pl' tb v u
section
variable {C:Cx}{d:Nat}{ev:Operand→SV}{evV:Operand→Value}{K:SV→St→Prop}
theorem DO.sl {ty:Nat}{q:Option Nat}{k:Kind}{xs:List k.T}{v:Value}{is:List Nat}(hd:DO σ ty q k xs none v is) (hn:is.Nodup) :
  ∃ a cap cs js,v=.slice a xs.length cap∧σ.sl k.size v=some cs∧RowsH (KO σ q k) k.size none 0 xs cs js∧(∀ i∈js,i∈is)∧js.Nodup∧cs.all cellOk=true∧cs.length=xs.length*k.size:=by
 rcases hd with⟨rfl,rfl,rfl⟩|⟨i,cap,c,t,js,rfl,rfl,h1,h3,h4,h5⟩
 ·exact⟨_,_,[],[],rfl,rfl,⟨rfl,rfl⟩,fun i hi=>hi,List.nodup_nil,rfl,by simp⟩
 ·have hl:=h5.length KO.rows_len;refine⟨_,_,c.take (xs.length*k.size),js,rfl,?_,h5,fun i hi=>List.mem_cons_of_mem _ hi,(List.nodup_cons.1 hn).2,(h5.rows (R':=KC σ k) fun _ _ _ h=>h.kc).cellOk,hl⟩;have:=Nat.mul_le_mul_right k.size h1;simp only[Heap.sl,h3];rw[if_pos ⟨trivial,by omega⟩];simp
theorem J2g (hev:∀ x,SR P B pl tb (ev x) (evV x)) (hG:Gam P B F pl tb s env σ) {o:VOp}(h:gnd C d o ev s K):DeepOk P B F tb o evV env σ K (dtouch d o ev) s pl:=h.elim
end
end
end Go.V
namespace Go.V
open Go
def noPl:Nat→Value:=fun _=>poison
def noTb:Nat→Option Bool:=fun _=>none
def hNil:Heap:=⟨fun _=>none,0,fun _ _=>rfl⟩
theorem J9i (B:Heap):hNil.Le B:=⟨Nat.zero_le _,fun i b h=>by cases h⟩
section
variable {P:Program}
mutual
theorem SR.retd {B B':Heap}{pl pl':Nat→Value}{tb tb':Nat→Option Bool}{n:Nat}(hp:∀ j,j<n→pl' j=pl j) :
  ∀ (s:SV) (v:Value),s.ret n=true→SR P B pl tb s v→SR P B' pl' tb' s v
 |.any,_,h,_|.bid _ _,_,h,_|.grd _ _,_,h,_|.sub _ _ _ _,_,h,_|.elp _ _ _ _,_,h,_|.rop _ _ _ _,_,h,_|.cp _ _,_,h,_|.fn _ _ _,_,h,_|.pf _ _ _ _,_,h,_=>by cases h
 |.val k x,v,h,hs=>by simp only[SR] at hs ⊢;exact KC.flat h hs
 |.nilS,v,_,hs|.nilP,v,_,hs|.nilM,v,_,hs|.nilF,v,_,hs=>by simp only[SR] at hs ⊢;exact hs
 |.lst j,v,h,hs=>by
  have hj:j<n:=by simpa [SV.ret,Nat.blt_eq] using h
  simp only[SR] at hs ⊢;rw[hp j hj];exact hs
 |.map j,v,h,hs=>by
  have hj:j<n:=by simpa [SV.ret,Nat.blt_eq] using h
  simp only[SR] at hs ⊢;rw[hp j hj];exact hs
 |.dd j w,v,h,hs=>by
  cases w with
  |out =>
   have hj:j<n:=by simpa [SV.ret,Nat.blt_eq] using h
   simp only[SR] at hs ⊢;rw[hp j hj];exact hs
  |_=>cases h
 |.box j off,v,h,hs=>by
  have hj:j<n:=by simpa [SV.ret,Nat.blt_eq] using h
  simp only[SR] at hs ⊢;rw[hp j hj];exact hs
 |.agg l,v,h,hs=>by simp only[SR] at hs ⊢;obtain⟨cs,h1,h2⟩:=hs;exact⟨cs,h1,SRs.retd hp l cs h h2⟩
 |.tup l,v,h,hs=>by simp only[SR] at hs ⊢;obtain⟨cs,h1,h2⟩:=hs;exact⟨cs,h1,SRs.retd hp l cs h h2⟩
theorem SRs.retd {B B':Heap}{pl pl':Nat→Value}{tb tb':Nat→Option Bool}{n:Nat}(hp:∀ j,j<n→pl' j=pl j) :
  ∀ (s:List SV) (v:List Value),SVs.ret n s=true→SRs P B pl tb s v→SRs P B' pl' tb' s v
 |[],v,_,hs=>by simp only[SRs] at hs ⊢;exact hs
 |s::ss,v,h,hs=>by simp only[SVs.ret,Bool.and_eq_true] at h;simp only[SRs] at hs ⊢;obtain⟨x,y,h1,h2,h3⟩:=hs;exact⟨x,y,h1,SR.retd hp s x h.1 h2,SRs.retd hp ss y h.2 h3⟩
end
mutual
theorem SR.ren {B:Heap}{pl pl':Nat→Value}{tb tb':Nat→Option Bool}{n d nt:Nat}(hp:∀ j,j<n→pl' (d+j*nt)=pl j) :
  ∀ (s:SV) (v:Value),s.ret n=true→SR P B pl tb s v→SR P B pl' tb' (s.ren d nt) v
 |.any,_,h,_|.bid _ _,_,h,_|.grd _ _,_,h,_|.sub _ _ _ _,_,h,_|.elp _ _ _ _,_,h,_|.rop _ _ _ _,_,h,_|.cp _ _,_,h,_|.fn _ _ _,_,h,_|.pf _ _ _ _,_,h,_=>by cases h
 |.val k x,v,h,hs=>by simp only[SR,SV.ren] at hs ⊢;exact hs
 |.nilS,v,_,hs|.nilP,v,_,hs|.nilM,v,_,hs|.nilF,v,_,hs=>by simp only[SR,SV.ren] at hs ⊢;exact hs
 |.lst j,v,h,hs=>by
  have hj:j<n:=by simpa [SV.ret,Nat.blt_eq] using h
  simp only[SR,SV.ren] at hs ⊢;rw[hp j hj];exact hs
 |.map j,v,h,hs=>by
  have hj:j<n:=by simpa [SV.ret,Nat.blt_eq] using h
  simp only[SR,SV.ren] at hs ⊢;rw[hp j hj];exact hs
 |.dd j w,v,h,hs=>by
  cases w with
  |out =>
   have hj:j<n:=by simpa [SV.ret,Nat.blt_eq] using h
   simp only[SR,SV.ren] at hs ⊢;rw[hp j hj];exact hs
  |_=>cases h
 |.box j off,v,h,hs=>by
  have hj:j<n:=by simpa [SV.ret,Nat.blt_eq] using h
  simp only[SR,SV.ren] at hs ⊢;rw[hp j hj];exact hs
 |.agg l,v,h,hs=>by simp only[SR,SV.ren] at hs ⊢;obtain⟨cs,h1,h2⟩:=hs;exact⟨cs,h1,SRs.ren hp l cs h h2⟩
 |.tup l,v,h,hs=>by simp only[SR,SV.ren] at hs ⊢;obtain⟨cs,h1,h2⟩:=hs;exact⟨cs,h1,SRs.ren hp l cs h h2⟩
theorem SRs.ren {B:Heap}{pl pl':Nat→Value}{tb tb':Nat→Option Bool}{n d nt:Nat}(hp:∀ j,j<n→pl' (d+j*nt)=pl j) :
  ∀ (s:List SV) (v:List Value),SVs.ret n s=true→SRs P B pl tb s v→SRs P B pl' tb' (SVs.ren d nt s) v
 |[],v,_,hs=>by simp only[SRs,SVs.ren] at hs ⊢;exact hs
 |s::ss,v,h,hs=>by simp only[SVs.ret,Bool.and_eq_true] at h;simp only[SRs,SVs.ren] at hs ⊢;obtain⟨x,y,h1,h2,h3⟩:=hs;exact⟨x,y,h1,SR.ren hp s x h.1 h2,SRs.ren hp ss y h.2 h3⟩
end
theorem MR.flat {B B':Heap}{kk vk:Kind}(h1:kk.flat=true) (h2:vk.flat=true):∀ {m:List (kk.T×vk.T)}{es:List MEnt},MR B kk vk m es→MR B' kk vk m es
 |[],es,h=>h
 |m::ms,es,h=>by obtain⟨e,es',k1,k2,k3,k4⟩:=h;exact⟨e,es',k1,k2.flat h1,k3.flat h2,MR.flat h1 h2 k4⟩
theorem OR.retd {B B':Heap}{pl pl':Nat→Value}{tb tb':Nat→Option Bool}{σ σ':Heap}{p:Value}{b:OB}(hb:b.ret=true) (h:OR P B pl tb σ p b) (hg:∀ i,Oid p i→σ'.get i=σ.get i):OR P B' pl' tb' σ' p b:=by
 cases b with
 |dead=>trivial
 |lst ty k xs nl =>
  rcases h with h|⟨h0,i,cap,c,t,h1,h2,h3,h4,h5⟩
  ·exact .inl h
  ·exact .inr ⟨h0,i,cap,c,t,h1,h2,by rw[hg i (by rw[h1];rfl)];exact h3,h4,h5.mono fun _ _ e=>KC.flat hb e⟩
 |cells l u =>obtain⟨i,c,e,t,h1,h2,h3,h4⟩:=h;exact⟨i,c,e,t,h1,by rw[hg i (by rw[h1];rfl)];exact h2,SRs.retd (n:=0) (fun j hj=>by omega) l c hb h3,h4⟩
 |map kk vk m =>simp only[OB.ret,Bool.and_eq_true] at hb;obtain⟨i,es,clock,h1,h2,h3⟩:=h;exact⟨i,es,clock,h1,by rw[hg i (by rw[h1];rfl)];exact h2,h3.1.flat hb.1 hb.2,h3.2⟩
 |stk l vals=>cases hb
 |deep ty q k xs nl hh=>exact DP.mono h hg
 |iter kk vk m dn=>cases hb
 |lpf l q s=>cases hb
def kenc:(k:Kind)→k.T→List Value
 |.i ik,x=>[.int ik x]
 |.bo,x=>[.bool x]
 |.st,x=>[.string ⟨x.toArray⟩]
 |.list _,_=>[]
 |.pair a b,x=>kenc a x.1++kenc b x.2
def canB:OB→Option Blk
 |.lst ty k xs nl=>if nl then none else some (.cells (xs.map (kenc k)).flatten ⟨k.size,ty⟩ true false)
 |_=>none
def canH (σ:Heap) (bs:List OB):Heap where
 get i:=if i<σ.n then σ.get i else (bs[i-σ.n]?).bind canB
 n:=σ.n+bs.length
 wf i h:=by rw[if_neg (by omega),List.getElem?_eq_none (by omega)];rfl
def canP (σ:Heap) (bs:List OB) (j:Nat):Value:=match bs[j]? with
 |some (.lst _ _ xs nl)=>if nl then .slice none 0 0 else .slice (some ⟨σ.n+j,0,none⟩) xs.length xs.length
 |_=>poison
mutual
def cval (p:Nat→Value):SV→Value
 |.val k x=>(kenc k x).headD poison
 |.nilS=>.slice none 0 0
 |.nilP=>.pointer none
 |.nilM=>.map none
 |.nilF=>.nilFunc
 |.lst j=>p j
 |.agg l=>.agg (cvals p l).toArray
 |.tup l=>.tuple (cvals p l).toArray
 |_=>poison
def cvals (p:Nat→Value):List SV→List Value
 |[]=>[]
 |s::ss=>cval p s::cvals p ss
end
def Dead (σ σ':Heap):Prop:=σ.n≤σ'.n∧∀ i,i<σ.n→σ.get i=none→σ'.get i=none
theorem Dead.refl (σ:Heap):Dead σ σ:=⟨Nat.le_refl _,fun _ _ h=>h⟩
theorem Dead.trans {σ0 σ σ':Heap}(h:Dead σ0 σ) (h':Dead σ σ'):Dead σ0 σ':=⟨Nat.le_trans h.1 h'.1,fun i hi hg=>h'.2 i (Nat.lt_of_lt_of_le hi h.1) (h.2 i hi hg)⟩
def Ret (P:Program) (σ:Heap) (v:SV) (bs:List OB) (u:Value) (σ':Heap):Prop :=
 (σ.Le σ'∧Dead σ σ')∧(bs=[]→σ'=σ)∧∃ pl:Nat→Value,(∀ j b,bs[j]?=some b→OR P hNil pl noTb σ' (pl j) b∧∀ i,Oid (pl j) i→σ.get i=none∧σ.n≤i) ∧
  (∀ j j' i,j<bs.length→j'<bs.length→j≠j'→Oid (pl j) i→Oid (pl j') i→False)∧SR P hNil pl noTb v u
def ApOk (P:Program) (ap:SV→List SV→Option (Prop×SV)):Prop :=
 ∀ σ f args c v fV vs,SR P σ noPl noTb f fV→SRs P σ noPl noTb args vs→ap f args=some (c,v)→c→v.ret 0=true∧∃ g a b,fV=.func (.func g) a b∧VCalled P g (a.toList++vs++b.toList) σ fun u σ'=>σ'=σ∧SR P hNil noPl noTb v u
def OkC (P:Program) (f:Nat) (sp:CSp):Prop :=
 ∀ ap,ApOk P ap→∀ σ args vs c v bs,SRs P σ noPl noTb args vs→sp ap args=some (c,v,bs)→v.ret bs.length=true→bs.all OB.ret=true→c→(VCalled P f vs σ fun u σ'=>Ret P σ v bs u σ') ∧
  (bs.all OB.isL=true→noBox v=true→VCalled P f vs σ fun u σ'=>u=cval (canP σ bs) v∧σ'=canH σ bs)
def CsOk (P:Program) (cs:List (Nat×CSp)):Prop:=∀ f sp,alook cs f=some sp→OkC P f sp
theorem VCalled.mono {f:FuncId}{args:List Value}{σ:Heap}{R R':Value→Heap→Prop}(h:VCalled P f args σ R) (hr:∀ v σ',R v σ'→R' v σ'):VCalled P f args σ R':=by
 intro ρ w cargs hH hL;rcases h ρ w cargs hH hL with⟨h1,h2⟩|⟨c,h1,h2⟩
 ·exact .inl ⟨h1,h2.mono fun _ _ ⟨c,he,hg⟩=>⟨c,he,hg.mono hr⟩⟩
 ·exact .inr ⟨c,h1.mono hr,h2⟩
theorem J0j {B:Heap}{pl:Nat→Value}{tb:Nat→Option Bool}{k:Kind}{v:SV}{u:Value}{x:k.T}(h:gap.asV k v=some x) (hs:SR P B pl tb v u):KV B k x u:=by
 unfold gap.asV at h;cases hone:k.one with
 |true =>rw[hone] at h;exact .inl ⟨hone,Q0u h (by simp only[SRs];exact⟨u,[],rfl,hs,rfl⟩)⟩
 |false =>
  rw[hone] at h;simp only[_root_.cond_false] at h;split at h
  ·simp only[SR] at hs;obtain⟨cs,rfl,hs⟩:=hs;exact .inr ⟨hone,cs,rfl,Q0u h hs⟩
  ·cases h
theorem J3s {B:Heap}{pl:Nat→Value}{tb:Nat→Option Bool}:∀ {ks:List Kind}{args:List SV}{x:AT ks}{vs:List Value},gap.deca ks args=some x→SRs P B pl tb args vs→atVals B ks x vs
 |[],[],x,vs,_,hs=>by simp only[SRs] at hs;exact hs
 |[],_::_,x,vs,h,_=>by cases h
 |[k],[],x,vs,h,_=>by cases h
 |[k],[v],x,vs,h,hs=>by obtain⟨u,rfl,h1⟩:=hs.one;exact⟨u,rfl,J0j h h1⟩
 |[k],_::_::_,x,vs,h,_=>by cases h
 |k::k'::ks,[],x,vs,h,_=>by cases h
 |k::k'::ks,v::args,x,vs,h,hs=>by
  simp only[gap.deca] at h;split at h
  ·rename_i y z h1 h2;obtain rfl:=osj h;simp only[SRs] at hs;obtain⟨u,us,rfl,h3,h4⟩:=hs;exact⟨u,us,rfl,J0j h1 h3,J3s h2 h4⟩
  ·cases h
theorem Ret.flat {σ σ':Heap}{v:SV}{u:Value}(h:Ret P σ v [] u σ') (hv:v.ret 0=true):σ'=σ∧SR P hNil noPl noTb v u:=by obtain⟨_,h2,pl,_,_,h5⟩:=h;exact⟨h2 rfl,h5.retd (fun j hj=>by omega) _ _ hv⟩
theorem KV.vcall {B σ:Heap}(hB:B.Le σ) {k:Kind}{x:k.T}{v:Value}(h:KV B k x v):KV σ k x v:=by
 rcases h with⟨h1,h2⟩|⟨h1,cs,h2,h3⟩
 ·exact .inl ⟨h1,h2.mono hB⟩
 ·exact .inr ⟨h1,cs,h2,h3.mono hB⟩
theorem Z7u:∀ {k:Kind}{x:k.T},k.flat=true→SVs.ret 0 (kcells k x)=true
 |.i _,_,_|.bo,_,_|.st,_,_=>rfl
 |.list _,_,h=>by cases h
 |.pair a b,x,h=>by
  simp only[Kind.flat,Bool.and_eq_true] at h;have app:∀ l m:List SV,SVs.ret 0 l=true→SVs.ret 0 m=true→SVs.ret 0 (l++m)=true:=by
   intro l m hl hm;induction l with
   |nil=>exact hm
   |cons s l ih =>simp only[SVs.ret,Bool.and_eq_true,List.cons_append] at hl ⊢;exact⟨hl.1,ih hl.2⟩
  exact app _ _ (Z7u h.1) (Z7u h.2)
theorem X5p {k:Kind}{x:k.T}(h:k.flat=true):(kval k x).ret 0=true:=by
 cases k with
 |pair a b=>exact Z7u (k:=.pair a b) h
 |list k=>cases h
 |_=>rfl
theorem Z7i {cs:List (Nat×CSp)}(h:CsOk P cs):∀ n,ApOk P (gap cs n)
 |0=>fun σ f args c v fV vs _ _ h=>by cases h
 |n+1=>by
  intro σ f args c v fV vs hf ha hg hc;cases f with
  |fn g a b =>
   simp only[gap] at hg;split at hg
   ·rename_i sp hsp;split at hg
    ·rename_i c' v' heq;cases hv:v'.ret 0 with
     |false=>rw[hv] at hg;cases hg
     |true =>rw[hv] at hg;simp only[_root_.cond_true,Option.some.injEq,Prod.mk.injEq] at hg;obtain⟨rfl,rfl⟩:=hg;simp only[SR] at hf;obtain⟨x,y,rfl,h1,h2⟩:=hf;refine⟨hv,g,x.toArray,y.toArray,rfl,?_⟩;have:=(h g sp hsp (gap cs n) (Z7i h n) σ (a++args++b) (x++vs++y) c' v' [] ((h1.append ha).append h2) heq hv rfl hc).1;simpa using this.mono fun u σ' hr=>hr.flat hv
    ·cases hg
   ·cases hg
  |pf ks r dom p =>
   simp only[gap] at hg;split at hg
   ·rename_i x hx;cases hr:r.flat with
    |false=>rw[hr] at hg;cases hg
    |true =>rw[hr] at hg;obtain⟨rfl,rfl⟩:=pinj hg;simp only[SR] at hf;obtain⟨g,first,cap,rfl,hcall⟩:=hf;have h2:=hcall x hc σ vs (Heap.Le.refl _) (J3s hx ha);have hret:=X5p (x:=p x) hr;exact⟨hret,g,first,cap,rfl,h2.mono fun u σ' hu=>⟨hu.1,(Q6q (P:=P) (pl:=noPl) (tb:=noTb) hu.2).retd (fun j hj=>by omega) _ _ hret⟩⟩
   ·cases hg
  |_=>cases hg
end
end Go.V
namespace Go.V
open Go
theorem DropTo.rename2 {σ0 σf σ':Heap}{v v':Value}(π:Nat→Nat) (h1:σ0.n≤σ'.n)
  (h2:∀ i,i<σ0.n→π i=i∧σ'.get i=σf.get i∧(σf.get i=σ0.get i∨∃ b,σf.get i=some b∧b.plain=true))
  (h3:∀ i,σ0.n≤i→i<σ'.n→σ0.n≤π i∧((σ'.get i=none∧σf.get (π i)=none)∨∃ b' b,σ'.get i=some b'∧σf.get (π i)=some b∧BRen σ'.n π b' b))
  (h4:∀ i j,σ0.n≤i→i<σ'.n→σ0.n≤j→j<σ'.n→π i=π j→i=j) (h5:Ren σ'.n π v' v):DropTo σ0 v σf v' σ':=by
 intro ρ0 w0 ρ w c hH0 hE hH hv;have hπ:∀ i,i<σ0.n→π i=i:=fun i hi=>(h2 i hi).1;have hblk:∀ i b',σ'.get i=some b'→∃ b,σf.get (π i)=some b∧BRen σ'.n π b' b:=fun i b' hb=>by
  have hi:=σ'.lt hb;rcases Nat.lt_or_ge i σ0.n with hlt|hge
  ·obtain⟨k1,k2,k3⟩:=h2 i hlt;rw[k1];rw[k2] at hb;refine⟨b',hb,?_⟩;rcases k3 with k3|⟨b,k3,k4⟩
   ·rw[k3] at hb;obtain⟨p,_,hB⟩:=hH0.live i b' hb;exact hB.ren h1 hπ
   ·rw[k3] at hb;obtain rfl:=osj hb;exact BRen.plain k4
  ·obtain⟨_,⟨k1,_⟩|⟨b1,b,k1,k2,k3⟩⟩:=h3 i hge hi
   ·rw[k1] at hb;cases hb
   ·rw[k1] at hb;obtain rfl:=osj hb;exact⟨b,k2,k3⟩
 have hinj:∀ i j,i<σ'.n→j<σ'.n→π i=π j→i=j:=fun i j hi hj he=>by
  rcases Nat.lt_or_ge i σ0.n with hlt|hge<;>rcases Nat.lt_or_ge j σ0.n with hlt'|hge'
  ·rw[hπ i hlt,hπ j hlt'] at he;exact he
  ·have:=(h3 j hge' hj).1;rw[hπ i hlt] at he;omega
  ·have:=(h3 i hge hi).1;rw[hπ j hlt'] at he;omega
  ·exact h4 i j hge hi hge' hj he
 have hX:Ext ρ0 σ0 w0 (fun i=>if i<σ'.n then ρ (π i) else none) σ' w:=by
  refine⟨hE.os,hE.tape,hE.output,hE.size,hE.keep,?_,h1,fun i hi p hp=>?_⟩
  ·rintro B hB ⟨i,p,b,hp,hb,hw,rfl⟩;change (if i<σ'.n then ρ (π i) else none)=some p at hp;split at hp
   ·obtain⟨b0,hb1,hb2⟩:=hblk i b hb;exact hE.wr _ hB ⟨π i,p,b0,hp,hb1,by rw[←hb2.wr];exact hw,rfl⟩
   ·cases hp
  ·change (if i<σ'.n then ρ (π i) else none)=some p at hp;split at hp
   ·rw[hπ i hi] at hp;exact hE.pl i hi p hp
   ·cases hp
 refine⟨fun i=>if i<σ'.n then ρ (π i) else none,h5.rel hv,hH0.ext ⟨fun i b' hb=>?_,fun i hi=>?_,fun i p hp=>?_,fun i j p q b hij hp hq hb hw hx=>?_⟩ hX,hX⟩
 ·obtain⟨b,hb1,hb2⟩:=hblk i b' hb;obtain⟨p,hp,hB⟩:=hH.live _ b hb1;exact⟨p,by simp[σ'.lt hb,hp],hb2.rel hB⟩
 ·show (if i<σ'.n then ρ (π i) else none)=none;split
  ·rename_i hlt;rcases Nat.lt_or_ge i σ0.n with hlt'|hge
   ·obtain⟨k1,k2,_⟩:=h2 i hlt';rw[k1];exact hH.dead i (by rw[←k2];exact hi)
   ·obtain⟨_,⟨_,k2⟩|⟨b1,b,k1,_⟩⟩:=h3 i hge hlt
    ·exact hH.dead _ k2
    ·rw[k1] at hi;cases hi
  ·rfl
 ·change (if i<σ'.n then ρ (π i) else none)=some p at hp;split at hp
  ·exact hH.lt _ p hp
  ·cases hp
 ·change (if i<σ'.n then ρ (π i) else none)=some p at hp;change (if j<σ'.n then ρ (π j) else none)=some q at hq;split at hp
  ·rename_i hi;split at hq
   ·rename_i hj;obtain⟨b0,hb1,hb2⟩:=hblk i b hb;exact hH.sep (π i) (π j) p q b0 (fun e=>hij (hinj i j hi hj e)) hp hq hb1 (by rw[←hb2.wr];exact hw) hx
   ·cases hq
  ·cases hp
theorem KC.enc {h:Heap}:∀ {k:Kind}{x:k.T}{cs:List Value},k.flat=true→KC h k x cs→cs=kenc k x
 |.i _,_,_,_,e|.bo,_,_,_,e|.st,_,_,_,e=>e
 |.list _,_,_,f,_=>by cases f
 |.pair a b,x,cs,f,e=>by simp only[Kind.flat,Bool.and_eq_true] at f;obtain⟨c1,c2,rfl,h1,h2⟩:=e;rw[KC.enc f.1 h1,KC.enc f.2 h2];rfl
theorem Rows.enc {h:Heap}{k:Kind}(hk:k.flat=true) {xs:List k.T}{cs:List Value}(hr:Rows (KC h k) xs cs):cs=(xs.map (kenc k)).flatten:=by
 induction hr with
 |nil=>rfl
 |cons h _ ih=>rw[List.map_cons,List.flatten_cons,←ih,KC.enc hk h]
theorem Z70:∀ {k:Kind}{x:k.T},k.flat=true→(kenc k x).all plainV=true
 |.i _,_,_|.bo,_,_|.st,_,_=>rfl
 |.list _,_,h=>by cases h
 |.pair a b,x,h=>by simp only[Kind.flat,Bool.and_eq_true] at h;simp only[kenc,List.all_append,Bool.and_eq_true];exact⟨Z70 h.1,Z70 h.2⟩
section
variable {P:Program}
mutual
theorem Z12 {B:Heap}{pl:Nat→Value}{tb:Nat→Option Bool}{n:Nat}:∀ (s:SV) (v:Value),s.ret n=true→noBox s=true→SR P B pl tb s v→v=cval pl s
 |.val k x,v,h,_,hs=>by simp only[SR] at hs;have:=KC.enc h hs;simp only[cval,←this,List.headD_cons]
 |.nilS,v,_,_,hs|.nilP,v,_,_,hs|.nilM,v,_,_,hs|.nilF,v,_,_,hs=>by simp only[SR] at hs;exact hs
 |.lst j,v,_,_,hs=>by simp only[SR] at hs;exact hs.1
 |.agg l,v,h,hb,hs=>by simp only[SR] at hs;obtain⟨cs,rfl,h2⟩:=hs;rw[Z5h l cs h hb h2];rfl
 |.tup l,v,h,hb,hs=>by simp only[SR] at hs;obtain⟨cs,rfl,h2⟩:=hs;rw[Z5h l cs h hb h2];rfl
 |.box _ _,_,_,hb,_|.map _,_,_,hb,_=>by cases hb
 |.any,_,h,_,_|.bid _ _,_,h,_,_|.grd _ _,_,h,_,_|.sub _ _ _ _,_,h,_,_|.elp _ _ _ _,_,h,_,_|.rop _ _ _ _,_,h,_,_|.cp _ _,_,h,_,_|.fn _ _ _,_,h,_,_|.pf _ _ _ _,_,h,_,_=>by cases h
theorem Z5h {B:Heap}{pl:Nat→Value}{tb:Nat→Option Bool}{n:Nat}:∀ (s:List SV) (v:List Value),SVs.ret n s=true→noBoxs s=true→SRs P B pl tb s v→v=cvals pl s
 |[],v,_,_,hs=>by simp only[SRs] at hs;exact hs
 |s::ss,v,h,hb,hs=>by simp only[SVs.ret,Bool.and_eq_true] at h;simp only[noBoxs,Bool.and_eq_true] at hb;simp only[SRs] at hs;obtain⟨x,y,rfl,h1,h2⟩:=hs;rw[Z12 s x h.1 hb.1 h1,Z5h ss y h.2 hb.2 h2];rfl
end
theorem X2c {k:Kind}{x:k.T}(h:k.flat=true):plainV ((kenc k x).headD poison)=true∨(kenc k x).headD poison=poison:=by
 have:=Z70 (x:=x) h;cases e:kenc k x with
 |nil=>exact .inr rfl
 |cons a l=>rw[e] at this;simp only[List.all_cons,Bool.and_eq_true] at this;exact .inl this.1
mutual
theorem J9t {n m:Nat}{π:Nat→Nat}{p q:Nat→Value}(h:∀ j,j<m→Ren n π (p j) (q j)):∀ (s:SV),s.ret m=true→noBox s=true→Ren n π (cval p s) (cval q s)
 |.val k x,hr,_=>by
  simp only[cval];rcases X2c (x:=x) hr with h|h
  ·exact .plain _ h
  ·rw[h];exact .poison _
 |.nilS,_,_|.nilP,_,_|.nilM,_,_|.nilF,_,_=>.plain _ rfl
 |.lst j,hr,_=>h j (by simpa [SV.ret,Nat.blt_eq] using hr)
 |.agg l,hr,hb=>by have:=J26 h l hr hb;simp only[cval];refine .agg _ _ (by simpa using this.1) fun i h1 h2=>this.2 i _ _ (by simp) (by simp)
 |.tup l,hr,hb=>by have:=J26 h l hr hb;simp only[cval];refine .tuple _ _ (by simpa using this.1) fun i h1 h2=>this.2 i _ _ (by simp) (by simp)
 |.box _ _,_,hb|.map _,_,hb=>by cases hb
 |.any,h,_|.bid _ _,h,_|.grd _ _,h,_|.sub _ _ _ _,h,_|.elp _ _ _ _,h,_|.rop _ _ _ _,h,_|.cp _ _,h,_|.fn _ _ _,h,_|.pf _ _ _ _,h,_=>by cases h
theorem J26 {n m:Nat}{π:Nat→Nat}{p q:Nat→Value}(h:∀ j,j<m→Ren n π (p j) (q j)):∀ (s:List SV),SVs.ret m s=true→noBoxs s=true→LRen n π (cvals p s) (cvals q s)
 |[],_,_=>⟨rfl,fun i v c hv=>by simp[cvals] at hv⟩
 |s::ss,hr,hb=>by
  simp only[SVs.ret,Bool.and_eq_true] at hr;simp only[noBoxs,Bool.and_eq_true] at hb;have h1:=J9t h s hr.1 hb.1;have h2:=J26 h ss hr.2 hb.2;refine⟨by simp[cvals,h2.1],fun i v c hv hc=>?_⟩;cases i with
  |zero=>simp[cvals] at hv hc;subst hv;subst hc;exact h1
  |succ i=>simp[cvals] at hv hc;exact h2.2 i v c hv hc
end
mutual
theorem J6x {m:Nat}{S:Nat→Prop}{p q:Nat→Value}(h:∀ j,j<m→Weak S (p j) (q j)):∀ (s:SV),s.ret m=true→noBox s=true→Weak S (cval p s) (cval q s)
 |.val k x,_,_=>.refl _
 |.nilS,_,_|.nilP,_,_|.nilM,_,_|.nilF,_,_=>.refl _
 |.lst j,hr,_=>h j (by simpa [SV.ret,Nat.blt_eq] using hr)
 |.agg l,hr,hb=>by have:=Z88 h l hr hb;simp only[cval];exact .agg _ _ this.1 this.2
 |.tup l,hr,hb=>by have:=Z88 h l hr hb;simp only[cval];exact .tuple _ _ this.1 this.2
 |.box _ _,_,hb|.map _,_,hb=>by cases hb
 |.any,h,_|.bid _ _,h,_|.grd _ _,h,_|.sub _ _ _ _,h,_|.elp _ _ _ _,h,_|.rop _ _ _ _,h,_|.cp _ _,h,_|.fn _ _ _,h,_|.pf _ _ _ _,h,_=>by cases h
theorem Z88 {m:Nat}{S:Nat→Prop}{p q:Nat→Value}(h:∀ j,j<m→Weak S (p j) (q j)):∀ (s:List SV),SVs.ret m s=true→noBoxs s=true→(cvals p s).length=(cvals q s).length∧∀ (i:Nat) (a b:Value),(cvals p s)[i]?=some a→(cvals q s)[i]?=some b→Weak S a b
 |[],_,_=>⟨rfl,fun i v c hv=>by simp[cvals] at hv⟩
 |s::ss,hr,hb=>by
  simp only[SVs.ret,Bool.and_eq_true] at hr;simp only[noBoxs,Bool.and_eq_true] at hb;have h1:=J6x h s hr.1 hb.1;have h2:=Z88 h ss hr.2 hb.2;refine⟨by simp[cvals,h2.1],fun i v c hv hc=>?_⟩;cases i with
  |zero=>simp[cvals] at hv hc;subst hv;subst hc;exact h1
  |succ i=>simp[cvals] at hv hc;exact h2.2 i v c hv hc
end
theorem KC.ofEnc {h:Heap}:∀ {k:Kind}{x:k.T},k.flat=true→KC h k x (kenc k x)
 |.i _,_,_|.bo,_,_|.st,_,_=>by simp[KC,kenc]
 |.list _,_,f=>by cases f
 |.pair a b,x,f=>by simp only[Kind.flat,Bool.and_eq_true] at f;exact⟨_,_,rfl,KC.ofEnc f.1,KC.ofEnc f.2⟩
theorem Rows.ofEnc {h:Heap}{k:Kind}(hk:k.flat=true):∀ xs:List k.T,Rows (KC h k) xs (xs.map (kenc k)).flatten
 |[]=>.nil
 |x::xs=>by rw[List.map_cons,List.flatten_cons];exact .cons (KC.ofEnc hk) (Rows.ofEnc hk xs)
mutual
theorem J62 {pl:Nat→Value}{m:Nat}(h:∀ j,j<m→∃ a n c,pl j=.slice a n c):∀ (s:SV),s.ret m=true→noBox s=true→SR P hNil pl noTb s (cval pl s)
 |.val k x,hr,hb=>by have h1:=KC.ofEnc (h:=hNil) (x:=x) hr;have h2:=KC.length h1;rw[Kind.one_size hb] at h2;obtain⟨c,e⟩:=List.length_eq_one_iff.1 h2;simp only[cval,SR,e,List.headD_cons];rw[e] at h1;exact h1
 |.nilS,_,_|.nilP,_,_|.nilM,_,_|.nilF,_,_=>by simp[cval,SR]
 |.lst j,hr,_=>by simp only[cval,SR];exact⟨trivial,h j (by simpa [SV.ret,Nat.blt_eq] using hr)⟩
 |.agg l,hr,hb=>by simp only[cval,SR];exact⟨_,rfl,J5y h l hr hb⟩
 |.tup l,hr,hb=>by simp only[cval,SR];exact⟨_,rfl,J5y h l hr hb⟩
 |.box _ _,_,hb|.map _,_,hb=>by cases hb
 |.any,h,_|.bid _ _,h,_|.grd _ _,h,_|.sub _ _ _ _,h,_|.elp _ _ _ _,h,_|.rop _ _ _ _,h,_|.cp _ _,h,_|.fn _ _ _,h,_|.pf _ _ _ _,h,_=>by cases h
theorem J5y {pl:Nat→Value}{m:Nat}(h:∀ j,j<m→∃ a n c,pl j=.slice a n c):∀ (s:List SV),SVs.ret m s=true→noBoxs s=true→SRs P hNil pl noTb s (cvals pl s)
 |[],_,_=>by simp[cvals,SRs]
 |s::ss,hr,hb=>by simp only[SVs.ret,Bool.and_eq_true] at hr;simp only[noBoxs,Bool.and_eq_true] at hb;simp only[cvals,SRs];exact⟨_,_,rfl,J62 h s hr.1 hb.1,J5y h ss hr.2 hb.2⟩
end
theorem X7i {σ:Heap}{bs:List OB}(hl:bs.all OB.isL=true) {j:Nat}(hj:j<bs.length):∃ a n c,canP σ bs j=.slice a n c:=by
 have hb:=List.all_eq_true.1 hl _ (List.getElem_mem hj);simp only[canP,List.getElem?_eq_getElem hj];cases e:bs[j] with
 |lst ty k xs nl=>cases nl<;>simp
 |_=>rw[e] at hb;cases hb
theorem X0s {σ0 σf:Heap}(hA:Agree σ0 σf) (hn:σ0.n≤σf.n) {v:SV}{bs:List OB}(hv:v.ret bs.length=true) (hnb:noBox v=true) (hb:bs.all OB.ret=true) (hl:bs.all OB.isL=true) {pl:Nat→Value}{u:Value}
  (hob:∀ j b,bs[j]?=some b→OR P hNil pl noTb σf (pl j) b∧∀ i,oid (pl j)=some i→σ0.n≤i)
  (hsep:∀ j j' i,j<bs.length→j'<bs.length→j≠j'→oid (pl j)=some i→oid (pl j')=some i→False) (hu:SR P hNil pl noTb v u) :
  DropTo σ0 u σf (cval (canP σ0 bs) v) (canH σ0 bs):=by
 have hu':=Z12 v u hv hnb hu;subst hu';have kind:∀ j,j<bs.length→∃ ty k xs nl,bs[j]?=some (.lst ty k xs nl)∧k.flat=true∧((nl=true∧xs=[]∧pl j=.slice none 0 0)∨(nl=false∧∃ i cap c t,pl j=.slice (some ⟨i,0,none⟩) xs.length cap∧xs.length≤cap∧σ0.n≤i∧σf.get i=some (.cells c ⟨k.size,ty⟩ true t)∧c.take (xs.length*k.size)=(xs.map (kenc k)).flatten∧Rows (KC hNil k) xs (xs.map (kenc k)).flatten)):=by
  intro j hj;have e:=List.getElem?_eq_getElem hj;have h1:=List.all_eq_true.1 hb _ (List.getElem_mem hj);have h2:=List.all_eq_true.1 hl _ (List.getElem_mem hj);obtain⟨ho,hi⟩:=hob j _ e;cases hbj:bs[j] with
  |lst ty k xs nl =>
   rw[hbj] at e ho h1;refine⟨ty,k,xs,nl,e,h1,?_⟩;rcases ho with⟨k1,k2,k3⟩|⟨k0,i,cap,c,t,k1,k2,k3,k4,k5⟩
   ·exact .inl ⟨k1,k2,k3⟩
   ·have k6:=Rows.enc h1 k5;exact .inr ⟨k0,i,cap,c,t,k1,k2,hi i (by rw[k1];rfl),k3,k6,by rw[←k6];exact k5⟩
  |_=>rw[hbj] at h2;cases h2
 let S:Nat→Bool:=fun i=>(List.range bs.length).any fun j=>decide (oid (pl j)=some i);have hS:∀ i,S i=true↔∃ j,j<bs.length∧oid (pl j)=some i:=fun i=>by simp only[S,List.any_eq_true,List.mem_range,decide_eq_true_eq]
 let σw:Heap:=⟨fun i=>if S i=true then ((List.range bs.length).find? fun j=>decide (oid (pl j)=some i)).bind fun j=>(bs[j]?).bind canB else σf.get i,σf.n,fun i hi=>by
  by_cases h:S i=true
  ·obtain⟨j,hj,hid⟩:=(hS i).1 h;obtain⟨ty,k,xs,nl,_,_,h3⟩:=kind j hj;rcases h3 with⟨_,_,k3⟩|⟨_,i',cap,c,t,k1,_,_,k3,_⟩
   ·rw[k3] at hid;cases hid
   ·rw[k1] at hid;obtain rfl:=osj hid;exact absurd (σf.lt k3) (Nat.not_lt.2 hi)
  ·rw[if_neg h];exact σf.wf i hi⟩
 have hfind:∀ j i,j<bs.length→oid (pl j)=some i→σw.get i=(bs[j]?).bind canB:=fun j i hj hid=>by
  have h1:S i=true:=(hS i).2 ⟨j,hj,hid⟩;show (if S i=true then _ else _)=_;rw[if_pos h1];cases hf:(List.range bs.length).find? fun j=>decide (oid (pl j)=some i) with
  |none=>have:=List.find?_eq_none.1 hf j (List.mem_range.2 hj);simp[hid] at this
  |some j' =>have h2:=List.find?_some hf;have h3:=List.mem_range.1 (List.mem_of_find?_eq_some hf);have h4:j'=j:=Classical.byContradiction fun hne=>hsep j' j i h3 hj hne (by simpa using h2) hid;subst h4;rfl
 let q:Nat→Value:=fun j=>match pl j with
  |.slice (some a) n _=>.slice (some a) n n
  |v=>v
 have hq:∀ j,j<bs.length→Weak (fun i=>S i=true) (pl j) (q j):=fun j hj=>by
  obtain⟨ty,k,xs,nl,_,_,h3⟩:=kind j hj;rcases h3 with⟨_,_,k3⟩|⟨_,i',cap,c,t,k1,k2,_,k3,_⟩
  ·simp only[q,k3];exact .refl _
  ·simp only[q,k1];exact .sl _ _ _ ((hS i').2 ⟨j,hj,by rw[k1];rfl⟩) k2
 have step1:DropTo σ0 (cval pl v) σf (cval q v) σw:=by
  refine DropTo.weaken S (fun i hi=>?_) rfl hn (fun i hi=>?_) (fun i hi=>?_) (J6x hq v hv hnb)
  ·obtain⟨j,hj,hid⟩:=(hS i).1 hi;exact(hob j _ (List.getElem?_eq_getElem hj)).2 i hid
  ·show (if S i=true then _ else _)=_;rw[if_neg (by simp[hi])]
  ·obtain⟨j,hj,hid⟩:=(hS i).1 hi;obtain⟨ty,k,xs,nl,e,_,h3⟩:=kind j hj;rcases h3 with⟨_,_,k3⟩|⟨k0,i',cap,c,t,k1,k2,_,k3,k4,_⟩
   ·rw[k3] at hid;cases hid
   ·rw[k1] at hid;obtain rfl:=osj hid;refine⟨c,_,true,t,xs.length*k.size,k3,?_⟩;rw[hfind j _ hj (by rw[k1];rfl),e];simp only[Option.bind_some,canB,k0];rw[k4];rfl
 have hpi:∀ j i,j<bs.length→oid (pl j)=some i→i<σf.n:=fun j i hj hid=>by
  obtain⟨ty,k,xs,nl,_,_,h3⟩:=kind j hj;rcases h3 with⟨_,_,k3⟩|⟨_,i',cap,c,t,k1,_,_,k3,_⟩
  ·rw[k3] at hid;cases hid
  ·rw[k1] at hid;obtain rfl:=osj hid;exact σf.lt k3
 let π:Nat→Nat:=fun i=>if i<σ0.n then i else match oid (pl (i-σ0.n)) with
  |some id=>id
  |none=>σf.n+i
 have hwn:σw.n=σf.n:=rfl;have step2:DropTo σ0 (cval q v) σw (cval (canP σ0 bs) v) (canH σ0 bs):=by
  refine DropTo.rename2 π (by simp[canH]) (fun i hi=>⟨by simp[π,hi],?_,.inl ?_⟩) (fun i h1 h2=>?_) (fun i j h1 h2 h3 h4 he=>?_) (J9t (fun j hj=>?_) v hv hnb)
  ·have hs:S i=false:=by
    cases hs:S i with
    |false=>rfl
    |true=>obtain⟨j,hj,hid⟩:=(hS i).1 hs;have:=(hob j _ (List.getElem?_eq_getElem hj)).2 i hid;omega
   show (if i<σ0.n then _ else _)=(if S i=true then _ else _);rw[if_pos hi,if_neg (by simp[hs]),hA i hi]
  ·have hs:S i=false:=by
    cases hs:S i with
    |false=>rfl
    |true=>obtain⟨j,hj,hid⟩:=(hS i).1 hs;have:=(hob j _ (List.getElem?_eq_getElem hj)).2 i hid;omega
   show (if S i=true then _ else _)=_;rw[if_neg (by simp[hs]),hA i hi]
  ·have hj:i-σ0.n<bs.length:=by simp[canH] at h2;omega
   have hge:¬ i<σ0.n:=by omega
   obtain⟨ty,k,xs,nl,e,hfl,h3⟩:=kind _ hj;have hcan:(canH σ0 bs).get i=(bs[i-σ0.n]?).bind canB:=by show (if i<σ0.n then _ else _)=_;rw[if_neg hge]
   rcases h3 with⟨k0,_,k3⟩|⟨k0,i',cap,c,t,k1,k2,k2',k3,k4,_⟩
   ·have hp:π i=σf.n+i:=by simp only[π,if_neg hge,k3,oid]
    refine⟨by omega,.inl ⟨?_,σw.wf _ (by rw[hp,hwn];omega)⟩⟩;rw[hcan,e];simp[canB,k0]
   ·have hp:π i=i':=by simp only[π,if_neg hge,k1,oid]
    rw[hp];have hw:=hfind _ i' hj (by rw[k1];rfl);rw[e] at hw;simp only[Option.bind_some,canB,k0] at hw;refine⟨k2',.inr ⟨_,_,?_,hw,BRen.plain ?_⟩⟩
    ·rw[hcan,e];simp[canB,k0]
    ·simp only[Blk.plain,List.all_flatten,List.all_map];rw[List.all_eq_true];intro x _;exact Z70 hfl
  ·have hi:i-σ0.n<bs.length:=by simp[canH] at h2;omega
   have hj:j-σ0.n<bs.length:=by simp[canH] at h4;omega
   have hgi:¬ i<σ0.n:=by omega
   have hgj:¬ j<σ0.n:=by omega
   simp only[π,if_neg hgi,if_neg hgj] at he;cases e1:oid (pl (i-σ0.n)) with
   |none =>
    cases e2:oid (pl (j-σ0.n)) with
    |none=>rw[e1,e2] at he;simp only at he;omega
    |some b=>rw[e1,e2] at he;have:=hpi _ b hj e2;simp only at he;omega
   |some a =>
    cases e2:oid (pl (j-σ0.n)) with
    |none=>rw[e1,e2] at he;have:=hpi _ a hi e1;simp only at he;omega
    |some b =>rw[e1,e2] at he;simp only at he;subst he;have:i-σ0.n=j-σ0.n:=Classical.byContradiction fun hne=>hsep _ _ a hi hj hne e1 e2;omega
  ·obtain⟨ty,k,xs,nl,e,_,h3⟩:=kind j hj;rcases h3 with⟨k0,kx,k3⟩|⟨k0,i',cap,c,t,k1,k2,_,k3,_⟩
   ·simp only[canP,e,k0,if_true,q,k3];exact .plain _ rfl
   ·simp only[canP,e,k0,Bool.false_eq_true,if_false,q,k1];have hp:π (σ0.n+j)=i':=by
     have:¬ σ0.n+j<σ0.n:=by omega
     simp only[π,if_neg this,Nat.add_sub_cancel_left,k1,oid]
    have:=Ren.sl (n:=(canH σ0 bs).n) (π:=π) (σ0.n+j) 0 xs.length xs.length (by simp[canH];omega)
    rwa [hp] at this
 exact step1.trans step2
def OB.wfL:OB→Prop
 |.lst _ _ xs nl=>nl=true→xs=[]
 |_=>True
theorem J7r (σ0:Heap) {v:SV}{bs:List OB}(hv:v.ret bs.length=true) (hnb:noBox v=true) (hb:bs.all OB.ret=true) (hl:bs.all OB.isL=true) (hw:∀ b∈bs,b.wfL):Ret P σ0 v bs (cval (canP σ0 bs) v) (canH σ0 bs):=by
 have kind:∀ j,j<bs.length→∃ ty k xs nl,bs[j]?=some (.lst ty k xs nl)∧k.flat=true∧(nl=true→xs=[]):=fun j hj=>by
  have e:=List.getElem?_eq_getElem hj;have h1:=List.all_eq_true.1 hb _ (List.getElem_mem hj);have h2:=List.all_eq_true.1 hl _ (List.getElem_mem hj);have h3:=hw _ (List.getElem_mem hj);cases hbj:bs[j] with
  |lst ty k xs nl=>rw[hbj] at e h1 h3;exact⟨ty,k,xs,nl,e,h1,h3⟩
  |_=>rw[hbj] at h2;cases h2
 refine⟨⟨?_,?_⟩,?_,canP σ0 bs,fun j b hj=>?_,fun j j' i hj hj' hne h1 h2=>?_,J62 (fun j hj=>X7i hl hj) v hv hnb⟩
 ·refine⟨by simp[canH],fun i b hg=>?_⟩;show (if i<σ0.n then _ else _)=_;rw[if_pos (σ0.lt hg)];exact hg
 ·refine⟨by simp[canH],fun i hi hg=>?_⟩;show (if i<σ0.n then _ else _)=_;rw[if_pos hi];exact hg
 ·rintro rfl;apply Heap.ext'
  ·intro i;show (if i<σ0.n then _ else _)=_;by_cases hi:i<σ0.n
   ·rw[if_pos hi]
   ·rw[if_neg hi,σ0.wf i (by omega)];rfl
  ·simp[canH]
 ·have hjl:j<bs.length:=(List.getElem?_eq_some_iff.1 hj).1;obtain⟨ty,k,xs,nl,e,hfl,h3⟩:=kind j hjl;obtain rfl:=osj (e.symm.trans hj);cases nl with
  |true =>
   have hp:canP σ0 bs j=.slice none 0 0:=by simp[canP,e]
   rw[hp];exact⟨.inl ⟨rfl,h3 rfl,rfl⟩,fun i hi=>by cases hi⟩
  |false =>
   have hp:canP σ0 bs j=.slice (some ⟨σ0.n+j,0,none⟩) xs.length xs.length:=by simp[canP,e]
   have k5:=Rows.ofEnc (h:=hNil) hfl xs;have hrl:=k5.length KC.rows_len;rw[hp];refine⟨.inr ⟨rfl,σ0.n+j,xs.length,(xs.map (kenc k)).flatten,false,rfl,Nat.le_refl _,?_,by omega,?_⟩,fun i hi=>?_⟩
   ·show (if σ0.n+j<σ0.n then _ else _)=_;rw[if_neg (by omega),Nat.add_sub_cancel_left,e];simp[canB]
   ·rw[List.take_of_length_le (by omega)];exact k5
   ·obtain rfl:=osj hi;exact⟨σ0.wf _ (by simp),by simp⟩
 ·obtain⟨ty,k,xs,nl,e,_,h3⟩:=kind j hj;obtain⟨ty',k',xs',nl',e',_,h3'⟩:=kind j' hj';simp only[canP,e] at h1;simp only[canP,e'] at h2;cases nl with
  |true=>simp[Oid,oid] at h1
  |false =>
   cases nl' with
   |true=>simp[Oid,oid] at h2
   |false=>simp[Oid,oid] at h1 h2;omega
end
end Go.V
namespace Go.V
open Go
section
variable {P:Program}{B F:Heap}{pl:Nat→Value}{tb:Nat→Option Bool}{own:Own}{σ:Heap}
mutual
theorem X0q {bx:List SV→Nat→SV}(hle:B.Le σ) (hobj:∀ d,OR P B pl tb σ (pl d) (oget own d))
  (hbx:∀ l off b c e t,σ.get b=some (.cells c e true t)→SRs P B pl tb l c→SR P σ noPl noTb (bx l off) (.pointer (some ⟨b,off,none⟩))) :
  ∀ (s:SV) (v:Value),SR P B pl tb s v→SR P σ noPl noTb (resP own bx s) v
 |.any,v,h=>by simp[resP,SR]
 |.val k x,v,h=>by simp only[resP,SR] at h ⊢;exact h.mono hle
 |.bid n c,v,h=>by simp only[resP,SR] at h ⊢;obtain⟨rfl,_⟩:=h;rfl
 |.grd gs s,v,h=>by simp[resP,SR]
 |.nilS,v,h=>by simp only[resP,SR] at h ⊢;exact h
 |.nilP,v,h=>by simp only[resP,SR] at h ⊢;exact h
 |.nilM,v,h=>by simp only[resP,SR] at h ⊢;exact h
 |.nilF,v,h=>by simp only[resP,SR] at h ⊢;exact h
 |.lst o,v,h=>by
  simp only[resP];split
  ·rename_i ty k xs nl ho;have:view own k (.lst o)=some xs:=by simp[view,ho,castL]
   simp only[SR,KC];exact⟨v,rfl,(Q6w hle hobj this h).mono (Heap.Le.refl _) fun _ _ e=>e.mono hle⟩
  ·simp[SR]
 |.sub o lo n sz,v,h=>by
  simp only[resP];split
  ·rename_i ty k xs nl ho;split
   ·rename_i hsz;have:view own k (.sub o lo n sz)=some ((xs.drop lo).take n):=by simp[view,ho,castL,hsz]
    simp only[SR,KC];exact⟨v,rfl,(Q6w hle hobj this h).mono (Heap.Le.refl _) fun _ _ e=>e.mono hle⟩
   ·simp[SR]
  ·simp[SR]
 |.elp o i off sz,v,h=>by simp[resP,SR]
 |.dd o w,v,h=>by
  simp only[resP];simp only[SR] at h;split
  ·rename_i ty q k xs nl hole ho;have hob:=hobj o;rw[ho] at hob;have hle':=DP.le hob;split
   ·split
    ·obtain⟨h1,_⟩:=h;simp only[SR,KC];refine⟨v,rfl,?_⟩;rw[h1];exact(DP.sl hob).mono hle' fun _ _ e=>e.mono hle'
    ·simp[SR]
   ·simp only[SR];exact KC.mono hle' h
   ·simp only[SR];exact KC.mono hle' h.1
   ·simp[SR]
  ·simp[SR]
 |.map o,v,h=>by simp[resP,SR]
 |.tup l,v,h=>by simp[resP,SR]
 |.box o off,v,h=>by
  simp only[resP];split
  ·rename_i l _ ho;have hob:=hobj o;rw[ho] at hob;obtain⟨i,c,e,t,h1,h2,h3,_⟩:=hob;simp only[SR] at h;obtain⟨b,h4,rfl⟩:=h;rw[h4] at h1;obtain rfl:=(by simpa using h1:b=i);exact hbx l off b c e t h2 h3
  ·simp[SR]
 |.rop k l i off,v,h=>by simp only[resP];exact SR.mono (tb:=tb) hle (fun n c hn=>hn) (.rop k l i off) v h |> fun h=>by simp only[SR] at h ⊢;exact h
 |.cp l off,v,h=>by simp only[resP,SR] at h ⊢;obtain⟨b,c,e,wr,t,h1,h2,h3⟩:=h;exact⟨b,c,e,wr,t,hle.2 _ _ h1,h2,Q3w hle hobj hbx l c h3⟩
 |.agg l,v,h=>by simp only[resP,SR] at h ⊢;obtain⟨cs,h1,h2⟩:=h;exact⟨cs,h1,Q3w hle hobj hbx l cs h2⟩
 |.fn f a b,v,h=>by simp only[resP,SR] at h ⊢;obtain⟨x,y,h1,h2,h3⟩:=h;exact⟨x,y,h1,Q3w hle hobj hbx a x h2,Q3w hle hobj hbx b y h3⟩
 |.pf ks r dom p,v,h=>by simp only[resP,SR] at h ⊢;exact h.mono hle
theorem Q3w {bx:List SV→Nat→SV}(hle:B.Le σ) (hobj:∀ d,OR P B pl tb σ (pl d) (oget own d))
  (hbx:∀ l off b c e t,σ.get b=some (.cells c e true t)→SRs P B pl tb l c→SR P σ noPl noTb (bx l off) (.pointer (some ⟨b,off,none⟩))) :
  ∀ (s:List SV) (v:List Value),SRs P B pl tb s v→SRs P σ noPl noTb (resPs own bx s) v
 |[],v,h=>by simp only[resPs,SRs] at h ⊢;exact h
 |s::ss,v,h=>by simp only[resPs,SRs] at h ⊢;obtain⟨x,y,h1,h2,h3⟩:=h;exact⟨x,y,h1,X0q hle hobj hbx s x h2,Q3w hle hobj hbx ss y h3⟩
end
theorem Z1e (hle:B.Le σ) (hobj:∀ d,OR P B pl tb σ (pl d) (oget own d)) {l:List SV}{v:List Value}(h:SRs P B pl tb l v):SRs P σ noPl noTb (ress own l) v:=by
 have h0:∀ {l v},SRs P B pl tb l v→SRs P σ noPl noTb (res0 own l) v:=fun h=>Q3w hle hobj (fun _ _ _ _ _ _ _ _=>by simp[SR]) _ _ h;have h1:∀ {l v},SRs P B pl tb l v→SRs P σ noPl noTb (res1 own l) v:=fun h=>Q3w hle hobj (fun l off b c e t hg hs=>by
  simp only[SR];exact⟨b,c,e,true,t,hg,rfl,h0 hs⟩) _ _ h
 exact Q3w hle hobj (fun l off b c e t hg hs=>by
  simp only[SR];exact⟨b,c,e,true,t,hg,rfl,h1 hs⟩) _ _ h
mutual
theorem X3h {p q:Nat→Value}{n:Nat}(h:∀ j,j<n→p j=q j):∀ (s:SV),s.ret n=true→cval p s=cval q s
 |.val _ _,_|.nilS,_|.nilP,_|.nilM,_|.nilF,_=>by simp[cval]
 |.lst j,hr=>by simp only[cval];exact h j (by simpa [SV.ret,Nat.blt_eq] using hr)
 |.agg l,hr=>by simp only[cval];rw[J61 h l hr]
 |.tup l,hr=>by simp only[cval];rw[J61 h l hr]
 |.box _ _,_|.map _,_=>by simp[cval]
 |.dd _ _,_=>by simp[cval]
 |.any,h|.bid _ _,h|.grd _ _,h|.sub _ _ _ _,h|.elp _ _ _ _,h|.rop _ _ _ _,h|.cp _ _,h|.fn _ _ _,h|.pf _ _ _ _,h=>by cases h
theorem J61 {p q:Nat→Value}{n:Nat}(h:∀ j,j<n→p j=q j):∀ (s:List SV),SVs.ret n s=true→cvals p s=cvals q s
 |[],_=>rfl
 |s::ss,hr=>by simp only[SVs.ret,Bool.and_eq_true] at hr;simp only[cvals];rw[X3h h s hr.1,J61 h ss hr.2]
end
theorem Q2i {cs:List (Nat×CSp)}(hcs:CsOk P cs) {f:SV}{args:List SV}{c:Prop}{v:SV}{bs:List OB}{fV:Value}{vs:List Value}(hf:SR P σ noPl noTb f fV) (ha:SRs P σ noPl noTb args vs)
  (h:gcallee cs f args=some (c,v,bs)) (hv:v.ret bs.length=true) (hb:bs.all OB.ret=true) (hc:c):∃ g a b,fV=.func (.func g) a b∧(VCalled P g (a.toList++vs++b.toList) σ fun u σ'=>Ret P σ v bs u σ') ∧
  (bs.all OB.isL=true→noBox v=true→VCalled P g (a.toList++vs++b.toList) σ fun u σ'=>u=cval (canP σ bs) v∧σ'=canH σ bs):=by
 have gen:(gap cs 3 f args).map (fun x=>(x.1,x.2,([]:List OB)))=some (c,v,bs)→∃ g a b,fV=.func (.func g) a b∧(VCalled P g (a.toList++vs++b.toList) σ fun u σ'=>Ret P σ v bs u σ') ∧
   (bs.all OB.isL=true→noBox v=true→VCalled P g (a.toList++vs++b.toList) σ fun u σ'=>u=cval (canP σ bs) v∧σ'=canH σ bs):=fun h=>by
  simp only[Option.map_eq_some_iff] at h;obtain⟨⟨c',v'⟩,h1,h2⟩:=h;simp only[Prod.mk.injEq] at h2;obtain⟨rfl,rfl,rfl⟩:=h2;obtain⟨h3,g,a,b,rfl,h4⟩:=Z7i hcs 3 σ f args c' v' fV vs hf ha h1 hc;refine⟨g,a,b,rfl,h4.mono fun u σ' hu=>?_,fun _ hnb=>h4.mono fun u σ' hu=>?_⟩
  ·obtain⟨rfl,hu⟩:=hu;exact⟨⟨Heap.Le.refl _,Dead.refl _⟩,fun _=>rfl,noPl,(fun j b hj=>by simp at hj),(fun j j' i hj=>by simp at hj),hu⟩
  ·obtain⟨rfl,hu⟩:=hu;have hz:canH σ' []=σ':=(J7r (P:=P) σ' (v:=v') (bs:=[]) h3 hnb rfl rfl (fun b hb=>by cases hb)).2.1 rfl;refine⟨?_,hz.symm⟩;rw[Z12 v' u h3 hnb hu];exact X3h (fun j hj=>by omega) v' h3
 cases f with
 |fn g a b =>
  simp only[gcallee] at h;split at h
  ·rename_i sp hsp;simp only[SR] at hf;obtain⟨x,y,rfl,h1,h2⟩:=hf;refine⟨g,x.toArray,y.toArray,rfl,?_⟩;simpa using hcs g sp hsp (gap cs 3) (Z7i hcs 3) σ (a++args++b) (x++vs++y) c v bs ((h1.append ha).append h2) h hv hb hc
  ·cases h
 |_=>exact gen h
theorem Gam.heap_get {s:St}{env:Env}{σ':Heap}(h:Gam P B F pl tb s env σ) (hl:σ.Le σ') {d:Nat}(hlive:(oget s.own d).live=true) {i:Nat}(hi:Oid (pl d) i):σ'.get i=σ.get i:=by
  have hlt:=(h.obj d).id_lt hlive hi;cases hb:σ.get i with
  |none =>
   have hob:=h.obj d;cases ho:oget s.own d with
   |dead=>rw[ho] at hlive;cases hlive
   |lst ty k xs nl =>
    rw[ho] at hob;rcases hob with⟨_,_,h2⟩|⟨_,i',cap,c,t,h2,_,h3,_⟩
    ·rw[h2] at hi;cases hi
    ·rw[h2] at hi;obtain rfl:=osj hi;rw[h3] at hb;cases hb
   |cells l u=>rw[ho] at hob;obtain⟨i',c,e,t,h2,h3,_⟩:=hob;rw[h2] at hi;obtain rfl:=osj hi;rw[h3] at hb;cases hb
   |map kk vk m=>rw[ho] at hob;obtain⟨i',es,cl,h2,h3,_⟩:=hob;rw[h2] at hi;obtain rfl:=osj hi;rw[h3] at hb;cases hb
   |stk l vals=>rw[ho] at hlive;cases hlive
   |lpf l q s=>rw[ho] at hob hlive;obtain⟨h2,_,h3⟩:=hob;rw[h2] at hi;obtain rfl:=osj hi;have h3:=h3 hlive;rw[hb] at h3;cases h3
   |iter kk vk m dn=>rw[ho] at hob;obtain⟨j',i',es,cl,wr,seen,h2,h3,_⟩:=hob;rw[h2] at hi;obtain rfl:=osj hi;rw[h3] at hb;cases hb
   |deep ty q k xs nl hh =>rw[ho] at hob;obtain⟨is,_,d2,d3,_⟩:=DP.open hob;obtain⟨c,e,t,h⟩:=d2.cells i ((d3 i).1 hi);rw[h] at hb;cases hb
  |some b=>rw[hl.2 i b hb]
theorem Gam.heap {s:St}{env:Env}{σ':Heap}(h:Gam P B F pl tb s env σ) (hl:σ.Le σ'):Gam P B F pl tb s env σ' :=
 ⟨h.bf,h.le.trans hl,h.env,fun d=>(h.obj d).mono (Heap.Le.refl _) (fun _ _ h=>h) fun hlive _i hi=>h.heap_get hl hlive hi,h.fresh,h.sep,h.free⟩
theorem J10 {env:Env}{σ0:Heap}{d nt:Nat}(hnt:0<nt) (plc:Nat→Value) (bs:List OB) (hB:F.Le σ0)
  (hob:∀ j b,bs[j]?=some b→b.ret=true∧OR P hNil plc noTb σ (plc j) b∧∀ i,Oid (plc j) i→σ0.n≤i)
  (hsep:∀ j j' i,j<bs.length→j'<bs.length→j≠j'→Oid (plc j) i→Oid (plc j') i→False) :
  ∀ (r:List OB) (j:Nat) (pl:Nat→Value) (s:St),bs.drop j=r→Gam P B F pl tb s env σ→(∀ k i,(oget s.own k).live=true→Oid (pl k) i→i<σ0.n∨∃ j'<j,j'<bs.length∧Oid (plc j') i∧k=d+j'*nt)→(∀ j'<j,j'<bs.length→pl (d+j'*nt)=plc j') →
   ∃ pl',Gam P B F pl' tb (s.makes d nt j r) env σ∧(∀ j'<bs.length,pl' (d+j'*nt)=plc j')∧∀ q,(∀ j'<bs.length,q≠d+j'*nt)→pl' q=pl q∧(oget (s.makes d nt j r).own q).live=(oget s.own q).live
 |[],j,pl,s,hr,hG,_,hp=>⟨pl,hG,fun j' hj'=>hp j' (by
   have:=congrArg List.length hr;simp at this;omega) hj',fun q _=>⟨rfl,rfl⟩⟩
 |b::r,j,pl,s,hr,hG,hinv,hp=>by
  have hjl:j<bs.length:=by
   rcases Nat.lt_or_ge j bs.length with h|h
   ·exact h
   ·rw[List.drop_eq_nil_of_le h] at hr;cases hr
  have hbj:bs[j]?=some b:=by
   have:(bs.drop j)[0]?=some b:=by rw[hr];rfl
   simpa using this
  have hr':bs.drop (j+1)=r:=by
   have:(bs.drop j).drop 1=r:=by rw[hr];rfl
   simpa [List.drop_drop,Nat.add_comm] using this
  obtain⟨h1,h2,h3⟩:=hob j b hbj;have hkey:∀ j' ,j'≠j→d+j'*nt≠d+j*nt:=fun j' hne e=>hne (Nat.eq_of_mul_eq_mul_right hnt (by omega));obtain⟨pl',k1,k2,k3⟩:∃ pl',Gam P B F pl' tb ((s.make (d+j*nt) b).makes d nt (j+1) r) env σ∧(∀ j'<bs.length,pl' (d+j'*nt)=plc j')∧∀ q,(∀ j'<bs.length,q≠d+j'*nt)→pl' q=updP pl (d+j*nt) (plc j) q∧(oget ((s.make (d+j*nt) b).makes d nt (j+1) r).own q).live=(oget (s.make (d+j*nt) b).own q).live:=by
   refine J10 hnt plc bs hB hob hsep r (j+1) (updP pl (d+j*nt) (plc j)) _ hr' (hG.make (d+j*nt) b (plc j) hG.le (fun _ _ _ _ _=>rfl) (h2.retd h1 fun _ _=>rfl) fun i _ hi=>⟨F.wf _ (by have:=h3 i hi;have:=hB.1;omega),fun k hk hl e=>?_⟩) (fun k i hl hi=>?_) fun j' hj' hj''=>?_
   ·rcases hinv k i hl e with h|⟨j',hj',hj2,he,_⟩
    ·have:=h3 i hi;omega
    ·exact hsep j j' i hjl hj2 (by omega) hi he
   ·by_cases hk:k=d+j*nt
    ·subst hk;simp only[updP,if_true] at hi;exact .inr ⟨j,by omega,hjl,hi,rfl⟩
    ·have hl':(oget s.own k).live=true:=by
      simp only[St.make,St.kill,Q09,Q8s,if_neg hk] at hl
      rwa [OB.live_kill] at hl
     simp only[updP,if_neg hk] at hi;rcases hinv k i hl' hi with h|⟨j',hj',h5⟩
     ·exact .inl h
     ·exact .inr ⟨j',by omega,h5⟩
   ·by_cases e:j'=j
    ·subst e;simp[updP]
    ·simp only[updP,if_neg (hkey j' e)];exact hp j' (by omega) hj''
  refine⟨pl',k1,k2,fun q hq=>?_⟩;obtain⟨e1,e2⟩:=k3 q hq;refine⟨by rw[e1];simp[updP,hq j hjl],?_⟩;show (oget ((s.make (d+j*nt) b).makes d nt (j+1) r).own q).live=_;rw[e2];simp only[St.make,St.kill,Q09,Q8s,if_neg (hq j hjl),OB.live_kill]
theorem Ret.gamF {s:St}{env:Env}{d nt:Nat}(hnt:0<nt) (hG:Gam P B F pl tb s env σ) {v:SV}{bs:List OB}{u:Value}{σ':Heap}(hv:v.ret bs.length=true) (hb:bs.all OB.ret=true) (h:Ret P σ v bs u σ') :
  ∃ pl',Gam P B F pl' tb (s.makes d nt 0 bs) env σ'∧SR P B pl' tb (v.ren d nt) u∧∀ q,(∀ j'<bs.length,q≠d+j'*nt)→(oget (s.makes d nt 0 bs).own q).live=(oget s.own q).live∧pl' q=pl q∧((oget s.own q).live=true→∀ i,Oid (pl q) i→σ'.get i=σ.get i):=by
 obtain⟨⟨h1,_⟩,_,plc,h2,h3,h4⟩:=h
 obtain⟨pl',h5,h6,h7⟩:=J10 (tb:=tb) (d:=d) hnt plc bs hG.le (fun j b hj=>⟨List.all_eq_true.1 hb b (List.mem_of_getElem? hj),(h2 j b hj).1,fun i hi=>((h2 j b hj).2 i hi).2⟩) h3 bs 0 pl s rfl (hG.heap h1)
  (fun k i hl hi=>.inl ((hG.obj k).id_lt hl hi)) (fun j' hj'=>by omega)
 exact⟨pl',h5,SR.ren (tb:=noTb) (fun j hj=>h6 j hj) _ _ hv (SR.mono (tb:=noTb) (tb':=noTb) (J9i B) (fun _ _ h=>h) _ _ h4),fun q hq=>⟨(h7 q hq).2,(h7 q hq).1,fun hl i hi=>hG.heap_get h1 hl hi⟩⟩
theorem Ret.gam {s:St}{env:Env}{d nt:Nat}(hnt:0<nt) (hG:Gam P B F pl tb s env σ) {v:SV}{bs:List OB}{u:Value}{σ':Heap}(hv:v.ret bs.length=true) (hb:bs.all OB.ret=true) (h:Ret P σ v bs u σ') :
  ∃ pl',Gam P B F pl' tb (s.makes d nt 0 bs) env σ'∧SR P B pl' tb (v.ren d nt) u:=by
 obtain⟨pl',h1,h2,_⟩:=h.gamF hnt hG hv hb;exact⟨pl',h1,h2⟩
end
end Go.V
namespace Go.V
open Go
section
variable {P:Program}
structure GBase (B0 F0 D0 B F σ:Heap):Prop where
 b:B0.Le B
 f:F0.Le F
 x:∀ i b,F0.get i=some b→B0.get i=none→B.get i=none
 d:Dead D0 σ
theorem GBase.of {B F σ:Heap}{σ':Heap}(_hB:B.Le F) (h:Dead σ σ'):GBase B F σ B F σ':=⟨.refl _,.refl _,fun _ _ _ h=>h,h⟩
theorem GBase.trans {B0 F0 D0 B F σ B' F' σ':Heap}(h:GBase B0 F0 D0 B F σ) (h':GBase B F σ B' F' σ'):GBase B0 F0 D0 B' F' σ' :=
 ⟨h.b.trans h'.b,h.f.trans h'.f,fun i b h1 h2=>h'.x i b (h.f.2 _ _ h1) (h.x i b h1 h2),h.d.trans h'.d⟩
def GRel (P:Program) (B0 F0 D0:Heap) (s:St) (env:Env) (σ:Heap):Prop:=∃ B F pl tb,GBase B0 F0 D0 B F σ∧Gam P B F pl tb s env σ
theorem Z5e {B0 F0 D0 B F:Heap}{σ σ':Heap}(hB:GBase B0 F0 D0 B F σ) (h:Dead σ σ'):GBase B0 F0 D0 B F σ':=⟨hB.b,hB.f,hB.x,hB.d.trans h⟩
theorem Gam.evs {B F:Heap}{pl:Nat→Value}{tb:Nat→Option Bool}{s:St}{env:Env}{σ:Heap}(h:Gam P B F pl tb s env σ) {gs:List Gd}(hg:Gds tb gs) (x:Operand):SR P B pl tb (gev gs s.env x) (evalO env x):=X3c hg h.env x
theorem Gds.nil {tb:Nat→Option Bool}:Gds tb []:=fun _ h=>by cases h
theorem X14 {gs:List Gd}{c:Prop}(h:gimp gs c) (hg:∀ g∈gs,g.c=g.want):c:=by
 induction gs with
 |nil=>exact h
 |cons g gs ih=>exact ih (h (hg g (by simp))) fun g' hg'=>hg g' (by simp[hg'])
theorem Q1s {gs:List Gd}{cs:List Prop}{q:Prop}(h:gobl gs cs q):q∧((∀ g∈gs,g.c=g.want)→∀ c∈cs,c):=by
 induction cs with
 |nil=>exact⟨h,fun _ c hc=>by cases hc⟩
 |cons c cs ih =>
  obtain⟨h1,h2⟩:=h;obtain⟨h3,h4⟩:=ih h2;exact⟨h3,fun hg c' hc'=>by
   rcases List.mem_cons.1 hc' with rfl|hc'
   ·exact X14 h1 hg
   ·exact h4 hg c' hc'⟩
theorem Dead.push (σ:Heap) (b:Blk):Dead σ (σ.push b):=⟨by simp,fun i hi h=>by rw[Heap.get_push_lt _ _ hi];exact h⟩
theorem Dead.upd (σ:Heap) (j:Nat) (b:Blk) (hj:(σ.get j).isSome=true):Dead σ (σ.upd j b):=⟨by simp,fun i hi h=>by
 have:i≠j:=fun e=>by subst e;rw[h] at hj;cases hj
 rw[Heap.get_upd_ne _ _ this];exact h⟩
theorem Dead.kill (σ:Heap) (j:Nat):Dead σ (σ.kill j):=⟨by simp,fun i hi h=>by
 by_cases e:i=j
 ·subst e;exact Heap.get_kill_self _ _
 ·rw[Heap.get_kill_ne _ e];exact h⟩
theorem J72 {e:El}{bytes m:Nat}{σ σ':Heap}{s u:Value}{xs:List Value}(h:vappend e bytes σ s m xs=some (u,σ')):Dead σ σ':=by
 unfold vappend at h;split at h
 ·split at h
  ·obtain⟨rfl,rfl⟩:=pinj h;exact Dead.refl _
  ·split at h
   ·obtain⟨rfl,rfl⟩:=pinj h;exact Dead.push _ _
   ·cases h
 ·split at h
  ·rename_i hg;split at h
   ·split at h
    ·obtain⟨rfl,rfl⟩:=pinj h;exact Dead.refl _
    ·split at h
     ·split at h
      ·obtain⟨rfl,rfl⟩:=pinj h;exact Dead.upd _ _ _ (by rw[hg];rfl)
      ·cases h
     ·split at h
      ·split at h
       ·obtain⟨rfl,rfl⟩:=pinj h;exact Dead.push _ _
       ·split at h
        ·obtain⟨rfl,rfl⟩:=pinj h;exact(Dead.kill _ _).trans (Dead.push _ _)
        ·cases h
      ·cases h
   ·cases h
  ·cases h
 ·cases h
theorem Q8w {o:VOp}{ev:Operand→Value}{σ σ':Heap}{u:Value}(h:vact o ev σ=some (u,σ')):Dead σ σ':=by
 by_cases hk:o.kind=2
 ·cases o<;>first|(cases hk;done)|skip
  case alloc t z=>obtain⟨rfl,rfl⟩:=pinj h;exact Dead.push _ _
  case box t x =>
   simp only[vact] at h;split at h
   ·obtain⟨rfl,rfl⟩:=pinj h;exact Dead.push _ _
   ·cases h
  case buildSlice e z n ps =>
   simp only[vact] at h;split at h
   ·obtain⟨rfl,rfl⟩:=pinj h;exact Dead.push _ _
   ·cases h
  case makeSlice e b z l c =>
   simp only[vact] at h;split at h
   ·split at h
    ·obtain⟨rfl,rfl⟩:=pinj h;exact Dead.push _ _
    ·cases h
   ·cases h
  case store size a x =>
   simp only[vact] at h;split at h
   ·split at h
    ·rename_i hg;split at h
     ·obtain⟨rfl,rfl⟩:=pinj h;exact Dead.upd _ _ _ (by rw[hg];rfl)
     ·cases h
    ·cases h
   ·cases h
  case append e b x y =>
   simp only[vact] at h;split at h
   ·split at h
    ·exact J72 h
    ·cases h
   ·cases h
  case slice size x lo hi mx =>
   simp only[vact] at h;split at h
   ·have sl:∀ {l hh:Nat}{m:Option Nat}{v:Value},vslice size σ v l hh m=some (u,σ')→Dead σ σ':=fun {l hh m v} h=>by
     unfold vslice at h;split at h
     ·split at h
      ·obtain⟨rfl,rfl⟩:=pinj h;exact Dead.refl _
      ·cases h
     ·split at h
      ·split at h
       ·split at h
        ·obtain⟨rfl,rfl⟩:=pinj h;exact Dead.refl _
        ·cases h
       ·split at h
        ·split at h
         ·obtain⟨rfl,rfl⟩:=pinj h;exact Dead.push _ _
         ·obtain⟨rfl,rfl⟩:=pinj h;exact Dead.refl _
        ·cases h
      ·cases h
     ·cases h
    split at h
    ·exact sl h
    ·split at h
     ·exact sl h
     ·cases h
    ·cases h
   ·cases h
  case callF f a=>cases h
  case callV f a=>cases h
  case ext x =>
   cases x<;>first|(cases hk;done)|skip
   case makeMap=>obtain⟨rfl,rfl⟩:=pinj h;exact Dead.push _ _
   case mapUpdate mk m k v =>
    simp only[vact,xact] at h;split at h
    ·split at h
     ·rename_i hm;split at h
      ·obtain⟨rfl,rfl⟩:=pinj h;refine Dead.upd _ _ _ ?_;unfold Heap.mapAt at hm;split at hm
       ·rename_i hg;rw[hg];rfl
       ·cases hm
      ·cases h
     ·cases h
    ·cases h
   case delete mk m k=>cases h
   case rangeMap x =>
    simp only[vact,xact] at h;split at h
    ·split at h
     ·obtain⟨rfl,rfl⟩:=pinj h;exact Dead.push _ _
     ·cases h
    ·cases h
   case nextMap x=>cases h
   case copy size a b =>
    simp only[vact,xact] at h;split at h
    ·split at h
     ·obtain⟨rfl,rfl⟩:=pinj h;exact Dead.refl _
     ·split at h
      ·split at h
       ·rename_i hg;split at h
        ·obtain⟨rfl,rfl⟩:=pinj h;exact Dead.upd _ _ _ (by rw[hg];rfl)
        ·cases h
       ·cases h
      ·cases h
    ·cases h
   case strBytes e x =>
    simp only[vact,xact] at h;split at h
    ·split at h
     ·obtain⟨rfl,rfl⟩:=pinj h;exact Dead.push _ _
     ·cases h
    ·cases h
   case unsafeStr e x n =>
    simp only[vact,xact] at h;split at h
    ·split at h
     ·obtain⟨rfl,rfl⟩:=pinj h;exact Dead.refl _
     ·split at h
      ·split at h
       ·rename_i hg;split at h
        ·split at h
         ·obtain⟨rfl,rfl⟩:=pinj h;exact Dead.upd _ _ _ (by rw[hg];rfl)
         ·cases h
        ·cases h
       ·cases h
      ·cases h
    ·cases h
 ·obtain rfl:=Z74 hk h;exact Dead.refl _
theorem Z4b {B F:Heap}{pl:Nat→Value}{tb:Nat→Option Bool}{s:St}{env:Env}{σ:Heap}(hG:Gam P B F pl tb s env σ) {x:Operand}{b:Bool}(h:gknown s.env x=some b):evalO env x=.bool b:=by
 unfold gknown at h;split at h
 ·rename_i j;split at h
  ·rename_i gs v he;split at h
   ·split at h
    ·rename_i k y;split at h
     ·obtain rfl:=osj h;have:=hG.env.getD j undef;rw[he] at this;simp only[SR] at this;have h2:=this.2.1 (fun g hg=>by cases hg);have h3:[env.getD j undef]=[Value.bool _]:=h2;exact(List.cons.inj h3).1
     ·cases h
    ·cases h
   ·cases h
  ·cases h
 ·cases h
theorem Q9h {B F:Heap}{pl:Nat→Value}{tb:Nat→Option Bool}{s:St}{env:Env}{σ:Heap}(hG:Gam P B F pl tb s env σ) {g:Option (Nat×Bool)}{t:Bool}(h:gstat s.env g=some t):vwant env g=some t:=by
 unfold gstat at h;split at h
 ·cases h
 ·rename_i j want;split at h
  ·rename_i b hb;obtain rfl:=osj h;have:=Z4b hG hb;simp only[evalO] at this;simp only[vwant,this]
  ·cases h
theorem Z1u {B F:Heap}{pl:Nat→Value}{tb:Nat→Option Bool}{s:St}{env:Env}{σ:Heap}(hG:Gam P B F pl tb s env σ) {gs:List Gd}(hg:Gds tb gs) {c a b:Operand}{v:SV}(h:gpick gs s.env c a b=some v) :
  ∃ u,vact (.pick c a b) (evalO env) σ=some (u,σ)∧SR P B pl tb v u:=by
 unfold gpick at h;split at h
 ·rename_i t ht;have e:=Z4b hG ht;obtain rfl:=osj h;cases t with
  |true=>exact⟨evalO env a,by simp only[vact,e];rfl,hG.evs hg a⟩
  |false=>exact⟨evalO env b,by simp only[vact,e];rfl,hG.evs hg b⟩
 have hc:=hG.evs hg c;unfold gpick0 at h;split at h
 ·rename_i n t heq;rw[heq] at hc;simp only[SR] at hc;obtain⟨e,htb⟩:=hc;have ht:∀ w,t=w→Gds tb (gs++[⟨n,w,t⟩]):=fun w hw g hg'=>by
   rcases List.mem_append.1 hg' with h1|h1
   ·exact hg g h1
   ·obtain rfl:=List.mem_singleton.1 h1;exact⟨hw,htb⟩
  have hv:∀ u,(if t then evalO env a else evalO env b)=u→vact (.pick c a b) (evalO env) σ=some (u,σ):=fun u hu=>by simp only[vact,e];rw[←hu]
  split at h
  ·rename_i b';simp only[Option.map_eq_some_iff] at h;obtain⟨y,h1,rfl⟩:=h;refine⟨.bool (t||y),hv _ ?_,Q2l _⟩;cases t with
   |true=>rfl
   |false=>simpa using Q53 h1 (hG.evs (ht false rfl) _)
  ·rename_i a' hne;simp only[Option.map_eq_some_iff] at h;obtain⟨x,h1,rfl⟩:=h;refine⟨.bool (t&&x),hv _ ?_,Q2l _⟩;cases t with
   |true=>simpa using Q53 h1 (hG.evs (ht true rfl) _)
   |false=>rfl
  ·split at h
   ·rename_i k x k' y h1 h2;split at h
    ·rename_i hk;subst hk;obtain rfl:=osj h;refine⟨.int k (if t then x else y),hv _ ?_,Q4e _ _⟩;cases t with
     |true=>have:=hG.evs (ht true rfl) a;rw[h1] at this;exact Q2k rfl this
     |false=>have:=hG.evs (ht false rfl) b;rw[h2] at this;exact Q2k rfl this
    ·cases h
   ·rename_i x y h1 h2;obtain rfl:=osj h;refine⟨.bool (if t then x else y),hv _ ?_,Q2l _⟩;cases t with
    |true=>have:=hG.evs (ht true rfl) a;rw[h1] at this;exact Q53 rfl this
    |false=>have:=hG.evs (ht false rfl) b;rw[h2] at this;exact Q53 rfl this
   ·cases h
 ·cases h
theorem Gam.bid {B F:Heap}{pl:Nat→Value}{tb:Nat→Option Bool}{s:St}{env:Env}{σ:Heap}(hG:Gam P B F pl tb s env σ) {j:Nat}{v:SV}{c:Bool}(hv:∀ tb',(∀ n c,tb n=some c→tb' n=some c)→tb' s.nx=some c→SR P B pl tb' v (env.getD j undef)) :
  ∃ tb',(∀ n c,tb n=some c→tb' n=some c)∧tb' s.nx=some c∧Gam P B F pl tb' ⟨s.env.set j v,s.own,s.nx+1⟩ env σ:=by
 refine⟨fun n=>if n=s.nx then some c else tb n,?_,by simp,?_⟩
 ·intro n c' hn;by_cases e:n=s.nx
  ·rw[e,hG.free _ (Nat.le_refl _)] at hn;cases hn
  ·simp only[if_neg e];exact hn
 ·have hm:∀ n c',tb n=some c'→(fun n=>if n=s.nx then some c else tb n) n=some c':=fun n c' hn=>by
   by_cases e:n=s.nx
   ·rw[e,hG.free _ (Nat.le_refl _)] at hn;cases hn
   ·simp only[if_neg e];exact hn
  refine⟨hG.bf,hG.le,?_,fun d=>(hG.obj d).mono (Heap.Le.refl _) hm fun _ _ _=>rfl,hG.fresh,hG.sep,fun n hn=>?_⟩
  ·have h1:=SRs.mono (Heap.Le.refl B) hm _ _ hG.env;by_cases hj:j<env.length
   ·have:=h1.set j (hv _ hm (by simp))
    rwa [List.getD_eq_getElem?_getD,List.getElem?_eq_getElem hj,Option.getD_some,List.set_getElem_self] at this
   ·have:s.env.set j v=s.env:=List.set_eq_of_length_le (by rw[hG.env.length];omega);rw[this];exact h1
  ·have:n≠s.nx:=by simp only at hn;omega
   simp only[if_neg this];exact hG.free n (by simp only at hn;omega)
theorem X44 {gs:List Gd}(h:¬ ∀ g∈gs,g.c=g.want):∃ g∈gs,g.c≠g.want:=by
 rcases Classical.em (∃ g∈gs,g.c≠g.want) with h'|h'
 ·exact h'
 ·exact absurd (fun g hg=>Classical.byContradiction fun hne=>h' ⟨g,hg,hne⟩) h
theorem Q5f {B F:Heap}{pl:Nat→Value}{tb:Nat→Option Bool}{s:St}{env:Env}{σ:Heap}(hG:Gam P B F pl tb s env σ) {j:Nat}{want:Bool}{gs:List Gd}{s':St}(h:gguard s j want=some (gs,s')) :
  ∃ tb',Gam P B F pl tb' s' env σ∧(∀ g∈gs,tb' g.id=some g.c)∧∃ b,vwant env (some (j,want))=some b∧(b=true→∀ g∈gs,g.c=g.want)∧(b=false→∃ g∈gs,g.c≠g.want):=by
 have hj:=hG.env.getD j undef;unfold gguard at h;split at h
 ·rename_i c heq;obtain⟨rfl,rfl⟩:=pinj h;rw[heq] at hj;have hb:env.getD j undef=.bool c:=Q53 (s:=.val .bo c) rfl hj;obtain⟨tb',h1,h2,h3⟩:=hG.bid (j:=j) (v:=.bid s.nx c) (c:=c) fun tb' _ h=>by simp only[SR];exact⟨hb,h⟩
  refine⟨tb',h3,fun g hg=>by obtain rfl:=List.mem_singleton.1 hg;exact h2,c==want,by simp only[vwant,hb],fun e g hg=>?_,fun e=>⟨_,List.mem_singleton.2 rfl,?_⟩⟩
  ·obtain rfl:=List.mem_singleton.1 hg;simpa using e
  ·simpa using e
 ·rename_i n c heq;obtain⟨rfl,rfl⟩:=pinj h;rw[heq] at hj;simp only[SR] at hj;refine⟨tb,hG,fun g hg=>by obtain rfl:=List.mem_singleton.1 hg;exact hj.2,c==want,by simp only[vwant,hj.1],fun e g hg=>?_,fun e=>⟨_,List.mem_singleton.2 rfl,?_⟩⟩
  ·obtain rfl:=List.mem_singleton.1 hg;simpa using e
  ·simpa using e
 ·rename_i gs0 c heq;obtain⟨rfl,rfl⟩:=pinj h;rw[heq] at hj;simp only[SR] at hj;obtain⟨⟨k1,k0⟩,k2,k3⟩:=hj;obtain⟨tb',h1,h2,h3⟩:=hG.bid (j:=j) (v:=.grd gs0 (.bid s.nx c)) (c:=c) fun tb' hm h=>by
   simp only[SR];exact⟨⟨fun g hg=>hm _ _ (k1 g hg),h⟩,fun hall=>⟨Q53 (s:=.val .bo c) (P:=P) (B:=B) (pl:=pl) (tb:=tb) rfl (by simpa only [SR] using k2 hall),h⟩,k3⟩
  refine⟨tb',h3,fun g hg=>?_,?_⟩
  ·rcases List.mem_append.1 hg with h4|h4
   ·exact h1 _ _ (k1 g h4)
   ·obtain rfl:=List.mem_singleton.1 h4;exact h2
  ·by_cases hall:∀ g∈gs0,g.c=g.want
   ·have hb:env.getD j undef=.bool c:=Q53 (s:=.val .bo c) (P:=P) (B:=B) (pl:=pl) (tb:=tb) rfl (by simpa only [SR] using k2 hall);refine⟨c==want,by simp only[vwant,hb],fun e g hg=>?_,fun e=>⟨_,List.mem_append.2 (.inr (List.mem_singleton.2 rfl)),by simpa using e⟩⟩;rcases List.mem_append.1 hg with h4|h4
    ·exact hall g h4
    ·obtain rfl:=List.mem_singleton.1 h4;simpa using e
   ·have hex:=X44 hall;refine⟨false,by simp only[vwant,k3 hex];rfl,(fun e=>by cases e),fun _=>?_⟩;obtain⟨g,hg,hne⟩:=hex;exact⟨g,List.mem_append.2 (.inl hg),hne⟩
 ·rename_i gs0 n c heq;obtain⟨rfl,rfl⟩:=pinj h;rw[heq] at hj;simp only[SR] at hj;obtain⟨⟨k1,k0⟩,k2,k3⟩:=hj;refine⟨tb,hG,fun g hg=>?_,?_⟩
  ·rcases List.mem_append.1 hg with h4|h4
   ·exact k1 g h4
   ·obtain rfl:=List.mem_singleton.1 h4;exact k0
  ·by_cases hall:∀ g∈gs0,g.c=g.want
   ·obtain⟨hb,htb⟩:=k2 hall;refine⟨c==want,by simp only[vwant,hb],fun e g hg=>?_,fun e=>⟨_,List.mem_append.2 (.inr (List.mem_singleton.2 rfl)),by simpa using e⟩⟩;rcases List.mem_append.1 hg with h4|h4
    ·exact hall g h4
    ·obtain rfl:=List.mem_singleton.1 h4;simpa using e
   ·have hex:=X44 hall;refine⟨false,by simp only[vwant,k3 hex];rfl,(fun e=>by cases e),fun _=>?_⟩;obtain⟨g,hg,hne⟩:=hex;exact⟨g,List.mem_append.2 (.inl hg),hne⟩
 ·cases h
theorem Gam.gcall {B F:Heap}{pl:Nat→Value}{tb:Nat→Option Bool}{s:St}{env:Env}{σ:Heap}(hG:Gam P B F pl tb s env σ) {gs:List Gd}(hg:Gds tb gs) (args:List Operand):SRs P σ noPl noTb (ress s.own (args.map (gev gs s.env))) (args.map (evalO env)) :=
 Z1e hG.leB hG.obj (SRs.map fun x _=>hG.evs hg x)
theorem Gam.gfun {B F:Heap}{pl:Nat→Value}{tb:Nat→Option Bool}{s:St}{env:Env}{σ:Heap}(hG:Gam P B F pl tb s env σ) {gs:List Gd}(hg:Gds tb gs) (f:Operand):SR P σ noPl noTb ((ress s.own [gev gs s.env f]).getD 0 .any) (evalO env f):=by have:=(Z1e hG.leB hG.obj (show SRs P B pl tb [gev gs s.env f] [evalO env f] by simp only[SRs];exact⟨_,[],rfl,hG.evs hg f,rfl⟩)).getD 0 poison;simpa using this
theorem Z3y {env:Env}{f:Operand}{args:List Operand}{σ:Heap}{K:Value→Heap→Prop}{g:FuncId}{a b:Array Value}(e:evalO env f=.func (.func g) a b) (h:VCalled P g (a.toList++args.map (evalO env)++b.toList) σ K) :
  vop (semSpecs P) (.callV f args) env σ K:=by
 simp only[vop,e];exact h
def XOk (P:Program) (f:Nat) (x:XSp):Prop :=
 ∀ (B F:Heap) (pl:Nat→Value) (tb:Nat→Option Bool) (s:St) (env:Env) (σ:Heap) (d:Nat) (args:List SV) (vs:List Value) (K:SV→St→Prop) (R:Value→Heap→Prop),
  Gam P B F pl tb s env σ→SRs P B pl tb args vs→x d args s K →
  (∀ v s' B' F' pl' tb' u σ',K v s'→GBase B F σ B' F' σ'→Gam P B' F' pl' tb' s' env σ'→SR P B' pl' tb' v u→R u σ')→VCalled P f vs σ R
def XOkF (P:Program) (f:Nat) (x:XSp) (j:Nat):Prop :=
 ∀ (B F:Heap) (pl:Nat→Value) (tb:Nat→Option Bool) (s:St) (env:Env) (σ:Heap) (d:Nat) (args:List SV) (vs:List Value) (K:SV→St→Prop) (R:Value→Heap→Prop) (t:Nat),
  Gam P B F pl tb s env σ→SRs P B pl tb args vs→mtouch s.own j args=some t→x d args s K →
  (∀ v s' u σ',K v s'→Dead σ σ'→Gam P B F pl tb s' env σ'→SR P B pl tb v u→FrL [t] s s' pl pl σ σ'→R u σ')→VCalled P f vs σ R
def ItOk (P:Program) (f:Nat) (it:ISp):Prop:=Q4t P f ∧
 ∀ (B:Heap) (args:List SV) (vs:List Value) (c:Prop) (m ar:Nat) (xs:Nat→List SV),SRs P B noPl noTb args vs→it args=some (c,m,ar,xs)→c →
  (∀ k,(xs k).length=ar∧SVs.pure (xs k)=true)∧∀ (i:Nat) (Y:VSpec) (J:Nat→Heap→Prop) (E:Heap→Prop) (τ0:Heap),OkYield P i Y→(∀ k τ,J k τ→B.Le τ) →
   (∀ k us τ,k<m→J k τ→SRs P B noPl noTb (xs k) us→Y us τ fun v τ'=>(v=.bool true∧J (k+1) τ')∨(v=.bool false∧E τ')) →
   J 0 τ0→VCallsTo P f (.func (.yield i) #[] #[]::vs) τ0 fun _ τ=>J m τ∨E τ
def YldOk (P:Program) (o:Nat) (y:YSp):Prop :=
 ∀ (B F:Heap) (pl:Nat→Value) (tb:Nat→Option Bool) (s:St) (env:Env) (σ:Heap) (args:List SV) (us:List Value) (K:SV→St→Prop) (R:Value→Heap→Prop) (i:Nat),
  Gam P B F pl tb s env σ→SRs P B pl tb args us→y args s K→pl o=.pointer (some ⟨i,0,none⟩) →
  (∀ v s' B' F' pl' tb' u σ',K v s'→GBase B F σ B' F' σ'→Gam P B' F' pl' tb' s' env σ'→SR P B' pl' tb' v u→R u σ')→VYields P i us σ R
def IyOk (P:Program) (f:Nat) (x:IYSp):Prop:=Q4t P f ∧
 ∀ (B F:Heap) (pl:Nat→Value) (tb:Nat→Option Bool) (s:St) (env:Env) (σ:Heap) (o:Nat) (args:List SV) (vs:List Value) (y:YSp) (K:St→Prop) (R:Heap→Prop),
  Gam P B F pl tb s env σ→SRs P B pl tb args vs→YldOk P o y→x o args (o,y) s K →
  (∀ s' B' F' pl' tb' env' σ',K s'→GBase B F σ B' F' σ'→Gam P B' F' pl' tb' s' env' σ'→R σ')→VCallsTo P f vs σ fun _=>R
structure COk (P:Program) (C:Cx):Prop where
 cs:CsOk P C.cs
 xs:∀ f x,alook C.xs f=some x→XOk P f x
 it:∀ f x,alook C.it f=some x→ItOk P f x
 yl:∀ o y,alook C.yl o=some y→YldOk P o y
 iy:∀ f x,alook C.iy f=some x→IyOk P f x
 xf:∀ f j,alook C.xf f=some j→∀ x,alook C.xs f=some x→XOkF P f x j
theorem J19 {C:Cx}(hcs:CsOk P C.cs) {B F:Heap}{pl:Nat→Value}{tb:Nat→Option Bool}{s:St}{env:Env}{σ:Heap}(hG:Gam P B F pl tb s env σ) {gs:List Gd}(hg:Gds tb gs) {raw:Bool}{o:VOp}{cs:List Prop}{v:SV}
  (h:gqc C raw o (gev gs s.env) s.own=some (cs,v)) (hc:∀ c∈cs,c) {K:Value→Heap→Prop}(hK:∀ u,SR P B pl tb v u→K u σ):vop (semSpecs P) o env σ K:=by
 have flat:∀ {c:Prop}{v':SV},(bif v'.ret 0 then some ([c],v') else none)=some (cs,v)→v'.ret 0=true∧c∧v'=v:=fun {c v'} h=>by
  cases hv:v'.ret 0 with
  |false=>rw[hv] at h;cases h
  |true =>rw[hv] at h;obtain⟨rfl,rfl⟩:=pinj h;exact⟨rfl,hc _ (by simp),rfl⟩
 have quiet:∀ o,gq C.kt raw o (gev gs s.env) s.own=some (cs,v)→(∀ K,obind (vact o (evalO env) σ) (fun p=>K p.1 p.2)→vop (semSpecs P) o env σ K)→vop (semSpecs P) o env σ K:=fun o h hv=>by obtain⟨u,h1,h2⟩:=J5p (hG.evs hg) (fun _=>rfl) hG.leB hG.obj h hc;exact hv K (by rw[h1];exact hK u h2)
 cases o
 case callF f args =>
  simp only[gqc] at h;split at h
  ·rename_i c v' heq;obtain⟨h1,h2,rfl⟩:=flat h;obtain⟨g,a,b,h3,h4,_⟩:=Q2i hcs (show SR P σ noPl noTb (.fn f [] []) (.func (.func f) #[] #[]) by simp only[SR,SRs];exact⟨[],[],rfl,rfl,rfl⟩) (hG.gcall hg args) heq h1 rfl h2;obtain⟨rfl,rfl,rfl⟩:=(by simpa using h3:f=g∧#[]=a∧#[]=b);have:=h4.mono (R':=K) fun u σ' hr=>by
    obtain⟨rfl,hu⟩:=hr.flat h1;exact hK u (hu.retd (fun j hj=>by omega) _ _ h1)
   show VCalled P f (args.map (evalO env)) σ K;simpa using this
  ·cases h
 case callV f args =>
  simp only[gqc] at h;split at h
  ·rename_i c v' heq;obtain⟨h1,h2,rfl⟩:=flat h;obtain⟨g,a,b,h3,h4,_⟩:=Q2i hcs (hG.gfun hg f) (hG.gcall hg args) heq h1 rfl h2;exact Z3y h3 (h4.mono fun u σ' hr=>by
    obtain⟨rfl,hu⟩:=hr.flat h1;exact hK u (hu.retd (fun j hj=>by omega) _ _ h1))
  ·cases h
 case ext x =>
  cases x
  case nextMap x=>cases h
  all_goals exact quiet _ h fun _ h=>h
 all_goals exact quiet _ h fun _ h=>h
end
end Go.V